/-
  Lives, as the reference tells them.
-/
import Derived.Test.YtkkglkdnnfegkaaPlain
import Derived.Test.YtkkglkdnnfegkaaFe
set_option linter.unusedSimpArgs false
set_option linter.unusedVariables false
namespace Go.Proofs.Ytkkglkdnnfegkaa
open Go.RowKit Go.Eng

theorem hours_ge {r s : Int} (hr : 0 ≤ r) (hs : 0 ≤ s) : -1 ≤ hoursF r s := by
  unfold hoursF
  split
  · omega
  · split
    · omega
    · have := Int.tdiv_nonneg (a := s + r - 1) (b := r) (by omega) (by omega); omega
theorem lifeU_inv {A : List (List Int)} {band : Nat} {s : Int} (h : ∀ i, -1 ≤ hoursF ((A.getD i []).getD band 0) s) : ∀ k, ((lifeU A band s k).1.1 = -1 ∧ (lifeU A band s k).1.2 = -1) ∨ (0 ≤ (lifeU A band s k).1.1 ∧ (lifeU A band s k).1.1 ≤ (lifeU A band s k).1.2)
  | 0 => .inl ⟨rfl, rfl⟩
  | k + 1 => by
    have ih := lifeU_inv h k
    have hk := h k
    by_cases e : hoursF ((A.getD k []).getD band 0) s = -1
    · rw [lifeU_y e]; exact ih
    · rw [lifeU_n e]
      right
      simp only [withF]
      rcases ih with ⟨h1, h2⟩ | ⟨h1, h2⟩
      · rw [h1, h2]; simp only [decide_true, Bool.and_self, if_true]; omega
      · have : (decide ((lifeU A band s k).1.1 = -1) && decide ((lifeU A band s k).1.2 = -1)) = false := by
          rw [decide_eq_false (by omega : ¬ (lifeU A band s k).1.1 = -1)]; rfl
        rw [this]; simp only [Bool.false_eq_true, if_false]; omega
/-- One more number of hours. -/
theorem lifeU_lo {A : List (List Int)} {band k : Nat} {s : Int} (h : ∀ i, -1 ≤ hoursF ((A.getD i []).getD band 0) s) (hn : ¬ hoursF ((A.getD k []).getD band 0) s < 0) :
    lifeU A band s (k + 1) = (((if (lifeU A band s k).1.1 < 0 ∨ hoursF ((A.getD k []).getD band 0) s < (lifeU A band s k).1.1 then hoursF ((A.getD k []).getD band 0) s else (lifeU A band s k).1.1), max (lifeU A band s k).1.2 (hoursF ((A.getD k []).getD band 0) s)), (lifeU A band s k).2) := by
  rw [lifeU_n (by omega)]
  rcases lifeU_inv h k with ⟨h1, h2⟩ | ⟨h1, h2⟩
  · rw [h1, h2]; simp only [withF, decide_true, Bool.and_self, if_true]
    rw [if_pos (.inl (by decide)), Int.max_eq_right (by omega)]
  · have : (decide ((lifeU A band s k).1.1 = -1) && decide ((lifeU A band s k).1.2 = -1)) = false := by
      rw [decide_eq_false (by omega : ¬ (lifeU A band s k).1.1 = -1)]; rfl
    simp only [withF, this, Bool.false_eq_true, if_false]
    by_cases hc : hoursF ((A.getD k []).getD band 0) s < (lifeU A band s k).1.1
    · rw [if_pos (.inr hc), Int.min_eq_right (by omega)]
    · rw [if_neg (by omega), Int.min_eq_left (by omega)]
theorem lifeU_neg {A : List (List Int)} {band k : Nat} {s : Int} (h : ∀ i, -1 ≤ hoursF ((A.getD i []).getD band 0) s) (hn : hoursF ((A.getD k []).getD band 0) s < 0) : lifeU A band s (k + 1) = ((lifeU A band s k).1, true) := lifeU_y (by have := h k; omega)
theorem lifeU_congr {A B : List (List Int)} {band : Nat} {s : Int} (h : ∀ i, i < A.length → (A.getD i []).getD band 0 = (B.getD i []).getD band 0) : ∀ k, k ≤ A.length → lifeU A band s k = lifeU B band s k
  | 0, _ => rfl
  | k + 1, hk => by
    have ih := lifeU_congr (s := s) h k (by omega)
    simp only [lifeU, ih, h k (by omega)]
theorem life_same {R : List (Int × Int)} {rs : List RunD} (hR : MatV R) (hV : RunsV R.length rs) {band : Nat} {s : Int} (hb : band < R.length) : lifeR (rallowF R rs) band s = lifeR (allowedF R rs) band s := by
  have hl := rallow_len hR hV
  have e := lifeU_congr (A := rallowF R rs) (B := allowedF R rs) (band := band) (s := s) (fun i hi => by rw [rallow_at hR hV hi, take_getD hb]) (rallowF R rs).length (Nat.le_refl _)
  unfold lifeR
  rw [e, hl]
def lstRo (lv : List Value) (ls : List (List Int)) : Res where
  S := (lstR lv ls).S
  p := (lstR lv ls).p
  own := false
  stable := (lstR lv ls).stable
  lt := (lstR lv ls).lt
theorem rallow_small {R : List (Int × Int)} {rs : List RunD} (hR : MatV R) (hV : RunsV R.length rs) : ∀ i j, 0 ≤ ((rallowF R rs).getD i []).getD j 0 ∧ ((rallowF R rs).getD i []).getD j 0 ≤ 1000 := fun i j => by
  by_cases hi : i < (rallowF R rs).length
  · have hl := rallow_len hR hV
    have hr := (allowed_rates hR (rs := rs) (k := i) (by omega)).1
    rw [rallow_at hR hV hi]
    by_cases hj : j < R.length
    · rw [take_getD hj]; exact hr.2 j
    · have : (((allowedF R rs).getD i []).take R.length).getD j 0 = 0 := by simp [List.getD, List.getElem?_take, hj]
      rw [this]; decide
  · have : (rallowF R rs).getD i [] = [] := by simp [List.getD, List.getElem?_eq_none (Nat.le_of_not_lt hi)]
    rw [this]; simp
end Go.Proofs.Ytkkglkdnnfegkaa

namespace Go.Proofs.Ytkkglkdnnfegkaa
open Go.RowKit Go.Shelf Go.Eng
theorem en_16 : ∀ args w, (callFunc 16 args).run Try.prog w = .ok (.enter 16 args) w := enters_of Try.func16 (by kernel_rfl) rfl
theorem en_17 : ∀ args w, (callFunc 17 args).run Try.prog w = .ok (.enter 17 args) w := enters_of Try.func17 (by kernel_rfl) rfl
theorem en_19 : ∀ args w, (callFunc 19 args).run Try.prog w = .ok (.enter 19 args) w := enters_of Try.func19 (by kernel_rfl) rfl
theorem en_20 : ∀ args w, (callFunc 20 args).run Try.prog w = .ok (.enter 20 args) w := enters_of Try.func20 (by kernel_rfl) rfl
theorem en_21 : ∀ args w, (callFunc 21 args).run Try.prog w = .ok (.enter 21 args) w := enters_of Try.func21 (by kernel_rfl) rfl
theorem en_50 : ∀ args w, (callFunc 50 args).run Try.prog w = .ok (.enter 50 args) w := enters_of Try.func50 (by kernel_rfl) rfl
theorem en_26 : ∀ args w, (callFunc 26 args).run Try.prog w = .ok (.enter 26 args) w := enters_of Try.func26 (by kernel_rfl) rfl

end Go.Proofs.Ytkkglkdnnfegkaa

namespace Go.Proofs.Ytkkglkdnnfegkaa
open Go.RowKit Go.Shelf Go.Eng
set_option maxHeartbeats 1000000 in
theorem rLife_ok (w : World) (ls : List (List Int)) (xv : Value) (ov : List Value) (hxv : SlAt w xv 1 ov.length ov) (hls : (lstR ov ls).p w) (band s : Int) (n : Nat) (hb : 0 ≤ band ∧ band ≤ (n : Int) - 1) (hlen : ∀ i, i < ls.length → (ls.getD i []).length = n) (hsm : ∀ i j, 0 ≤ (ls.getD i []).getD j 0 ∧ (ls.getD i []).getD j 0 ≤ 1000) (hs : 0 ≤ s ∧ s ≤ 10000000000) (hll : ls.length ≤ 1003003001) :
    Calls Try.prog 26 #[xv, (Value.int .i64 band), (Value.int .i64 s)] w (Ret fun v w' => v = .agg #[.int .i64 (lifeR ls band.toNat s).1, .int .i64 (lifeR ls band.toNat s).2] ∧ Ext NoB w w') := by
  refine calls_enter Try.func26 rfl fun a0 hA0 => ?_
  replace hA0 : Fr 48 [] [(0, xv), (1, (Value.int .i64 band)), (2, (Value.int .i64 s))] a0 := hA0
  have hol := hls.1
  have hge : ∀ i, -1 ≤ hoursF ((ls.getD i []).getD band.toNat 0) s := fun i => hours_ge (hsm i _).1 hs.1
  have hS0 : Sep NoB w w [(sl xv 1 ov.length ov), (lstRo ov ls)] := sep_ro ⟨rfl, hxv, rfl, hls, trivial⟩
  refine c_seq ?_
  refine c_region ?_
  refine stw hA0 (op_alloc hS0 rfl ze_48 (cs := [(Value.int .i64 0), (Value.int .i64 0)]) rfl) rfl rfl (by decide) ?_
  rintro a1 _ w3 ⟨b4, rfl, hS5⟩ hA2; clear hA0 hS0 a0
  refine wl_nil ?_
  refine then_n ?_
  refine c_seq ?_
  refine c_region ?_
  refine st hA2 (op_build rfl (pv2 (evc _ _) (evc _ _)) (bd_48_0i_1i _ _)) rfl rfl (by decide) fun a6 hA7 => ?_; clear hA2 a1
  refine stw hA7 (op_alloc hS5 rfl ze_48 (cs := [(Value.int .i64 0), (Value.int .i64 0)]) rfl) rfl rfl (by decide) ?_
  rintro a8 _ w10 ⟨b11, rfl, hS12⟩ hA9; clear hA7 hS5 a6
  refine sts hA9 (op_store hS12 rfl ty_48 (hA9.ev rfl) (hA9.ev rfl) (i := 0) rfl (vs := [(Value.int .i64 (-1)), (Value.int .i64 (-1))]) rfl rfl rfl (Nat.le_of_ble_eq_true rfl)) rfl rfl ?_
  intro _ w13 hS14 hA15; clear hA9
  have hS16 : Sep NoB w w13 [(blk b11 48 [(Value.int .i64 (-1)), (Value.int .i64 (-1))]), (blk b4 48 [(Value.int .i64 0), (Value.int .i64 0)]), (sl xv 1 ov.length ov), (lstRo ov ls)] := hS14; clear hS14 hS12
  refine wl_nil ?_
  refine then_n ?_
  refine c_seq ?_
  refine c_region ?_
  refine st hA15 (op_assign rfl (evc _ _)) rfl rfl (by decide) fun a17 hA18 => ?_; clear hA15 a8
  refine wl_nil ?_
  refine then_n ?_
  refine c_seq ?_
  refine c_seq ?_
  refine c_region ?_
  refine st hA18 (op_assign rfl (evc _ _)) rfl rfl (by decide) fun a19 hA20 => ?_; clear hA18 a17
  refine wl_nil ?_
  refine then_n ?_
  refine c_block ?_
  have hA21 := hA20.as [(9, (Value.int .i64 0)), (8, (Value.bool false)), (7, (bptr b11 0)), (6, (bptr b4 0)), (0, xv), (1, (Value.int .i64 band)), (2, (Value.int .i64 s))] rfl; clear hA20
  refine c_loop (G := Nat) (fun (k : Nat) a_ w_ => Fr 48 [] [(9, (Value.int .i64 (k : Int))), (8, (Value.bool ((lifeU ls band.toNat s k).2))), (7, (bptr b11 0)), (6, (bptr b4 0)), (0, xv), (1, (Value.int .i64 band)), (2, (Value.int .i64 s))] a_ ∧ Sep NoB w w_ [(blk b11 48 [(Value.int .i64 ((lifeU ls band.toNat s k).1.1)), (Value.int .i64 ((lifeU ls band.toNat s k).1.2))]), (blk b4 48 [(Value.int .i64 0), (Value.int .i64 0)]), (sl xv 1 ov.length ov), (lstRo ov ls)] ∧ (k ≤ ls.length)) (fun k => ls.length - k) 0 ⟨hA21.as _ rfl, hS16, by omega⟩ ?_
  clear hA21 hS16 a19
  rintro k a22 w24 ⟨hA23, hS25, hk⟩
  refine c_seq ?_
  refine c_seq ?_
  refine c_region ?_
  refine st hA23 (op_move rfl (hA23.ev rfl)) rfl rfl (by decide) fun a26 hA27 => ?_; clear hA23 a22
  refine st hA27 (op_move rfl (hA27.ev rfl)) rfl rfl (by decide) fun a28 hA29 => ?_; clear hA27 a26
  refine st hA29 (op_lenS rfl un_38 (hA29.ev rfl) (hS25.sk 2 rfl)) rfl rfl (by decide) fun a30 hA31 => ?_; clear hA29 a28
  refine st hA31 (op_lss rfl (hA31.ev rfl) (hA31.ev rfl)) rfl rfl (by decide) fun a32 hA33 => ?_; clear hA31 a30
  refine wl_nil ?_
  refine then_n ?_
  by_cases hb34 : (k : Int) < (ov.length : Int)
  · skip
    rw [decide_eq_true hb34] at hA33
    have hlk := hlen k (by omega); have hsk := hsm k band.toNat
    refine c_true hA33 rfl ?_
    refine c_skip ?_
    refine then_n ?_
    refine c_seq ?_
    refine c_block ?_
    refine c_seq ?_
    refine c_region ?_
    refine st hA33 (op_move rfl (hA33.ev rfl)) rfl rfl (by decide) fun a35 hA36 => ?_; clear hA33 a32
    refine st hA36 (op_move rfl (hA36.ev rfl)) rfl rfl (by decide) fun a37 hA38 => ?_; clear hA36 a35
    refine st hA38 (op_indexS rfl un_38 ty_40 (hA38.ev rfl) (i := k) (hA38.ev rfl) (hS25.sk 2 rfl) (by decide) (by omega)) rfl rfl (by decide) fun a39 hA40 => ?_; clear hA38 a37
    refine st hA40 (op_load1E rfl ty_40 (hA40.ev rfl) (hS25.sk 2 rfl) (vals_at (by omega))) rfl rfl (by decide) fun a41 hA42 => ?_; clear hA40 a39
    refine st hA42 (op_move rfl (hA42.ev rfl)) rfl rfl (by decide) fun a43 hA44 => ?_; clear hA42 a41
    refine st hA44 (op_indexS rfl un_40 ty_3 (hA44.ev rfl) (i := band.toNat) ((hA44.ev rfl).trans (int_nat (by omega))) ((show (lstR ov ls).p _ from hS25.ok 3 (lstRo ov ls) rfl).2 k (by omega)) (by decide) (by omega)) rfl rfl (by decide) fun a45 hA46 => ?_; clear hA44 a43
    refine st hA46 (op_load1E rfl ty_3 (hA46.ev rfl) ((show (lstR ov ls).p _ from hS25.ok 3 (lstRo ov ls) rfl).2 k (by omega)) (ints_at (by omega))) rfl rfl (by decide) fun a47 hA48 => ?_; clear hA46 a45
    refine st hA48 (op_move rfl (hA48.ev rfl)) rfl rfl (by decide) fun a49 hA50 => ?_; clear hA48 a47
    refine stw hA50 (op_call rfl en_50 (ev2 (hA50.ev rfl) (hA50.ev rfl)) (Hours_ok _ _ _ (by omega) (by omega))) rfl rfl (by decide) ?_
    rintro a51 _ w53 ⟨rfl, hE54⟩ hA52; have hS55 := hS25.step hE54; clear hE54 hA50 hS25 a49
    refine st hA52 (op_assign rfl (hA52.ev rfl)) rfl rfl (by decide) fun a56 hA57 => ?_; clear hA52 a51
    refine wl_nil ?_
    refine then_n ?_
    refine c_seq ?_
    refine c_seq ?_
    have hA58 := hA57.as [(10, (Value.int .i64 (hoursF ((ls.getD k []).getD band.toNat 0) s))), (9, (Value.int .i64 (k : Int))), (8, (Value.bool ((lifeU ls band.toNat s k).2))), (7, (bptr b11 0)), (6, (bptr b4 0)), (0, xv), (1, (Value.int .i64 band)), (2, (Value.int .i64 s))] rfl; clear hA57
    refine c_region ?_
    refine st hA58 (op_move rfl (hA58.ev rfl)) rfl rfl (by decide) fun a59 hA60 => ?_; clear hA58 a56
    refine st hA60 (op_lss rfl (hA60.ev rfl) (evc _ _)) rfl rfl (by decide) fun a61 hA62 => ?_; clear hA60 a59
    refine wl_nil ?_
    refine then_n ?_
    by_cases hb63 : (hoursF ((ls.getD k []).getD band.toNat 0) s) < 0
    · skip
      rw [decide_eq_true hb63] at hA62
      have hnx := lifeU_neg hge hb63
      refine c_true hA62 rfl ?_
      refine c_seq ?_
      refine c_region ?_
      refine st hA62 (op_assign rfl (evc _ _)) rfl rfl (by decide) fun a64 hA65 => ?_; clear hA62 a61
      refine wl_nil ?_
      refine then_n ?_
      refine c_exit ?_
      refine then_exit ?_
      refine blk_hit ?_
      refine then_n ?_
      refine c_region ?_
      refine st hA65 (op_move rfl (hA65.ev rfl)) rfl rfl (by decide) fun a66 hA67 => ?_; clear hA65 a64
      refine st hA67 (op_add rfl (hA67.ev rfl) (evc _ _) (by omega) (by omega)) rfl rfl (by decide) fun a68 hA69 => ?_; clear hA67 a66
      refine st hA69 (op_assign rfl (hA69.ev rfl)) rfl rfl (by decide) fun a70 hA71 => ?_; clear hA69 a68
      refine wl_nil ?_
      exact then_n ⟨k + 1, ⟨hA71.as _ (by first | (rw [hnx]; done) | (rw [hnx]; rfl)), (hS55.blk_say (i := 0) rfl (cs' := [.int .i64 (lifeU ls band.toNat s (k + 1)).1.1, .int .i64 (lifeU ls band.toNat s (k + 1)).1.2]) (by first | (rw [hnx]; done) | (rw [hnx]; rfl) | (rw [hnx, if_pos (by first | exact .inl (by assumption) | exact .inr (by assumption))]; done) | (rw [hnx, if_neg (by omega)]; done))), by omega⟩, by omega⟩
    · skip
      rw [decide_eq_false hb63] at hA62
      have hnx := lifeU_lo hge hb63
      refine c_false hA62 rfl ?_
      refine c_skip ?_
      refine then_n ?_
      refine c_seq ?_
      refine c_seq ?_
      refine c_region ?_
      refine st hA62 (op_field rfl fd_48_0 (hA62.ev rfl)) rfl rfl (by decide) fun a72 hA73 => ?_; clear hA62 a61
      refine st hA73 (op_load1 rfl ty_3 (hA73.ev rfl) (hS55.bk 0 rfl) rfl) rfl rfl (by decide) fun a74 hA75 => ?_; clear hA73 a72
      refine st hA75 (op_lss rfl (hA75.ev rfl) (evc _ _)) rfl rfl (by decide) fun a76 hA77 => ?_; clear hA75 a74
      refine st hA77 (op_move rfl (hA77.ev rfl)) rfl rfl (by decide) fun a78 hA79 => ?_; clear hA77 a76
      by_cases hb80 : ((lifeU ls band.toNat s k).1.1) < 0
      · skip
        rw [decide_eq_true hb80] at hA79
        refine skp hA79 rfl rfl rfl rfl rfl (by decide) fun a81 hA82 => ?_; clear hA79 a78
        refine skp hA82 rfl rfl rfl rfl rfl (by decide) fun a83 hA84 => ?_; clear hA82 a81
        refine skp hA84 rfl rfl rfl rfl rfl (by decide) fun a85 hA86 => ?_; clear hA84 a83
        refine skp hA86 rfl rfl rfl rfl rfl (by decide) fun a87 hA88 => ?_; clear hA86 a85
        refine st hA88 (op_pick_t rfl (hA88.ev rfl) (evc _ _)) rfl rfl (by decide) fun a89 hA90 => ?_; clear hA88 a87
        refine wl_nil ?_
        refine then_n ?_
        refine c_true hA90 rfl ?_
        have hA91 := hA90.as [(10, (Value.int .i64 (hoursF ((ls.getD k []).getD band.toNat 0) s))), (9, (Value.int .i64 (k : Int))), (8, (Value.bool ((lifeU ls band.toNat s k).2))), (7, (bptr b11 0)), (6, (bptr b4 0)), (0, xv), (1, (Value.int .i64 band)), (2, (Value.int .i64 s))] rfl; clear hA90
        refine c_region ?_
        refine st hA91 (op_move rfl (hA91.ev rfl)) rfl rfl (by decide) fun a92 hA93 => ?_; clear hA91 a89
        refine st hA93 (op_field rfl fd_48_0 (hA93.ev rfl)) rfl rfl (by decide) fun a94 hA95 => ?_; clear hA93 a92
        refine sts hA95 (op_store hS55 rfl ty_3 (hA95.ev rfl) (hA95.ev rfl) (i := 0) rfl (vs := [(Value.int .i64 (hoursF ((ls.getD k []).getD band.toNat 0) s))]) rfl rfl rfl (Nat.le_of_ble_eq_true rfl)) rfl rfl ?_
        intro _ w96 hS97 hA98; clear hA95
        have hS99 : Sep NoB w w96 [(blk b11 48 [(Value.int .i64 (hoursF ((ls.getD k []).getD band.toNat 0) s)), (Value.int .i64 ((lifeU ls band.toNat s k).1.2))]), (blk b4 48 [(Value.int .i64 0), (Value.int .i64 0)]), (sl xv 1 ov.length ov), (lstRo ov ls)] := hS97; clear hS97 hS55
        refine wl_nil ?_
        refine then_n ?_
        refine c_region ?_
        refine st hA98 (op_field rfl fd_48_1 (hA98.ev rfl)) rfl rfl (by decide) fun a100 hA101 => ?_; clear hA98 a94
        refine st hA101 (op_load1 rfl ty_3 (hA101.ev rfl) (hS99.bk 0 rfl) rfl) rfl rfl (by decide) fun a102 hA103 => ?_; clear hA101 a100
        refine st hA103 (op_move rfl (hA103.ev rfl)) rfl rfl (by decide) fun a104 hA105 => ?_; clear hA103 a102
        refine st hA105 (op_max rfl (hA105.ev rfl) (hA105.ev rfl)) rfl rfl (by decide) fun a106 hA107 => ?_; clear hA105 a104
        refine st hA107 (op_field rfl fd_48_1 (hA107.ev rfl)) rfl rfl (by decide) fun a108 hA109 => ?_; clear hA107 a106
        refine sts hA109 (op_store hS99 rfl ty_3 (hA109.ev rfl) (hA109.ev rfl) (i := 0) rfl (vs := [(Value.int .i64 (max ((lifeU ls band.toNat s k).1.2) (hoursF ((ls.getD k []).getD band.toNat 0) s)))]) rfl rfl rfl (Nat.le_of_ble_eq_true rfl)) rfl rfl ?_
        intro _ w110 hS111 hA112; clear hA109
        have hS113 : Sep NoB w w110 [(blk b11 48 [(Value.int .i64 (hoursF ((ls.getD k []).getD band.toNat 0) s)), (Value.int .i64 (max ((lifeU ls band.toNat s k).1.2) (hoursF ((ls.getD k []).getD band.toNat 0) s)))]), (blk b4 48 [(Value.int .i64 0), (Value.int .i64 0)]), (sl xv 1 ov.length ov), (lstRo ov ls)] := hS111; clear hS111 hS99
        refine wl_nil ?_
        refine blk_n ?_
        refine then_n ?_
        have hA114 := hA112.as [(9, (Value.int .i64 (k : Int))), (8, (Value.bool ((lifeU ls band.toNat s k).2))), (7, (bptr b11 0)), (6, (bptr b4 0)), (0, xv), (1, (Value.int .i64 band)), (2, (Value.int .i64 s))] rfl; clear hA112
        refine c_region ?_
        refine st hA114 (op_move rfl (hA114.ev rfl)) rfl rfl (by decide) fun a115 hA116 => ?_; clear hA114 a108
        refine st hA116 (op_add rfl (hA116.ev rfl) (evc _ _) (by omega) (by omega)) rfl rfl (by decide) fun a117 hA118 => ?_; clear hA116 a115
        refine st hA118 (op_assign rfl (hA118.ev rfl)) rfl rfl (by decide) fun a119 hA120 => ?_; clear hA118 a117
        refine wl_nil ?_
        exact then_n ⟨k + 1, ⟨hA120.as _ (by first | (rw [hnx]; done) | (rw [hnx]; rfl)), (hS113.blk_say (i := 0) rfl (cs' := [.int .i64 (lifeU ls band.toNat s (k + 1)).1.1, .int .i64 (lifeU ls band.toNat s (k + 1)).1.2]) (by first | (rw [hnx]; done) | (rw [hnx]; rfl) | (rw [hnx, if_pos (by first | exact .inl (by assumption) | exact .inr (by assumption))]; done) | (rw [hnx, if_neg (by omega)]; done))), by omega⟩, by omega⟩
      · skip
        rw [decide_eq_false hb80] at hA79
        refine stg hA79 (op_move rfl (hA79.ev rfl)) rfl rfl rfl rfl (by decide) fun a121 hA122 => ?_; clear hA79 a78
        refine stg hA122 (op_field rfl fd_48_0 (hA122.ev rfl)) rfl rfl rfl rfl (by decide) fun a123 hA124 => ?_; clear hA122 a121
        refine stg hA124 (op_load1 rfl ty_3 (hA124.ev rfl) (hS55.bk 0 rfl) rfl) rfl rfl rfl rfl (by decide) fun a125 hA126 => ?_; clear hA124 a123
        refine stg hA126 (op_lss rfl (hA126.ev rfl) (hA126.ev rfl)) rfl rfl rfl rfl (by decide) fun a127 hA128 => ?_; clear hA126 a125
        refine st hA128 (op_pick_f rfl (hA128.ev rfl) (hA128.ev rfl)) rfl rfl (by decide) fun a129 hA130 => ?_; clear hA128 a127
        refine wl_nil ?_
        refine then_n ?_
        by_cases hb131 : (hoursF ((ls.getD k []).getD band.toNat 0) s) < ((lifeU ls band.toNat s k).1.1)
        · skip
          rw [decide_eq_true hb131] at hA130
          refine c_true hA130 rfl ?_
          have hA132 := hA130.as [(10, (Value.int .i64 (hoursF ((ls.getD k []).getD band.toNat 0) s))), (9, (Value.int .i64 (k : Int))), (8, (Value.bool ((lifeU ls band.toNat s k).2))), (7, (bptr b11 0)), (6, (bptr b4 0)), (0, xv), (1, (Value.int .i64 band)), (2, (Value.int .i64 s))] rfl; clear hA130
          refine c_region ?_
          refine st hA132 (op_move rfl (hA132.ev rfl)) rfl rfl (by decide) fun a133 hA134 => ?_; clear hA132 a129
          refine st hA134 (op_field rfl fd_48_0 (hA134.ev rfl)) rfl rfl (by decide) fun a135 hA136 => ?_; clear hA134 a133
          refine sts hA136 (op_store hS55 rfl ty_3 (hA136.ev rfl) (hA136.ev rfl) (i := 0) rfl (vs := [(Value.int .i64 (hoursF ((ls.getD k []).getD band.toNat 0) s))]) rfl rfl rfl (Nat.le_of_ble_eq_true rfl)) rfl rfl ?_
          intro _ w137 hS138 hA139; clear hA136
          have hS140 : Sep NoB w w137 [(blk b11 48 [(Value.int .i64 (hoursF ((ls.getD k []).getD band.toNat 0) s)), (Value.int .i64 ((lifeU ls band.toNat s k).1.2))]), (blk b4 48 [(Value.int .i64 0), (Value.int .i64 0)]), (sl xv 1 ov.length ov), (lstRo ov ls)] := hS138; clear hS138 hS55
          refine wl_nil ?_
          refine then_n ?_
          refine c_region ?_
          refine st hA139 (op_field rfl fd_48_1 (hA139.ev rfl)) rfl rfl (by decide) fun a141 hA142 => ?_; clear hA139 a135
          refine st hA142 (op_load1 rfl ty_3 (hA142.ev rfl) (hS140.bk 0 rfl) rfl) rfl rfl (by decide) fun a143 hA144 => ?_; clear hA142 a141
          refine st hA144 (op_move rfl (hA144.ev rfl)) rfl rfl (by decide) fun a145 hA146 => ?_; clear hA144 a143
          refine st hA146 (op_max rfl (hA146.ev rfl) (hA146.ev rfl)) rfl rfl (by decide) fun a147 hA148 => ?_; clear hA146 a145
          refine st hA148 (op_field rfl fd_48_1 (hA148.ev rfl)) rfl rfl (by decide) fun a149 hA150 => ?_; clear hA148 a147
          refine sts hA150 (op_store hS140 rfl ty_3 (hA150.ev rfl) (hA150.ev rfl) (i := 0) rfl (vs := [(Value.int .i64 (max ((lifeU ls band.toNat s k).1.2) (hoursF ((ls.getD k []).getD band.toNat 0) s)))]) rfl rfl rfl (Nat.le_of_ble_eq_true rfl)) rfl rfl ?_
          intro _ w151 hS152 hA153; clear hA150
          have hS154 : Sep NoB w w151 [(blk b11 48 [(Value.int .i64 (hoursF ((ls.getD k []).getD band.toNat 0) s)), (Value.int .i64 (max ((lifeU ls band.toNat s k).1.2) (hoursF ((ls.getD k []).getD band.toNat 0) s)))]), (blk b4 48 [(Value.int .i64 0), (Value.int .i64 0)]), (sl xv 1 ov.length ov), (lstRo ov ls)] := hS152; clear hS152 hS140
          refine wl_nil ?_
          refine blk_n ?_
          refine then_n ?_
          have hA155 := hA153.as [(9, (Value.int .i64 (k : Int))), (8, (Value.bool ((lifeU ls band.toNat s k).2))), (7, (bptr b11 0)), (6, (bptr b4 0)), (0, xv), (1, (Value.int .i64 band)), (2, (Value.int .i64 s))] rfl; clear hA153
          refine c_region ?_
          refine st hA155 (op_move rfl (hA155.ev rfl)) rfl rfl (by decide) fun a156 hA157 => ?_; clear hA155 a149
          refine st hA157 (op_add rfl (hA157.ev rfl) (evc _ _) (by omega) (by omega)) rfl rfl (by decide) fun a158 hA159 => ?_; clear hA157 a156
          refine st hA159 (op_assign rfl (hA159.ev rfl)) rfl rfl (by decide) fun a160 hA161 => ?_; clear hA159 a158
          refine wl_nil ?_
          exact then_n ⟨k + 1, ⟨hA161.as _ (by first | (rw [hnx]; done) | (rw [hnx]; rfl)), (hS154.blk_say (i := 0) rfl (cs' := [.int .i64 (lifeU ls band.toNat s (k + 1)).1.1, .int .i64 (lifeU ls band.toNat s (k + 1)).1.2]) (by first | (rw [hnx]; done) | (rw [hnx]; rfl) | (rw [hnx, if_pos (by first | exact .inl (by assumption) | exact .inr (by assumption))]; done) | (rw [hnx, if_neg (by omega)]; done))), by omega⟩, by omega⟩
        · skip
          rw [decide_eq_false hb131] at hA130
          refine c_false hA130 rfl ?_
          refine c_skip ?_
          refine then_n ?_
          have hA162 := hA130.as [(10, (Value.int .i64 (hoursF ((ls.getD k []).getD band.toNat 0) s))), (9, (Value.int .i64 (k : Int))), (8, (Value.bool ((lifeU ls band.toNat s k).2))), (7, (bptr b11 0)), (6, (bptr b4 0)), (0, xv), (1, (Value.int .i64 band)), (2, (Value.int .i64 s))] rfl; clear hA130
          refine c_region ?_
          refine st hA162 (op_field rfl fd_48_1 (hA162.ev rfl)) rfl rfl (by decide) fun a163 hA164 => ?_; clear hA162 a129
          refine st hA164 (op_load1 rfl ty_3 (hA164.ev rfl) (hS55.bk 0 rfl) rfl) rfl rfl (by decide) fun a165 hA166 => ?_; clear hA164 a163
          refine st hA166 (op_move rfl (hA166.ev rfl)) rfl rfl (by decide) fun a167 hA168 => ?_; clear hA166 a165
          refine st hA168 (op_max rfl (hA168.ev rfl) (hA168.ev rfl)) rfl rfl (by decide) fun a169 hA170 => ?_; clear hA168 a167
          refine st hA170 (op_field rfl fd_48_1 (hA170.ev rfl)) rfl rfl (by decide) fun a171 hA172 => ?_; clear hA170 a169
          refine sts hA172 (op_store hS55 rfl ty_3 (hA172.ev rfl) (hA172.ev rfl) (i := 0) rfl (vs := [(Value.int .i64 (max ((lifeU ls band.toNat s k).1.2) (hoursF ((ls.getD k []).getD band.toNat 0) s)))]) rfl rfl rfl (Nat.le_of_ble_eq_true rfl)) rfl rfl ?_
          intro _ w173 hS174 hA175; clear hA172
          have hS176 : Sep NoB w w173 [(blk b11 48 [(Value.int .i64 ((lifeU ls band.toNat s k).1.1)), (Value.int .i64 (max ((lifeU ls band.toNat s k).1.2) (hoursF ((ls.getD k []).getD band.toNat 0) s)))]), (blk b4 48 [(Value.int .i64 0), (Value.int .i64 0)]), (sl xv 1 ov.length ov), (lstRo ov ls)] := hS174; clear hS174 hS55
          refine wl_nil ?_
          refine blk_n ?_
          refine then_n ?_
          have hA177 := hA175.as [(9, (Value.int .i64 (k : Int))), (8, (Value.bool ((lifeU ls band.toNat s k).2))), (7, (bptr b11 0)), (6, (bptr b4 0)), (0, xv), (1, (Value.int .i64 band)), (2, (Value.int .i64 s))] rfl; clear hA175
          refine c_region ?_
          refine st hA177 (op_move rfl (hA177.ev rfl)) rfl rfl (by decide) fun a178 hA179 => ?_; clear hA177 a171
          refine st hA179 (op_add rfl (hA179.ev rfl) (evc _ _) (by omega) (by omega)) rfl rfl (by decide) fun a180 hA181 => ?_; clear hA179 a178
          refine st hA181 (op_assign rfl (hA181.ev rfl)) rfl rfl (by decide) fun a182 hA183 => ?_; clear hA181 a180
          refine wl_nil ?_
          exact then_n ⟨k + 1, ⟨hA183.as _ (by first | (rw [hnx]; done) | (rw [hnx]; rfl)), (hS176.blk_say (i := 0) rfl (cs' := [.int .i64 (lifeU ls band.toNat s (k + 1)).1.1, .int .i64 (lifeU ls band.toNat s (k + 1)).1.2]) (by first | (rw [hnx]; done) | (rw [hnx]; rfl) | (rw [hnx, if_pos (by first | exact .inl (by assumption) | exact .inr (by assumption))]; done) | (rw [hnx, if_neg (by omega)]; done))), by omega⟩, by omega⟩
  · skip
    rw [decide_eq_false hb34] at hA33
    refine c_false hA33 rfl ?_
    refine c_exit ?_
    refine then_exit ?_
    refine then_exit ?_
    refine blk_hit ?_
    refine then_n ?_
    refine c_seq ?_
    refine c_seq ?_
    have hA184 := hA33.as [(8, (Value.bool ((lifeU ls band.toNat s k).2))), (7, (bptr b11 0)), (6, (bptr b4 0))] rfl; clear hA33
    refine c_region ?_
    refine st hA184 (op_move rfl (hA184.ev rfl)) rfl rfl (by decide) fun a185 hA186 => ?_; clear hA184 a32
    refine wl_nil ?_
    refine then_n ?_
    rcases Bool.eq_false_or_eq_true ((lifeU ls band.toNat s k).2) with hb187 | hb187
    · skip
      rw [hb187] at hA186
      refine c_true hA186 rfl ?_
      refine c_region ?_
      refine st hA186 (op_field rfl fd_48_1 (hA186.ev rfl)) rfl rfl (by decide) fun a188 hA189 => ?_; clear hA186 a185
      refine sts hA189 (op_store hS25 rfl ty_3 (hA189.ev rfl) (evc _ _) (i := 0) rfl (vs := [(Value.int .i64 (-1))]) rfl rfl rfl (Nat.le_of_ble_eq_true rfl)) rfl rfl ?_
      intro _ w190 hS191 hA192; clear hA189
      have hS193 : Sep NoB w w190 [(blk b11 48 [(Value.int .i64 ((lifeU ls band.toNat s k).1.1)), (Value.int .i64 (-1))]), (blk b4 48 [(Value.int .i64 0), (Value.int .i64 0)]), (sl xv 1 ov.length ov), (lstRo ov ls)] := hS191; clear hS191 hS25
      refine wl_nil ?_
      refine then_n ?_
      refine c_seq ?_
      refine c_region ?_
      refine st hA192 (op_loadA rfl ty_48 (hA192.ev rfl) (hS193.bk 0 rfl) (l := [(Value.int .i64 ((lifeU ls band.toNat s k).1.1)), (Value.int .i64 (-1))]) rfl rfl) rfl rfl (by decide) fun a194 hA195 => ?_; clear hA192 a188
      refine sts hA195 (op_store hS193 rfl ty_48 (hA195.ev rfl) (hA195.ev rfl) (i := 1) rfl (vs := [(Value.int .i64 ((lifeU ls band.toNat s k).1.1)), (Value.int .i64 (-1))]) rfl rfl rfl (Nat.le_of_ble_eq_true rfl)) rfl rfl ?_
      intro _ w196 hS197 hA198; clear hA195
      have hS199 : Sep NoB w w196 [(blk b11 48 [(Value.int .i64 ((lifeU ls band.toNat s k).1.1)), (Value.int .i64 (-1))]), (blk b4 48 [(Value.int .i64 ((lifeU ls band.toNat s k).1.1)), (Value.int .i64 (-1))]), (sl xv 1 ov.length ov), (lstRo ov ls)] := hS197; clear hS197 hS193
      refine wl_nil ?_
      refine then_n ?_
      refine c_ret ?_
      refine fin_run hA198 (.inl rfl) (run_results1 hA198 rfl (.cellA rfl ty_48 (hS199.bk 1 rfl) (l := [(Value.int .i64 ((lifeU ls band.toNat s k).1.1)), (Value.int .i64 (-1))]) rfl rfl)) ?_
      exact ⟨by unfold lifeR; rw [show ls.length = k by omega]; first | rw [if_pos (by assumption)] | rw [if_neg (by simp [*])], hS199.ext⟩
    · skip
      rw [hb187] at hA186
      refine c_false hA186 rfl ?_
      refine c_skip ?_
      refine then_n ?_
      refine c_seq ?_
      refine c_region ?_
      refine st hA186 (op_loadA rfl ty_48 (hA186.ev rfl) (hS25.bk 0 rfl) (l := [(Value.int .i64 ((lifeU ls band.toNat s k).1.1)), (Value.int .i64 ((lifeU ls band.toNat s k).1.2))]) rfl rfl) rfl rfl (by decide) fun a200 hA201 => ?_; clear hA186 a185
      refine sts hA201 (op_store hS25 rfl ty_48 (hA201.ev rfl) (hA201.ev rfl) (i := 1) rfl (vs := [(Value.int .i64 ((lifeU ls band.toNat s k).1.1)), (Value.int .i64 ((lifeU ls band.toNat s k).1.2))]) rfl rfl rfl (Nat.le_of_ble_eq_true rfl)) rfl rfl ?_
      intro _ w202 hS203 hA204; clear hA201
      have hS205 : Sep NoB w w202 [(blk b11 48 [(Value.int .i64 ((lifeU ls band.toNat s k).1.1)), (Value.int .i64 ((lifeU ls band.toNat s k).1.2))]), (blk b4 48 [(Value.int .i64 ((lifeU ls band.toNat s k).1.1)), (Value.int .i64 ((lifeU ls band.toNat s k).1.2))]), (sl xv 1 ov.length ov), (lstRo ov ls)] := hS203; clear hS203 hS25
      refine wl_nil ?_
      refine then_n ?_
      refine c_ret ?_
      refine fin_run hA204 (.inl rfl) (run_results1 hA204 rfl (.cellA rfl ty_48 (hS205.bk 1 rfl) (l := [(Value.int .i64 ((lifeU ls band.toNat s k).1.1)), (Value.int .i64 ((lifeU ls band.toNat s k).1.2))]) rfl rfl)) ?_
      exact ⟨by unfold lifeR; rw [show ls.length = k by omega]; first | rw [if_pos (by assumption)] | rw [if_neg (by simp [*])], hS205.ext⟩

set_option maxHeartbeats 4000000 in
theorem CreepLives_a (w : World) (R : List (Int × Int)) (vr : Value) (hm : SlAt w vr 2 R.length (pairs R)) (rs : List RunD) (lv : List Value) (vu : Value) (hx : RunsAt w vu lv rs) (band s : Int) (hB : -9223372036854775808 ≤ band ∧ band ≤ 9223372036854775807) (hS_ : -9223372036854775808 ≤ s ∧ s ≤ 9223372036854775807) (hf : thinB R rs 0 = false) :
    Calls Try.prog 4 #[(Value.agg #[vr]), vu, (Value.int .i64 band), (Value.int .i64 s)] w (Ret fun v w' => v = .bool true ∧ Ext NoB w w') := by
  refine calls_enter Try.func4 rfl fun a0 hA0 => ?_
  replace hA0 : Fr 75 [] [(0, (Value.agg #[vr])), (1, vu), (2, (Value.int .i64 band)), (3, (Value.int .i64 s))] a0 := hA0
  have hS0 : Sep NoB w w [(sl vr 2 R.length (pairs R)), (runsR false vu lv rs)] := sep_ro ⟨rfl, hm, rfl, hx, trivial⟩
  refine c_seq ?_
  refine c_region ?_
  refine stw hA0 (op_box hS0 rfl (hA0.ev rfl) (cs := [vr]) rfl) rfl rfl (by decide) ?_
  rintro a1 _ w3 ⟨b4, rfl, hS5⟩ hA2; clear hA0 hS0 a0
  refine st hA2 (op_assign rfl (evc _ _)) rfl rfl (by decide) fun a6 hA7 => ?_; clear hA2 a1
  refine wl_nil ?_
  refine then_n ?_
  refine c_seq ?_
  refine c_seq ?_
  refine c_region ?_
  refine st hA7 (op_loadA rfl ty_24 (hA7.ev rfl) (hS5.bk 0 rfl) (l := [vr]) rfl rfl) rfl rfl (by decide) fun a8 hA9 => ?_; clear hA7 a6
  refine st hA9 (op_move rfl (hA9.ev rfl)) rfl rfl (by decide) fun a10 hA11 => ?_; clear hA9 a8
  refine stw hA11 (op_call rfl en_16 (ev3 (hA11.ev rfl) (hA11.ev rfl) (evc _ _)) (callsB (Thin_ok _ R _ (hS5.sk 1 rfl) rs _ _ (runs_at (hS5.ok 2 _ rfl)) ([]) _ (slAt_nil _ 3)) (thinB R rs 0) rfl)) rfl rfl (by decide) ?_
  rintro a12 _ w14 ⟨rfl, hE15⟩ hA13; have hS16 := hS5.step hE15; clear hE15 hA11 hS5 a10
  rw [hf] at hA13
  refine st hA13 (op_not rfl (hA13.ev rfl)) rfl rfl (by decide) fun a17 hA18 => ?_; clear hA13 a12
  refine wl_nil ?_
  refine then_n ?_
  refine c_true hA18 rfl ?_
  refine c_seq ?_
  have hA19 := hA18.as [] rfl; clear hA18
  refine c_region ?_
  refine stw hA19 (op_call rfl en_17 ev0 (awake_ok _)) rfl rfl (by decide) ?_
  rintro a20 _ w22 ⟨rfl, hE23⟩ hA21; have hS24 := hS16.step hE23; clear hE23 hA19 hS16 a17
  refine st hA21 (op_assign rfl (hA21.ev rfl)) rfl rfl (by decide) fun a25 hA26 => ?_; clear hA21 a20
  refine wl_nil ?_
  refine then_n ?_
  refine c_ret ?_
  refine then_ret ?_
  refine fin_run hA26 (.inl rfl) (run_results1 hA26 rfl (.tmp rfl)) ?_
  exact ⟨rfl, hS24.ext⟩

set_option maxHeartbeats 4000000 in
theorem CreepLives_b (w : World) (R : List (Int × Int)) (vr : Value) (hm : SlAt w vr 2 R.length (pairs R)) (rs : List RunD) (lv : List Value) (vu : Value) (hx : RunsAt w vu lv rs) (band s : Int) (hB : -9223372036854775808 ≤ band ∧ band ≤ 9223372036854775807) (hS_ : -9223372036854775808 ≤ s ∧ s ≤ 9223372036854775807) (hf : thinB R rs 0 = true) (hc : possF R rs ≠ 0) :
    Calls Try.prog 4 #[(Value.agg #[vr]), vu, (Value.int .i64 band), (Value.int .i64 s)] w (Ret fun v w' => v = .bool true ∧ Ext NoB w w') := by
  refine calls_enter Try.func4 rfl fun a0 hA0 => ?_
  replace hA0 : Fr 75 [] [(0, (Value.agg #[vr])), (1, vu), (2, (Value.int .i64 band)), (3, (Value.int .i64 s))] a0 := hA0
  have hth := thin_of hf; have h6 := hth.mat; have h9 := hth.runs; have hle_ := life_p (band := band) (s := s) hc; have hlz : lifeE R rs band s ≠ 0 := by rw [hle_]; exact hc
  have hS0 : Sep NoB w w [(sl vr 2 R.length (pairs R)), (runsR false vu lv rs)] := sep_ro ⟨rfl, hm, rfl, hx, trivial⟩
  refine c_seq ?_
  refine c_region ?_
  refine stw hA0 (op_box hS0 rfl (hA0.ev rfl) (cs := [vr]) rfl) rfl rfl (by decide) ?_
  rintro a1 _ w3 ⟨b4, rfl, hS5⟩ hA2; clear hA0 hS0 a0
  refine st hA2 (op_assign rfl (evc _ _)) rfl rfl (by decide) fun a6 hA7 => ?_; clear hA2 a1
  refine wl_nil ?_
  refine then_n ?_
  refine c_seq ?_
  refine c_seq ?_
  refine c_region ?_
  refine st hA7 (op_loadA rfl ty_24 (hA7.ev rfl) (hS5.bk 0 rfl) (l := [vr]) rfl rfl) rfl rfl (by decide) fun a8 hA9 => ?_; clear hA7 a6
  refine st hA9 (op_move rfl (hA9.ev rfl)) rfl rfl (by decide) fun a10 hA11 => ?_; clear hA9 a8
  refine stw hA11 (op_call rfl en_16 (ev3 (hA11.ev rfl) (hA11.ev rfl) (evc _ _)) (callsB (Thin_ok _ R _ (hS5.sk 1 rfl) rs _ _ (runs_at (hS5.ok 2 _ rfl)) ([]) _ (slAt_nil _ 3)) (thinB R rs 0) rfl)) rfl rfl (by decide) ?_
  rintro a12 _ w14 ⟨rfl, hE15⟩ hA13; have hS16 := hS5.step hE15; clear hE15 hA11 hS5 a10
  rw [hf] at hA13
  refine st hA13 (op_not rfl (hA13.ev rfl)) rfl rfl (by decide) fun a17 hA18 => ?_; clear hA13 a12
  refine wl_nil ?_
  refine then_n ?_
  refine c_false hA18 rfl ?_
  refine c_skip ?_
  refine then_n ?_
  refine c_seq ?_
  have hA19 := hA18.as [(4, (bptr b4 0)), (1, vu), (2, (Value.int .i64 band)), (3, (Value.int .i64 s))] rfl; clear hA18
  refine c_region ?_
  refine st hA19 (op_loadA rfl ty_24 (hA19.ev rfl) (hS16.bk 0 rfl) (l := [vr]) rfl rfl) rfl rfl (by decide) fun a20 hA21 => ?_; clear hA19 a17
  refine stw hA21 (op_call rfl en_19 (ev1 (hA21.ev rfl)) (Material_ok _ R _ (hS16.sk 1 rfl) hth.mat)) rfl rfl (by decide) ?_
  rintro a22 _ w24 ⟨u27, rfl, hT25⟩ hA23; have hS26 := hS16.callS hT25 rfl; clear hT25 hA21 hS16 a20
  refine st hA23 (op_move rfl (hA23.ev rfl)) rfl rfl (by decide) fun a28 hA29 => ?_; clear hA23 a22
  refine stw hA29 (op_call rfl en_20 (ev1 (hA29.ev rfl)) (Runs_ok _ rs _ _ (runs_at (hS26.ok 3 _ rfl)) hth.runs hth.segs)) rfl rfl (by decide) ?_
  rintro a30 v35 w32 ⟨lv36, hT33⟩ hA31; have hS34 := hS26.callS hT33 rfl; clear hT33 hA29 hS26 a28
  refine st hA31 (op_move rfl (hA31.ev rfl)) rfl rfl (by decide) fun a37 hA38 => ?_; clear hA31 a30
  refine st hA38 (op_move rfl (hA38.ev rfl)) rfl rfl (by decide) fun a39 hA40 => ?_; clear hA38 a37
  refine stw hA40 (op_call rfl en_23 (ev4 (hA40.ev rfl) (hA40.ev rfl) (hA40.ev rfl) (hA40.ev rfl)) (life_no R rs lv36 u27 v35 _ (SlAt.of_row (hS34.ok_row 1 rfl)) (runs_at (hS34.ok 0 _ rfl)) (by omega) (by omega) band s hlz)) rfl rfl (by decide) ?_
  rintro a41 _ w43 ⟨rfl, hE44⟩ hA42; have hS45 := hS34.step hE44; clear hE44 hA40 hS34 a39
  refine st hA42 (op_move rfl (hA42.ev rfl)) rfl rfl (by decide) fun a46 hA47 => ?_; clear hA42 a41
  refine st hA47 (op_extract rfl (hA47.ev rfl) rfl) rfl rfl (by decide) fun a48 hA49 => ?_; clear hA47 a46
  refine st hA49 (op_extract rfl (hA49.ev rfl) rfl) rfl rfl (by decide) fun a50 hA51 => ?_; clear hA49 a48
  refine stw hA51 (op_alloc hS45 rfl ze_42 (cs := [(Value.int .i64 0), (Value.int .i64 0)]) rfl) rfl rfl (by decide) ?_
  rintro a52 _ w54 ⟨b55, rfl, hS56⟩ hA53; clear hA51 hS45 a50
  refine sts hA53 (op_store hS56 rfl ty_42 (hA53.ev rfl) (hA53.ev rfl) (i := 0) rfl (vs := [(Value.int .i64 0), (Value.int .i64 0)]) rfl rfl rfl (Nat.le_of_ble_eq_true rfl)) rfl rfl ?_
  intro _ w57 hS58 hA59; clear hA53
  have hS60 : Sep NoB w w57 [(blk b55 42 [(Value.int .i64 0), (Value.int .i64 0)]), (runsR true v35 lv36 rs), (row u27 42 2 R.length (pairs R)), (blk b4 24 [vr]), (sl vr 2 R.length (pairs R)), (runsR false vu lv rs)] := hS58; clear hS58 hS56
  refine st hA59 (op_assign rfl (hA59.ev rfl)) rfl rfl (by decide) fun a61 hA62 => ?_; clear hA59 a52
  refine wl_nil ?_
  refine then_n ?_
  refine c_seq ?_
  have hA63 := hA62.as [(10, (Value.int .i64 (lifeE R rs band s))), (9, (bptr b55 0)), (4, (bptr b4 0)), (1, vu), (2, (Value.int .i64 band)), (3, (Value.int .i64 s))] rfl; clear hA62
  refine c_region ?_
  refine st hA63 (op_loadA rfl ty_24 (hA63.ev rfl) (hS60.bk 3 rfl) (l := [vr]) rfl rfl) rfl rfl (by decide) fun a64 hA65 => ?_; clear hA63 a61
  refine st hA65 (op_move rfl (hA65.ev rfl)) rfl rfl (by decide) fun a66 hA67 => ?_; clear hA65 a64
  refine stw hA67 (op_call rfl en_21 (ev2 (hA67.ev rfl) (hA67.ev rfl)) (asked_ok _ R _ (hS60.sk 4 rfl) rs _ _ (runs_at (hS60.ok 5 _ rfl)))) rfl rfl (by decide) ?_
  rintro a68 _ w70 ⟨rfl, hE71⟩ hA69; have hS72 := hS60.step hE71; clear hE71 hA67 hS60 a66
  refine st hA69 (op_assign rfl (hA69.ev rfl)) rfl rfl (by decide) fun a73 hA74 => ?_; clear hA69 a68
  refine wl_nil ?_
  refine then_n ?_
  refine c_seq ?_
  refine c_seq ?_
  refine c_region ?_
  refine st hA74 (op_move rfl (hA74.ev rfl)) rfl rfl (by decide) fun a75 hA76 => ?_; clear hA74 a73
  refine st hA76 (op_eql rfl (hA76.ev rfl) (evc _ _)) rfl rfl (by decide) fun a77 hA78 => ?_; clear hA76 a75
  have hd79 : ¬ ((possF R rs) = 0) := hc
  rw [decide_eq_false hd79] at hA78
  refine st hA78 (op_move rfl (hA78.ev rfl)) rfl rfl (by decide) fun a80 hA81 => ?_; clear hA78 a77
  refine skp hA81 rfl rfl rfl rfl rfl (by decide) fun a82 hA83 => ?_; clear hA81 a80
  refine skp hA83 rfl rfl rfl rfl rfl (by decide) fun a84 hA85 => ?_; clear hA83 a82
  refine skp hA85 rfl rfl rfl rfl rfl (by decide) fun a86 hA87 => ?_; clear hA85 a84
  refine skp hA87 rfl rfl rfl rfl rfl (by decide) fun a88 hA89 => ?_; clear hA87 a86
  refine skp hA89 rfl rfl rfl rfl rfl (by decide) fun a90 hA91 => ?_; clear hA89 a88
  refine skp hA91 rfl rfl rfl rfl rfl (by decide) fun a92 hA93 => ?_; clear hA91 a90
  refine skp hA93 rfl rfl rfl rfl rfl (by decide) fun a94 hA95 => ?_; clear hA93 a92
  refine skp hA95 rfl rfl rfl rfl rfl (by decide) fun a96 hA97 => ?_; clear hA95 a94
  refine skpU hA97 rfl rfl rfl rfl (by decide) fun a98 hA99 => ?_; clear hA97 a96
  refine skpU hA99 rfl rfl rfl rfl (by decide) fun a100 hA101 => ?_; clear hA99 a98
  refine skpU hA101 rfl rfl rfl rfl (by decide) fun a102 hA103 => ?_; clear hA101 a100
  refine skp hA103 rfl rfl rfl rfl rfl (by decide) fun a104 hA105 => ?_; clear hA103 a102
  refine st hA105 (op_pick_f rfl (hA105.ev rfl) (evc _ _)) rfl rfl (by decide) fun a106 hA107 => ?_; clear hA105 a104
  refine wl_nil ?_
  refine then_n ?_
  refine c_false hA107 rfl ?_
  refine c_skip ?_
  refine then_n ?_
  refine c_seq ?_
  refine c_seq ?_
  have hA108 := hA107.as [(11, (Value.int .i64 (possF R rs))), (10, (Value.int .i64 (lifeE R rs band s))), (9, (bptr b55 0)), (4, (bptr b4 0)), (1, vu), (2, (Value.int .i64 band)), (3, (Value.int .i64 s))] rfl; clear hA107
  refine c_region ?_
  refine st hA108 (op_move rfl (hA108.ev rfl)) rfl rfl (by decide) fun a109 hA110 => ?_; clear hA108 a106
  refine st hA110 (op_neq rfl (hA110.ev rfl) (evc _ _)) rfl rfl (by decide) fun a111 hA112 => ?_; clear hA110 a109
  rw [decide_eq_false hd79] at hA112
  refine wl_nil ?_
  refine then_n ?_
  refine c_true hA112 rfl ?_
  refine c_seq ?_
  have hA113 := hA112.as [(11, (Value.int .i64 (possF R rs))), (10, (Value.int .i64 (lifeE R rs band s))), (9, (bptr b55 0))] rfl; clear hA112
  refine c_region ?_
  refine st hA113 (op_move rfl (hA113.ev rfl)) rfl rfl (by decide) fun a114 hA115 => ?_; clear hA113 a111
  refine st hA115 (op_move rfl (hA115.ev rfl)) rfl rfl (by decide) fun a116 hA117 => ?_; clear hA115 a114
  refine st hA117 (op_eql rfl (hA117.ev rfl) (hA117.ev rfl)) rfl rfl (by decide) fun a118 hA119 => ?_; clear hA117 a116
  have hd120 : (lifeE R rs band s) = (possF R rs) := hle_
  rw [decide_eq_true hd120] at hA119
  refine st hA119 (op_move rfl (hA119.ev rfl)) rfl rfl (by decide) fun a121 hA122 => ?_; clear hA119 a118
  refine stg hA122 (op_loadA rfl ty_42 (hA122.ev rfl) (hS72.bk 0 rfl) (l := [(Value.int .i64 0), (Value.int .i64 0)]) rfl rfl) rfl rfl rfl rfl (by decide) fun a123 hA124 => ?_; clear hA122 a121
  refine stg hA124 (op_build rfl pv0 bd_42_) rfl rfl rfl rfl (by decide) fun a125 hA126 => ?_; clear hA124 a123
  refine stg hA126 (op_eqlP tw_42 rfl (hA126.ev rfl) (hA126.ev rfl)) rfl rfl rfl rfl (by decide) fun a127 hA128 => ?_; clear hA126 a125
  have hd129 : (decide ((0 : Int) = 0) && decide ((0 : Int) = 0)) = true := by simp only [decide_true, Bool.and_self]
  rw [hd129] at hA128
  have hq130 := hd129; simp only [Bool.and_eq_true, Bool.and_eq_false_iff, decide_eq_true_eq, decide_eq_false_iff_not] at hq130
  refine st hA128 (op_pick_t rfl (hA128.ev rfl) (hA128.ev rfl)) rfl rfl (by decide) fun a131 hA132 => ?_; clear hA128 a127
  refine st hA132 (op_move rfl (hA132.ev rfl)) rfl rfl (by decide) fun a133 hA134 => ?_; clear hA132 a131
  refine stwg hA134 (op_call rfl en_17 ev0 (awake_ok _)) rfl rfl rfl rfl (by decide) ?_
  rintro a135 _ w137 ⟨rfl, hE138⟩ hA136; have hS139 := hS72.step hE138; clear hE138 hA134 hS72 a133
  refine st hA136 (op_pick_t rfl (hA136.ev rfl) (hA136.ev rfl)) rfl rfl (by decide) fun a140 hA141 => ?_; clear hA136 a135
  refine st hA141 (op_assign rfl (hA141.ev rfl)) rfl rfl (by decide) fun a142 hA143 => ?_; clear hA141 a140
  refine wl_nil ?_
  refine then_n ?_
  refine c_ret ?_
  refine then_ret ?_
  refine fin_run hA143 (.inl rfl) (run_results1 hA143 rfl (.tmp rfl)) ?_
  exact ⟨rfl, hS139.ext⟩

set_option maxHeartbeats 4000000 in
theorem CreepLives_c (w : World) (R : List (Int × Int)) (vr : Value) (hm : SlAt w vr 2 R.length (pairs R)) (rs : List RunD) (lv : List Value) (vu : Value) (hx : RunsAt w vu lv rs) (band s : Int) (hB : -9223372036854775808 ≤ band ∧ band ≤ 9223372036854775807) (hS_ : -9223372036854775808 ≤ s ∧ s ≤ 9223372036854775807) (hf : thinB R rs 0 = true) (hc : possF R rs = 0) (hi : ¬ (0 ≤ band ∧ band ≤ (R.length : Int) - 1)) :
    Calls Try.prog 4 #[(Value.agg #[vr]), vu, (Value.int .i64 band), (Value.int .i64 s)] w (Ret fun v w' => v = .bool true ∧ Ext NoB w w') := by
  refine calls_enter Try.func4 rfl fun a0 hA0 => ?_
  replace hA0 : Fr 75 [] [(0, (Value.agg #[vr])), (1, vu), (2, (Value.int .i64 band)), (3, (Value.int .i64 s))] a0 := hA0
  have hth := thin_of hf; have h6 := hth.mat; have h9 := hth.runs; have hi1 : (decide (0 ≤ band) && decide (band ≤ ((R.length : Int) - 1))) = false := (by simp only [Bool.and_eq_false_iff, decide_eq_false_iff_not]; omega); have hle_ := life_2 (s := s) hc (fun h => hi h.1); have hlz : lifeE R rs band s ≠ 0 := by rw [hle_]; decide
  have hS0 : Sep NoB w w [(sl vr 2 R.length (pairs R)), (runsR false vu lv rs)] := sep_ro ⟨rfl, hm, rfl, hx, trivial⟩
  refine c_seq ?_
  refine c_region ?_
  refine stw hA0 (op_box hS0 rfl (hA0.ev rfl) (cs := [vr]) rfl) rfl rfl (by decide) ?_
  rintro a1 _ w3 ⟨b4, rfl, hS5⟩ hA2; clear hA0 hS0 a0
  refine st hA2 (op_assign rfl (evc _ _)) rfl rfl (by decide) fun a6 hA7 => ?_; clear hA2 a1
  refine wl_nil ?_
  refine then_n ?_
  refine c_seq ?_
  refine c_seq ?_
  refine c_region ?_
  refine st hA7 (op_loadA rfl ty_24 (hA7.ev rfl) (hS5.bk 0 rfl) (l := [vr]) rfl rfl) rfl rfl (by decide) fun a8 hA9 => ?_; clear hA7 a6
  refine st hA9 (op_move rfl (hA9.ev rfl)) rfl rfl (by decide) fun a10 hA11 => ?_; clear hA9 a8
  refine stw hA11 (op_call rfl en_16 (ev3 (hA11.ev rfl) (hA11.ev rfl) (evc _ _)) (callsB (Thin_ok _ R _ (hS5.sk 1 rfl) rs _ _ (runs_at (hS5.ok 2 _ rfl)) ([]) _ (slAt_nil _ 3)) (thinB R rs 0) rfl)) rfl rfl (by decide) ?_
  rintro a12 _ w14 ⟨rfl, hE15⟩ hA13; have hS16 := hS5.step hE15; clear hE15 hA11 hS5 a10
  rw [hf] at hA13
  refine st hA13 (op_not rfl (hA13.ev rfl)) rfl rfl (by decide) fun a17 hA18 => ?_; clear hA13 a12
  refine wl_nil ?_
  refine then_n ?_
  refine c_false hA18 rfl ?_
  refine c_skip ?_
  refine then_n ?_
  refine c_seq ?_
  have hA19 := hA18.as [(4, (bptr b4 0)), (1, vu), (2, (Value.int .i64 band)), (3, (Value.int .i64 s))] rfl; clear hA18
  refine c_region ?_
  refine st hA19 (op_loadA rfl ty_24 (hA19.ev rfl) (hS16.bk 0 rfl) (l := [vr]) rfl rfl) rfl rfl (by decide) fun a20 hA21 => ?_; clear hA19 a17
  refine stw hA21 (op_call rfl en_19 (ev1 (hA21.ev rfl)) (Material_ok _ R _ (hS16.sk 1 rfl) hth.mat)) rfl rfl (by decide) ?_
  rintro a22 _ w24 ⟨u27, rfl, hT25⟩ hA23; have hS26 := hS16.callS hT25 rfl; clear hT25 hA21 hS16 a20
  refine st hA23 (op_move rfl (hA23.ev rfl)) rfl rfl (by decide) fun a28 hA29 => ?_; clear hA23 a22
  refine stw hA29 (op_call rfl en_20 (ev1 (hA29.ev rfl)) (Runs_ok _ rs _ _ (runs_at (hS26.ok 3 _ rfl)) hth.runs hth.segs)) rfl rfl (by decide) ?_
  rintro a30 v35 w32 ⟨lv36, hT33⟩ hA31; have hS34 := hS26.callS hT33 rfl; clear hT33 hA29 hS26 a28
  refine st hA31 (op_move rfl (hA31.ev rfl)) rfl rfl (by decide) fun a37 hA38 => ?_; clear hA31 a30
  refine st hA38 (op_move rfl (hA38.ev rfl)) rfl rfl (by decide) fun a39 hA40 => ?_; clear hA38 a37
  refine stw hA40 (op_call rfl en_23 (ev4 (hA40.ev rfl) (hA40.ev rfl) (hA40.ev rfl) (hA40.ev rfl)) (life_no R rs lv36 u27 v35 _ (SlAt.of_row (hS34.ok_row 1 rfl)) (runs_at (hS34.ok 0 _ rfl)) (by omega) (by omega) band s hlz)) rfl rfl (by decide) ?_
  rintro a41 _ w43 ⟨rfl, hE44⟩ hA42; have hS45 := hS34.step hE44; clear hE44 hA40 hS34 a39
  refine st hA42 (op_move rfl (hA42.ev rfl)) rfl rfl (by decide) fun a46 hA47 => ?_; clear hA42 a41
  refine st hA47 (op_extract rfl (hA47.ev rfl) rfl) rfl rfl (by decide) fun a48 hA49 => ?_; clear hA47 a46
  refine st hA49 (op_extract rfl (hA49.ev rfl) rfl) rfl rfl (by decide) fun a50 hA51 => ?_; clear hA49 a48
  refine stw hA51 (op_alloc hS45 rfl ze_42 (cs := [(Value.int .i64 0), (Value.int .i64 0)]) rfl) rfl rfl (by decide) ?_
  rintro a52 _ w54 ⟨b55, rfl, hS56⟩ hA53; clear hA51 hS45 a50
  refine sts hA53 (op_store hS56 rfl ty_42 (hA53.ev rfl) (hA53.ev rfl) (i := 0) rfl (vs := [(Value.int .i64 0), (Value.int .i64 0)]) rfl rfl rfl (Nat.le_of_ble_eq_true rfl)) rfl rfl ?_
  intro _ w57 hS58 hA59; clear hA53
  have hS60 : Sep NoB w w57 [(blk b55 42 [(Value.int .i64 0), (Value.int .i64 0)]), (runsR true v35 lv36 rs), (row u27 42 2 R.length (pairs R)), (blk b4 24 [vr]), (sl vr 2 R.length (pairs R)), (runsR false vu lv rs)] := hS58; clear hS58 hS56
  refine st hA59 (op_assign rfl (hA59.ev rfl)) rfl rfl (by decide) fun a61 hA62 => ?_; clear hA59 a52
  refine wl_nil ?_
  refine then_n ?_
  refine c_seq ?_
  have hA63 := hA62.as [(10, (Value.int .i64 (lifeE R rs band s))), (9, (bptr b55 0)), (4, (bptr b4 0)), (1, vu), (2, (Value.int .i64 band)), (3, (Value.int .i64 s))] rfl; clear hA62
  refine c_region ?_
  refine st hA63 (op_loadA rfl ty_24 (hA63.ev rfl) (hS60.bk 3 rfl) (l := [vr]) rfl rfl) rfl rfl (by decide) fun a64 hA65 => ?_; clear hA63 a61
  refine st hA65 (op_move rfl (hA65.ev rfl)) rfl rfl (by decide) fun a66 hA67 => ?_; clear hA65 a64
  refine stw hA67 (op_call rfl en_21 (ev2 (hA67.ev rfl) (hA67.ev rfl)) (asked_ok _ R _ (hS60.sk 4 rfl) rs _ _ (runs_at (hS60.ok 5 _ rfl)))) rfl rfl (by decide) ?_
  rintro a68 _ w70 ⟨rfl, hE71⟩ hA69; have hS72 := hS60.step hE71; clear hE71 hA67 hS60 a66
  refine st hA69 (op_assign rfl (hA69.ev rfl)) rfl rfl (by decide) fun a73 hA74 => ?_; clear hA69 a68
  refine wl_nil ?_
  refine then_n ?_
  refine c_seq ?_
  refine c_seq ?_
  refine c_region ?_
  refine st hA74 (op_move rfl (hA74.ev rfl)) rfl rfl (by decide) fun a75 hA76 => ?_; clear hA74 a73
  refine st hA76 (op_eql rfl (hA76.ev rfl) (evc _ _)) rfl rfl (by decide) fun a77 hA78 => ?_; clear hA76 a75
  have hd79 : (possF R rs) = 0 := hc
  rw [decide_eq_true hd79] at hA78
  refine st hA78 (op_move rfl (hA78.ev rfl)) rfl rfl (by decide) fun a80 hA81 => ?_; clear hA78 a77
  refine stg hA81 (op_move rfl (hA81.ev rfl)) rfl rfl rfl rfl (by decide) fun a82 hA83 => ?_; clear hA81 a80
  refine stg hA83 (op_field rfl fd_24_0 (hA83.ev rfl)) rfl rfl rfl rfl (by decide) fun a84 hA85 => ?_; clear hA83 a82
  refine stg hA85 (op_load1 rfl ty_22 (hA85.ev rfl) (hS72.bk 3 rfl) rfl) rfl rfl rfl rfl (by decide) fun a86 hA87 => ?_; clear hA85 a84
  refine stg hA87 (op_lenS rfl un_22 (hA87.ev rfl) (hS72.sk 4 rfl)) rfl rfl rfl rfl (by decide) fun a88 hA89 => ?_; clear hA87 a86
  refine stg hA89 (op_sub rfl (hA89.ev rfl) (evc _ _) (by omega) (by omega)) rfl rfl rfl rfl (by decide) fun a90 hA91 => ?_; clear hA89 a88
  refine stwg hA91 (op_call rfl en_24 (ev3 (hA91.ev rfl) (evc _ _) (hA91.ev rfl)) (In_ok _ _ _ _)) rfl rfl rfl rfl (by decide) ?_
  rintro a92 _ W_ ⟨rfl, hW_⟩ hA93; have hW2_ := hW_.symm; subst hW2_; clear hW_ hA91 a90
  rw [hi1] at hA93
  have hq95 := hi1; simp only [Bool.and_eq_true, Bool.and_eq_false_iff, decide_eq_true_eq, decide_eq_false_iff_not] at hq95
  refine stg hA93 (op_not rfl (hA93.ev rfl)) rfl rfl rfl rfl (by decide) fun a96 hA97 => ?_; clear hA93 a92
  refine stg hA97 (op_move rfl (hA97.ev rfl)) rfl rfl rfl rfl (by decide) fun a98 hA99 => ?_; clear hA97 a96
  refine skp hA99 rfl rfl rfl rfl rfl (by decide) fun a100 hA101 => ?_; clear hA99 a98
  refine skp hA101 rfl rfl rfl rfl rfl (by decide) fun a102 hA103 => ?_; clear hA101 a100
  refine skp hA103 rfl rfl rfl rfl rfl (by decide) fun a104 hA105 => ?_; clear hA103 a102
  refine stg hA105 (op_pick_t rfl (hA105.ev rfl) (evc _ _)) rfl rfl rfl rfl (by decide) fun a106 hA107 => ?_; clear hA105 a104
  refine st hA107 (op_pick_t rfl (hA107.ev rfl) (hA107.ev rfl)) rfl rfl (by decide) fun a108 hA109 => ?_; clear hA107 a106
  refine wl_nil ?_
  refine then_n ?_
  refine c_true hA109 rfl ?_
  have hA110 := hA109.as [(10, (Value.int .i64 (lifeE R rs band s))), (9, (bptr b55 0)), (4, (bptr b4 0)), (1, vu), (2, (Value.int .i64 band)), (3, (Value.int .i64 s))] rfl; clear hA109
  refine c_region ?_
  refine st hA110 (op_assign rfl (evc _ _)) rfl rfl (by decide) fun a111 hA112 => ?_; clear hA110 a108
  refine wl_nil ?_
  refine then_n ?_
  refine c_seq ?_
  refine c_seq ?_
  refine c_region ?_
  refine st hA112 (op_move rfl (hA112.ev rfl)) rfl rfl (by decide) fun a113 hA114 => ?_; clear hA112 a111
  refine st hA114 (op_neq rfl (hA114.ev rfl) (evc _ _)) rfl rfl (by decide) fun a115 hA116 => ?_; clear hA114 a113
  refine wl_nil ?_
  refine then_n ?_
  refine c_true hA116 rfl ?_
  refine c_seq ?_
  have hA117 := hA116.as [(11, (Value.int .i64 2)), (10, (Value.int .i64 (lifeE R rs band s))), (9, (bptr b55 0))] rfl; clear hA116
  refine c_region ?_
  refine st hA117 (op_move rfl (hA117.ev rfl)) rfl rfl (by decide) fun a118 hA119 => ?_; clear hA117 a115
  refine st hA119 (op_move rfl (hA119.ev rfl)) rfl rfl (by decide) fun a120 hA121 => ?_; clear hA119 a118
  refine st hA121 (op_eql rfl (hA121.ev rfl) (hA121.ev rfl)) rfl rfl (by decide) fun a122 hA123 => ?_; clear hA121 a120
  have hd124 : (lifeE R rs band s) = 2 := hle_
  rw [decide_eq_true hd124] at hA123
  refine st hA123 (op_move rfl (hA123.ev rfl)) rfl rfl (by decide) fun a125 hA126 => ?_; clear hA123 a122
  refine stg hA126 (op_loadA rfl ty_42 (hA126.ev rfl) (hS72.bk 0 rfl) (l := [(Value.int .i64 0), (Value.int .i64 0)]) rfl rfl) rfl rfl rfl rfl (by decide) fun a127 hA128 => ?_; clear hA126 a125
  refine stg hA128 (op_build rfl pv0 bd_42_) rfl rfl rfl rfl (by decide) fun a129 hA130 => ?_; clear hA128 a127
  refine stg hA130 (op_eqlP tw_42 rfl (hA130.ev rfl) (hA130.ev rfl)) rfl rfl rfl rfl (by decide) fun a131 hA132 => ?_; clear hA130 a129
  have hd133 : (decide ((0 : Int) = 0) && decide ((0 : Int) = 0)) = true := by simp only [decide_true, Bool.and_self]
  rw [hd133] at hA132
  have hq134 := hd133; simp only [Bool.and_eq_true, Bool.and_eq_false_iff, decide_eq_true_eq, decide_eq_false_iff_not] at hq134
  refine st hA132 (op_pick_t rfl (hA132.ev rfl) (hA132.ev rfl)) rfl rfl (by decide) fun a135 hA136 => ?_; clear hA132 a131
  refine st hA136 (op_move rfl (hA136.ev rfl)) rfl rfl (by decide) fun a137 hA138 => ?_; clear hA136 a135
  refine stwg hA138 (op_call rfl en_17 ev0 (awake_ok _)) rfl rfl rfl rfl (by decide) ?_
  rintro a139 _ w141 ⟨rfl, hE142⟩ hA140; have hS143 := hS72.step hE142; clear hE142 hA138 hS72 a137
  refine st hA140 (op_pick_t rfl (hA140.ev rfl) (hA140.ev rfl)) rfl rfl (by decide) fun a144 hA145 => ?_; clear hA140 a139
  refine st hA145 (op_assign rfl (hA145.ev rfl)) rfl rfl (by decide) fun a146 hA147 => ?_; clear hA145 a144
  refine wl_nil ?_
  refine then_n ?_
  refine c_ret ?_
  refine then_ret ?_
  refine fin_run hA147 (.inl rfl) (run_results1 hA147 rfl (.tmp rfl)) ?_
  exact ⟨rfl, hS143.ext⟩

set_option maxHeartbeats 4000000 in
theorem CreepLives_e (w : World) (R : List (Int × Int)) (vr : Value) (hm : SlAt w vr 2 R.length (pairs R)) (rs : List RunD) (lv : List Value) (vu : Value) (hx : RunsAt w vu lv rs) (band s : Int) (hB : -9223372036854775808 ≤ band ∧ band ≤ 9223372036854775807) (hS_ : -9223372036854775808 ≤ s ∧ s ≤ 9223372036854775807) (hf : thinB R rs 0 = true) (hc : possF R rs = 0) (hi : 0 ≤ band ∧ band ≤ (R.length : Int) - 1) (hi2 : ¬ (0 ≤ s ∧ s ≤ 10000000000)) :
    Calls Try.prog 4 #[(Value.agg #[vr]), vu, (Value.int .i64 band), (Value.int .i64 s)] w (Ret fun v w' => v = .bool true ∧ Ext NoB w w') := by
  refine calls_enter Try.func4 rfl fun a0 hA0 => ?_
  replace hA0 : Fr 75 [] [(0, (Value.agg #[vr])), (1, vu), (2, (Value.int .i64 band)), (3, (Value.int .i64 s))] a0 := hA0
  have hth := thin_of hf; have h6 := hth.mat; have h9 := hth.runs; have hi1 : (decide (0 ≤ band) && decide (band ≤ ((R.length : Int) - 1))) = true := (by simp only [Bool.and_eq_true, decide_eq_true_eq]; omega); have hi3 : (decide (0 ≤ s) && decide (s ≤ 10000000000)) = false := (by simp only [Bool.and_eq_false_iff, decide_eq_false_iff_not]; omega); have hle_ := life_2 (band := band) hc (fun h => hi2 h.2); have hlz : lifeE R rs band s ≠ 0 := by rw [hle_]; decide
  have hS0 : Sep NoB w w [(sl vr 2 R.length (pairs R)), (runsR false vu lv rs)] := sep_ro ⟨rfl, hm, rfl, hx, trivial⟩
  refine c_seq ?_
  refine c_region ?_
  refine stw hA0 (op_box hS0 rfl (hA0.ev rfl) (cs := [vr]) rfl) rfl rfl (by decide) ?_
  rintro a1 _ w3 ⟨b4, rfl, hS5⟩ hA2; clear hA0 hS0 a0
  refine st hA2 (op_assign rfl (evc _ _)) rfl rfl (by decide) fun a6 hA7 => ?_; clear hA2 a1
  refine wl_nil ?_
  refine then_n ?_
  refine c_seq ?_
  refine c_seq ?_
  refine c_region ?_
  refine st hA7 (op_loadA rfl ty_24 (hA7.ev rfl) (hS5.bk 0 rfl) (l := [vr]) rfl rfl) rfl rfl (by decide) fun a8 hA9 => ?_; clear hA7 a6
  refine st hA9 (op_move rfl (hA9.ev rfl)) rfl rfl (by decide) fun a10 hA11 => ?_; clear hA9 a8
  refine stw hA11 (op_call rfl en_16 (ev3 (hA11.ev rfl) (hA11.ev rfl) (evc _ _)) (callsB (Thin_ok _ R _ (hS5.sk 1 rfl) rs _ _ (runs_at (hS5.ok 2 _ rfl)) ([]) _ (slAt_nil _ 3)) (thinB R rs 0) rfl)) rfl rfl (by decide) ?_
  rintro a12 _ w14 ⟨rfl, hE15⟩ hA13; have hS16 := hS5.step hE15; clear hE15 hA11 hS5 a10
  rw [hf] at hA13
  refine st hA13 (op_not rfl (hA13.ev rfl)) rfl rfl (by decide) fun a17 hA18 => ?_; clear hA13 a12
  refine wl_nil ?_
  refine then_n ?_
  refine c_false hA18 rfl ?_
  refine c_skip ?_
  refine then_n ?_
  refine c_seq ?_
  have hA19 := hA18.as [(4, (bptr b4 0)), (1, vu), (2, (Value.int .i64 band)), (3, (Value.int .i64 s))] rfl; clear hA18
  refine c_region ?_
  refine st hA19 (op_loadA rfl ty_24 (hA19.ev rfl) (hS16.bk 0 rfl) (l := [vr]) rfl rfl) rfl rfl (by decide) fun a20 hA21 => ?_; clear hA19 a17
  refine stw hA21 (op_call rfl en_19 (ev1 (hA21.ev rfl)) (Material_ok _ R _ (hS16.sk 1 rfl) hth.mat)) rfl rfl (by decide) ?_
  rintro a22 _ w24 ⟨u27, rfl, hT25⟩ hA23; have hS26 := hS16.callS hT25 rfl; clear hT25 hA21 hS16 a20
  refine st hA23 (op_move rfl (hA23.ev rfl)) rfl rfl (by decide) fun a28 hA29 => ?_; clear hA23 a22
  refine stw hA29 (op_call rfl en_20 (ev1 (hA29.ev rfl)) (Runs_ok _ rs _ _ (runs_at (hS26.ok 3 _ rfl)) hth.runs hth.segs)) rfl rfl (by decide) ?_
  rintro a30 v35 w32 ⟨lv36, hT33⟩ hA31; have hS34 := hS26.callS hT33 rfl; clear hT33 hA29 hS26 a28
  refine st hA31 (op_move rfl (hA31.ev rfl)) rfl rfl (by decide) fun a37 hA38 => ?_; clear hA31 a30
  refine st hA38 (op_move rfl (hA38.ev rfl)) rfl rfl (by decide) fun a39 hA40 => ?_; clear hA38 a37
  refine stw hA40 (op_call rfl en_23 (ev4 (hA40.ev rfl) (hA40.ev rfl) (hA40.ev rfl) (hA40.ev rfl)) (life_no R rs lv36 u27 v35 _ (SlAt.of_row (hS34.ok_row 1 rfl)) (runs_at (hS34.ok 0 _ rfl)) (by omega) (by omega) band s hlz)) rfl rfl (by decide) ?_
  rintro a41 _ w43 ⟨rfl, hE44⟩ hA42; have hS45 := hS34.step hE44; clear hE44 hA40 hS34 a39
  refine st hA42 (op_move rfl (hA42.ev rfl)) rfl rfl (by decide) fun a46 hA47 => ?_; clear hA42 a41
  refine st hA47 (op_extract rfl (hA47.ev rfl) rfl) rfl rfl (by decide) fun a48 hA49 => ?_; clear hA47 a46
  refine st hA49 (op_extract rfl (hA49.ev rfl) rfl) rfl rfl (by decide) fun a50 hA51 => ?_; clear hA49 a48
  refine stw hA51 (op_alloc hS45 rfl ze_42 (cs := [(Value.int .i64 0), (Value.int .i64 0)]) rfl) rfl rfl (by decide) ?_
  rintro a52 _ w54 ⟨b55, rfl, hS56⟩ hA53; clear hA51 hS45 a50
  refine sts hA53 (op_store hS56 rfl ty_42 (hA53.ev rfl) (hA53.ev rfl) (i := 0) rfl (vs := [(Value.int .i64 0), (Value.int .i64 0)]) rfl rfl rfl (Nat.le_of_ble_eq_true rfl)) rfl rfl ?_
  intro _ w57 hS58 hA59; clear hA53
  have hS60 : Sep NoB w w57 [(blk b55 42 [(Value.int .i64 0), (Value.int .i64 0)]), (runsR true v35 lv36 rs), (row u27 42 2 R.length (pairs R)), (blk b4 24 [vr]), (sl vr 2 R.length (pairs R)), (runsR false vu lv rs)] := hS58; clear hS58 hS56
  refine st hA59 (op_assign rfl (hA59.ev rfl)) rfl rfl (by decide) fun a61 hA62 => ?_; clear hA59 a52
  refine wl_nil ?_
  refine then_n ?_
  refine c_seq ?_
  have hA63 := hA62.as [(10, (Value.int .i64 (lifeE R rs band s))), (9, (bptr b55 0)), (4, (bptr b4 0)), (1, vu), (2, (Value.int .i64 band)), (3, (Value.int .i64 s))] rfl; clear hA62
  refine c_region ?_
  refine st hA63 (op_loadA rfl ty_24 (hA63.ev rfl) (hS60.bk 3 rfl) (l := [vr]) rfl rfl) rfl rfl (by decide) fun a64 hA65 => ?_; clear hA63 a61
  refine st hA65 (op_move rfl (hA65.ev rfl)) rfl rfl (by decide) fun a66 hA67 => ?_; clear hA65 a64
  refine stw hA67 (op_call rfl en_21 (ev2 (hA67.ev rfl) (hA67.ev rfl)) (asked_ok _ R _ (hS60.sk 4 rfl) rs _ _ (runs_at (hS60.ok 5 _ rfl)))) rfl rfl (by decide) ?_
  rintro a68 _ w70 ⟨rfl, hE71⟩ hA69; have hS72 := hS60.step hE71; clear hE71 hA67 hS60 a66
  refine st hA69 (op_assign rfl (hA69.ev rfl)) rfl rfl (by decide) fun a73 hA74 => ?_; clear hA69 a68
  refine wl_nil ?_
  refine then_n ?_
  refine c_seq ?_
  refine c_seq ?_
  refine c_region ?_
  refine st hA74 (op_move rfl (hA74.ev rfl)) rfl rfl (by decide) fun a75 hA76 => ?_; clear hA74 a73
  refine st hA76 (op_eql rfl (hA76.ev rfl) (evc _ _)) rfl rfl (by decide) fun a77 hA78 => ?_; clear hA76 a75
  have hd79 : (possF R rs) = 0 := hc
  rw [decide_eq_true hd79] at hA78
  refine st hA78 (op_move rfl (hA78.ev rfl)) rfl rfl (by decide) fun a80 hA81 => ?_; clear hA78 a77
  refine stg hA81 (op_move rfl (hA81.ev rfl)) rfl rfl rfl rfl (by decide) fun a82 hA83 => ?_; clear hA81 a80
  refine stg hA83 (op_field rfl fd_24_0 (hA83.ev rfl)) rfl rfl rfl rfl (by decide) fun a84 hA85 => ?_; clear hA83 a82
  refine stg hA85 (op_load1 rfl ty_22 (hA85.ev rfl) (hS72.bk 3 rfl) rfl) rfl rfl rfl rfl (by decide) fun a86 hA87 => ?_; clear hA85 a84
  refine stg hA87 (op_lenS rfl un_22 (hA87.ev rfl) (hS72.sk 4 rfl)) rfl rfl rfl rfl (by decide) fun a88 hA89 => ?_; clear hA87 a86
  refine stg hA89 (op_sub rfl (hA89.ev rfl) (evc _ _) (by omega) (by omega)) rfl rfl rfl rfl (by decide) fun a90 hA91 => ?_; clear hA89 a88
  refine stwg hA91 (op_call rfl en_24 (ev3 (hA91.ev rfl) (evc _ _) (hA91.ev rfl)) (In_ok _ _ _ _)) rfl rfl rfl rfl (by decide) ?_
  rintro a92 _ W_ ⟨rfl, hW_⟩ hA93; have hW2_ := hW_.symm; subst hW2_; clear hW_ hA91 a90
  rw [hi1] at hA93
  have hq95 := hi1; simp only [Bool.and_eq_true, Bool.and_eq_false_iff, decide_eq_true_eq, decide_eq_false_iff_not] at hq95
  refine stg hA93 (op_not rfl (hA93.ev rfl)) rfl rfl rfl rfl (by decide) fun a96 hA97 => ?_; clear hA93 a92
  refine stg hA97 (op_move rfl (hA97.ev rfl)) rfl rfl rfl rfl (by decide) fun a98 hA99 => ?_; clear hA97 a96
  refine stg hA99 (op_move rfl (hA99.ev rfl)) rfl rfl rfl rfl (by decide) fun a100 hA101 => ?_; clear hA99 a98
  refine stwg hA101 (op_call rfl en_24 (ev3 (hA101.ev rfl) (evc _ _) (evc _ _)) (In_ok _ _ _ _)) rfl rfl rfl rfl (by decide) ?_
  rintro a102 _ W_ ⟨rfl, hW_⟩ hA103; have hW2_ := hW_.symm; subst hW2_; clear hW_ hA101 a100
  rw [hi3] at hA103
  have hq105 := hi3; simp only [Bool.and_eq_true, Bool.and_eq_false_iff, decide_eq_true_eq, decide_eq_false_iff_not] at hq105
  refine stg hA103 (op_not rfl (hA103.ev rfl)) rfl rfl rfl rfl (by decide) fun a106 hA107 => ?_; clear hA103 a102
  refine stg hA107 (op_pick_f rfl (hA107.ev rfl) (hA107.ev rfl)) rfl rfl rfl rfl (by decide) fun a108 hA109 => ?_; clear hA107 a106
  refine st hA109 (op_pick_t rfl (hA109.ev rfl) (hA109.ev rfl)) rfl rfl (by decide) fun a110 hA111 => ?_; clear hA109 a108
  refine wl_nil ?_
  refine then_n ?_
  refine c_true hA111 rfl ?_
  have hA112 := hA111.as [(10, (Value.int .i64 (lifeE R rs band s))), (9, (bptr b55 0)), (4, (bptr b4 0)), (1, vu), (2, (Value.int .i64 band)), (3, (Value.int .i64 s))] rfl; clear hA111
  refine c_region ?_
  refine st hA112 (op_assign rfl (evc _ _)) rfl rfl (by decide) fun a113 hA114 => ?_; clear hA112 a110
  refine wl_nil ?_
  refine then_n ?_
  refine c_seq ?_
  refine c_seq ?_
  refine c_region ?_
  refine st hA114 (op_move rfl (hA114.ev rfl)) rfl rfl (by decide) fun a115 hA116 => ?_; clear hA114 a113
  refine st hA116 (op_neq rfl (hA116.ev rfl) (evc _ _)) rfl rfl (by decide) fun a117 hA118 => ?_; clear hA116 a115
  refine wl_nil ?_
  refine then_n ?_
  refine c_true hA118 rfl ?_
  refine c_seq ?_
  have hA119 := hA118.as [(11, (Value.int .i64 2)), (10, (Value.int .i64 (lifeE R rs band s))), (9, (bptr b55 0))] rfl; clear hA118
  refine c_region ?_
  refine st hA119 (op_move rfl (hA119.ev rfl)) rfl rfl (by decide) fun a120 hA121 => ?_; clear hA119 a117
  refine st hA121 (op_move rfl (hA121.ev rfl)) rfl rfl (by decide) fun a122 hA123 => ?_; clear hA121 a120
  refine st hA123 (op_eql rfl (hA123.ev rfl) (hA123.ev rfl)) rfl rfl (by decide) fun a124 hA125 => ?_; clear hA123 a122
  have hd126 : (lifeE R rs band s) = 2 := hle_
  rw [decide_eq_true hd126] at hA125
  refine st hA125 (op_move rfl (hA125.ev rfl)) rfl rfl (by decide) fun a127 hA128 => ?_; clear hA125 a124
  refine stg hA128 (op_loadA rfl ty_42 (hA128.ev rfl) (hS72.bk 0 rfl) (l := [(Value.int .i64 0), (Value.int .i64 0)]) rfl rfl) rfl rfl rfl rfl (by decide) fun a129 hA130 => ?_; clear hA128 a127
  refine stg hA130 (op_build rfl pv0 bd_42_) rfl rfl rfl rfl (by decide) fun a131 hA132 => ?_; clear hA130 a129
  refine stg hA132 (op_eqlP tw_42 rfl (hA132.ev rfl) (hA132.ev rfl)) rfl rfl rfl rfl (by decide) fun a133 hA134 => ?_; clear hA132 a131
  have hd135 : (decide ((0 : Int) = 0) && decide ((0 : Int) = 0)) = true := by simp only [decide_true, Bool.and_self]
  rw [hd135] at hA134
  have hq136 := hd135; simp only [Bool.and_eq_true, Bool.and_eq_false_iff, decide_eq_true_eq, decide_eq_false_iff_not] at hq136
  refine st hA134 (op_pick_t rfl (hA134.ev rfl) (hA134.ev rfl)) rfl rfl (by decide) fun a137 hA138 => ?_; clear hA134 a133
  refine st hA138 (op_move rfl (hA138.ev rfl)) rfl rfl (by decide) fun a139 hA140 => ?_; clear hA138 a137
  refine stwg hA140 (op_call rfl en_17 ev0 (awake_ok _)) rfl rfl rfl rfl (by decide) ?_
  rintro a141 _ w143 ⟨rfl, hE144⟩ hA142; have hS145 := hS72.step hE144; clear hE144 hA140 hS72 a139
  refine st hA142 (op_pick_t rfl (hA142.ev rfl) (hA142.ev rfl)) rfl rfl (by decide) fun a146 hA147 => ?_; clear hA142 a141
  refine st hA147 (op_assign rfl (hA147.ev rfl)) rfl rfl (by decide) fun a148 hA149 => ?_; clear hA147 a146
  refine wl_nil ?_
  refine then_n ?_
  refine c_ret ?_
  refine then_ret ?_
  refine fin_run hA149 (.inl rfl) (run_results1 hA149 rfl (.tmp rfl)) ?_
  exact ⟨rfl, hS145.ext⟩

set_option maxHeartbeats 4000000 in
theorem CreepLives_d (w : World) (R : List (Int × Int)) (vr : Value) (hm : SlAt w vr 2 R.length (pairs R)) (rs : List RunD) (lv : List Value) (vu : Value) (hx : RunsAt w vu lv rs) (band s : Int) (hB : -9223372036854775808 ≤ band ∧ band ≤ 9223372036854775807) (hS_ : -9223372036854775808 ≤ s ∧ s ≤ 9223372036854775807) (hf : thinB R rs 0 = true) (hc : possF R rs = 0) (hi : (0 ≤ band ∧ band ≤ (R.length : Int) - 1) ∧ 0 ≤ s ∧ s ≤ 10000000000) :
    Calls Try.prog 4 #[(Value.agg #[vr]), vu, (Value.int .i64 band), (Value.int .i64 s)] w (Ret fun v w' => v = .bool true ∧ Ext NoB w w') := by
  refine calls_enter Try.func4 rfl fun a0 hA0 => ?_
  replace hA0 : Fr 75 [] [(0, (Value.agg #[vr])), (1, vu), (2, (Value.int .i64 band)), (3, (Value.int .i64 s))] a0 := hA0
  have hth := thin_of hf; have h6 := hth.mat; have h9 := hth.runs; have hpi := poss_is hc; have hal := hpi.2; have hcm := check_mat (enter_mat hpi.1); have hR := hcm.1; have hR1 := hcm.2.1; have hV := enter_runs hpi.1; have hrl := rallow_len hR hV; have hra := rallow_len1 hR hV; have hrt := ratesF_len R rs; have hle := allowed_le (rs := rs) hR; have hr0 := hra 0 (by omega); have hi1 : (decide (0 ≤ band) && decide (band ≤ ((R.length : Int) - 1))) = true := (by simp only [Bool.and_eq_true, decide_eq_true_eq]; omega); have hi3 : (decide (0 ≤ s) && decide (s ≤ 10000000000)) = true := (by simp only [Bool.and_eq_true, decide_eq_true_eq]; omega)
  have hS0 : Sep NoB w w [(sl vr 2 R.length (pairs R)), (runsR false vu lv rs)] := sep_ro ⟨rfl, hm, rfl, hx, trivial⟩
  refine c_seq ?_
  refine c_region ?_
  refine stw hA0 (op_box hS0 rfl (hA0.ev rfl) (cs := [vr]) rfl) rfl rfl (by decide) ?_
  rintro a1 _ w3 ⟨b4, rfl, hS5⟩ hA2; clear hA0 hS0 a0
  refine st hA2 (op_assign rfl (evc _ _)) rfl rfl (by decide) fun a6 hA7 => ?_; clear hA2 a1
  refine wl_nil ?_
  refine then_n ?_
  refine c_seq ?_
  refine c_seq ?_
  refine c_region ?_
  refine st hA7 (op_loadA rfl ty_24 (hA7.ev rfl) (hS5.bk 0 rfl) (l := [vr]) rfl rfl) rfl rfl (by decide) fun a8 hA9 => ?_; clear hA7 a6
  refine st hA9 (op_move rfl (hA9.ev rfl)) rfl rfl (by decide) fun a10 hA11 => ?_; clear hA9 a8
  refine stw hA11 (op_call rfl en_16 (ev3 (hA11.ev rfl) (hA11.ev rfl) (evc _ _)) (callsB (Thin_ok _ R _ (hS5.sk 1 rfl) rs _ _ (runs_at (hS5.ok 2 _ rfl)) ([]) _ (slAt_nil _ 3)) (thinB R rs 0) rfl)) rfl rfl (by decide) ?_
  rintro a12 _ w14 ⟨rfl, hE15⟩ hA13; have hS16 := hS5.step hE15; clear hE15 hA11 hS5 a10
  rw [hf] at hA13
  refine st hA13 (op_not rfl (hA13.ev rfl)) rfl rfl (by decide) fun a17 hA18 => ?_; clear hA13 a12
  refine wl_nil ?_
  refine then_n ?_
  refine c_false hA18 rfl ?_
  refine c_skip ?_
  refine then_n ?_
  refine c_seq ?_
  have hA19 := hA18.as [(4, (bptr b4 0)), (1, vu), (2, (Value.int .i64 band)), (3, (Value.int .i64 s))] rfl; clear hA18
  refine c_region ?_
  refine st hA19 (op_loadA rfl ty_24 (hA19.ev rfl) (hS16.bk 0 rfl) (l := [vr]) rfl rfl) rfl rfl (by decide) fun a20 hA21 => ?_; clear hA19 a17
  refine stw hA21 (op_call rfl en_19 (ev1 (hA21.ev rfl)) (Material_ok _ R _ (hS16.sk 1 rfl) hth.mat)) rfl rfl (by decide) ?_
  rintro a22 _ w24 ⟨u27, rfl, hT25⟩ hA23; have hS26 := hS16.callS hT25 rfl; clear hT25 hA21 hS16 a20
  refine st hA23 (op_move rfl (hA23.ev rfl)) rfl rfl (by decide) fun a28 hA29 => ?_; clear hA23 a22
  refine stw hA29 (op_call rfl en_20 (ev1 (hA29.ev rfl)) (Runs_ok _ rs _ _ (runs_at (hS26.ok 3 _ rfl)) hth.runs hth.segs)) rfl rfl (by decide) ?_
  rintro a30 v35 w32 ⟨lv36, hT33⟩ hA31; have hS34 := hS26.callS hT33 rfl; clear hT33 hA29 hS26 a28
  refine st hA31 (op_move rfl (hA31.ev rfl)) rfl rfl (by decide) fun a37 hA38 => ?_; clear hA31 a30
  refine st hA38 (op_move rfl (hA38.ev rfl)) rfl rfl (by decide) fun a39 hA40 => ?_; clear hA38 a37
  refine stw hA40 (op_call rfl en_23 (ev4 (hA40.ev rfl) (hA40.ev rfl) (hA40.ev rfl) (hA40.ev rfl)) (life_fine R rs lv36 u27 v35 _ (SlAt.of_row (hS34.ok_row 1 rfl)) (runs_at (hS34.ok 0 _ rfl)) (by omega) (by omega) band s (life_0 hc hi))) rfl rfl (by decide) ?_
  rintro a41 _ w43 ⟨rfl, hE44⟩ hA42; have hS45 := hS34.step hE44; clear hE44 hA40 hS34 a39
  refine st hA42 (op_move rfl (hA42.ev rfl)) rfl rfl (by decide) fun a46 hA47 => ?_; clear hA42 a41
  refine st hA47 (op_extract rfl (hA47.ev rfl) rfl) rfl rfl (by decide) fun a48 hA49 => ?_; clear hA47 a46
  refine st hA49 (op_extract rfl (hA49.ev rfl) rfl) rfl rfl (by decide) fun a50 hA51 => ?_; clear hA49 a48
  refine stw hA51 (op_alloc hS45 rfl ze_42 (cs := [(Value.int .i64 0), (Value.int .i64 0)]) rfl) rfl rfl (by decide) ?_
  rintro a52 _ w54 ⟨b55, rfl, hS56⟩ hA53; clear hA51 hS45 a50
  refine sts hA53 (op_store hS56 rfl ty_42 (hA53.ev rfl) (hA53.ev rfl) (i := 0) rfl (vs := [(Value.int .i64 ((lifeR (allowedF R rs) (band : Int).toNat s).1)), (Value.int .i64 ((lifeR (allowedF R rs) (band : Int).toNat s).2))]) rfl rfl rfl (Nat.le_of_ble_eq_true rfl)) rfl rfl ?_
  intro _ w57 hS58 hA59; clear hA53
  have hS60 : Sep NoB w w57 [(blk b55 42 [(Value.int .i64 ((lifeR (allowedF R rs) (band : Int).toNat s).1)), (Value.int .i64 ((lifeR (allowedF R rs) (band : Int).toNat s).2))]), (runsR true v35 lv36 rs), (row u27 42 2 R.length (pairs R)), (blk b4 24 [vr]), (sl vr 2 R.length (pairs R)), (runsR false vu lv rs)] := hS58; clear hS58 hS56
  refine st hA59 (op_assign rfl (hA59.ev rfl)) rfl rfl (by decide) fun a61 hA62 => ?_; clear hA59 a52
  refine wl_nil ?_
  refine then_n ?_
  refine c_seq ?_
  have hA63 := hA62.as [(10, (Value.int .i64 0)), (9, (bptr b55 0)), (4, (bptr b4 0)), (1, vu), (2, (Value.int .i64 band)), (3, (Value.int .i64 s))] rfl; clear hA62
  refine c_region ?_
  refine st hA63 (op_loadA rfl ty_24 (hA63.ev rfl) (hS60.bk 3 rfl) (l := [vr]) rfl rfl) rfl rfl (by decide) fun a64 hA65 => ?_; clear hA63 a61
  refine st hA65 (op_move rfl (hA65.ev rfl)) rfl rfl (by decide) fun a66 hA67 => ?_; clear hA65 a64
  refine stw hA67 (op_call rfl en_21 (ev2 (hA67.ev rfl) (hA67.ev rfl)) (asked_ok _ R _ (hS60.sk 4 rfl) rs _ _ (runs_at (hS60.ok 5 _ rfl)))) rfl rfl (by decide) ?_
  rintro a68 _ w70 ⟨rfl, hE71⟩ hA69; have hS72 := hS60.step hE71; clear hE71 hA67 hS60 a66
  refine st hA69 (op_assign rfl (hA69.ev rfl)) rfl rfl (by decide) fun a73 hA74 => ?_; clear hA69 a68
  refine wl_nil ?_
  refine then_n ?_
  refine c_seq ?_
  refine c_seq ?_
  refine c_region ?_
  refine st hA74 (op_move rfl (hA74.ev rfl)) rfl rfl (by decide) fun a75 hA76 => ?_; clear hA74 a73
  refine st hA76 (op_eql rfl (hA76.ev rfl) (evc _ _)) rfl rfl (by decide) fun a77 hA78 => ?_; clear hA76 a75
  have hd79 : (possF R rs) = 0 := hc
  rw [decide_eq_true hd79] at hA78
  refine st hA78 (op_move rfl (hA78.ev rfl)) rfl rfl (by decide) fun a80 hA81 => ?_; clear hA78 a77
  refine stg hA81 (op_move rfl (hA81.ev rfl)) rfl rfl rfl rfl (by decide) fun a82 hA83 => ?_; clear hA81 a80
  refine stg hA83 (op_field rfl fd_24_0 (hA83.ev rfl)) rfl rfl rfl rfl (by decide) fun a84 hA85 => ?_; clear hA83 a82
  refine stg hA85 (op_load1 rfl ty_22 (hA85.ev rfl) (hS72.bk 3 rfl) rfl) rfl rfl rfl rfl (by decide) fun a86 hA87 => ?_; clear hA85 a84
  refine stg hA87 (op_lenS rfl un_22 (hA87.ev rfl) (hS72.sk 4 rfl)) rfl rfl rfl rfl (by decide) fun a88 hA89 => ?_; clear hA87 a86
  refine stg hA89 (op_sub rfl (hA89.ev rfl) (evc _ _) (by omega) (by omega)) rfl rfl rfl rfl (by decide) fun a90 hA91 => ?_; clear hA89 a88
  refine stwg hA91 (op_call rfl en_24 (ev3 (hA91.ev rfl) (evc _ _) (hA91.ev rfl)) (In_ok _ _ _ _)) rfl rfl rfl rfl (by decide) ?_
  rintro a92 _ W_ ⟨rfl, hW_⟩ hA93; have hW2_ := hW_.symm; subst hW2_; clear hW_ hA91 a90
  rw [hi1] at hA93
  have hq95 := hi1; simp only [Bool.and_eq_true, Bool.and_eq_false_iff, decide_eq_true_eq, decide_eq_false_iff_not] at hq95
  refine stg hA93 (op_not rfl (hA93.ev rfl)) rfl rfl rfl rfl (by decide) fun a96 hA97 => ?_; clear hA93 a92
  refine stg hA97 (op_move rfl (hA97.ev rfl)) rfl rfl rfl rfl (by decide) fun a98 hA99 => ?_; clear hA97 a96
  refine stg hA99 (op_move rfl (hA99.ev rfl)) rfl rfl rfl rfl (by decide) fun a100 hA101 => ?_; clear hA99 a98
  refine stwg hA101 (op_call rfl en_24 (ev3 (hA101.ev rfl) (evc _ _) (evc _ _)) (In_ok _ _ _ _)) rfl rfl rfl rfl (by decide) ?_
  rintro a102 _ W_ ⟨rfl, hW_⟩ hA103; have hW2_ := hW_.symm; subst hW2_; clear hW_ hA101 a100
  rw [hi3] at hA103
  have hq105 := hi3; simp only [Bool.and_eq_true, Bool.and_eq_false_iff, decide_eq_true_eq, decide_eq_false_iff_not] at hq105
  refine stg hA103 (op_not rfl (hA103.ev rfl)) rfl rfl rfl rfl (by decide) fun a106 hA107 => ?_; clear hA103 a102
  refine stg hA107 (op_pick_f rfl (hA107.ev rfl) (hA107.ev rfl)) rfl rfl rfl rfl (by decide) fun a108 hA109 => ?_; clear hA107 a106
  refine st hA109 (op_pick_t rfl (hA109.ev rfl) (hA109.ev rfl)) rfl rfl (by decide) fun a110 hA111 => ?_; clear hA109 a108
  refine wl_nil ?_
  refine then_n ?_
  refine c_false hA111 rfl ?_
  refine c_skip ?_
  refine then_n ?_
  refine c_seq ?_
  refine c_seq ?_
  have hA112 := hA111.as [(11, (Value.int .i64 (possF R rs))), (10, (Value.int .i64 0)), (9, (bptr b55 0)), (4, (bptr b4 0)), (1, vu), (2, (Value.int .i64 band)), (3, (Value.int .i64 s))] rfl; clear hA111
  refine c_region ?_
  refine st hA112 (op_move rfl (hA112.ev rfl)) rfl rfl (by decide) fun a113 hA114 => ?_; clear hA112 a110
  refine st hA114 (op_neq rfl (hA114.ev rfl) (evc _ _)) rfl rfl (by decide) fun a115 hA116 => ?_; clear hA114 a113
  rw [decide_eq_true hd79] at hA116
  refine wl_nil ?_
  refine then_n ?_
  refine c_false hA116 rfl ?_
  refine c_skip ?_
  refine then_n ?_
  refine c_seq ?_
  have hA117 := hA116.as [(10, (Value.int .i64 0)), (9, (bptr b55 0)), (4, (bptr b4 0)), (1, vu), (2, (Value.int .i64 band)), (3, (Value.int .i64 s))] rfl; clear hA116
  refine c_drawV mixed hA117 hS72 11 [[], [0], [1], [2], [2], [2], [2, 4, 5], [2], [2], [2, 6, 7, 8], [2, 9]] [(fun (vs118 : Nat → Value) (v_ : Value) (rs_ : List Res) => v_ = (Value.int .i64 0) ∧ rs_ = []), (fun (vs118 : Nat → Value) (v_ : Value) (rs_ : List Res) => v_ = (Value.bool true) ∧ rs_ = []), (fun (vs118 : Nat → Value) (v_ : Value) (rs_ : List Res) => v_ = (Value.bool true) ∧ rs_ = []), (fun (vs118 : Nat → Value) (v_ : Value) (rs_ : List Res) => v_ = (Value.agg #[(Value.int .i64 ((lifeR (allowedF R rs) (band : Int).toNat s).1)), (Value.int .i64 ((lifeR (allowedF R rs) (band : Int).toNat s).2))]) ∧ rs_ = []), (fun (vs118 : Nat → Value) (v_ : Value) (rs_ : List Res) => v_ = (Value.agg #[vr]) ∧ rs_ = []), (fun (vs118 : Nat → Value) (v_ : Value) (rs_ : List Res) => v_ = vu ∧ rs_ = []), (fun (vs118 : Nat → Value) (v_ : Value) (rs_ : List Res) => ∃ (ov6_ : List Value), True ∧ rs_ = [(row v_ 40 1 ov6_.length ov6_), (lstR ov6_ (rallowF R rs))]), (fun (vs118 : Nat → Value) (v_ : Value) (rs_ : List Res) => v_ = (Value.int .i64 band) ∧ rs_ = []), (fun (vs118 : Nat → Value) (v_ : Value) (rs_ : List Res) => v_ = (Value.int .i64 s) ∧ rs_ = []), (fun (vs118 : Nat → Value) (v_ : Value) (rs_ : List Res) => v_ = (Value.agg #[(Value.int .i64 ((lifeR (rallowF R rs) (band : Int).toNat s).1)), (Value.int .i64 ((lifeR (rallowF R rs) (band : Int).toNat s).2))]) ∧ rs_ = []), (fun (vs118 : Nat → Value) (v_ : Value) (rs_ : List Res) => v_ = (Value.agg #[(Value.int .i64 ((lifeR (rallowF R rs) (band : Int).toNat s).1)), (Value.int .i64 ((lifeR (rallowF R rs) (band : Int).toNat s).2))]) ∧ rs_ = [])] (by decide +kernel) (by decide +kernel) rfl rfl ⟨(fun _ _ _ _ _ h_ => h_), (fun _ _ _ _ _ h_ => h_), (fun _ _ _ _ _ h_ => h_), (fun _ _ _ _ _ h_ => h_), (fun _ _ _ _ _ h_ => h_), (fun _ _ _ _ _ h_ => h_), (fun _ _ _ _ _ h_ => h_), (fun _ _ _ _ _ h_ => h_), (fun _ _ _ _ _ h_ => h_), (fun _ _ _ _ _ h_ => h_), (fun _ _ _ _ _ h_ => h_), trivial⟩ ?_ ?_
  · skip
    refine ⟨fun a w vs118 hA hS hd => ?_, ?_⟩
    · skip
      exact opG_of rfl (vv (op_move rfl (hA.ev rfl)) (And.intro rfl rfl))
    refine ⟨fun a w vs118 hA hS hd => ?_, ?_⟩
    · skip
      obtain ⟨e0, rs0, hy0, hp0⟩ := hd 0 (by decide)
      obtain ⟨hv0, hr0⟩ := hy0; subst hr0
      rw [hv0] at e0
      exact opG_of rfl (vv (op_eql rfl (tmp_ev (slot_ev e0 rfl)) (evc _ _)) (And.intro rfl rfl))
    refine ⟨fun a w vs118 hA hS hd => ?_, ?_⟩
    · skip
      obtain ⟨e1, rs1, hy1, hp1⟩ := hd 1 (by decide)
      obtain ⟨hv1, hr1⟩ := hy1; subst hr1
      rw [hv1] at e1
      exact opG_of rfl (vv (op_move rfl (tmp_ev (slot_ev e1 rfl))) (And.intro rfl rfl))
    refine ⟨fun a w vs118 hA hS hd => ?_, ?_⟩
    · skip
      obtain ⟨e2, rs2, hy2, hp2⟩ := hd 2 (by decide)
      obtain ⟨hv2, hr2⟩ := hy2; subst hr2
      rw [hv2] at e2
      exact opG_yes rfl rfl (slot_ev e2 rfl) (vv (op_loadA rfl ty_42 (hA.ev rfl) (hS.bk 0 rfl) (l := [(Value.int .i64 ((lifeR (allowedF R rs) (band : Int).toNat s).1)), (Value.int .i64 ((lifeR (allowedF R rs) (band : Int).toNat s).2))]) rfl rfl) (And.intro rfl rfl))
    refine ⟨fun a w vs118 hA hS hd => ?_, ?_⟩
    · skip
      obtain ⟨e2, rs2, hy2, hp2⟩ := hd 2 (by decide)
      obtain ⟨hv2, hr2⟩ := hy2; subst hr2
      rw [hv2] at e2
      exact opG_yes rfl rfl (slot_ev e2 rfl) (vv (op_loadA rfl ty_24 (hA.ev rfl) (hS.bk 3 rfl) (l := [vr]) rfl rfl) (And.intro rfl rfl))
    refine ⟨fun a w vs118 hA hS hd => ?_, ?_⟩
    · skip
      obtain ⟨e2, rs2, hy2, hp2⟩ := hd 2 (by decide)
      obtain ⟨hv2, hr2⟩ := hy2; subst hr2
      rw [hv2] at e2
      exact opG_yes rfl rfl (slot_ev e2 rfl) (vv (op_move rfl (hA.ev rfl)) (And.intro rfl rfl))
    refine ⟨fun a w vs118 hA hS hd => ?_, ?_⟩
    · skip
      obtain ⟨e2, rs2, hy2, hp2⟩ := hd 2 (by decide)
      obtain ⟨hv2, hr2⟩ := hy2; subst hr2
      rw [hv2] at e2
      obtain ⟨e4, rs4, hy4, hp4⟩ := hd 4 (by decide)
      obtain ⟨hv4, hr4⟩ := hy4; subst hr4
      rw [hv4] at e4
      obtain ⟨e5, rs5, hy5, hp5⟩ := hd 5 (by decide)
      obtain ⟨hv5, hr5⟩ := hy5; subst hr5
      rw [hv5] at e5
      exact opG_yes rfl rfl (slot_ev e2 rfl) (vn (op_call rfl en_22 (ev2 (tmp_ev (slot_ev e4 rfl)) (tmp_ev (slot_ev e5 rfl))) (rAllowed_ok _ R _ (hS.sk 4 rfl) rs _ _ (runs_at (hS.ok 5 _ rfl)) hR hR1 hV)) (fun v w' h => by obtain ⟨ov, hT⟩ := h; exact ⟨_, ⟨ov, trivial, rfl⟩, hT, rfl⟩))
    refine ⟨fun a w vs118 hA hS hd => ?_, ?_⟩
    · skip
      obtain ⟨e2, rs2, hy2, hp2⟩ := hd 2 (by decide)
      obtain ⟨hv2, hr2⟩ := hy2; subst hr2
      rw [hv2] at e2
      exact opG_yes rfl rfl (slot_ev e2 rfl) (vv (op_move rfl (hA.ev rfl)) (And.intro rfl rfl))
    refine ⟨fun a w vs118 hA hS hd => ?_, ?_⟩
    · skip
      obtain ⟨e2, rs2, hy2, hp2⟩ := hd 2 (by decide)
      obtain ⟨hv2, hr2⟩ := hy2; subst hr2
      rw [hv2] at e2
      exact opG_yes rfl rfl (slot_ev e2 rfl) (vv (op_move rfl (hA.ev rfl)) (And.intro rfl rfl))
    refine ⟨fun a w vs118 hA hS hd => ?_, ?_⟩
    · skip
      obtain ⟨e2, rs2, hy2, hp2⟩ := hd 2 (by decide)
      obtain ⟨hv2, hr2⟩ := hy2; subst hr2
      rw [hv2] at e2
      obtain ⟨e6, rs6, hy6, hp6⟩ := hd 6 (by decide)
      obtain ⟨ov6_, hv6, hr6⟩ := hy6; subst hr6
      have hp6_0 := hp6 _ (List.mem_of_getElem? (i := 0) rfl)
      have hp6_1 := hp6 _ (List.mem_of_getElem? (i := 1) rfl)
      obtain ⟨e7, rs7, hy7, hp7⟩ := hd 7 (by decide)
      obtain ⟨hv7, hr7⟩ := hy7; subst hr7
      rw [hv7] at e7
      obtain ⟨e8, rs8, hy8, hp8⟩ := hd 8 (by decide)
      obtain ⟨hv8, hr8⟩ := hy8; subst hr8
      rw [hv8] at e8
      exact opG_yes rfl rfl (slot_ev e2 rfl) (vx (op_call rfl en_26 (ev3 (tmp_ev (slot_ev e6 rfl)) (tmp_ev (slot_ev e7 rfl)) (tmp_ev (slot_ev e8 rfl))) (rLife_ok _ (rallowF R rs) _ ov6_ (SlAt.of_row hp6_0) hp6_1 band s R.length (by omega) hra (rallow_small hR hV) (by omega) (by omega))) (And.intro rfl rfl))
    refine ⟨fun a w vs118 hA hS hd => ?_, ?_⟩
    · skip
      obtain ⟨e2, rs2, hy2, hp2⟩ := hd 2 (by decide)
      obtain ⟨hv2, hr2⟩ := hy2; subst hr2
      rw [hv2] at e2
      obtain ⟨e9, rs9, hy9, hp9⟩ := hd 9 (by decide)
      obtain ⟨hv9, hr9⟩ := hy9; subst hr9
      rw [hv9] at e9
      exact opG_yes rfl rfl (slot_ev e2 rfl) (vx (op_call rfl en_25 (ev1 (tmp_ev (slot_ev e9 rfl))) (to_ok _ _ _)) (And.intro rfl rfl))
    trivial
  intro a119 w120 vs118 rsf124 hA121 hH123 hS122; clear hA117 hS72
  obtain ⟨hs_0, hy_0⟩ := hH123 0 (by decide)
  obtain ⟨hv_0, hr_0⟩ := hy_0
  obtain ⟨hs_1, hy_1⟩ := hH123 1 (by decide)
  obtain ⟨hv_1, hr_1⟩ := hy_1
  obtain ⟨hs_2, hy_2⟩ := hH123 2 (by decide)
  obtain ⟨hv_2, hr_2⟩ := hy_2
  obtain ⟨hs_3, hy_3⟩ := hH123 3 (by decide)
  obtain ⟨hv_3, hr_3⟩ := hy_3
  obtain ⟨hs_4, hy_4⟩ := hH123 4 (by decide)
  obtain ⟨hv_4, hr_4⟩ := hy_4
  obtain ⟨hs_5, hy_5⟩ := hH123 5 (by decide)
  obtain ⟨hv_5, hr_5⟩ := hy_5
  obtain ⟨hs_6, hy_6⟩ := hH123 6 (by decide)
  obtain ⟨ov6_, hv_6, hr_6⟩ := hy_6
  obtain ⟨hs_7, hy_7⟩ := hH123 7 (by decide)
  obtain ⟨hv_7, hr_7⟩ := hy_7
  obtain ⟨hs_8, hy_8⟩ := hH123 8 (by decide)
  obtain ⟨hv_8, hr_8⟩ := hy_8
  obtain ⟨hs_9, hy_9⟩ := hH123 9 (by decide)
  obtain ⟨hv_9, hr_9⟩ := hy_9
  obtain ⟨hs_10, hy_10⟩ := hH123 10 (by decide)
  obtain ⟨hv_10, hr_10⟩ := hy_10
  have hS125 : Sep NoB w w120 [(row (vs118 6) 40 1 ov6_.length ov6_), (lstR ov6_ (rallowF R rs)), (blk b55 42 [(Value.int .i64 ((lifeR (allowedF R rs) (band : Int).toNat s).1)), (Value.int .i64 ((lifeR (allowedF R rs) (band : Int).toNat s).2))]), (runsR true v35 lv36 rs), (row u27 42 2 R.length (pairs R)), (blk b4 24 [vr]), (sl vr 2 R.length (pairs R)), (runsR false vu lv rs)] := by rw [show catR rsf124 0 11 = ([(row (vs118 6) 40 1 ov6_.length ov6_), (lstR ov6_ (rallowF R rs))] : List Res) by (try simp only [catR, hr_0, hr_1, hr_2, hr_3, hr_4, hr_5, hr_6, hr_7, hr_8, hr_9, hr_10]); (try rfl)] at hS122; exact hS122
  rw [hv_2] at hs_2
  have hA126 : Fr 75 [] [(61, (Value.bool true)), (10, (Value.int .i64 0)), (9, (bptr b55 0)), (4, (bptr b4 0)), (1, vu), (2, (Value.int .i64 band)), (3, (Value.int .i64 s))] a119 := hA121.add (slot_ev hs_2 rfl); clear hA121
  rw [hv_3] at hs_3
  have hA127 : Fr 75 [] [(62, (Value.agg #[(Value.int .i64 ((lifeR (allowedF R rs) (band : Int).toNat s).1)), (Value.int .i64 ((lifeR (allowedF R rs) (band : Int).toNat s).2))])), (61, (Value.bool true)), (10, (Value.int .i64 0)), (9, (bptr b55 0)), (4, (bptr b4 0)), (1, vu), (2, (Value.int .i64 band)), (3, (Value.int .i64 s))] a119 := hA126.add (slot_ev hs_3 rfl); clear hA126
  rw [hv_10] at hs_10
  have hA128 : Fr 75 [] [(69, (Value.agg #[(Value.int .i64 ((lifeR (rallowF R rs) (band : Int).toNat s).1)), (Value.int .i64 ((lifeR (rallowF R rs) (band : Int).toNat s).2))])), (62, (Value.agg #[(Value.int .i64 ((lifeR (allowedF R rs) (band : Int).toNat s).1)), (Value.int .i64 ((lifeR (allowedF R rs) (band : Int).toNat s).2))])), (61, (Value.bool true)), (10, (Value.int .i64 0)), (9, (bptr b55 0)), (4, (bptr b4 0)), (1, vu), (2, (Value.int .i64 band)), (3, (Value.int .i64 s))] a119 := hA127.add (slot_ev hs_10 rfl); clear hA127
  clear hH123 hS122 hs_0 hs_1 hs_2 hs_3 hs_4 hs_5 hs_6 hs_7 hs_8 hs_9 hs_10
  clear hr_0
  clear hv_0
  clear hr_1
  clear hv_1
  clear hr_2
  clear hv_2
  clear hr_3
  clear hv_3
  clear hr_4
  clear hv_4
  clear hr_5
  clear hv_5
  clear hr_6
  clear hv_6
  clear hr_7
  clear hv_7
  clear hr_8
  clear hv_8
  clear hr_9
  clear hv_9
  clear hr_10
  clear hv_10
  refine stg hA128 (op_eqlP tw_42 rfl (hA128.ev rfl) (hA128.ev rfl)) rfl rfl rfl rfl (by decide) fun a129 hA130 => ?_; clear hA128 a119
  have hd131 : (decide ((((lifeR (allowedF R rs) (band : Int).toNat s).1) : Int) = ((lifeR (rallowF R rs) (band : Int).toNat s).1)) && decide ((((lifeR (allowedF R rs) (band : Int).toNat s).2) : Int) = ((lifeR (rallowF R rs) (band : Int).toNat s).2))) = true := (by rw [life_same (R := R) (rs := rs) (band := (band : Int).toNat) (s := s) hR hV (by omega)]; simp)
  rw [hd131] at hA130
  have hq132 := hd131; simp only [Bool.and_eq_true, Bool.and_eq_false_iff, decide_eq_true_eq, decide_eq_false_iff_not] at hq132
  refine st hA130 (op_pick_t rfl (hA130.ev rfl) (hA130.ev rfl)) rfl rfl (by decide) fun a133 hA134 => ?_; clear hA130 a129
  refine st hA134 (op_move rfl (hA134.ev rfl)) rfl rfl (by decide) fun a135 hA136 => ?_; clear hA134 a133
  refine stwg hA136 (op_call rfl en_17 ev0 (awake_ok _)) rfl rfl rfl rfl (by decide) ?_
  rintro a137 _ w139 ⟨rfl, hE140⟩ hA138; have hS141 := hS125.step hE140; clear hE140 hA136 hS125 a135
  refine st hA138 (op_pick_t rfl (hA138.ev rfl) (hA138.ev rfl)) rfl rfl (by decide) fun a142 hA143 => ?_; clear hA138 a137
  refine st hA143 (op_assign rfl (hA143.ev rfl)) rfl rfl (by decide) fun a144 hA145 => ?_; clear hA143 a142
  refine wl_nil ?_
  refine then_n ?_
  refine c_ret ?_
  refine fin_run hA145 (.inl rfl) (run_results1 hA145 rfl (.tmp rfl)) ?_
  exact ⟨rfl, hS141.ext⟩

theorem CreepLives_ok (w : World) (R : List (Int × Int)) (vr : Value) (hm : SlAt w vr 2 R.length (pairs R)) (rs : List RunD) (lv : List Value) (vu : Value) (hx : RunsAt w vu lv rs) (band : Int) (hB : -9223372036854775808 ≤ band ∧ band ≤ 9223372036854775807) (s : Int) (hS_ : -9223372036854775808 ≤ s ∧ s ≤ 9223372036854775807) : Calls Try.prog 4 #[.agg #[vr], vu, .int .i64 band, .int .i64 s] w (Ret fun v w' => v = .bool true ∧ Ext NoB w w') := by
  rcases Bool.eq_false_or_eq_true (thinB R rs 0) with hf | hf
  · by_cases hc : possF R rs = 0
    · by_cases hi : 0 ≤ band ∧ band ≤ (R.length : Int) - 1
      · by_cases hi2 : 0 ≤ s ∧ s ≤ 10000000000
        · exact CreepLives_d w R vr hm rs lv vu hx band s hB hS_ hf hc ⟨hi, hi2⟩
        · exact CreepLives_e w R vr hm rs lv vu hx band s hB hS_ hf hc hi hi2
      · exact CreepLives_c w R vr hm rs lv vu hx band s hB hS_ hf hc hi
    · exact CreepLives_b w R vr hm rs lv vu hx band s hB hS_ hf hc
  · exact CreepLives_a w R vr hm rs lv vu hx band s hB hS_ hf

end Go.Proofs.Ytkkglkdnnfegkaa
