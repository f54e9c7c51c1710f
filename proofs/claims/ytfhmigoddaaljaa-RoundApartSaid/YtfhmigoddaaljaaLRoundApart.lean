/-
  Rounds taken apart, lot by lot: plain.
-/
import Derived.Test.YtfhmigoddaaljaaPlain
import Derived.Test.YtfhmigoddaaljaaFg
import Derived.Test.YtfhmigoddaaljaaEng
set_option linter.unusedSimpArgs false
set_option linter.unusedVariables false
namespace Go.Proofs.Ytfhmigoddaaljaa
open Go.RowKit Go.Eng

/-- The readings of laboratory k, those of the first j samples struck out that are of another lot than i. -/
def apUpto (d : RD) (i k : Nat) : Nat → List Int
  | 0 => d.rds.getD k []
  | j + 1 => if d.samples.getD j 0 = (i : Int) then apUpto d i k j else (apUpto d i k j).set j (-1)
def apRow (d : RD) (i k : Nat) : List Int := apUpto d i k d.samples.length
def apartD (d : RD) (i : Nat) : RD := { d with rds := (List.range d.tols.length).map fun k => apRow d i k }
section
variable {d : RD} {i : Nat}
theorem apUpto_yes {k j : Nat} (h : d.samples.getD j 0 = (i : Int)) : apUpto d i k (j + 1) = apUpto d i k j := by rw [apUpto, if_pos h]
theorem apUpto_no {k j : Nat} (h : ¬ d.samples.getD j 0 = (i : Int)) : apUpto d i k (j + 1) = (apUpto d i k j).set j (-1) := by rw [apUpto, if_neg h]
theorem apUpto_len (k : Nat) : ∀ j, (apUpto d i k j).length = (d.rds.getD k []).length
  | 0 => rfl
  | j + 1 => by
    unfold apUpto; split
    · exact apUpto_len k j
    · rw [List.length_set]; exact apUpto_len k j
theorem apUpto_at (k : Nat) : ∀ j t, t < (d.rds.getD k []).length → (apUpto d i k j).getD t 0 = if t < j ∧ d.samples.getD t 0 ≠ (i : Int) then -1 else (d.rds.getD k []).getD t 0
  | 0, t, _ => by rw [if_neg (by omega)]; rfl
  | j + 1, t, ht => by
    have ih := apUpto_at k j t ht
    unfold apUpto; split
    · rename_i h
      rw [ih]
      by_cases e : t = j
      · subst e; rw [if_neg (by omega), if_neg (fun e => e.2 h)]
      · simp only [show (t < j + 1) ↔ t < j by omega]
    · rename_i h
      by_cases e : t = j
      · subst e
        rw [if_pos ⟨by omega, h⟩]
        have : t < (apUpto d i k t).length := by rw [apUpto_len]; exact ht
        simp [List.getD, this]
      · have e2 : ((apUpto d i k j).set j (-1)).getD t 0 = (apUpto d i k j).getD t 0 := by
          simp only [List.getD]; rw [List.getElem?_set_ne (fun e' => e e'.symm)]
        rw [e2, ih]
        simp only [show (t < j + 1) ↔ t < j by omega]
theorem apart_rds {q : Nat} (hq : q < d.tols.length) : (apartD d i).rds.getD q [] = apRow d i q := by
  simp [apartD, List.getD, hq]
theorem apart_rd (hV : Valid d) {q t : Nat} (hq : q < d.tols.length) (ht : t < d.samples.length) : rdv (apartD d i) q t = if d.samples.getD t 0 = (i : Int) then rdv d q t else -1 := by
  unfold rdv; rw [apart_rds hq]; unfold apRow
  rw [apUpto_at q _ t (by rw [hV.rdl q hq]; exact ht)]
  by_cases h : d.samples.getD t 0 = (i : Int)
  · rw [if_neg (fun e => e.2 h), if_pos h]
  · rw [if_pos ⟨ht, h⟩, if_neg h]
theorem apart_valid (hV : Valid d) : Valid (apartD d i) := by
  refine ⟨hV.nl, hV.ns, hV.nb, hV.lots, hV.samples, hV.spread, hV.tols, fun q hq => ?_, fun q hq j hj => ?_⟩
  · rw [apart_rds (d := d) hq]; unfold apRow; rw [apUpto_len]; exact hV.rdl q hq
  · have := hV.rds q hq j hj
    show -1 ≤ rdv (apartD d i) q j ∧ rdv (apartD d i) q j ≤ 1000
    rw [apart_rd hV hq hj]
    split
    · exact this
    · omega
theorem apart_check (hV : Valid d) : checkR (apartD d i) = 0 := check_of (apart_valid hV)
theorem apart_thin (hV : Valid d) : (apartD d i).lots.length ≤ 6 ∧ (apartD d i).samples.length ≤ 10 ∧ (apartD d i).tols.length ≤ 8 ∧ ∀ k, k < (apartD d i).tols.length → ((apartD d i).rds.getD k []).length ≤ 10 := by
  have h := apart_valid (i := i) hV
  have h1 := h.nl; have h2 := h.ns; have h3 := h.nb
  exact ⟨by omega, by omega, by omega, fun k hk => by have := h.rdl k hk; omega⟩
theorem apart_rdl : (apartD d i).rds.length = d.tols.length := by simp [apartD]
end
/-- A round is explained if each lot of it is. -/
theorem apart_all {d : RD} (hV : Valid d) {off : List Bool} : explB d off = (List.range d.lots.length).all fun i => explB (apartD d i) off := by
  rw [Bool.eq_iff_iff, List.all_eq_true, explB_iff hV]
  constructor
  · rintro ⟨L, v, h⟩ i _
    refine (explB_iff (apart_valid hV)).2 ⟨L, v, h.lots, h.near, fun k hk q hq ho hr => ?_⟩
    have hrd := apart_rd (i := i) hV hq hk
    rw [hrd] at hr ⊢
    split at hr
    · rename_i e
      rw [if_pos e]
      exact h.agree k hk q hq ho hr
    · exact absurd rfl hr
  · intro h
    have hi : ∀ i, ∃ L v, i < d.lots.length → Truth (apartD d i) off (-1) 0 L v := fun i => by
      by_cases hi : i < d.lots.length
      · obtain ⟨L, v, hT⟩ := (explB_iff (apart_valid hV)).1 (h i (List.mem_range.2 hi))
        exact ⟨L, v, fun _ => hT⟩
      · exact ⟨fun _ => 0, fun _ => 0, fun e => absurd e hi⟩
    let L : Nat → Nat → Int := fun i => Classical.choose (hi i)
    have hL := fun i => Classical.choose_spec (hi i)
    let v : Nat → Nat → Int := fun i => Classical.choose (hL i)
    have hv : ∀ i, i < d.lots.length → Truth (apartD d i) off (-1) 0 (L i) (v i) := fun i => Classical.choose_spec (hL i)
    refine ⟨fun i => L i i, fun k => v (lotOf d k) k, fun i hi => (hv i hi).lots i hi, fun k hk => ?_, fun k hk q hq ho hr => ?_⟩
    · have hs := hV.samples k hk
      exact (hv (lotOf d k) (by unfold lotOf; omega)).near k hk
    · have hs := hV.samples k hk
      have hT := hv (lotOf d k) (by unfold lotOf; omega)
      have hrd := apart_rd (i := lotOf d k) hV hq hk
      rw [if_pos (by unfold lotOf; omega)] at hrd
      have := hT.agree k hk q hq ho (by rw [hrd]; exact hr)
      rw [hrd] at this
      exact this
def apAll (d : RD) (off : List Bool) (n : Nat) : Bool := (List.range n).all fun i => explB (apartD d i) off
theorem apAll_succ (d : RD) (off : List Bool) (n : Nat) : apAll d off (n + 1) = (apAll d off n && explB (apartD d n) off) := by
  unfold apAll; rw [List.range_succ, List.all_append]; simp
end Go.Proofs.Ytfhmigoddaaljaa

namespace Go.Proofs.Ytfhmigoddaaljaa
open Go.RowKit Go.Shelf Go.Eng
set_option maxHeartbeats 4000000 in
theorem RoundApart_a (rl rs rb : Value) (rlv : List Value) (d : RD) (w : World) (hR : RoundAt w rl rs rb rlv d) (x : Nat) (hxb : x < 256) (hf : readyB d = false) :
  Calls Try.prog 10 #[(Value.agg #[rl, rs, (Value.int .i64 d.spread), rb]), (Value.int .u8 (x : Int))] w (Ret fun v w' => v = .bool true ∧ Ext NoB w w') := by
 refine calls_enter Try.func10 rfl fun a0 hA0 => ?_
 replace hA0 : Fr 109 [] [(0, (Value.agg #[rl, rs, (Value.int .i64 d.spread), rb])), (1, (Value.int .u8 (x : Int)))] a0 := hA0
 have hS0 : Sep NoB w w [(rndR false rl rs rb rlv d)] := sep_ro ⟨rfl, hR, trivial⟩
 refine c_seq ?_
 refine c_region ?_
 refine stw hA0 (op_box hS0 rfl (hA0.ev rfl) (cs := [rl, rs, (Value.int .i64 d.spread), rb]) rfl) rfl rfl (by decide) ?_
 rintro a1 _ w3 ⟨b4, rfl, hS5⟩ hA2; clear hA0 hS0 a0
 refine st hA2 (op_assign rfl (evc _ _)) rfl rfl (by decide) fun a6 hA7 => ?_; clear hA2 a1
 refine wl_nil ?_
 refine then_n ?_
 refine c_seq ?_
 refine c_seq ?_
 refine c_region ?_
 refine st hA7 (op_loadA rfl ty_26 (hA7.ev rfl) (hS5.bk 0 rfl) (l := [rl, rs, (Value.int .i64 d.spread), rb]) rfl rfl) rfl rfl (by decide) fun a8 hA9 => ?_; clear hA7 a6
 refine stw hA9 (op_call rfl en_35 (ev1 (hA9.ev rfl)) (ready_ok rl rs rb rlv d _ (rnd_at (hS5.ok 1 _ rfl)))) rfl rfl (by decide) ?_
 rintro a10 _ w12 ⟨rfl, hE13⟩ hA11; have hS14 := hS5.step hE13; clear hE13 hA9 hS5 a8
 rw [hf] at hA11
 refine st hA11 (op_not rfl (hA11.ev rfl)) rfl rfl (by decide) fun a15 hA16 => ?_; clear hA11 a10
 refine wl_nil ?_
 refine then_n ?_
 refine c_true hA16 rfl ?_
 refine c_seq ?_
 have hA17 := hA16.as [] rfl; clear hA16
 refine c_region ?_
 refine stw hA17 (op_call rfl en_18 ev0 (wakes_ok _)) rfl rfl (by decide) ?_
 rintro a18 _ w20 ⟨rfl, hE21⟩ hA19; have hS22 := hS14.step hE21; clear hE21 hA17 hS14 a15
 refine st hA19 (op_assign rfl (hA19.ev rfl)) rfl rfl (by decide) fun a23 hA24 => ?_; clear hA19 a18
 refine wl_nil ?_
 refine then_n ?_
 refine c_ret ?_
 refine then_ret ?_
 refine fin_run hA24 (.inl rfl) (run_results1 hA24 rfl (.tmp rfl)) ?_
 exact ⟨rfl, hS22.ext⟩

set_option maxHeartbeats 4000000 in
theorem RoundApart_b (rl rs rb : Value) (rlv : List Value) (d : RD) (w : World) (hR : RoundAt w rl rs rb rlv d) (x : Nat) (hxb : x < 256) (hf : readyB d = true) :
  Calls Try.prog 10 #[(Value.agg #[rl, rs, (Value.int .i64 d.spread), rb]), (Value.int .u8 (x : Int))] w (Ret fun v w' => v = .bool true ∧ Ext NoB w w') := by
 refine calls_enter Try.func10 rfl fun a0 hA0 => ?_
 replace hA0 : Fr 109 [] [(0, (Value.agg #[rl, rs, (Value.int .i64 d.spread), rb])), (1, (Value.int .u8 (x : Int)))] a0 := hA0
 have hth := thin_of (ready_of hf).1; have hc := (ready_of hf).2; have hV := valid_of hc; have hnb := hV.nb; have hns := hV.ns; have hnl := hV.nl; have hsp := hV.spread
 have hS0 : Sep NoB w w [(rndR false rl rs rb rlv d)] := sep_ro ⟨rfl, hR, trivial⟩
 refine c_seq ?_
 refine c_region ?_
 refine stw hA0 (op_box hS0 rfl (hA0.ev rfl) (cs := [rl, rs, (Value.int .i64 d.spread), rb]) rfl) rfl rfl (by decide) ?_
 rintro a1 _ w3 ⟨b4, rfl, hS5⟩ hA2; clear hA0 hS0 a0
 refine st hA2 (op_assign rfl (evc _ _)) rfl rfl (by decide) fun a6 hA7 => ?_; clear hA2 a1
 refine wl_nil ?_
 refine then_n ?_
 refine c_seq ?_
 refine c_seq ?_
 refine c_region ?_
 refine st hA7 (op_loadA rfl ty_26 (hA7.ev rfl) (hS5.bk 0 rfl) (l := [rl, rs, (Value.int .i64 d.spread), rb]) rfl rfl) rfl rfl (by decide) fun a8 hA9 => ?_; clear hA7 a6
 refine stw hA9 (op_call rfl en_35 (ev1 (hA9.ev rfl)) (ready_ok rl rs rb rlv d _ (rnd_at (hS5.ok 1 _ rfl)))) rfl rfl (by decide) ?_
 rintro a10 _ w12 ⟨rfl, hE13⟩ hA11; have hS14 := hS5.step hE13; clear hE13 hA9 hS5 a8
 rw [hf] at hA11
 refine st hA11 (op_not rfl (hA11.ev rfl)) rfl rfl (by decide) fun a15 hA16 => ?_; clear hA11 a10
 refine wl_nil ?_
 refine then_n ?_
 refine c_false hA16 rfl ?_
 refine c_skip ?_
 refine then_n ?_
 refine c_seq ?_
 refine c_region ?_
 refine st hA16 (op_loadA rfl ty_26 (hA16.ev rfl) (hS14.bk 0 rfl) (l := [rl, rs, (Value.int .i64 d.spread), rb]) rfl rfl) rfl rfl (by decide) fun a17 hA18 => ?_; clear hA16 a15
 refine st hA18 (op_move rfl (hA18.ev rfl)) rfl rfl (by decide) fun a19 hA20 => ?_; clear hA18 a17
 refine stw hA20 (op_call rfl en_36 (ev2 (hA20.ev rfl) (hA20.ev rfl)) (chosen_ok rl rs rb rlv d _ (rnd_at (hS14.ok 1 _ rfl)) x (by omega))) rfl rfl (by decide) ?_
 rintro a21 v27 w23 ⟨hE24, hO25⟩ hA22; have hS26 := hS14.new_row hE24 hO25; clear hE24 hO25 hA20 hS14 a19
 refine st hA22 (op_assign rfl (hA22.ev rfl)) rfl rfl (by decide) fun a28 hA29 => ?_; clear hA22 a21
 refine wl_nil ?_
 refine then_n ?_
 refine c_seq ?_
 have hA30 := hA29.as [(5, v27), (2, (bptr b4 0))] rfl; clear hA29
 refine c_region ?_
 refine st hA30 (op_loadA rfl ty_26 (hA30.ev rfl) (hS26.bk 1 rfl) (l := [rl, rs, (Value.int .i64 d.spread), rb]) rfl rfl) rfl rfl (by decide) fun a31 hA32 => ?_; clear hA30 a28
 refine stw hA32 (op_call rfl en_20 (ev1 (hA32.ev rfl)) (Round_ok rl rs rb rlv d _ (rnd_at (hS26.ok 2 _ rfl)) hth)) rfl rfl (by decide) ?_
 rintro a33 _ w35 ⟨vl36, vs37, vb38, lv39, rfl, hT40⟩ hA34; have hS41 := hS26.callS hT40 rfl; clear hT40 hA32 hS26 a31
 refine st hA34 (op_move rfl (hA34.ev rfl)) rfl rfl (by decide) fun a42 hA43 => ?_; clear hA34 a33
 refine stw hA43 (op_call rfl en_22 (ev1 (hA43.ev rfl)) (list_ok (chosenF d.tols.length x) _ _ (SlAt.of_row (hS41.ok_row 1 rfl)) (Nat.le_trans (chosenF_len _ _) (by omega)))) rfl rfl (by decide) ?_
 rintro a44 v50 w46 ⟨hE47, hO48⟩ hA45; have hS49 := hS41.new_row hE47 hO48; clear hE47 hO48 hA43 hS41 a42
 refine stw hA45 (op_call rfl en_21 (ev2 (hA45.ev rfl) (hA45.ev rfl)) (by have h := (explains_ok vl36 vs37 vb38 lv39 d _ (rnd_at (hS49.ok 1 _ rfl)) _ (chosenF d.tols.length x) (SlAt.of_row (hS49.ok_row 0 rfl)) (Nat.le_trans (chosenF_len _ _) (by omega))); rw [(chosen_explains hc x)] at h; exact h)) rfl rfl (by decide) ?_
 rintro a51 _ w53 ⟨rfl, hE54⟩ hA52; have hS55 := hS49.step hE54; clear hE54 hA45 hS49 a44
 refine st hA52 (op_move rfl (hA52.ev rfl)) rfl rfl (by decide) fun a56 hA57 => ?_; clear hA52 a51
 refine st hA57 (op_extract rfl (hA57.ev rfl) rfl) rfl rfl (by decide) fun a58 hA59 => ?_; clear hA57 a56
 refine st hA59 (op_extract rfl (hA59.ev rfl) rfl) rfl rfl (by decide) fun a60 hA61 => ?_; clear hA59 a58
 refine st hA61 (op_assign rfl (hA61.ev rfl)) rfl rfl (by decide) fun a62 hA63 => ?_; clear hA61 a60
 refine st hA63 (op_assign rfl (hA63.ev rfl)) rfl rfl (by decide) fun a64 hA65 => ?_; clear hA63 a62
 refine wl_nil ?_
 refine then_n ?_
 refine c_seq ?_
 have hA66 := hA65.as [(7, (Value.int .i64 0)), (6, (Value.bool (explB d (offB d.tols.length x)))), (5, v27), (2, (bptr b4 0))] rfl; clear hA65
 refine c_region ?_
 refine st hA66 (op_assign rfl (evc _ _)) rfl rfl (by decide) fun a67 hA68 => ?_; clear hA66 a64
 refine wl_nil ?_
 refine then_n ?_
 refine c_seq ?_
 refine c_seq ?_
 refine c_region ?_
 refine st hA68 (op_assign rfl (evc _ _)) rfl rfl (by decide) fun a69 hA70 => ?_; clear hA68 a67
 refine wl_nil ?_
 refine then_n ?_
 refine c_block ?_
 have hA71 := hA70.as [(9, (Value.int .i64 0)), (8, (Value.bool true)), (7, (Value.int .i64 0)), (6, (Value.bool (explB d (offB d.tols.length x)))), (5, v27), (2, (bptr b4 0))] rfl; clear hA70
 refine c_loop (G := Nat) (fun (i0 : Nat) a_ w_ => Fr 109 [] [(9, (Value.int .i64 (i0 : Int))), (8, (Value.bool (apAll d (offB d.tols.length x) i0))), (7, (Value.int .i64 0)), (6, (Value.bool (explB d (offB d.tols.length x)))), (5, v27), (2, (bptr b4 0))] a_ ∧ Sep NoB w w_ [(row v50 3 1 ((chosenF d.tols.length x).length) (ints (chosenF d.tols.length x))), (rndR true vl36 vs37 vb38 lv39 d), (row v27 3 1 ((chosenF d.tols.length x).length) (ints (chosenF d.tols.length x))), (blk b4 26 [rl, rs, (Value.int .i64 d.spread), rb]), (rndR false rl rs rb rlv d)] ∧ (i0 ≤ d.lots.length)) (fun i0 => d.lots.length - i0) 0 ⟨hA71.as _ (by simp [pickSlots, List.lookup, apAll]), hS55, by omega⟩ ?_
 clear hA71 hS55 a69
 rintro i0 a72 w74 ⟨hA73, hS75, hki0⟩
 refine c_seq ?_
 refine c_seq ?_
 refine c_region ?_
 refine st hA73 (op_move rfl (hA73.ev rfl)) rfl rfl (by decide) fun a76 hA77 => ?_; clear hA73 a72
 refine st hA77 (op_field rfl fd_26_0 (hA77.ev rfl)) rfl rfl (by decide) fun a78 hA79 => ?_; clear hA77 a76
 refine st hA79 (op_load1 rfl ty_22 (hA79.ev rfl) (hS75.bk 3 rfl) rfl) rfl rfl (by decide) fun a80 hA81 => ?_; clear hA79 a78
 refine st hA81 (op_lenS rfl un_22 (hA81.ev rfl) (rnd_at (hS75.ok 4 _ rfl)).lots) rfl rfl (by decide) fun a82 hA83 => ?_; clear hA81 a80
 refine st hA83 (op_lss rfl (hA83.ev rfl) (hA83.ev rfl)) rfl rfl (by decide) fun a84 hA85 => ?_; clear hA83 a82
 refine wl_nil ?_
 refine then_n ?_
 by_cases hb86 : (i0 : Int) < (d.lots.length : Int)
 ·skip
  rw [decide_eq_true hb86] at hA85
  refine c_true hA85 rfl ?_
  refine c_skip ?_
  refine then_n ?_
  refine c_seq ?_
  refine c_block ?_
  refine c_seq ?_
  refine c_region ?_
  refine st hA85 (op_loadA rfl ty_26 (hA85.ev rfl) (hS75.bk 3 rfl) (l := [rl, rs, (Value.int .i64 d.spread), rb]) rfl rfl) rfl rfl (by decide) fun a87 hA88 => ?_; clear hA85 a84
  refine stw hA88 (op_alloc hS75 rfl ze_26 (cs := [(Value.slice none 0 0), (Value.slice none 0 0), (Value.int .i64 0), (Value.slice none 0 0)]) rfl) rfl rfl (by decide) ?_
  rintro a89 _ w91 ⟨b92, rfl, hS93⟩ hA90; clear hA88 hS75 a87
  refine sts hA90 (op_store hS93 rfl ty_26 (hA90.ev rfl) (hA90.ev rfl) (i := 0) rfl (vs := [rl, rs, (Value.int .i64 d.spread), rb]) rfl rfl (all_c (SlAt.one (rnd_at (hS93.ok 5 _ rfl)).lots) (all_c (SlAt.one (rnd_at (hS93.ok 5 _ rfl)).samples) (all_c rfl (all_c (SlAt.one (rnd_at (hS93.ok 5 _ rfl)).labs) all_n)))) (Nat.le_of_ble_eq_true rfl)) rfl rfl ?_
  intro _ w94 hS95 hA96; clear hA90
  have hS97 : Sep NoB w w94 [(blk b92 26 [rl, rs, (Value.int .i64 d.spread), rb]), (row v50 3 1 ((chosenF d.tols.length x).length) (ints (chosenF d.tols.length x))), (rndR true vl36 vs37 vb38 lv39 d), (row v27 3 1 ((chosenF d.tols.length x).length) (ints (chosenF d.tols.length x))), (blk b4 26 [rl, rs, (Value.int .i64 d.spread), rb]), (rndR false rl rs rb rlv d)] := hS95; clear hS95 hS93
  refine wl_nil ?_
  refine then_n ?_
  refine c_seq ?_
  have hA98 := hA96.as [(10, (bptr b92 0)), (9, (Value.int .i64 (i0 : Int))), (8, (Value.bool (apAll d (offB d.tols.length x) i0))), (7, (Value.int .i64 0)), (6, (Value.bool (explB d (offB d.tols.length x)))), (5, v27), (2, (bptr b4 0))] rfl; clear hA96
  refine c_region ?_
  refine st hA98 (op_field rfl fd_26_3 (hA98.ev rfl)) rfl rfl (by decide) fun a99 hA100 => ?_; clear hA98 a89
  refine sts hA100 (op_store hS97 rfl ty_24 (hA100.ev rfl) (evc _ _) (i := 0) rfl (vs := [(Value.slice none 0 0)]) rfl rfl (all_c rfl all_n) (Nat.le_of_ble_eq_true rfl)) rfl rfl ?_
  intro _ w101 hS102 hA103; clear hA100
  have hS104 : Sep NoB w w101 [(blk b92 26 [rl, rs, (Value.int .i64 d.spread), (Value.slice none 0 0)]), (row v50 3 1 ((chosenF d.tols.length x).length) (ints (chosenF d.tols.length x))), (rndR true vl36 vs37 vb38 lv39 d), (row v27 3 1 ((chosenF d.tols.length x).length) (ints (chosenF d.tols.length x))), (blk b4 26 [rl, rs, (Value.int .i64 d.spread), rb]), (rndR false rl rs rb rlv d)] := hS102; clear hS102 hS97
  refine wl_nil ?_
  refine then_n ?_
  refine c_seq ?_
  refine c_seq ?_
  refine c_region ?_
  refine st hA103 (op_assign rfl (evc _ _)) rfl rfl (by decide) fun a105 hA106 => ?_; clear hA103 a99
  refine wl_nil ?_
  refine then_n ?_
  refine c_block ?_
  have hS107 := (hS104.nil_row 62 2).lst_nil; clear hS104
  have hA108 := hA106.as [(11, (Value.int .i64 0)), (10, (bptr b92 0)), (9, (Value.int .i64 (i0 : Int))), (8, (Value.bool (apAll d (offB d.tols.length x) i0))), (7, (Value.int .i64 0)), (6, (Value.bool (explB d (offB d.tols.length x)))), (5, v27), (2, (bptr b4 0))] rfl; clear hA106
  refine c_loop (G := Nat) (fun (k2 : Nat) a_ w_ => ∃ vb_ : Value, ∃ lv_ : List Value, Fr 109 [] [(11, (Value.int .i64 (k2 : Int))), (10, (bptr b92 0)), (9, (Value.int .i64 (i0 : Int))), (8, (Value.bool (apAll d (offB d.tols.length x) i0))), (7, (Value.int .i64 0)), (6, (Value.bool (explB d (offB d.tols.length x)))), (5, v27), (2, (bptr b4 0))] a_ ∧ Sep NoB w w_ [(lstR lv_ ((List.range k2).map fun q => apUpto d i0 q d.samples.length)), (row vb_ 62 2 ((d.tols.take k2).length) (vpairs ((d.tols.take k2).zip lv_))), (blk b92 26 [rl, rs, (Value.int .i64 d.spread), vb_]), (row v50 3 1 ((chosenF d.tols.length x).length) (ints (chosenF d.tols.length x))), (rndR true vl36 vs37 vb38 lv39 d), (row v27 3 1 ((chosenF d.tols.length x).length) (ints (chosenF d.tols.length x))), (blk b4 26 [rl, rs, (Value.int .i64 d.spread), rb]), (rndR false rl rs rb rlv d)] ∧ (k2 ≤ d.tols.length)) (fun k2 => d.tols.length - k2) 0 ⟨(Value.slice none 0 0), [], hA108.as _ rfl, hS107, by omega⟩ ?_
  clear hA108 hS107 a105
  rintro k2 a109 w111 ⟨vb_, lv_, hA110, hS112, hkk2⟩
  have hol := hS112.lst_len 0 rfl; have htk : (d.tols.take k2).length = k2 := by simp; omega
  have hrk : (((List.range k2).map fun q => apUpto d i0 q d.samples.length)).length = k2 := by simp
  refine c_seq ?_
  refine c_seq ?_
  refine c_region ?_
  refine st hA110 (op_move rfl (hA110.ev rfl)) rfl rfl (by decide) fun a113 hA114 => ?_; clear hA110 a109
  refine st hA114 (op_field rfl fd_26_3 (hA114.ev rfl)) rfl rfl (by decide) fun a115 hA116 => ?_; clear hA114 a113
  refine st hA116 (op_load1 rfl ty_24 (hA116.ev rfl) (hS112.bk 6 rfl) rfl) rfl rfl (by decide) fun a117 hA118 => ?_; clear hA116 a115
  refine st hA118 (op_lenS rfl un_24 (hA118.ev rfl) (rnd_at (hS112.ok 7 _ rfl)).labs) rfl rfl (by decide) fun a119 hA120 => ?_; clear hA118 a117
  refine st hA120 (op_lss rfl (hA120.ev rfl) (hA120.ev rfl)) rfl rfl (by decide) fun a121 hA122 => ?_; clear hA120 a119
  refine wl_nil ?_
  refine then_n ?_
  by_cases hb123 : (k2 : Int) < (d.tols.length : Int)
  ·skip
   rw [decide_eq_true hb123] at hA122
   have htl := hV.tols k2 (by omega); have hrl0 := hV.rdl k2 (by omega); have hal := fun j => apUpto_len (d := d) (i := i0) k2 j
   refine c_true hA122 rfl ?_
   refine c_skip ?_
   refine then_n ?_
   refine c_seq ?_
   refine c_block ?_
   refine c_seq ?_
   have hA124 := hA122.as [(11, (Value.int .i64 (k2 : Int))), (10, (bptr b92 0)), (9, (Value.int .i64 (i0 : Int))), (8, (Value.bool (apAll d (offB d.tols.length x) i0))), (7, (Value.int .i64 0)), (6, (Value.bool (explB d (offB d.tols.length x)))), (5, v27), (2, (bptr b4 0))] rfl; clear hA122
   refine c_drawV mixed hA124 hS112 15 [[], [0], [], [1, 2], [3], [4], [], [6], [], [7, 8], [9], [10], [11], [5, 12], []] [(fun (vs125 : Nat → Value) (v_ : Value) (rs_ : List Res) => v_ = (bptr b4 3) ∧ rs_ = []), (fun (vs125 : Nat → Value) (v_ : Value) (rs_ : List Res) => v_ = rb ∧ rs_ = []), (fun (vs125 : Nat → Value) (v_ : Value) (rs_ : List Res) => v_ = (Value.int .i64 (k2 : Int)) ∧ rs_ = []), (fun (vs125 : Nat → Value) (v_ : Value) (rs_ : List Res) => v_ = (eptr rb (k2 * 2)) ∧ rs_ = []), (fun (vs125 : Nat → Value) (v_ : Value) (rs_ : List Res) => v_ = (eptr rb (k2 * 2 + 0)) ∧ rs_ = []), (fun (vs125 : Nat → Value) (v_ : Value) (rs_ : List Res) => v_ = (Value.int .i64 (d.tols.getD k2 0)) ∧ rs_ = []), (fun (vs125 : Nat → Value) (v_ : Value) (rs_ : List Res) => v_ = (bptr b4 3) ∧ rs_ = []), (fun (vs125 : Nat → Value) (v_ : Value) (rs_ : List Res) => v_ = rb ∧ rs_ = []), (fun (vs125 : Nat → Value) (v_ : Value) (rs_ : List Res) => v_ = (Value.int .i64 (k2 : Int)) ∧ rs_ = []), (fun (vs125 : Nat → Value) (v_ : Value) (rs_ : List Res) => v_ = (eptr rb (k2 * 2)) ∧ rs_ = []), (fun (vs125 : Nat → Value) (v_ : Value) (rs_ : List Res) => v_ = (eptr rb (k2 * 2 + 1)) ∧ rs_ = []), (fun (vs125 : Nat → Value) (v_ : Value) (rs_ : List Res) => v_ = (rlv.getD k2 nilS) ∧ rs_ = []), (fun (vs125 : Nat → Value) (v_ : Value) (rs_ : List Res) => True ∧ rs_ = [(row v_ 3 1 ((d.rds.getD k2 []).length) (ints (d.rds.getD k2 [])))]), (fun (vs125 : Nat → Value) (v_ : Value) (rs_ : List Res) => v_ = (Value.agg #[(Value.int .i64 (d.tols.getD k2 0)), (vs125 12)]) ∧ rs_ = []), (fun (vs125 : Nat → Value) (v_ : Value) (rs_ : List Res) => ∃ (b14_ : Nat), v_ = (bptr b14_ 0) ∧ rs_ = [(blk b14_ 62 [(Value.int .i64 0), (Value.slice none 0 0)])])] (by decide +kernel) (by decide +kernel) rfl rfl ⟨(fun _ _ _ _ _ h_ => h_), (fun _ _ _ _ _ h_ => h_), (fun _ _ _ _ _ h_ => h_), (fun _ _ _ _ _ h_ => h_), (fun _ _ _ _ _ h_ => h_), (fun _ _ _ _ _ h_ => h_), (fun _ _ _ _ _ h_ => h_), (fun _ _ _ _ _ h_ => h_), (fun _ _ _ _ _ h_ => h_), (fun _ _ _ _ _ h_ => h_), (fun _ _ _ _ _ h_ => h_), (fun _ _ _ _ _ h_ => h_), (fun _ _ _ _ _ h_ => h_), (fun _ _ _ _ he_ h_ => by dsimp only at h_ ⊢; rw [← he_ 12 (by decide)]; exact h_), (fun _ _ _ _ _ h_ => h_), trivial⟩ ?_ ?_
   ·skip
    refine ⟨fun a w vs125 hA hS hd => ?_, ?_⟩
    ·skip
     exact opG_of rfl (vv (op_field rfl fd_26_3 (hA.ev rfl)) (And.intro rfl rfl))
    refine ⟨fun a w vs125 hA hS hd => ?_, ?_⟩
    ·skip
     obtain ⟨e0, rs0, hy0, hp0⟩ := hd 0 (by decide)
     obtain ⟨hv0, hr0⟩ := hy0; subst hr0
     rw [hv0] at e0
     exact opG_of rfl (vv (op_load1 rfl ty_24 (tmp_ev (slot_ev e0 rfl)) (hS.bk 6 rfl) rfl) (And.intro rfl rfl))
    refine ⟨fun a w vs125 hA hS hd => ?_, ?_⟩
    ·skip
     exact opG_of rfl (vv (op_move rfl (hA.ev rfl)) (And.intro rfl rfl))
    refine ⟨fun a w vs125 hA hS hd => ?_, ?_⟩
    ·skip
     obtain ⟨e1, rs1, hy1, hp1⟩ := hd 1 (by decide)
     obtain ⟨hv1, hr1⟩ := hy1; subst hr1
     rw [hv1] at e1
     obtain ⟨e2, rs2, hy2, hp2⟩ := hd 2 (by decide)
     obtain ⟨hv2, hr2⟩ := hy2; subst hr2
     rw [hv2] at e2
     exact opG_of rfl (vv (op_indexS rfl un_24 ty_62 (tmp_ev (slot_ev e1 rfl)) (i := k2) (tmp_ev (slot_ev e2 rfl)) (rnd_at (hS.ok 7 _ rfl)).labs (by decide) (by omega)) (And.intro rfl rfl))
    refine ⟨fun a w vs125 hA hS hd => ?_, ?_⟩
    ·skip
     obtain ⟨e3, rs3, hy3, hp3⟩ := hd 3 (by decide)
     obtain ⟨hv3, hr3⟩ := hy3; subst hr3
     rw [hv3] at e3
     exact opG_of rfl (vv (op_fieldS rfl fd_62_0 (tmp_ev (slot_ev e3 rfl)) (rnd_at (hS.ok 7 _ rfl)).labs (by rw [((rnd_at (hS.ok 7 _ rfl)).labs).1]; omega)) (And.intro rfl rfl))
    refine ⟨fun a w vs125 hA hS hd => ?_, ?_⟩
    ·skip
     obtain ⟨e4, rs4, hy4, hp4⟩ := hd 4 (by decide)
     obtain ⟨hv4, hr4⟩ := hy4; subst hr4
     rw [hv4] at e4
     exact opG_of rfl (vv (op_load1E rfl ty_3 (tmp_ev (slot_ev e4 rfl)) (rnd_at (hS.ok 7 _ rfl)).labs (labs_at0 (rnd_at (hS.ok 7 _ rfl)).lvl (by omega))) (And.intro rfl rfl))
    refine ⟨fun a w vs125 hA hS hd => ?_, ?_⟩
    ·skip
     exact opG_of rfl (vv (op_field rfl fd_26_3 (hA.ev rfl)) (And.intro rfl rfl))
    refine ⟨fun a w vs125 hA hS hd => ?_, ?_⟩
    ·skip
     obtain ⟨e6, rs6, hy6, hp6⟩ := hd 6 (by decide)
     obtain ⟨hv6, hr6⟩ := hy6; subst hr6
     rw [hv6] at e6
     exact opG_of rfl (vv (op_load1 rfl ty_24 (tmp_ev (slot_ev e6 rfl)) (hS.bk 6 rfl) rfl) (And.intro rfl rfl))
    refine ⟨fun a w vs125 hA hS hd => ?_, ?_⟩
    ·skip
     exact opG_of rfl (vv (op_move rfl (hA.ev rfl)) (And.intro rfl rfl))
    refine ⟨fun a w vs125 hA hS hd => ?_, ?_⟩
    ·skip
     obtain ⟨e7, rs7, hy7, hp7⟩ := hd 7 (by decide)
     obtain ⟨hv7, hr7⟩ := hy7; subst hr7
     rw [hv7] at e7
     obtain ⟨e8, rs8, hy8, hp8⟩ := hd 8 (by decide)
     obtain ⟨hv8, hr8⟩ := hy8; subst hr8
     rw [hv8] at e8
     exact opG_of rfl (vv (op_indexS rfl un_24 ty_62 (tmp_ev (slot_ev e7 rfl)) (i := k2) (tmp_ev (slot_ev e8 rfl)) (rnd_at (hS.ok 7 _ rfl)).labs (by decide) (by omega)) (And.intro rfl rfl))
    refine ⟨fun a w vs125 hA hS hd => ?_, ?_⟩
    ·skip
     obtain ⟨e9, rs9, hy9, hp9⟩ := hd 9 (by decide)
     obtain ⟨hv9, hr9⟩ := hy9; subst hr9
     rw [hv9] at e9
     exact opG_of rfl (vv (op_fieldS rfl fd_62_1 (tmp_ev (slot_ev e9 rfl)) (rnd_at (hS.ok 7 _ rfl)).labs (by rw [((rnd_at (hS.ok 7 _ rfl)).labs).1]; omega)) (And.intro rfl rfl))
    refine ⟨fun a w vs125 hA hS hd => ?_, ?_⟩
    ·skip
     obtain ⟨e10, rs10, hy10, hp10⟩ := hd 10 (by decide)
     obtain ⟨hv10, hr10⟩ := hy10; subst hr10
     rw [hv10] at e10
     exact opG_of rfl (vv (op_load1E rfl ty_23 (tmp_ev (slot_ev e10 rfl)) (rnd_at (hS.ok 7 _ rfl)).labs (labs_at1 (rnd_at (hS.ok 7 _ rfl)).lvl (by omega))) (And.intro rfl rfl))
    refine ⟨fun a w vs125 hA hS hd => ?_, ?_⟩
    ·skip
     obtain ⟨e11, rs11, hy11, hp11⟩ := hd 11 (by decide)
     obtain ⟨hv11, hr11⟩ := hy11; subst hr11
     rw [hv11] at e11
     exact opG_of rfl (vn (op_call rfl en_22 (ev1 (tmp_ev (slot_ev e11 rfl))) (list_ok (d.rds.getD k2 []) _ _ ((rnd_at (hS.ok 7 _ rfl)).rds k2 (by rw [(rnd_at (hS.ok 7 _ rfl)).rdl]; omega)) (by have := hth.2.2.2 k2 (by omega); omega))) (fun v w' h => ⟨_, And.intro trivial rfl, (Sep.start NoB _).new_row h.1 h.2, rfl⟩))
    refine ⟨fun a w vs125 hA hS hd => ?_, ?_⟩
    ·skip
     obtain ⟨e5, rs5, hy5, hp5⟩ := hd 5 (by decide)
     obtain ⟨hv5, hr5⟩ := hy5; subst hr5
     rw [hv5] at e5
     obtain ⟨e12, rs12, hy12, hp12⟩ := hd 12 (by decide)
     obtain ⟨hv12, hr12⟩ := hy12; subst hr12
     have hp12_0 := hp12 _ (List.mem_of_getElem? (i := 0) rfl)
     exact opG_of rfl (vv (op_build rfl (pv2 (tmp_ev (slot_ev e5 rfl)) (tmp_ev (slot_ev e12 rfl))) (bd_62_0i_1s _ _ (SlAt.isSl (SlAt.of_row hp12_0)))) (And.intro rfl rfl))
    refine ⟨fun a w vs125 hA hS hd => ?_, ?_⟩
    ·skip
     exact opG_of rfl (valloc rfl ze_62 (cs := [(Value.int .i64 0), (Value.slice none 0 0)]) rfl (fun b_ => ⟨b_, rfl, rfl⟩))
    trivial
   intro a126 w127 vs125 rsf131 hA128 hH130 hS129; clear hA124 hS112
   obtain ⟨hs_0, hy_0⟩ := hH130 0 (by decide)
   obtain ⟨hv_0, hr_0⟩ := hy_0
   obtain ⟨hs_1, hy_1⟩ := hH130 1 (by decide)
   obtain ⟨hv_1, hr_1⟩ := hy_1
   obtain ⟨hs_2, hy_2⟩ := hH130 2 (by decide)
   obtain ⟨hv_2, hr_2⟩ := hy_2
   obtain ⟨hs_3, hy_3⟩ := hH130 3 (by decide)
   obtain ⟨hv_3, hr_3⟩ := hy_3
   obtain ⟨hs_4, hy_4⟩ := hH130 4 (by decide)
   obtain ⟨hv_4, hr_4⟩ := hy_4
   obtain ⟨hs_5, hy_5⟩ := hH130 5 (by decide)
   obtain ⟨hv_5, hr_5⟩ := hy_5
   obtain ⟨hs_6, hy_6⟩ := hH130 6 (by decide)
   obtain ⟨hv_6, hr_6⟩ := hy_6
   obtain ⟨hs_7, hy_7⟩ := hH130 7 (by decide)
   obtain ⟨hv_7, hr_7⟩ := hy_7
   obtain ⟨hs_8, hy_8⟩ := hH130 8 (by decide)
   obtain ⟨hv_8, hr_8⟩ := hy_8
   obtain ⟨hs_9, hy_9⟩ := hH130 9 (by decide)
   obtain ⟨hv_9, hr_9⟩ := hy_9
   obtain ⟨hs_10, hy_10⟩ := hH130 10 (by decide)
   obtain ⟨hv_10, hr_10⟩ := hy_10
   obtain ⟨hs_11, hy_11⟩ := hH130 11 (by decide)
   obtain ⟨hv_11, hr_11⟩ := hy_11
   obtain ⟨hs_12, hy_12⟩ := hH130 12 (by decide)
   obtain ⟨hv_12, hr_12⟩ := hy_12
   obtain ⟨hs_13, hy_13⟩ := hH130 13 (by decide)
   obtain ⟨hv_13, hr_13⟩ := hy_13
   obtain ⟨hs_14, hy_14⟩ := hH130 14 (by decide)
   obtain ⟨b14_, hv_14, hr_14⟩ := hy_14
   have hS132 : Sep NoB w w127 [(row (vs125 12) 3 1 ((d.rds.getD k2 []).length) (ints (d.rds.getD k2 []))), (blk b14_ 62 [(Value.int .i64 0), (Value.slice none 0 0)]), (lstR lv_ ((List.range k2).map fun q => apUpto d i0 q d.samples.length)), (row vb_ 62 2 ((d.tols.take k2).length) (vpairs ((d.tols.take k2).zip lv_))), (blk b92 26 [rl, rs, (Value.int .i64 d.spread), vb_]), (row v50 3 1 ((chosenF d.tols.length x).length) (ints (chosenF d.tols.length x))), (rndR true vl36 vs37 vb38 lv39 d), (row v27 3 1 ((chosenF d.tols.length x).length) (ints (chosenF d.tols.length x))), (blk b4 26 [rl, rs, (Value.int .i64 d.spread), rb]), (rndR false rl rs rb rlv d)] := by rw [show catR rsf131 0 15 = ([(row (vs125 12) 3 1 ((d.rds.getD k2 []).length) (ints (d.rds.getD k2 []))), (blk b14_ 62 [(Value.int .i64 0), (Value.slice none 0 0)])] : List Res) by (try simp only [catR, hr_0, hr_1, hr_2, hr_3, hr_4, hr_5, hr_6, hr_7, hr_8, hr_9, hr_10, hr_11, hr_12, hr_13, hr_14]); (try rfl)] at hS129; exact hS129
   rw [hv_13] at hs_13
   have hA133 : Fr 109 [] [(60, (Value.agg #[(Value.int .i64 (d.tols.getD k2 0)), (vs125 12)])), (11, (Value.int .i64 (k2 : Int))), (10, (bptr b92 0)), (9, (Value.int .i64 (i0 : Int))), (8, (Value.bool (apAll d (offB d.tols.length x) i0))), (7, (Value.int .i64 0)), (6, (Value.bool (explB d (offB d.tols.length x)))), (5, v27), (2, (bptr b4 0))] a126 := hA128.add (slot_ev hs_13 rfl); clear hA128
   rw [hv_14] at hs_14
   have hA134 : Fr 109 [] [(12, (bptr b14_ 0)), (60, (Value.agg #[(Value.int .i64 (d.tols.getD k2 0)), (vs125 12)])), (11, (Value.int .i64 (k2 : Int))), (10, (bptr b92 0)), (9, (Value.int .i64 (i0 : Int))), (8, (Value.bool (apAll d (offB d.tols.length x) i0))), (7, (Value.int .i64 0)), (6, (Value.bool (explB d (offB d.tols.length x)))), (5, v27), (2, (bptr b4 0))] a126 := hA133.add (slot_ev hs_14 rfl); clear hA133
   clear hH130 hS129 hs_0 hs_1 hs_2 hs_3 hs_4 hs_5 hs_6 hs_7 hs_8 hs_9 hs_10 hs_11 hs_12 hs_13 hs_14
   clear hr_0
   clear hv_0
   clear hr_1
   clear hv_1
   clear hr_2
   clear hv_2
   clear hr_3
   clear hv_3
   clear hr_4
   clear hv_4
   clear hr_5
   clear hv_5
   clear hr_6
   clear hv_6
   clear hr_7
   clear hv_7
   clear hr_8
   clear hv_8
   clear hr_9
   clear hv_9
   clear hr_10
   clear hv_10
   clear hr_11
   clear hv_11
   clear hr_12
   clear hv_12
   clear hr_13
   clear hv_13
   clear hr_14
   clear hv_14
   refine sts hA134 (op_store hS132 rfl ty_62 (hA134.ev rfl) (hA134.ev rfl) (i := 1) rfl (vs := [(Value.int .i64 (d.tols.getD k2 0)), (vs125 12)]) rfl rfl (all_c rfl (all_c (SlAt.one (SlAt.of_row (hS132.ok_row 0 rfl))) all_n)) (Nat.le_of_ble_eq_true rfl)) rfl rfl ?_
   intro _ w135 hS136 hA137; clear hA134
   have hS138 : Sep NoB w w135 [(row (vs125 12) 3 1 ((d.rds.getD k2 []).length) (ints (d.rds.getD k2 []))), (blk b14_ 62 [(Value.int .i64 (d.tols.getD k2 0)), (vs125 12)]), (lstR lv_ ((List.range k2).map fun q => apUpto d i0 q d.samples.length)), (row vb_ 62 2 ((d.tols.take k2).length) (vpairs ((d.tols.take k2).zip lv_))), (blk b92 26 [rl, rs, (Value.int .i64 d.spread), vb_]), (row v50 3 1 ((chosenF d.tols.length x).length) (ints (chosenF d.tols.length x))), (rndR true vl36 vs37 vb38 lv39 d), (row v27 3 1 ((chosenF d.tols.length x).length) (ints (chosenF d.tols.length x))), (blk b4 26 [rl, rs, (Value.int .i64 d.spread), rb]), (rndR false rl rs rb rlv d)] := hS136; clear hS136 hS132
   refine wl_nil ?_
   refine then_n ?_
   refine c_seq ?_
   refine c_seq ?_
   refine c_region ?_
   refine st hA137 (op_assign rfl (evc _ _)) rfl rfl (by decide) fun a139 hA140 => ?_; clear hA137 a126
   refine wl_nil ?_
   refine then_n ?_
   refine c_block ?_
   have hA141 := hA140.as [(13, (Value.int .i64 0)), (12, (bptr b14_ 0)), (11, (Value.int .i64 (k2 : Int))), (10, (bptr b92 0)), (9, (Value.int .i64 (i0 : Int))), (8, (Value.bool (apAll d (offB d.tols.length x) i0))), (7, (Value.int .i64 0)), (6, (Value.bool (explB d (offB d.tols.length x)))), (5, v27), (2, (bptr b4 0))] rfl; clear hA140
   refine c_loop (G := Nat) (fun (j2 : Nat) a_ w_ => Fr 109 [] [(13, (Value.int .i64 (j2 : Int))), (12, (bptr b14_ 0)), (11, (Value.int .i64 (k2 : Int))), (10, (bptr b92 0)), (9, (Value.int .i64 (i0 : Int))), (8, (Value.bool (apAll d (offB d.tols.length x) i0))), (7, (Value.int .i64 0)), (6, (Value.bool (explB d (offB d.tols.length x)))), (5, v27), (2, (bptr b4 0))] a_ ∧ Sep NoB w w_ [(row (vs125 12) 3 1 ((apUpto d i0 k2 j2).length) (ints (apUpto d i0 k2 j2))), (blk b14_ 62 [(Value.int .i64 (d.tols.getD k2 0)), (vs125 12)]), (lstR lv_ ((List.range k2).map fun q => apUpto d i0 q d.samples.length)), (row vb_ 62 2 ((d.tols.take k2).length) (vpairs ((d.tols.take k2).zip lv_))), (blk b92 26 [rl, rs, (Value.int .i64 d.spread), vb_]), (row v50 3 1 ((chosenF d.tols.length x).length) (ints (chosenF d.tols.length x))), (rndR true vl36 vs37 vb38 lv39 d), (row v27 3 1 ((chosenF d.tols.length x).length) (ints (chosenF d.tols.length x))), (blk b4 26 [rl, rs, (Value.int .i64 d.spread), rb]), (rndR false rl rs rb rlv d)] ∧ (j2 ≤ d.samples.length)) (fun j2 => d.samples.length - j2) 0 ⟨hA141.as _ rfl, hS138, by omega⟩ ?_
   clear hA141 hS138 a139
   rintro j2 a142 w144 ⟨hA143, hS145, hkj2⟩
   refine c_seq ?_
   refine c_seq ?_
   refine c_region ?_
   refine st hA143 (op_move rfl (hA143.ev rfl)) rfl rfl (by decide) fun a146 hA147 => ?_; clear hA143 a142
   refine st hA147 (op_field rfl fd_26_1 (hA147.ev rfl)) rfl rfl (by decide) fun a148 hA149 => ?_; clear hA147 a146
   refine st hA149 (op_load1 rfl ty_23 (hA149.ev rfl) (hS145.bk 8 rfl) rfl) rfl rfl (by decide) fun a150 hA151 => ?_; clear hA149 a148
   refine st hA151 (op_lenS rfl un_23 (hA151.ev rfl) (rnd_at (hS145.ok 9 _ rfl)).samples) rfl rfl (by decide) fun a152 hA153 => ?_; clear hA151 a150
   refine st hA153 (op_lss rfl (hA153.ev rfl) (hA153.ev rfl)) rfl rfl (by decide) fun a154 hA155 => ?_; clear hA153 a152
   refine wl_nil ?_
   refine then_n ?_
   by_cases hb156 : (j2 : Int) < (d.samples.length : Int)
   ·skip
    rw [decide_eq_true hb156] at hA155
    have hsm := hV.samples j2 (by omega); have hal2 := hal j2
    refine c_true hA155 rfl ?_
    refine c_skip ?_
    refine then_n ?_
    refine c_seq ?_
    refine c_block ?_
    refine c_seq ?_
    refine c_region ?_
    refine st hA155 (op_field rfl fd_26_1 (hA155.ev rfl)) rfl rfl (by decide) fun a157 hA158 => ?_; clear hA155 a154
    refine st hA158 (op_load1 rfl ty_23 (hA158.ev rfl) (hS145.bk 8 rfl) rfl) rfl rfl (by decide) fun a159 hA160 => ?_; clear hA158 a157
    refine st hA160 (op_move rfl (hA160.ev rfl)) rfl rfl (by decide) fun a161 hA162 => ?_; clear hA160 a159
    refine st hA162 (op_indexS rfl un_23 ty_3 (hA162.ev rfl) (i := j2) (hA162.ev rfl) (rnd_at (hS145.ok 9 _ rfl)).samples (by decide) (by omega)) rfl rfl (by decide) fun a163 hA164 => ?_; clear hA162 a161
    refine st hA164 (op_load1E rfl ty_3 (hA164.ev rfl) (rnd_at (hS145.ok 9 _ rfl)).samples (ints_at (by omega))) rfl rfl (by decide) fun a165 hA166 => ?_; clear hA164 a163
    refine st hA166 (op_move rfl (hA166.ev rfl)) rfl rfl (by decide) fun a167 hA168 => ?_; clear hA166 a165
    refine st hA168 (op_neq rfl (hA168.ev rfl) (hA168.ev rfl)) rfl rfl (by decide) fun a169 hA170 => ?_; clear hA168 a167
    refine wl_nil ?_
    refine then_n ?_
    by_cases hb171 : (d.samples.getD j2 0) = (i0 : Int)
    ·skip
     rw [decide_eq_true hb171] at hA170
     refine c_false hA170 rfl ?_
     refine c_skip ?_
     refine blk_n ?_
     refine then_n ?_
     have hA172 := hA170.as [(13, (Value.int .i64 (j2 : Int))), (12, (bptr b14_ 0)), (11, (Value.int .i64 (k2 : Int))), (10, (bptr b92 0)), (9, (Value.int .i64 (i0 : Int))), (8, (Value.bool (apAll d (offB d.tols.length x) i0))), (7, (Value.int .i64 0)), (6, (Value.bool (explB d (offB d.tols.length x)))), (5, v27), (2, (bptr b4 0))] rfl; clear hA170
     refine c_region ?_
     refine st hA172 (op_move rfl (hA172.ev rfl)) rfl rfl (by decide) fun a173 hA174 => ?_; clear hA172 a169
     refine st hA174 (op_add rfl (hA174.ev rfl) (evc _ _) (by omega) (by omega)) rfl rfl (by decide) fun a175 hA176 => ?_; clear hA174 a173
     refine st hA176 (op_assign rfl (hA176.ev rfl)) rfl rfl (by decide) fun a177 hA178 => ?_; clear hA176 a175
     refine wl_nil ?_
     exact then_n ⟨j2 + 1, ⟨hA178.as _ rfl, (hS145.row_say (i := 0) rfl (by rw [apUpto_yes (by assumption)]) (by rw [apUpto_yes (by assumption)])), by omega⟩, by omega⟩
    ·skip
     rw [decide_eq_false hb171] at hA170
     refine c_true hA170 rfl ?_
     have hA179 := hA170.as [(13, (Value.int .i64 (j2 : Int))), (12, (bptr b14_ 0)), (11, (Value.int .i64 (k2 : Int))), (10, (bptr b92 0)), (9, (Value.int .i64 (i0 : Int))), (8, (Value.bool (apAll d (offB d.tols.length x) i0))), (7, (Value.int .i64 0)), (6, (Value.bool (explB d (offB d.tols.length x)))), (5, v27), (2, (bptr b4 0))] rfl; clear hA170
     refine c_region ?_
     refine st hA179 (op_field rfl fd_62_1 (hA179.ev rfl)) rfl rfl (by decide) fun a180 hA181 => ?_; clear hA179 a169
     refine st hA181 (op_load1 rfl ty_23 (hA181.ev rfl) (hS145.bk 1 rfl) rfl) rfl rfl (by decide) fun a182 hA183 => ?_; clear hA181 a180
     refine st hA183 (op_move rfl (hA183.ev rfl)) rfl rfl (by decide) fun a184 hA185 => ?_; clear hA183 a182
     refine st hA185 (op_indexS rfl un_23 ty_3 (hA185.ev rfl) (i := j2) (hA185.ev rfl) (SlAt.of_row (hS145.ok_row 0 rfl)) (by decide) (by omega)) rfl rfl (by decide) fun a186 hA187 => ?_; clear hA185 a184
     refine sts hA187 (op_storeE hS145 rfl ty_3 (hA187.ev rfl) (evc _ _) (i := 0) rfl (vs := [(Value.int .i64 (-1))]) rfl rfl rfl (by simp only [ints, List.length_map]; omega) (by decide)) rfl rfl ?_
     intro _ w188 hS189 hA191; have hS190 := hS189.row_say (i := 0) rfl (n' := ((apUpto d i0 k2 j2).set j2 (-1)).length) (xs' := (ints ((apUpto d i0 k2 j2).set j2 (-1)))) (by simp) (by simp [setFrom, ints, List.map_set]); clear hS189 hA187 hS145
     refine wl_nil ?_
     refine blk_n ?_
     refine then_n ?_
     refine c_region ?_
     refine st hA191 (op_move rfl (hA191.ev rfl)) rfl rfl (by decide) fun a192 hA193 => ?_; clear hA191 a186
     refine st hA193 (op_add rfl (hA193.ev rfl) (evc _ _) (by omega) (by omega)) rfl rfl (by decide) fun a194 hA195 => ?_; clear hA193 a192
     refine st hA195 (op_assign rfl (hA195.ev rfl)) rfl rfl (by decide) fun a196 hA197 => ?_; clear hA195 a194
     refine wl_nil ?_
     exact then_n ⟨j2 + 1, ⟨hA197.as _ rfl, (hS190.row_say (i := 0) rfl (by rw [apUpto_no (by assumption)]) (by rw [apUpto_no (by assumption)])), by omega⟩, by omega⟩
   ·skip
    rw [decide_eq_false hb156] at hA155
    refine c_false hA155 rfl ?_
    refine c_exit ?_
    refine then_exit ?_
    refine then_exit ?_
    refine blk_hit ?_
    refine then_n ?_
    have hA198 := hA155.as [(12, (bptr b14_ 0)), (11, (Value.int .i64 (k2 : Int))), (10, (bptr b92 0)), (9, (Value.int .i64 (i0 : Int))), (8, (Value.bool (apAll d (offB d.tols.length x) i0))), (7, (Value.int .i64 0)), (6, (Value.bool (explB d (offB d.tols.length x)))), (5, v27), (2, (bptr b4 0))] rfl; clear hA155
    refine c_region ?_
    refine st hA198 (op_field rfl fd_26_3 (hA198.ev rfl)) rfl rfl (by decide) fun a199 hA200 => ?_; clear hA198 a154
    refine st hA200 (op_load1 rfl ty_24 (hA200.ev rfl) (hS145.bk 4 rfl) rfl) rfl rfl (by decide) fun a201 hA202 => ?_; clear hA200 a199
    refine st hA202 (op_loadA rfl ty_62 (hA202.ev rfl) (hS145.bk 1 rfl) (l := [(Value.int .i64 (d.tols.getD k2 0)), (vs125 12)]) rfl rfl) rfl rfl (by decide) fun a203 hA204 => ?_; clear hA202 a201
    refine stw hA204 (op_buildSlice hS145 rfl (pv1 (hA204.ev rfl)) un_24 ty_62 ze_62 (by decide) (cs := [(Value.int .i64 (d.tols.getD k2 0)), (vs125 12)]) (bs_62_1_0iva _ _)) rfl rfl (by decide) ?_
    rintro a205 _ w207 ⟨b208, rfl, hS209⟩ hA206; clear hA204 hS145 a203
    refine stw hA206 (op_append hS209 rfl un_24 el_62 (hA206.ev rfl) (hA206.ev rfl) (i := 4) rfl (SlAt.of_blk (hS209.bk 0 rfl) rfl (Nat.le_of_ble_eq_true rfl)) (all_c rfl (all_c (SlAt.one (SlAt.of_row (hS209.ok_row 1 rfl))) all_n)) (by simp only [maxLen]; omega) (by omega)) rfl rfl (by decide) ?_
    intro a210 v213 w212 hS214 hA211
    have hS215 := hS214.row_say (i := 4) rfl (n' := ((d.tols.take k2).length + 1)) (xs' := (vpairs (((d.tols.take k2).zip lv_) ++ [(d.tols.getD k2 0, (vs125 12))]))) rfl (by simp [vpairs]); clear hS214 hA206 hS209 a205
    refine st hA211 (op_field rfl fd_26_3 (hA211.ev rfl)) rfl rfl (by decide) fun a216 hA217 => ?_; clear hA211 a210
    refine sts hA217 (op_store hS215 rfl ty_24 (hA217.ev rfl) (hA217.ev rfl) (i := 5) rfl (vs := [v213]) (isSl_cells (SlAt.isSl (SlAt.of_row (hS215.ok_row 4 rfl)))) rfl (all_c (SlAt.one (SlAt.of_row (hS215.ok_row 4 rfl))) all_n) (Nat.le_of_ble_eq_true rfl)) rfl rfl ?_
    intro _ w218 hS219 hA220; clear hA217
    have hS221 : Sep NoB w w218 [(blk b208 62 [(Value.int .i64 (d.tols.getD k2 0)), (vs125 12)]), (row (vs125 12) 3 1 ((apUpto d i0 k2 j2).length) (ints (apUpto d i0 k2 j2))), (blk b14_ 62 [(Value.int .i64 (d.tols.getD k2 0)), (vs125 12)]), (lstR lv_ ((List.range k2).map fun q => apUpto d i0 q d.samples.length)), (row v213 62 2 ((d.tols.take k2).length + 1) (vpairs (((d.tols.take k2).zip lv_) ++ [(d.tols.getD k2 0, (vs125 12))]))), (blk b92 26 [rl, rs, (Value.int .i64 d.spread), v213]), (row v50 3 1 ((chosenF d.tols.length x).length) (ints (chosenF d.tols.length x))), (rndR true vl36 vs37 vb38 lv39 d), (row v27 3 1 ((chosenF d.tols.length x).length) (ints (chosenF d.tols.length x))), (blk b4 26 [rl, rs, (Value.int .i64 d.spread), rb]), (rndR false rl rs rb rlv d)] := hS219; clear hS219 hS215
    refine wl_nil ?_
    refine blk_n ?_
    refine then_n ?_
    have hA222 := hA220.as [(11, (Value.int .i64 (k2 : Int))), (10, (bptr b92 0)), (9, (Value.int .i64 (i0 : Int))), (8, (Value.bool (apAll d (offB d.tols.length x) i0))), (7, (Value.int .i64 0)), (6, (Value.bool (explB d (offB d.tols.length x)))), (5, v27), (2, (bptr b4 0))] rfl; clear hA220
    refine c_region ?_
    refine st hA222 (op_move rfl (hA222.ev rfl)) rfl rfl (by decide) fun a223 hA224 => ?_; clear hA222 a216
    refine st hA224 (op_add rfl (hA224.ev rfl) (evc _ _) (by omega) (by omega)) rfl rfl (by decide) fun a225 hA226 => ?_; clear hA224 a223
    refine st hA226 (op_assign rfl (hA226.ev rfl)) rfl rfl (by decide) fun a227 hA228 => ?_; clear hA226 a225
    refine wl_nil ?_
    have hS229 : Sep NoB w w218 [(row (vs125 12) 3 1 ((apUpto d i0 k2 j2).length) (ints (apUpto d i0 k2 j2))), (lstR lv_ ((List.range k2).map fun q => apUpto d i0 q d.samples.length)), (blk b208 62 [(Value.int .i64 (d.tols.getD k2 0)), (vs125 12)]), (blk b14_ 62 [(Value.int .i64 (d.tols.getD k2 0)), (vs125 12)]), (row v213 62 2 ((d.tols.take k2).length + 1) (vpairs (((d.tols.take k2).zip lv_) ++ [(d.tols.getD k2 0, (vs125 12))]))), (blk b92 26 [rl, rs, (Value.int .i64 d.spread), v213]), (row v50 3 1 ((chosenF d.tols.length x).length) (ints (chosenF d.tols.length x))), (rndR true vl36 vs37 vb38 lv39 d), (row v27 3 1 ((chosenF d.tols.length x).length) (ints (chosenF d.tols.length x))), (blk b4 26 [rl, rs, (Value.int .i64 d.spread), rb]), (rndR false rl rs rb rlv d)] := hS221.keep [1, 3, 0, 2, 4, 5, 6, 7, 8, 9, 10] (by decide) _ rfl rfl; clear hS221
    have hS230 := hS229.lst_snoc; clear hS229
    have hS231 : Sep NoB w w218 [(lstR (lv_ ++ [(vs125 12)]) (((List.range k2).map fun q => apUpto d i0 q d.samples.length) ++ [(apUpto d i0 k2 j2)])), (row v213 62 2 ((d.tols.take k2).length + 1) (vpairs (((d.tols.take k2).zip lv_) ++ [(d.tols.getD k2 0, (vs125 12))]))), (blk b92 26 [rl, rs, (Value.int .i64 d.spread), v213]), (row v50 3 1 ((chosenF d.tols.length x).length) (ints (chosenF d.tols.length x))), (rndR true vl36 vs37 vb38 lv39 d), (row v27 3 1 ((chosenF d.tols.length x).length) (ints (chosenF d.tols.length x))), (blk b4 26 [rl, rs, (Value.int .i64 d.spread), rb]), (rndR false rl rs rb rlv d)] := hS230.keep [0, 3, 4, 5, 6, 7, 8, 9] (by decide) _ rfl rfl; clear hS230
    exact then_n ⟨k2 + 1, ⟨v213, (lv_ ++ [(vs125 12)]), hA228.as _ rfl, ((hS231.row_say (i := 1) rfl (by rw [take_snocL d.tols _ 0 (by omega)]; simp) (by rw [take_snocL d.tols _ 0 (by omega), zip_snoc (by omega)])).lst_say (i := 0) rfl (by rw [map_range_succ, show d.samples.length = j2 by omega])), by omega⟩, by omega⟩
  ·skip
   rw [decide_eq_false hb123] at hA122
   have hS232 := (hS112.row_say (i := 1) rfl (n' := d.tols.length) (xs' := vpairs (d.tols.zip lv_)) (by rw [show k2 = d.tols.length by omega, List.take_length]) (by rw [show k2 = d.tols.length by omega, List.take_length])).lst_say (i := 0) rfl (ls' := (apartD d i0).rds) (by rw [show k2 = d.tols.length by omega]; rfl); clear hS112
   have hll := hS232.lst_len 0 rfl; have hrl9 : (apartD d i0).rds.length = d.tols.length := apart_rdl
   refine c_false hA122 rfl ?_
   refine c_exit ?_
   refine then_exit ?_
   refine then_exit ?_
   refine blk_hit ?_
   refine then_n ?_
   refine c_seq ?_
   have hA233 := hA122.as [(10, (bptr b92 0)), (9, (Value.int .i64 (i0 : Int))), (8, (Value.bool (apAll d (offB d.tols.length x) i0))), (7, (Value.int .i64 0)), (6, (Value.bool (explB d (offB d.tols.length x)))), (5, v27), (2, (bptr b4 0))] rfl; clear hA122
   refine c_region ?_
   refine st hA233 (op_loadA rfl ty_26 (hA233.ev rfl) (hS232.bk 2 rfl) (l := [rl, rs, (Value.int .i64 d.spread), vb_]) rfl rfl) rfl rfl (by decide) fun a234 hA235 => ?_; clear hA233 a121
   refine stw hA235 (op_call rfl en_20 (ev1 (hA235.ev rfl)) (Round_ok rl rs vb_ lv_ (apartD d i0) _ (show RoundAt _ rl rs vb_ lv_ (apartD d i0) from ⟨(rnd_at (hS232.ok 7 _ rfl)).lots, (rnd_at (hS232.ok 7 _ rfl)).samples, SlAt.of_row (hS232.ok_row 1 rfl), (hS232.lst_at 0 rfl).2, hll.trans hrl9, hrl9⟩) (apart_thin hV))) rfl rfl (by decide) ?_
   rintro a236 _ w238 ⟨vl239, vs240, vb241, lv242, rfl, hT243⟩ hA237; have hS244 := hS232.callS hT243 rfl; clear hT243 hA235 hS232 a234
   refine st hA237 (op_move rfl (hA237.ev rfl)) rfl rfl (by decide) fun a245 hA246 => ?_; clear hA237 a236
   refine stw hA246 (op_call rfl en_22 (ev1 (hA246.ev rfl)) (list_ok (chosenF d.tols.length x) _ _ (SlAt.of_row (hS244.ok_row 6 rfl)) (Nat.le_trans (chosenF_len _ _) (by omega)))) rfl rfl (by decide) ?_
   rintro a247 v253 w249 ⟨hE250, hO251⟩ hA248; have hS252 := hS244.new_row hE250 hO251; clear hE250 hO251 hA246 hS244 a245
   refine stw hA248 (op_call rfl en_21 (ev2 (hA248.ev rfl) (hA248.ev rfl)) (by have h := (explains_ok vl239 vs240 vb241 lv242 (apartD d i0) _ (rnd_at (hS252.ok 1 _ rfl)) _ (chosenF d.tols.length x) (SlAt.of_row (hS252.ok_row 0 rfl)) (Nat.le_trans (chosenF_len _ _) (by omega))); rw [(show explainsF (apartD d i0) (chosenF d.tols.length x) = (explB (apartD d i0) (offB d.tols.length x), 0) from chosen_explains (d := (apartD d i0)) (apart_check hV) x)] at h; exact h)) rfl rfl (by decide) ?_
   rintro a254 _ w256 ⟨rfl, hE257⟩ hA255; have hS258 := hS252.step hE257; clear hE257 hA248 hS252 a247
   refine st hA255 (op_move rfl (hA255.ev rfl)) rfl rfl (by decide) fun a259 hA260 => ?_; clear hA255 a254
   refine st hA260 (op_extract rfl (hA260.ev rfl) rfl) rfl rfl (by decide) fun a261 hA262 => ?_; clear hA260 a259
   refine st hA262 (op_extract rfl (hA262.ev rfl) rfl) rfl rfl (by decide) fun a263 hA264 => ?_; clear hA262 a261
   refine st hA264 (op_assign rfl (hA264.ev rfl)) rfl rfl (by decide) fun a265 hA266 => ?_; clear hA264 a263
   refine st hA266 (op_assign rfl (hA266.ev rfl)) rfl rfl (by decide) fun a267 hA268 => ?_; clear hA266 a265
   refine wl_nil ?_
   refine then_n ?_
   refine c_seq ?_
   refine c_seq ?_
   have hA269 := hA268.as [(15, (Value.int .i64 0)), (14, (Value.bool (explB (apartD d i0) (offB d.tols.length x)))), (9, (Value.int .i64 (i0 : Int))), (8, (Value.bool (apAll d (offB d.tols.length x) i0))), (7, (Value.int .i64 0)), (6, (Value.bool (explB d (offB d.tols.length x)))), (5, v27), (2, (bptr b4 0))] rfl; clear hA268
   refine c_region ?_
   refine st hA269 (op_move rfl (hA269.ev rfl)) rfl rfl (by decide) fun a270 hA271 => ?_; clear hA269 a267
   refine st hA271 (op_neq rfl (hA271.ev rfl) (evc _ _)) rfl rfl (by decide) fun a272 hA273 => ?_; clear hA271 a270
   refine wl_nil ?_
   refine then_n ?_
   refine c_false hA273 rfl ?_
   refine c_skip ?_
   refine then_n ?_
   refine c_region ?_
   refine st hA273 (op_move rfl (hA273.ev rfl)) rfl rfl (by decide) fun a274 hA275 => ?_; clear hA273 a272
   refine st hA275 (op_move rfl (hA275.ev rfl)) rfl rfl (by decide) fun a276 hA277 => ?_; clear hA275 a274
   rcases Bool.eq_false_or_eq_true ((apAll d (offB d.tols.length x) i0)) with hb278 | hb278
   ·skip
    rw [hb278] at hA277
    refine stg hA277 (op_move rfl (hA277.ev rfl)) rfl rfl rfl rfl (by decide) fun a279 hA280 => ?_; clear hA277 a276
    refine st hA280 (op_pick_t rfl (hA280.ev rfl) (hA280.ev rfl)) rfl rfl (by decide) fun a281 hA282 => ?_; clear hA280 a279
    refine st hA282 (op_assign rfl (hA282.ev rfl)) rfl rfl (by decide) fun a283 hA284 => ?_; clear hA282 a281
    refine wl_nil ?_
    refine blk_n ?_
    refine then_n ?_
    have hA285 := hA284.as [(8, (Value.bool (explB (apartD d i0) (offB d.tols.length x)))), (9, (Value.int .i64 (i0 : Int))), (7, (Value.int .i64 0)), (6, (Value.bool (explB d (offB d.tols.length x)))), (5, v27), (2, (bptr b4 0))] rfl; clear hA284
    refine c_region ?_
    refine st hA285 (op_move rfl (hA285.ev rfl)) rfl rfl (by decide) fun a286 hA287 => ?_; clear hA285 a283
    refine st hA287 (op_add rfl (hA287.ev rfl) (evc _ _) (by omega) (by omega)) rfl rfl (by decide) fun a288 hA289 => ?_; clear hA287 a286
    refine st hA289 (op_assign rfl (hA289.ev rfl)) rfl rfl (by decide) fun a290 hA291 => ?_; clear hA289 a288
    refine wl_nil ?_
    have hS292 : Sep NoB w w256 [(row v50 3 1 ((chosenF d.tols.length x).length) (ints (chosenF d.tols.length x))), (rndR true vl36 vs37 vb38 lv39 d), (row v27 3 1 ((chosenF d.tols.length x).length) (ints (chosenF d.tols.length x))), (blk b4 26 [rl, rs, (Value.int .i64 d.spread), rb]), (rndR false rl rs rb rlv d)] := hS258.keep [5, 6, 7, 8, 9] (by decide) _ rfl rfl; clear hS258
    exact then_n ⟨i0 + 1, ⟨hA291.as _ (by simp [pickSlots, List.lookup, apAll_succ, *]), hS292, by omega⟩, by omega⟩
   ·skip
    rw [hb278] at hA277
    refine skp hA277 rfl rfl rfl rfl rfl (by decide) fun a293 hA294 => ?_; clear hA277 a276
    refine st hA294 (op_pick_f rfl (hA294.ev rfl) (evc _ _)) rfl rfl (by decide) fun a295 hA296 => ?_; clear hA294 a293
    refine st hA296 (op_assign rfl (hA296.ev rfl)) rfl rfl (by decide) fun a297 hA298 => ?_; clear hA296 a295
    refine wl_nil ?_
    refine blk_n ?_
    refine then_n ?_
    have hA299 := hA298.as [(8, (Value.bool false)), (9, (Value.int .i64 (i0 : Int))), (7, (Value.int .i64 0)), (6, (Value.bool (explB d (offB d.tols.length x)))), (5, v27), (2, (bptr b4 0))] rfl; clear hA298
    refine c_region ?_
    refine st hA299 (op_move rfl (hA299.ev rfl)) rfl rfl (by decide) fun a300 hA301 => ?_; clear hA299 a297
    refine st hA301 (op_add rfl (hA301.ev rfl) (evc _ _) (by omega) (by omega)) rfl rfl (by decide) fun a302 hA303 => ?_; clear hA301 a300
    refine st hA303 (op_assign rfl (hA303.ev rfl)) rfl rfl (by decide) fun a304 hA305 => ?_; clear hA303 a302
    refine wl_nil ?_
    have hS306 : Sep NoB w w256 [(row v50 3 1 ((chosenF d.tols.length x).length) (ints (chosenF d.tols.length x))), (rndR true vl36 vs37 vb38 lv39 d), (row v27 3 1 ((chosenF d.tols.length x).length) (ints (chosenF d.tols.length x))), (blk b4 26 [rl, rs, (Value.int .i64 d.spread), rb]), (rndR false rl rs rb rlv d)] := hS258.keep [5, 6, 7, 8, 9] (by decide) _ rfl rfl; clear hS258
    exact then_n ⟨i0 + 1, ⟨hA305.as _ (by simp [pickSlots, List.lookup, apAll_succ, *]), hS306, by omega⟩, by omega⟩
 ·skip
  rw [decide_eq_false hb86] at hA85
  have h9 : apAll d (offB d.tols.length x) i0 = explB d (offB d.tols.length x) := (by rw [show i0 = d.lots.length by omega]; exact (apart_all hV).symm)
  rw [h9] at hA85
  refine c_false hA85 rfl ?_
  refine c_exit ?_
  refine then_exit ?_
  refine then_exit ?_
  refine blk_hit ?_
  refine then_n ?_
  refine c_seq ?_
  have hA307 := hA85.as [(8, (Value.bool (explB d (offB d.tols.length x)))), (7, (Value.int .i64 0)), (6, (Value.bool (explB d (offB d.tols.length x))))] rfl; clear hA85
  refine c_region ?_
  refine st hA307 (op_move rfl (hA307.ev rfl)) rfl rfl (by decide) fun a308 hA309 => ?_; clear hA307 a84
  refine st hA309 (op_eql rfl (hA309.ev rfl) (evc _ _)) rfl rfl (by decide) fun a310 hA311 => ?_; clear hA309 a308
  refine st hA311 (op_move rfl (hA311.ev rfl)) rfl rfl (by decide) fun a312 hA313 => ?_; clear hA311 a310
  refine stg hA313 (op_move rfl (hA313.ev rfl)) rfl rfl rfl rfl (by decide) fun a314 hA315 => ?_; clear hA313 a312
  refine stg hA315 (op_move rfl (hA315.ev rfl)) rfl rfl rfl rfl (by decide) fun a316 hA317 => ?_; clear hA315 a314
  refine stg hA317 (op_eqlB un_4 rfl (hA317.ev rfl) (hA317.ev rfl)) rfl rfl rfl rfl (by decide) fun a318 hA319 => ?_; clear hA317 a316
  refine st hA319 (op_pick_t rfl (hA319.ev rfl) (hA319.ev rfl)) rfl rfl (by decide) fun a320 hA321 => ?_; clear hA319 a318
  refine st hA321 (op_move rfl (hA321.ev rfl)) rfl rfl (by decide) fun a322 hA323 => ?_; clear hA321 a320
  rcases Bool.eq_false_or_eq_true ((explB d (offB d.tols.length x))) with hb324 | hb324
  ·skip
   rw [hb324] at hA323
   refine stwg hA323 (op_call rfl en_18 ev0 (wakes_ok _)) rfl rfl rfl rfl (by decide) ?_
   rintro a325 _ w327 ⟨rfl, hE328⟩ hA326; have hS329 := hS75.step hE328; clear hE328 hA323 hS75 a322
   refine st hA326 (op_pick_t rfl (hA326.ev rfl) (hA326.ev rfl)) rfl rfl (by decide) fun a330 hA331 => ?_; clear hA326 a325
   refine st hA331 (op_assign rfl (hA331.ev rfl)) rfl rfl (by decide) fun a332 hA333 => ?_; clear hA331 a330
   refine wl_nil ?_
   refine then_n ?_
   refine c_ret ?_
   refine fin_run hA333 (.inl rfl) (run_results1 hA333 rfl (.tmp rfl)) ?_
   exact ⟨rfl, hS329.ext⟩
  ·skip
   rw [hb324] at hA323
   refine stwg hA323 (op_call rfl en_18 ev0 (wakes_ok _)) rfl rfl rfl rfl (by decide) ?_
   rintro a334 _ w336 ⟨rfl, hE337⟩ hA335; have hS338 := hS75.step hE337; clear hE337 hA323 hS75 a322
   refine st hA335 (op_pick_t rfl (hA335.ev rfl) (hA335.ev rfl)) rfl rfl (by decide) fun a339 hA340 => ?_; clear hA335 a334
   refine st hA340 (op_assign rfl (hA340.ev rfl)) rfl rfl (by decide) fun a341 hA342 => ?_; clear hA340 a339
   refine wl_nil ?_
   refine then_n ?_
   refine c_ret ?_
   refine fin_run hA342 (.inl rfl) (run_results1 hA342 rfl (.tmp rfl)) ?_
   exact ⟨rfl, hS338.ext⟩

theorem RoundApart_ok (rl rs rb : Value) (rlv : List Value) (d : RD) (w : World) (hR : RoundAt w rl rs rb rlv d) (n1 : Int) (h1 : 0 ≤ n1 ∧ n1 ≤ 255) : Calls Try.prog 10 #[.agg #[rl, rs, .int .i64 d.spread, rb], .int .u8 n1] w (Ret fun v w' => v = .bool true ∧ Ext NoB w w') := by
 obtain ⟨x, rfl⟩ : ∃ x : Nat, n1 = (x : Int) := ⟨n1.toNat, by omega⟩
 rcases Bool.eq_false_or_eq_true (readyB d) with hf | hf
 ·exact RoundApart_b rl rs rb rlv d w hR x (by omega) hf
 ·exact RoundApart_a rl rs rb rlv d w hR x (by omega) hf

end Go.Proofs.Ytfhmigoddaaljaa
