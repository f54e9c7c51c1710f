/-
  Walks through the functions of the seat, printed by a program of ours (gowalk), a theorem a function: what the call returns and what it leaves in memory.
-/
import Derived.Test.YtfhmigoddaaljaaFe
set_option linter.unusedSimpArgs false
set_option linter.unusedVariables false
namespace Go.Proofs.Ytfhmigoddaaljaa
open Go.RowKit Go.Shelf Go.Eng
theorem Agrees_ok (rl rs rb : Value) (rlv : List Value) (d : RD) (w : World) (hR : RoundAt w rl rs rb rlv d) (xl : Value) (l : List Int) (hx : SlAt w xl 1 l.length (ints l)) (hlen : l.length ≤ 1000000) (lab sh : Int) (hV : Valid d) (hsh : -5000 ≤ sh ∧ sh ≤ 5000) (i : Nat) (x : Int) (hi : i < d.samples.length) (hxb : -10000 ≤ x ∧ x ≤ 10000) :
  Calls Try.prog 56 #[(Value.agg #[rl, rs, (Value.int .i64 d.spread), rb]), xl, (Value.int .i64 lab), (Value.int .i64 sh), (Value.int .i64 (i : Int)), (Value.int .i64 x)] w (Ret fun v w' => v = .bool (agB d l lab sh i x) ∧ Ext NoB w w') := by
 refine calls_enter Try.func56 rfl fun a0 hA0 => ?_
 replace hA0 : Fr 63 [] [(0, (Value.agg #[rl, rs, (Value.int .i64 d.spread), rb])), (1, xl), (2, (Value.int .i64 lab)), (3, (Value.int .i64 sh)), (4, (Value.int .i64 (i : Int))), (5, (Value.int .i64 x))] a0 := hA0
 have hS0 : Sep NoB w w [(sl xl 1 l.length (ints l)), (rndR false rl rs rb rlv d)] := sep_ro ⟨rfl, hx, rfl, hR, trivial⟩
 refine c_seq ?_
 refine c_region ?_
 refine stw hA0 (op_box hS0 rfl (hA0.ev rfl) (cs := [rl, rs, (Value.int .i64 d.spread), rb]) rfl) rfl rfl (by decide) ?_
 rintro a1 _ w3 ⟨b4, rfl, hS5⟩ hA2; clear hA0 hS0 a0
 refine st hA2 (op_assign rfl (evc _ _)) rfl rfl (by decide) fun a6 hA7 => ?_; clear hA2 a1
 refine wl_nil ?_
 refine then_n ?_
 refine c_seq ?_
 refine c_seq ?_
 refine c_region ?_
 refine st hA7 (op_assign rfl (evc _ _)) rfl rfl (by decide) fun a8 hA9 => ?_; clear hA7 a6
 refine wl_nil ?_
 refine then_n ?_
 refine c_block ?_
 have hA10 := hA9.as [(13, (Value.int .i64 0)), (6, (bptr b4 0)), (1, xl), (2, (Value.int .i64 lab)), (3, (Value.int .i64 sh)), (4, (Value.int .i64 (i : Int))), (5, (Value.int .i64 x))] rfl; clear hA9
 refine c_loop (G := Nat) (fun (k : Nat) a_ w_ => Fr 63 [] [(13, (Value.int .i64 (k : Int))), (6, (bptr b4 0)), (1, xl), (2, (Value.int .i64 lab)), (3, (Value.int .i64 sh)), (4, (Value.int .i64 (i : Int))), (5, (Value.int .i64 x))] a_ ∧ Sep NoB w w_ [(blk b4 26 [rl, rs, (Value.int .i64 d.spread), rb]), (sl xl 1 l.length (ints l)), (rndR false rl rs rb rlv d)] ∧ (k ≤ d.tols.length) ∧ (∀ q, q < k → agAt d l lab sh i x q = true)) (fun k => d.tols.length - k) 0 ⟨hA10.as _ rfl, hS5, by omega, (fun _ h => absurd h (Nat.not_lt_zero _))⟩ ?_
 clear hA10 hS5 a8
 rintro k a11 w13 ⟨hA12, hS14, hkk, hag⟩
 refine c_seq ?_
 refine c_seq ?_
 refine c_region ?_
 refine st hA12 (op_move rfl (hA12.ev rfl)) rfl rfl (by decide) fun a15 hA16 => ?_; clear hA12 a11
 refine st hA16 (op_field rfl fd_26_3 (hA16.ev rfl)) rfl rfl (by decide) fun a17 hA18 => ?_; clear hA16 a15
 refine st hA18 (op_load1 rfl ty_24 (hA18.ev rfl) (hS14.bk 0 rfl) rfl) rfl rfl (by decide) fun a19 hA20 => ?_; clear hA18 a17
 refine st hA20 (op_lenS rfl un_24 (hA20.ev rfl) (rnd_at (hS14.ok 2 _ rfl)).labs) rfl rfl (by decide) fun a21 hA22 => ?_; clear hA20 a19
 refine st hA22 (op_lss rfl (hA22.ev rfl) (hA22.ev rfl)) rfl rfl (by decide) fun a23 hA24 => ?_; clear hA22 a21
 refine wl_nil ?_
 refine then_n ?_
 by_cases hb25 : (k : Int) < (d.tols.length : Int)
 ·skip
  rw [decide_eq_true hb25] at hA24
  have hrd := hV.rds k (by omega) i hi; have htl := hV.tols k (by omega); have hrl := hV.rdl k (by omega); have hnb := hV.nb
  refine c_true hA24 rfl ?_
  refine c_skip ?_
  refine then_n ?_
  refine c_seq ?_
  refine c_block ?_
  refine c_seq ?_
  refine c_region ?_
  refine st hA24 (op_field rfl fd_26_3 (hA24.ev rfl)) rfl rfl (by decide) fun a26 hA27 => ?_; clear hA24 a23
  refine st hA27 (op_load1 rfl ty_24 (hA27.ev rfl) (hS14.bk 0 rfl) rfl) rfl rfl (by decide) fun a28 hA29 => ?_; clear hA27 a26
  refine st hA29 (op_move rfl (hA29.ev rfl)) rfl rfl (by decide) fun a30 hA31 => ?_; clear hA29 a28
  refine st hA31 (op_indexS rfl un_24 ty_62 (hA31.ev rfl) (i := k) (hA31.ev rfl) (rnd_at (hS14.ok 2 _ rfl)).labs (by decide) (by omega)) rfl rfl (by decide) fun a32 hA33 => ?_; clear hA31 a30
  refine st hA33 (op_fieldS rfl fd_62_1 (hA33.ev rfl) (rnd_at (hS14.ok 2 _ rfl)).labs (by rw [((rnd_at (hS14.ok 2 _ rfl)).labs).1]; omega)) rfl rfl (by decide) fun a34 hA35 => ?_; clear hA33 a32
  refine st hA35 (op_load1E rfl ty_23 (hA35.ev rfl) (rnd_at (hS14.ok 2 _ rfl)).labs (labs_at1 (rnd_at (hS14.ok 2 _ rfl)).lvl (by omega))) rfl rfl (by decide) fun a36 hA37 => ?_; clear hA35 a34
  refine st hA37 (op_move rfl (hA37.ev rfl)) rfl rfl (by decide) fun a38 hA39 => ?_; clear hA37 a36
  refine st hA39 (op_indexS rfl un_23 ty_3 (hA39.ev rfl) (i := i) (hA39.ev rfl) ((rnd_at (hS14.ok 2 _ rfl)).rds k (by rw [(rnd_at (hS14.ok 2 _ rfl)).rdl]; omega)) (by decide) (by omega)) rfl rfl (by decide) fun a40 hA41 => ?_; clear hA39 a38
  refine st hA41 (op_load1E rfl ty_3 (hA41.ev rfl) ((rnd_at (hS14.ok 2 _ rfl)).rds k (by rw [(rnd_at (hS14.ok 2 _ rfl)).rdl]; omega)) (ints_at (by omega))) rfl rfl (by decide) fun a42 hA43 => ?_; clear hA41 a40
  refine st hA43 (op_assign rfl (hA43.ev rfl)) rfl rfl (by decide) fun a44 hA45 => ?_; clear hA43 a42
  refine wl_nil ?_
  refine then_n ?_
  refine c_seq ?_
  refine c_seq ?_
  have hA46 := hA45.as [(14, (Value.int .i64 ((d.rds.getD k []).getD i 0))), (13, (Value.int .i64 (k : Int))), (6, (bptr b4 0)), (1, xl), (2, (Value.int .i64 lab)), (3, (Value.int .i64 sh)), (4, (Value.int .i64 (i : Int))), (5, (Value.int .i64 x))] rfl; clear hA45
  refine c_region ?_
  refine st hA46 (op_move rfl (hA46.ev rfl)) rfl rfl (by decide) fun a47 hA48 => ?_; clear hA46 a44
  refine st hA48 (op_lss rfl (hA48.ev rfl) (evc _ _)) rfl rfl (by decide) fun a49 hA50 => ?_; clear hA48 a47
  refine st hA50 (op_move rfl (hA50.ev rfl)) rfl rfl (by decide) fun a51 hA52 => ?_; clear hA50 a49
  by_cases hb53 : ((d.rds.getD k []).getD i 0) < 0
  ·skip
   rw [decide_eq_true hb53] at hA52
   refine skp hA52 rfl rfl rfl rfl rfl (by decide) fun a54 hA55 => ?_; clear hA52 a51
   refine skp hA55 rfl rfl rfl rfl rfl (by decide) fun a56 hA57 => ?_; clear hA55 a54
   refine skp hA57 rfl rfl rfl rfl rfl (by decide) fun a58 hA59 => ?_; clear hA57 a56
   refine st hA59 (op_pick_t rfl (hA59.ev rfl) (evc _ _)) rfl rfl (by decide) fun a60 hA61 => ?_; clear hA59 a58
   refine wl_nil ?_
   refine then_n ?_
   refine c_true hA61 rfl ?_
   refine c_exit ?_
   refine then_exit ?_
   refine blk_hit ?_
   refine then_n ?_
   have hA62 := hA61.as [(13, (Value.int .i64 (k : Int))), (6, (bptr b4 0)), (1, xl), (2, (Value.int .i64 lab)), (3, (Value.int .i64 sh)), (4, (Value.int .i64 (i : Int))), (5, (Value.int .i64 x))] rfl; clear hA61
   refine c_region ?_
   refine st hA62 (op_move rfl (hA62.ev rfl)) rfl rfl (by decide) fun a63 hA64 => ?_; clear hA62 a60
   refine st hA64 (op_add rfl (hA64.ev rfl) (evc _ _) (by omega) (by omega)) rfl rfl (by decide) fun a65 hA66 => ?_; clear hA64 a63
   refine st hA66 (op_assign rfl (hA66.ev rfl)) rfl rfl (by decide) fun a67 hA68 => ?_; clear hA66 a65
   refine wl_nil ?_
   exact then_n ⟨k + 1, ⟨hA68.as _ rfl, hS14, by omega, (fun q hi => by rcases Nat.lt_succ_iff_lt_or_eq.1 hi with h | h; exact hag q h; subst h; first | exact agAt_y1 (by assumption) | exact agAt_y2 (by assumption) | exact agAt_y3 (by rw [shOf_y (by assumption)]; omega) | exact agAt_y3 (by rw [shOf_n (by assumption)]; omega))⟩, by omega⟩
  ·skip
   rw [decide_eq_false hb53] at hA52
   refine stg hA52 (op_move rfl (hA52.ev rfl)) rfl rfl rfl rfl (by decide) fun a69 hA70 => ?_; clear hA52 a51
   refine stg hA70 (op_move rfl (hA70.ev rfl)) rfl rfl rfl rfl (by decide) fun a71 hA72 => ?_; clear hA70 a69
   refine stwg hA72 (op_call rfl en_39 (ev2 (hA72.ev rfl) (hA72.ev rfl)) (Has_ok _ l (k : Int) _ (hS14.sk 1 rfl) (by omega))) rfl rfl rfl rfl (by decide) ?_
   rintro a73 _ w75 ⟨rfl, hE76⟩ hA74; have hS77 := hS14.step hE76; clear hE76 hA72 hS14 a71
   refine st hA74 (op_pick_f rfl (hA74.ev rfl) (hA74.ev rfl)) rfl rfl (by decide) fun a78 hA79 => ?_; clear hA74 a73
   refine wl_nil ?_
   refine then_n ?_
   rcases Bool.eq_false_or_eq_true ((hasB l (k : Int))) with hb80 | hb80
   ·skip
    rw [hb80] at hA79
    refine c_true hA79 rfl ?_
    refine c_exit ?_
    refine then_exit ?_
    refine blk_hit ?_
    refine then_n ?_
    have hA81 := hA79.as [(13, (Value.int .i64 (k : Int))), (6, (bptr b4 0)), (1, xl), (2, (Value.int .i64 lab)), (3, (Value.int .i64 sh)), (4, (Value.int .i64 (i : Int))), (5, (Value.int .i64 x))] rfl; clear hA79
    refine c_region ?_
    refine st hA81 (op_move rfl (hA81.ev rfl)) rfl rfl (by decide) fun a82 hA83 => ?_; clear hA81 a78
    refine st hA83 (op_add rfl (hA83.ev rfl) (evc _ _) (by omega) (by omega)) rfl rfl (by decide) fun a84 hA85 => ?_; clear hA83 a82
    refine st hA85 (op_assign rfl (hA85.ev rfl)) rfl rfl (by decide) fun a86 hA87 => ?_; clear hA85 a84
    refine wl_nil ?_
    exact then_n ⟨k + 1, ⟨hA87.as _ rfl, hS77, by omega, (fun q hi => by rcases Nat.lt_succ_iff_lt_or_eq.1 hi with h | h; exact hag q h; subst h; first | exact agAt_y1 (by assumption) | exact agAt_y2 (by assumption) | exact agAt_y3 (by rw [shOf_y (by assumption)]; omega) | exact agAt_y3 (by rw [shOf_n (by assumption)]; omega))⟩, by omega⟩
   ·skip
    rw [hb80] at hA79
    refine c_false hA79 rfl ?_
    refine c_skip ?_
    refine then_n ?_
    refine c_seq ?_
    refine c_seq ?_
    have hA88 := hA79.as [(14, (Value.int .i64 ((d.rds.getD k []).getD i 0))), (13, (Value.int .i64 (k : Int))), (6, (bptr b4 0)), (1, xl), (2, (Value.int .i64 lab)), (3, (Value.int .i64 sh)), (4, (Value.int .i64 (i : Int))), (5, (Value.int .i64 x))] rfl; clear hA79
    refine c_region ?_
    refine st hA88 (op_move rfl (hA88.ev rfl)) rfl rfl (by decide) fun a89 hA90 => ?_; clear hA88 a78
    refine st hA90 (op_move rfl (hA90.ev rfl)) rfl rfl (by decide) fun a91 hA92 => ?_; clear hA90 a89
    refine st hA92 (op_eql rfl (hA92.ev rfl) (hA92.ev rfl)) rfl rfl (by decide) fun a93 hA94 => ?_; clear hA92 a91
    refine wl_nil ?_
    refine then_n ?_
    by_cases hb95 : (k : Int) = lab
    ·skip
     rw [decide_eq_true hb95] at hA94
     refine c_true hA94 rfl ?_
     refine c_region ?_
     refine st hA94 (op_move rfl (hA94.ev rfl)) rfl rfl (by decide) fun a96 hA97 => ?_; clear hA94 a93
     refine st hA97 (op_move rfl (hA97.ev rfl)) rfl rfl (by decide) fun a98 hA99 => ?_; clear hA97 a96
     refine st hA99 (op_sub rfl (hA99.ev rfl) (hA99.ev rfl) (by omega) (by omega)) rfl rfl (by decide) fun a100 hA101 => ?_; clear hA99 a98
     refine st hA101 (op_assign rfl (hA101.ev rfl)) rfl rfl (by decide) fun a102 hA103 => ?_; clear hA101 a100
     refine wl_nil ?_
     refine then_n ?_
     refine c_seq ?_
     have hA104 := hA103.as [(14, (Value.int .i64 (((d.rds.getD k []).getD i 0) - sh))), (13, (Value.int .i64 (k : Int))), (6, (bptr b4 0)), (1, xl), (2, (Value.int .i64 lab)), (3, (Value.int .i64 sh)), (4, (Value.int .i64 (i : Int))), (5, (Value.int .i64 x))] rfl; clear hA103
     have hA105 := hA104.as [(14, (Value.int .i64 (((d.rds.getD k []).getD i 0) - sh))), (13, (Value.int .i64 (k : Int))), (6, (bptr b4 0)), (1, xl), (2, (Value.int .i64 lab)), (3, (Value.int .i64 sh)), (4, (Value.int .i64 (i : Int))), (5, (Value.int .i64 x))] rfl; clear hA104
     refine c_drawV mixed hA105 hS77 17 [[], [], [], [2], [], [3, 4], [5], [6], [1, 7], [], [], [10], [], [11, 12], [13], [14], [9, 15]] [(fun (vs106 : Nat → Value) (v_ : Value) (rs_ : List Res) => v_ = (Value.int .i64 x) ∧ rs_ = []), (fun (vs106 : Nat → Value) (v_ : Value) (rs_ : List Res) => v_ = (Value.int .i64 (((d.rds.getD k []).getD i 0) - sh)) ∧ rs_ = []), (fun (vs106 : Nat → Value) (v_ : Value) (rs_ : List Res) => v_ = (bptr b4 3) ∧ rs_ = []), (fun (vs106 : Nat → Value) (v_ : Value) (rs_ : List Res) => v_ = rb ∧ rs_ = []), (fun (vs106 : Nat → Value) (v_ : Value) (rs_ : List Res) => v_ = (Value.int .i64 (k : Int)) ∧ rs_ = []), (fun (vs106 : Nat → Value) (v_ : Value) (rs_ : List Res) => v_ = (eptr rb (k * 2)) ∧ rs_ = []), (fun (vs106 : Nat → Value) (v_ : Value) (rs_ : List Res) => v_ = (eptr rb (k * 2 + 0)) ∧ rs_ = []), (fun (vs106 : Nat → Value) (v_ : Value) (rs_ : List Res) => v_ = (Value.int .i64 (d.tols.getD k 0)) ∧ rs_ = []), (fun (vs106 : Nat → Value) (v_ : Value) (rs_ : List Res) => v_ = (Value.int .i64 ((((d.rds.getD k []).getD i 0) - sh) - (d.tols.getD k 0))) ∧ rs_ = []), (fun (vs106 : Nat → Value) (v_ : Value) (rs_ : List Res) => v_ = (Value.int .i64 (((d.rds.getD k []).getD i 0) - sh)) ∧ rs_ = []), (fun (vs106 : Nat → Value) (v_ : Value) (rs_ : List Res) => v_ = (bptr b4 3) ∧ rs_ = []), (fun (vs106 : Nat → Value) (v_ : Value) (rs_ : List Res) => v_ = rb ∧ rs_ = []), (fun (vs106 : Nat → Value) (v_ : Value) (rs_ : List Res) => v_ = (Value.int .i64 (k : Int)) ∧ rs_ = []), (fun (vs106 : Nat → Value) (v_ : Value) (rs_ : List Res) => v_ = (eptr rb (k * 2)) ∧ rs_ = []), (fun (vs106 : Nat → Value) (v_ : Value) (rs_ : List Res) => v_ = (eptr rb (k * 2 + 0)) ∧ rs_ = []), (fun (vs106 : Nat → Value) (v_ : Value) (rs_ : List Res) => v_ = (Value.int .i64 (d.tols.getD k 0)) ∧ rs_ = []), (fun (vs106 : Nat → Value) (v_ : Value) (rs_ : List Res) => v_ = (Value.int .i64 ((((d.rds.getD k []).getD i 0) - sh) + (d.tols.getD k 0))) ∧ rs_ = [])] (by decide +kernel) (by decide +kernel) rfl rfl ⟨(fun _ _ _ _ _ h_ => h_), (fun _ _ _ _ _ h_ => h_), (fun _ _ _ _ _ h_ => h_), (fun _ _ _ _ _ h_ => h_), (fun _ _ _ _ _ h_ => h_), (fun _ _ _ _ _ h_ => h_), (fun _ _ _ _ _ h_ => h_), (fun _ _ _ _ _ h_ => h_), (fun _ _ _ _ _ h_ => h_), (fun _ _ _ _ _ h_ => h_), (fun _ _ _ _ _ h_ => h_), (fun _ _ _ _ _ h_ => h_), (fun _ _ _ _ _ h_ => h_), (fun _ _ _ _ _ h_ => h_), (fun _ _ _ _ _ h_ => h_), (fun _ _ _ _ _ h_ => h_), (fun _ _ _ _ _ h_ => h_), trivial⟩ ?_ ?_
     ·skip
      refine ⟨fun a w vs106 hA hS hd => ?_, ?_⟩
      ·skip
       exact opG_of rfl (vv (op_move rfl (hA.ev rfl)) (And.intro rfl rfl))
      refine ⟨fun a w vs106 hA hS hd => ?_, ?_⟩
      ·skip
       exact opG_of rfl (vv (op_move rfl (hA.ev rfl)) (And.intro rfl rfl))
      refine ⟨fun a w vs106 hA hS hd => ?_, ?_⟩
      ·skip
       exact opG_of rfl (vv (op_field rfl fd_26_3 (hA.ev rfl)) (And.intro rfl rfl))
      refine ⟨fun a w vs106 hA hS hd => ?_, ?_⟩
      ·skip
       obtain ⟨e2, rs2, hy2, hp2⟩ := hd 2 (by decide)
       obtain ⟨hv2, hr2⟩ := hy2; subst hr2
       rw [hv2] at e2
       exact opG_of rfl (vv (op_load1 rfl ty_24 (tmp_ev (slot_ev e2 rfl)) (hS.bk 0 rfl) rfl) (And.intro rfl rfl))
      refine ⟨fun a w vs106 hA hS hd => ?_, ?_⟩
      ·skip
       exact opG_of rfl (vv (op_move rfl (hA.ev rfl)) (And.intro rfl rfl))
      refine ⟨fun a w vs106 hA hS hd => ?_, ?_⟩
      ·skip
       obtain ⟨e3, rs3, hy3, hp3⟩ := hd 3 (by decide)
       obtain ⟨hv3, hr3⟩ := hy3; subst hr3
       rw [hv3] at e3
       obtain ⟨e4, rs4, hy4, hp4⟩ := hd 4 (by decide)
       obtain ⟨hv4, hr4⟩ := hy4; subst hr4
       rw [hv4] at e4
       exact opG_of rfl (vv (op_indexS rfl un_24 ty_62 (tmp_ev (slot_ev e3 rfl)) (i := k) (tmp_ev (slot_ev e4 rfl)) (rnd_at (hS.ok 2 _ rfl)).labs (by decide) (by omega)) (And.intro rfl rfl))
      refine ⟨fun a w vs106 hA hS hd => ?_, ?_⟩
      ·skip
       obtain ⟨e5, rs5, hy5, hp5⟩ := hd 5 (by decide)
       obtain ⟨hv5, hr5⟩ := hy5; subst hr5
       rw [hv5] at e5
       exact opG_of rfl (vv (op_fieldS rfl fd_62_0 (tmp_ev (slot_ev e5 rfl)) (rnd_at (hS.ok 2 _ rfl)).labs (by rw [((rnd_at (hS.ok 2 _ rfl)).labs).1]; omega)) (And.intro rfl rfl))
      refine ⟨fun a w vs106 hA hS hd => ?_, ?_⟩
      ·skip
       obtain ⟨e6, rs6, hy6, hp6⟩ := hd 6 (by decide)
       obtain ⟨hv6, hr6⟩ := hy6; subst hr6
       rw [hv6] at e6
       exact opG_of rfl (vv (op_load1E rfl ty_3 (tmp_ev (slot_ev e6 rfl)) (rnd_at (hS.ok 2 _ rfl)).labs (labs_at0 (rnd_at (hS.ok 2 _ rfl)).lvl (by omega))) (And.intro rfl rfl))
      refine ⟨fun a w vs106 hA hS hd => ?_, ?_⟩
      ·skip
       obtain ⟨e1, rs1, hy1, hp1⟩ := hd 1 (by decide)
       obtain ⟨hv1, hr1⟩ := hy1; subst hr1
       rw [hv1] at e1
       obtain ⟨e7, rs7, hy7, hp7⟩ := hd 7 (by decide)
       obtain ⟨hv7, hr7⟩ := hy7; subst hr7
       rw [hv7] at e7
       exact opG_of rfl (vv (op_sub rfl (tmp_ev (slot_ev e1 rfl)) (tmp_ev (slot_ev e7 rfl)) (by omega) (by omega)) (And.intro rfl rfl))
      refine ⟨fun a w vs106 hA hS hd => ?_, ?_⟩
      ·skip
       exact opG_of rfl (vv (op_move rfl (hA.ev rfl)) (And.intro rfl rfl))
      refine ⟨fun a w vs106 hA hS hd => ?_, ?_⟩
      ·skip
       exact opG_of rfl (vv (op_field rfl fd_26_3 (hA.ev rfl)) (And.intro rfl rfl))
      refine ⟨fun a w vs106 hA hS hd => ?_, ?_⟩
      ·skip
       obtain ⟨e10, rs10, hy10, hp10⟩ := hd 10 (by decide)
       obtain ⟨hv10, hr10⟩ := hy10; subst hr10
       rw [hv10] at e10
       exact opG_of rfl (vv (op_load1 rfl ty_24 (tmp_ev (slot_ev e10 rfl)) (hS.bk 0 rfl) rfl) (And.intro rfl rfl))
      refine ⟨fun a w vs106 hA hS hd => ?_, ?_⟩
      ·skip
       exact opG_of rfl (vv (op_move rfl (hA.ev rfl)) (And.intro rfl rfl))
      refine ⟨fun a w vs106 hA hS hd => ?_, ?_⟩
      ·skip
       obtain ⟨e11, rs11, hy11, hp11⟩ := hd 11 (by decide)
       obtain ⟨hv11, hr11⟩ := hy11; subst hr11
       rw [hv11] at e11
       obtain ⟨e12, rs12, hy12, hp12⟩ := hd 12 (by decide)
       obtain ⟨hv12, hr12⟩ := hy12; subst hr12
       rw [hv12] at e12
       exact opG_of rfl (vv (op_indexS rfl un_24 ty_62 (tmp_ev (slot_ev e11 rfl)) (i := k) (tmp_ev (slot_ev e12 rfl)) (rnd_at (hS.ok 2 _ rfl)).labs (by decide) (by omega)) (And.intro rfl rfl))
      refine ⟨fun a w vs106 hA hS hd => ?_, ?_⟩
      ·skip
       obtain ⟨e13, rs13, hy13, hp13⟩ := hd 13 (by decide)
       obtain ⟨hv13, hr13⟩ := hy13; subst hr13
       rw [hv13] at e13
       exact opG_of rfl (vv (op_fieldS rfl fd_62_0 (tmp_ev (slot_ev e13 rfl)) (rnd_at (hS.ok 2 _ rfl)).labs (by rw [((rnd_at (hS.ok 2 _ rfl)).labs).1]; omega)) (And.intro rfl rfl))
      refine ⟨fun a w vs106 hA hS hd => ?_, ?_⟩
      ·skip
       obtain ⟨e14, rs14, hy14, hp14⟩ := hd 14 (by decide)
       obtain ⟨hv14, hr14⟩ := hy14; subst hr14
       rw [hv14] at e14
       exact opG_of rfl (vv (op_load1E rfl ty_3 (tmp_ev (slot_ev e14 rfl)) (rnd_at (hS.ok 2 _ rfl)).labs (labs_at0 (rnd_at (hS.ok 2 _ rfl)).lvl (by omega))) (And.intro rfl rfl))
      refine ⟨fun a w vs106 hA hS hd => ?_, ?_⟩
      ·skip
       obtain ⟨e9, rs9, hy9, hp9⟩ := hd 9 (by decide)
       obtain ⟨hv9, hr9⟩ := hy9; subst hr9
       rw [hv9] at e9
       obtain ⟨e15, rs15, hy15, hp15⟩ := hd 15 (by decide)
       obtain ⟨hv15, hr15⟩ := hy15; subst hr15
       rw [hv15] at e15
       exact opG_of rfl (vv (op_add rfl (tmp_ev (slot_ev e9 rfl)) (tmp_ev (slot_ev e15 rfl)) (by omega) (by omega)) (And.intro rfl rfl))
      trivial
     intro a107 w108 vs106 rsf112 hA109 hH111 hS110; clear hA105 hS77
     obtain ⟨hs_0, hy_0⟩ := hH111 0 (by decide)
     obtain ⟨hv_0, hr_0⟩ := hy_0
     obtain ⟨hs_1, hy_1⟩ := hH111 1 (by decide)
     obtain ⟨hv_1, hr_1⟩ := hy_1
     obtain ⟨hs_2, hy_2⟩ := hH111 2 (by decide)
     obtain ⟨hv_2, hr_2⟩ := hy_2
     obtain ⟨hs_3, hy_3⟩ := hH111 3 (by decide)
     obtain ⟨hv_3, hr_3⟩ := hy_3
     obtain ⟨hs_4, hy_4⟩ := hH111 4 (by decide)
     obtain ⟨hv_4, hr_4⟩ := hy_4
     obtain ⟨hs_5, hy_5⟩ := hH111 5 (by decide)
     obtain ⟨hv_5, hr_5⟩ := hy_5
     obtain ⟨hs_6, hy_6⟩ := hH111 6 (by decide)
     obtain ⟨hv_6, hr_6⟩ := hy_6
     obtain ⟨hs_7, hy_7⟩ := hH111 7 (by decide)
     obtain ⟨hv_7, hr_7⟩ := hy_7
     obtain ⟨hs_8, hy_8⟩ := hH111 8 (by decide)
     obtain ⟨hv_8, hr_8⟩ := hy_8
     obtain ⟨hs_9, hy_9⟩ := hH111 9 (by decide)
     obtain ⟨hv_9, hr_9⟩ := hy_9
     obtain ⟨hs_10, hy_10⟩ := hH111 10 (by decide)
     obtain ⟨hv_10, hr_10⟩ := hy_10
     obtain ⟨hs_11, hy_11⟩ := hH111 11 (by decide)
     obtain ⟨hv_11, hr_11⟩ := hy_11
     obtain ⟨hs_12, hy_12⟩ := hH111 12 (by decide)
     obtain ⟨hv_12, hr_12⟩ := hy_12
     obtain ⟨hs_13, hy_13⟩ := hH111 13 (by decide)
     obtain ⟨hv_13, hr_13⟩ := hy_13
     obtain ⟨hs_14, hy_14⟩ := hH111 14 (by decide)
     obtain ⟨hv_14, hr_14⟩ := hy_14
     obtain ⟨hs_15, hy_15⟩ := hH111 15 (by decide)
     obtain ⟨hv_15, hr_15⟩ := hy_15
     obtain ⟨hs_16, hy_16⟩ := hH111 16 (by decide)
     obtain ⟨hv_16, hr_16⟩ := hy_16
     have hS113 : Sep NoB w w108 [(blk b4 26 [rl, rs, (Value.int .i64 d.spread), rb]), (sl xl 1 l.length (ints l)), (rndR false rl rs rb rlv d)] := by rw [show catR rsf112 0 17 = ([] : List Res) by (try simp only [catR, hr_0, hr_1, hr_2, hr_3, hr_4, hr_5, hr_6, hr_7, hr_8, hr_9, hr_10, hr_11, hr_12, hr_13, hr_14, hr_15, hr_16]); (try rfl)] at hS110; exact hS110
     rw [hv_0] at hs_0
     have hA114 : Fr 63 [] [(44, (Value.int .i64 x)), (14, (Value.int .i64 (((d.rds.getD k []).getD i 0) - sh))), (13, (Value.int .i64 (k : Int))), (6, (bptr b4 0)), (1, xl), (2, (Value.int .i64 lab)), (3, (Value.int .i64 sh)), (4, (Value.int .i64 (i : Int))), (5, (Value.int .i64 x))] a107 := hA109.add (slot_ev hs_0 rfl); clear hA109
     rw [hv_8] at hs_8
     have hA115 : Fr 63 [] [(52, (Value.int .i64 ((((d.rds.getD k []).getD i 0) - sh) - (d.tols.getD k 0)))), (44, (Value.int .i64 x)), (14, (Value.int .i64 (((d.rds.getD k []).getD i 0) - sh))), (13, (Value.int .i64 (k : Int))), (6, (bptr b4 0)), (1, xl), (2, (Value.int .i64 lab)), (3, (Value.int .i64 sh)), (4, (Value.int .i64 (i : Int))), (5, (Value.int .i64 x))] a107 := hA114.add (slot_ev hs_8 rfl); clear hA114
     rw [hv_16] at hs_16
     have hA116 : Fr 63 [] [(60, (Value.int .i64 ((((d.rds.getD k []).getD i 0) - sh) + (d.tols.getD k 0)))), (52, (Value.int .i64 ((((d.rds.getD k []).getD i 0) - sh) - (d.tols.getD k 0)))), (44, (Value.int .i64 x)), (14, (Value.int .i64 (((d.rds.getD k []).getD i 0) - sh))), (13, (Value.int .i64 (k : Int))), (6, (bptr b4 0)), (1, xl), (2, (Value.int .i64 lab)), (3, (Value.int .i64 sh)), (4, (Value.int .i64 (i : Int))), (5, (Value.int .i64 x))] a107 := hA115.add (slot_ev hs_16 rfl); clear hA115
     clear hH111 hS110 hs_0 hs_1 hs_2 hs_3 hs_4 hs_5 hs_6 hs_7 hs_8 hs_9 hs_10 hs_11 hs_12 hs_13 hs_14 hs_15 hs_16
     clear hr_0
     clear hv_0
     clear hr_1
     clear hv_1
     clear hr_2
     clear hv_2
     clear hr_3
     clear hv_3
     clear hr_4
     clear hv_4
     clear hr_5
     clear hv_5
     clear hr_6
     clear hv_6
     clear hr_7
     clear hv_7
     clear hr_8
     clear hv_8
     clear hr_9
     clear hv_9
     clear hr_10
     clear hv_10
     clear hr_11
     clear hv_11
     clear hr_12
     clear hv_12
     clear hr_13
     clear hv_13
     clear hr_14
     clear hv_14
     clear hr_15
     clear hv_15
     clear hr_16
     clear hv_16
     refine stw hA116 (op_call rfl en_33 (ev3 (hA116.ev rfl) (hA116.ev rfl) (hA116.ev rfl)) (In_ok _ _ _ _)) rfl rfl (by decide) ?_
     rintro a117 _ _ ⟨rfl, rfl⟩ hA118; clear hA116 a107
     refine st hA118 (op_not rfl (hA118.ev rfl)) rfl rfl (by decide) fun a120 hA121 => ?_; clear hA118 a117
     refine wl_nil ?_
     refine then_n ?_
     rcases Bool.eq_false_or_eq_true ((decide (((((d.rds.getD k []).getD i 0) - sh) - (d.tols.getD k 0)) ≤ x) && decide (x ≤ ((((d.rds.getD k []).getD i 0) - sh) + (d.tols.getD k 0))))) with hb122 | hb122
     ·skip
      rw [hb122] at hA121
      have hq123 := hb122; simp only [Bool.and_eq_true, Bool.and_eq_false_iff, decide_eq_true_eq, decide_eq_false_iff_not] at hq123
      refine c_false hA121 rfl ?_
      refine c_skip ?_
      refine blk_n ?_
      refine then_n ?_
      have hA124 := hA121.as [(13, (Value.int .i64 (k : Int))), (6, (bptr b4 0)), (1, xl), (2, (Value.int .i64 lab)), (3, (Value.int .i64 sh)), (4, (Value.int .i64 (i : Int))), (5, (Value.int .i64 x))] rfl; clear hA121
      refine c_region ?_
      refine st hA124 (op_move rfl (hA124.ev rfl)) rfl rfl (by decide) fun a125 hA126 => ?_; clear hA124 a120
      refine st hA126 (op_add rfl (hA126.ev rfl) (evc _ _) (by omega) (by omega)) rfl rfl (by decide) fun a127 hA128 => ?_; clear hA126 a125
      refine st hA128 (op_assign rfl (hA128.ev rfl)) rfl rfl (by decide) fun a129 hA130 => ?_; clear hA128 a127
      refine wl_nil ?_
      exact then_n ⟨k + 1, ⟨hA130.as _ rfl, hS113, by omega, (fun q hi => by rcases Nat.lt_succ_iff_lt_or_eq.1 hi with h | h; exact hag q h; subst h; first | exact agAt_y1 (by assumption) | exact agAt_y2 (by assumption) | exact agAt_y3 (by rw [shOf_y (by assumption)]; omega) | exact agAt_y3 (by rw [shOf_n (by assumption)]; omega))⟩, by omega⟩
     ·skip
      rw [hb122] at hA121
      have hq131 := hb122; simp only [Bool.and_eq_true, Bool.and_eq_false_iff, decide_eq_true_eq, decide_eq_false_iff_not] at hq131
      refine c_true hA121 rfl ?_
      refine c_seq ?_
      have hA132 := hA121.as [] rfl; clear hA121
      refine c_region ?_
      refine st hA132 (op_assign rfl (evc _ _)) rfl rfl (by decide) fun a133 hA134 => ?_; clear hA132 a120
      refine wl_nil ?_
      refine then_n ?_
      refine c_ret ?_
      refine blk_ret ?_
      refine then_ret ?_
      refine then_ret ?_
      refine blk_ret ?_
      refine then_ret ?_
      refine fin_run hA134 (.inl rfl) (run_results1 hA134 rfl (.tmp rfl)) ?_
      exact ⟨congrArg Value.bool (by unfold agB; first | exact (all_yes (fun q hq => hag q (by omega))).symm | exact (all_no (k := k) (by omega) (by first | exact agAt_no (by assumption) (by assumption) (by rw [shOf_y (by assumption)]; omega) | exact agAt_no (by assumption) (by assumption) (by rw [shOf_n (by assumption)]; omega))).symm), hS113.ext⟩
    ·skip
     rw [decide_eq_false hb95] at hA94
     refine c_false hA94 rfl ?_
     refine c_skip ?_
     refine then_n ?_
     refine c_seq ?_
     have hA135 := hA94.as [(14, (Value.int .i64 ((d.rds.getD k []).getD i 0))), (13, (Value.int .i64 (k : Int))), (6, (bptr b4 0)), (1, xl), (2, (Value.int .i64 lab)), (3, (Value.int .i64 sh)), (4, (Value.int .i64 (i : Int))), (5, (Value.int .i64 x))] rfl; clear hA94
     refine c_drawV mixed hA135 hS77 17 [[], [], [], [2], [], [3, 4], [5], [6], [1, 7], [], [], [10], [], [11, 12], [13], [14], [9, 15]] [(fun (vs136 : Nat → Value) (v_ : Value) (rs_ : List Res) => v_ = (Value.int .i64 x) ∧ rs_ = []), (fun (vs136 : Nat → Value) (v_ : Value) (rs_ : List Res) => v_ = (Value.int .i64 ((d.rds.getD k []).getD i 0)) ∧ rs_ = []), (fun (vs136 : Nat → Value) (v_ : Value) (rs_ : List Res) => v_ = (bptr b4 3) ∧ rs_ = []), (fun (vs136 : Nat → Value) (v_ : Value) (rs_ : List Res) => v_ = rb ∧ rs_ = []), (fun (vs136 : Nat → Value) (v_ : Value) (rs_ : List Res) => v_ = (Value.int .i64 (k : Int)) ∧ rs_ = []), (fun (vs136 : Nat → Value) (v_ : Value) (rs_ : List Res) => v_ = (eptr rb (k * 2)) ∧ rs_ = []), (fun (vs136 : Nat → Value) (v_ : Value) (rs_ : List Res) => v_ = (eptr rb (k * 2 + 0)) ∧ rs_ = []), (fun (vs136 : Nat → Value) (v_ : Value) (rs_ : List Res) => v_ = (Value.int .i64 (d.tols.getD k 0)) ∧ rs_ = []), (fun (vs136 : Nat → Value) (v_ : Value) (rs_ : List Res) => v_ = (Value.int .i64 (((d.rds.getD k []).getD i 0) - (d.tols.getD k 0))) ∧ rs_ = []), (fun (vs136 : Nat → Value) (v_ : Value) (rs_ : List Res) => v_ = (Value.int .i64 ((d.rds.getD k []).getD i 0)) ∧ rs_ = []), (fun (vs136 : Nat → Value) (v_ : Value) (rs_ : List Res) => v_ = (bptr b4 3) ∧ rs_ = []), (fun (vs136 : Nat → Value) (v_ : Value) (rs_ : List Res) => v_ = rb ∧ rs_ = []), (fun (vs136 : Nat → Value) (v_ : Value) (rs_ : List Res) => v_ = (Value.int .i64 (k : Int)) ∧ rs_ = []), (fun (vs136 : Nat → Value) (v_ : Value) (rs_ : List Res) => v_ = (eptr rb (k * 2)) ∧ rs_ = []), (fun (vs136 : Nat → Value) (v_ : Value) (rs_ : List Res) => v_ = (eptr rb (k * 2 + 0)) ∧ rs_ = []), (fun (vs136 : Nat → Value) (v_ : Value) (rs_ : List Res) => v_ = (Value.int .i64 (d.tols.getD k 0)) ∧ rs_ = []), (fun (vs136 : Nat → Value) (v_ : Value) (rs_ : List Res) => v_ = (Value.int .i64 (((d.rds.getD k []).getD i 0) + (d.tols.getD k 0))) ∧ rs_ = [])] (by decide +kernel) (by decide +kernel) rfl rfl ⟨(fun _ _ _ _ _ h_ => h_), (fun _ _ _ _ _ h_ => h_), (fun _ _ _ _ _ h_ => h_), (fun _ _ _ _ _ h_ => h_), (fun _ _ _ _ _ h_ => h_), (fun _ _ _ _ _ h_ => h_), (fun _ _ _ _ _ h_ => h_), (fun _ _ _ _ _ h_ => h_), (fun _ _ _ _ _ h_ => h_), (fun _ _ _ _ _ h_ => h_), (fun _ _ _ _ _ h_ => h_), (fun _ _ _ _ _ h_ => h_), (fun _ _ _ _ _ h_ => h_), (fun _ _ _ _ _ h_ => h_), (fun _ _ _ _ _ h_ => h_), (fun _ _ _ _ _ h_ => h_), (fun _ _ _ _ _ h_ => h_), trivial⟩ ?_ ?_
     ·skip
      refine ⟨fun a w vs136 hA hS hd => ?_, ?_⟩
      ·skip
       exact opG_of rfl (vv (op_move rfl (hA.ev rfl)) (And.intro rfl rfl))
      refine ⟨fun a w vs136 hA hS hd => ?_, ?_⟩
      ·skip
       exact opG_of rfl (vv (op_move rfl (hA.ev rfl)) (And.intro rfl rfl))
      refine ⟨fun a w vs136 hA hS hd => ?_, ?_⟩
      ·skip
       exact opG_of rfl (vv (op_field rfl fd_26_3 (hA.ev rfl)) (And.intro rfl rfl))
      refine ⟨fun a w vs136 hA hS hd => ?_, ?_⟩
      ·skip
       obtain ⟨e2, rs2, hy2, hp2⟩ := hd 2 (by decide)
       obtain ⟨hv2, hr2⟩ := hy2; subst hr2
       rw [hv2] at e2
       exact opG_of rfl (vv (op_load1 rfl ty_24 (tmp_ev (slot_ev e2 rfl)) (hS.bk 0 rfl) rfl) (And.intro rfl rfl))
      refine ⟨fun a w vs136 hA hS hd => ?_, ?_⟩
      ·skip
       exact opG_of rfl (vv (op_move rfl (hA.ev rfl)) (And.intro rfl rfl))
      refine ⟨fun a w vs136 hA hS hd => ?_, ?_⟩
      ·skip
       obtain ⟨e3, rs3, hy3, hp3⟩ := hd 3 (by decide)
       obtain ⟨hv3, hr3⟩ := hy3; subst hr3
       rw [hv3] at e3
       obtain ⟨e4, rs4, hy4, hp4⟩ := hd 4 (by decide)
       obtain ⟨hv4, hr4⟩ := hy4; subst hr4
       rw [hv4] at e4
       exact opG_of rfl (vv (op_indexS rfl un_24 ty_62 (tmp_ev (slot_ev e3 rfl)) (i := k) (tmp_ev (slot_ev e4 rfl)) (rnd_at (hS.ok 2 _ rfl)).labs (by decide) (by omega)) (And.intro rfl rfl))
      refine ⟨fun a w vs136 hA hS hd => ?_, ?_⟩
      ·skip
       obtain ⟨e5, rs5, hy5, hp5⟩ := hd 5 (by decide)
       obtain ⟨hv5, hr5⟩ := hy5; subst hr5
       rw [hv5] at e5
       exact opG_of rfl (vv (op_fieldS rfl fd_62_0 (tmp_ev (slot_ev e5 rfl)) (rnd_at (hS.ok 2 _ rfl)).labs (by rw [((rnd_at (hS.ok 2 _ rfl)).labs).1]; omega)) (And.intro rfl rfl))
      refine ⟨fun a w vs136 hA hS hd => ?_, ?_⟩
      ·skip
       obtain ⟨e6, rs6, hy6, hp6⟩ := hd 6 (by decide)
       obtain ⟨hv6, hr6⟩ := hy6; subst hr6
       rw [hv6] at e6
       exact opG_of rfl (vv (op_load1E rfl ty_3 (tmp_ev (slot_ev e6 rfl)) (rnd_at (hS.ok 2 _ rfl)).labs (labs_at0 (rnd_at (hS.ok 2 _ rfl)).lvl (by omega))) (And.intro rfl rfl))
      refine ⟨fun a w vs136 hA hS hd => ?_, ?_⟩
      ·skip
       obtain ⟨e1, rs1, hy1, hp1⟩ := hd 1 (by decide)
       obtain ⟨hv1, hr1⟩ := hy1; subst hr1
       rw [hv1] at e1
       obtain ⟨e7, rs7, hy7, hp7⟩ := hd 7 (by decide)
       obtain ⟨hv7, hr7⟩ := hy7; subst hr7
       rw [hv7] at e7
       exact opG_of rfl (vv (op_sub rfl (tmp_ev (slot_ev e1 rfl)) (tmp_ev (slot_ev e7 rfl)) (by omega) (by omega)) (And.intro rfl rfl))
      refine ⟨fun a w vs136 hA hS hd => ?_, ?_⟩
      ·skip
       exact opG_of rfl (vv (op_move rfl (hA.ev rfl)) (And.intro rfl rfl))
      refine ⟨fun a w vs136 hA hS hd => ?_, ?_⟩
      ·skip
       exact opG_of rfl (vv (op_field rfl fd_26_3 (hA.ev rfl)) (And.intro rfl rfl))
      refine ⟨fun a w vs136 hA hS hd => ?_, ?_⟩
      ·skip
       obtain ⟨e10, rs10, hy10, hp10⟩ := hd 10 (by decide)
       obtain ⟨hv10, hr10⟩ := hy10; subst hr10
       rw [hv10] at e10
       exact opG_of rfl (vv (op_load1 rfl ty_24 (tmp_ev (slot_ev e10 rfl)) (hS.bk 0 rfl) rfl) (And.intro rfl rfl))
      refine ⟨fun a w vs136 hA hS hd => ?_, ?_⟩
      ·skip
       exact opG_of rfl (vv (op_move rfl (hA.ev rfl)) (And.intro rfl rfl))
      refine ⟨fun a w vs136 hA hS hd => ?_, ?_⟩
      ·skip
       obtain ⟨e11, rs11, hy11, hp11⟩ := hd 11 (by decide)
       obtain ⟨hv11, hr11⟩ := hy11; subst hr11
       rw [hv11] at e11
       obtain ⟨e12, rs12, hy12, hp12⟩ := hd 12 (by decide)
       obtain ⟨hv12, hr12⟩ := hy12; subst hr12
       rw [hv12] at e12
       exact opG_of rfl (vv (op_indexS rfl un_24 ty_62 (tmp_ev (slot_ev e11 rfl)) (i := k) (tmp_ev (slot_ev e12 rfl)) (rnd_at (hS.ok 2 _ rfl)).labs (by decide) (by omega)) (And.intro rfl rfl))
      refine ⟨fun a w vs136 hA hS hd => ?_, ?_⟩
      ·skip
       obtain ⟨e13, rs13, hy13, hp13⟩ := hd 13 (by decide)
       obtain ⟨hv13, hr13⟩ := hy13; subst hr13
       rw [hv13] at e13
       exact opG_of rfl (vv (op_fieldS rfl fd_62_0 (tmp_ev (slot_ev e13 rfl)) (rnd_at (hS.ok 2 _ rfl)).labs (by rw [((rnd_at (hS.ok 2 _ rfl)).labs).1]; omega)) (And.intro rfl rfl))
      refine ⟨fun a w vs136 hA hS hd => ?_, ?_⟩
      ·skip
       obtain ⟨e14, rs14, hy14, hp14⟩ := hd 14 (by decide)
       obtain ⟨hv14, hr14⟩ := hy14; subst hr14
       rw [hv14] at e14
       exact opG_of rfl (vv (op_load1E rfl ty_3 (tmp_ev (slot_ev e14 rfl)) (rnd_at (hS.ok 2 _ rfl)).labs (labs_at0 (rnd_at (hS.ok 2 _ rfl)).lvl (by omega))) (And.intro rfl rfl))
      refine ⟨fun a w vs136 hA hS hd => ?_, ?_⟩
      ·skip
       obtain ⟨e9, rs9, hy9, hp9⟩ := hd 9 (by decide)
       obtain ⟨hv9, hr9⟩ := hy9; subst hr9
       rw [hv9] at e9
       obtain ⟨e15, rs15, hy15, hp15⟩ := hd 15 (by decide)
       obtain ⟨hv15, hr15⟩ := hy15; subst hr15
       rw [hv15] at e15
       exact opG_of rfl (vv (op_add rfl (tmp_ev (slot_ev e9 rfl)) (tmp_ev (slot_ev e15 rfl)) (by omega) (by omega)) (And.intro rfl rfl))
      trivial
     intro a137 w138 vs136 rsf142 hA139 hH141 hS140; clear hA135 hS77
     obtain ⟨hs_0, hy_0⟩ := hH141 0 (by decide)
     obtain ⟨hv_0, hr_0⟩ := hy_0
     obtain ⟨hs_1, hy_1⟩ := hH141 1 (by decide)
     obtain ⟨hv_1, hr_1⟩ := hy_1
     obtain ⟨hs_2, hy_2⟩ := hH141 2 (by decide)
     obtain ⟨hv_2, hr_2⟩ := hy_2
     obtain ⟨hs_3, hy_3⟩ := hH141 3 (by decide)
     obtain ⟨hv_3, hr_3⟩ := hy_3
     obtain ⟨hs_4, hy_4⟩ := hH141 4 (by decide)
     obtain ⟨hv_4, hr_4⟩ := hy_4
     obtain ⟨hs_5, hy_5⟩ := hH141 5 (by decide)
     obtain ⟨hv_5, hr_5⟩ := hy_5
     obtain ⟨hs_6, hy_6⟩ := hH141 6 (by decide)
     obtain ⟨hv_6, hr_6⟩ := hy_6
     obtain ⟨hs_7, hy_7⟩ := hH141 7 (by decide)
     obtain ⟨hv_7, hr_7⟩ := hy_7
     obtain ⟨hs_8, hy_8⟩ := hH141 8 (by decide)
     obtain ⟨hv_8, hr_8⟩ := hy_8
     obtain ⟨hs_9, hy_9⟩ := hH141 9 (by decide)
     obtain ⟨hv_9, hr_9⟩ := hy_9
     obtain ⟨hs_10, hy_10⟩ := hH141 10 (by decide)
     obtain ⟨hv_10, hr_10⟩ := hy_10
     obtain ⟨hs_11, hy_11⟩ := hH141 11 (by decide)
     obtain ⟨hv_11, hr_11⟩ := hy_11
     obtain ⟨hs_12, hy_12⟩ := hH141 12 (by decide)
     obtain ⟨hv_12, hr_12⟩ := hy_12
     obtain ⟨hs_13, hy_13⟩ := hH141 13 (by decide)
     obtain ⟨hv_13, hr_13⟩ := hy_13
     obtain ⟨hs_14, hy_14⟩ := hH141 14 (by decide)
     obtain ⟨hv_14, hr_14⟩ := hy_14
     obtain ⟨hs_15, hy_15⟩ := hH141 15 (by decide)
     obtain ⟨hv_15, hr_15⟩ := hy_15
     obtain ⟨hs_16, hy_16⟩ := hH141 16 (by decide)
     obtain ⟨hv_16, hr_16⟩ := hy_16
     have hS143 : Sep NoB w w138 [(blk b4 26 [rl, rs, (Value.int .i64 d.spread), rb]), (sl xl 1 l.length (ints l)), (rndR false rl rs rb rlv d)] := by rw [show catR rsf142 0 17 = ([] : List Res) by (try simp only [catR, hr_0, hr_1, hr_2, hr_3, hr_4, hr_5, hr_6, hr_7, hr_8, hr_9, hr_10, hr_11, hr_12, hr_13, hr_14, hr_15, hr_16]); (try rfl)] at hS140; exact hS140
     rw [hv_0] at hs_0
     have hA144 : Fr 63 [] [(44, (Value.int .i64 x)), (14, (Value.int .i64 ((d.rds.getD k []).getD i 0))), (13, (Value.int .i64 (k : Int))), (6, (bptr b4 0)), (1, xl), (2, (Value.int .i64 lab)), (3, (Value.int .i64 sh)), (4, (Value.int .i64 (i : Int))), (5, (Value.int .i64 x))] a137 := hA139.add (slot_ev hs_0 rfl); clear hA139
     rw [hv_8] at hs_8
     have hA145 : Fr 63 [] [(52, (Value.int .i64 (((d.rds.getD k []).getD i 0) - (d.tols.getD k 0)))), (44, (Value.int .i64 x)), (14, (Value.int .i64 ((d.rds.getD k []).getD i 0))), (13, (Value.int .i64 (k : Int))), (6, (bptr b4 0)), (1, xl), (2, (Value.int .i64 lab)), (3, (Value.int .i64 sh)), (4, (Value.int .i64 (i : Int))), (5, (Value.int .i64 x))] a137 := hA144.add (slot_ev hs_8 rfl); clear hA144
     rw [hv_16] at hs_16
     have hA146 : Fr 63 [] [(60, (Value.int .i64 (((d.rds.getD k []).getD i 0) + (d.tols.getD k 0)))), (52, (Value.int .i64 (((d.rds.getD k []).getD i 0) - (d.tols.getD k 0)))), (44, (Value.int .i64 x)), (14, (Value.int .i64 ((d.rds.getD k []).getD i 0))), (13, (Value.int .i64 (k : Int))), (6, (bptr b4 0)), (1, xl), (2, (Value.int .i64 lab)), (3, (Value.int .i64 sh)), (4, (Value.int .i64 (i : Int))), (5, (Value.int .i64 x))] a137 := hA145.add (slot_ev hs_16 rfl); clear hA145
     clear hH141 hS140 hs_0 hs_1 hs_2 hs_3 hs_4 hs_5 hs_6 hs_7 hs_8 hs_9 hs_10 hs_11 hs_12 hs_13 hs_14 hs_15 hs_16
     clear hr_0
     clear hv_0
     clear hr_1
     clear hv_1
     clear hr_2
     clear hv_2
     clear hr_3
     clear hv_3
     clear hr_4
     clear hv_4
     clear hr_5
     clear hv_5
     clear hr_6
     clear hv_6
     clear hr_7
     clear hv_7
     clear hr_8
     clear hv_8
     clear hr_9
     clear hv_9
     clear hr_10
     clear hv_10
     clear hr_11
     clear hv_11
     clear hr_12
     clear hv_12
     clear hr_13
     clear hv_13
     clear hr_14
     clear hv_14
     clear hr_15
     clear hv_15
     clear hr_16
     clear hv_16
     refine stw hA146 (op_call rfl en_33 (ev3 (hA146.ev rfl) (hA146.ev rfl) (hA146.ev rfl)) (In_ok _ _ _ _)) rfl rfl (by decide) ?_
     rintro a147 _ _ ⟨rfl, rfl⟩ hA148; clear hA146 a137
     refine st hA148 (op_not rfl (hA148.ev rfl)) rfl rfl (by decide) fun a150 hA151 => ?_; clear hA148 a147
     refine wl_nil ?_
     refine then_n ?_
     rcases Bool.eq_false_or_eq_true ((decide ((((d.rds.getD k []).getD i 0) - (d.tols.getD k 0)) ≤ x) && decide (x ≤ (((d.rds.getD k []).getD i 0) + (d.tols.getD k 0))))) with hb152 | hb152
     ·skip
      rw [hb152] at hA151
      have hq153 := hb152; simp only [Bool.and_eq_true, Bool.and_eq_false_iff, decide_eq_true_eq, decide_eq_false_iff_not] at hq153
      refine c_false hA151 rfl ?_
      refine c_skip ?_
      refine blk_n ?_
      refine then_n ?_
      have hA154 := hA151.as [(13, (Value.int .i64 (k : Int))), (6, (bptr b4 0)), (1, xl), (2, (Value.int .i64 lab)), (3, (Value.int .i64 sh)), (4, (Value.int .i64 (i : Int))), (5, (Value.int .i64 x))] rfl; clear hA151
      refine c_region ?_
      refine st hA154 (op_move rfl (hA154.ev rfl)) rfl rfl (by decide) fun a155 hA156 => ?_; clear hA154 a150
      refine st hA156 (op_add rfl (hA156.ev rfl) (evc _ _) (by omega) (by omega)) rfl rfl (by decide) fun a157 hA158 => ?_; clear hA156 a155
      refine st hA158 (op_assign rfl (hA158.ev rfl)) rfl rfl (by decide) fun a159 hA160 => ?_; clear hA158 a157
      refine wl_nil ?_
      exact then_n ⟨k + 1, ⟨hA160.as _ rfl, hS143, by omega, (fun q hi => by rcases Nat.lt_succ_iff_lt_or_eq.1 hi with h | h; exact hag q h; subst h; first | exact agAt_y1 (by assumption) | exact agAt_y2 (by assumption) | exact agAt_y3 (by rw [shOf_y (by assumption)]; omega) | exact agAt_y3 (by rw [shOf_n (by assumption)]; omega))⟩, by omega⟩
     ·skip
      rw [hb152] at hA151
      have hq161 := hb152; simp only [Bool.and_eq_true, Bool.and_eq_false_iff, decide_eq_true_eq, decide_eq_false_iff_not] at hq161
      refine c_true hA151 rfl ?_
      refine c_seq ?_
      have hA162 := hA151.as [] rfl; clear hA151
      refine c_region ?_
      refine st hA162 (op_assign rfl (evc _ _)) rfl rfl (by decide) fun a163 hA164 => ?_; clear hA162 a150
      refine wl_nil ?_
      refine then_n ?_
      refine c_ret ?_
      refine blk_ret ?_
      refine then_ret ?_
      refine then_ret ?_
      refine blk_ret ?_
      refine then_ret ?_
      refine fin_run hA164 (.inl rfl) (run_results1 hA164 rfl (.tmp rfl)) ?_
      exact ⟨congrArg Value.bool (by unfold agB; first | exact (all_yes (fun q hq => hag q (by omega))).symm | exact (all_no (k := k) (by omega) (by first | exact agAt_no (by assumption) (by assumption) (by rw [shOf_y (by assumption)]; omega) | exact agAt_no (by assumption) (by assumption) (by rw [shOf_n (by assumption)]; omega))).symm), hS143.ext⟩
 ·skip
  rw [decide_eq_false hb25] at hA24
  refine c_false hA24 rfl ?_
  refine c_exit ?_
  refine then_exit ?_
  refine then_exit ?_
  refine blk_hit ?_
  refine then_n ?_
  refine c_seq ?_
  have hA165 := hA24.as [] rfl; clear hA24
  refine c_region ?_
  refine st hA165 (op_assign rfl (evc _ _)) rfl rfl (by decide) fun a166 hA167 => ?_; clear hA165 a23
  refine wl_nil ?_
  refine then_n ?_
  refine c_ret ?_
  refine fin_run hA167 (.inl rfl) (run_results1 hA167 rfl (.tmp rfl)) ?_
  exact ⟨congrArg Value.bool (by unfold agB; first | exact (all_yes (fun q hq => hag q (by omega))).symm | exact (all_no (k := k) (by omega) (by first | exact agAt_no (by assumption) (by assumption) (by rw [shOf_y (by assumption)]; omega) | exact agAt_no (by assumption) (by assumption) (by rw [shOf_n (by assumption)]; omega))).symm), hS14.ext⟩

end Go.Proofs.Ytfhmigoddaaljaa

namespace Go.Proofs.Ytfhmigoddaaljaa
open Go.RowKit Go.Shelf Go.Eng
theorem Near_ok (rl rs rb : Value) (rlv : List Value) (d : RD) (w : World) (hR : RoundAt w rl rs rb rlv d) (xl : Value) (l : List Int) (hx : SlAt w xl 1 l.length (ints l)) (hlen : l.length ≤ 1000000) (lab sh : Int) (hV : Valid d) (hsh : -5000 ≤ sh ∧ sh ≤ 5000) (i : Nat) (y : Int) (hi : i < d.samples.length) (hyb : -5000 ≤ y ∧ y ≤ 5000) :
  Calls Try.prog 88 #[(Value.agg #[rl, rs, (Value.int .i64 d.spread), rb]), xl, (Value.int .i64 lab), (Value.int .i64 sh), (Value.int .i64 (i : Int)), (Value.int .i64 y)] w (Ret fun v w' => v = .bool (nearB d l lab sh i y) ∧ Ext NoB w w') := by
 refine calls_enter Try.func88 rfl fun a0 hA0 => ?_
 replace hA0 : Fr 33 [] [(0, (Value.agg #[rl, rs, (Value.int .i64 d.spread), rb])), (1, xl), (2, (Value.int .i64 lab)), (3, (Value.int .i64 sh)), (4, (Value.int .i64 (i : Int))), (5, (Value.int .i64 y))] a0 := hA0
 have hsp := hV.spread
 have hS0 : Sep NoB w w [(sl xl 1 l.length (ints l)), (rndR false rl rs rb rlv d)] := sep_ro ⟨rfl, hx, rfl, hR, trivial⟩
 refine c_seq ?_
 refine c_region ?_
 refine stw hA0 (op_box hS0 rfl (hA0.ev rfl) (cs := [rl, rs, (Value.int .i64 d.spread), rb]) rfl) rfl rfl (by decide) ?_
 rintro a1 _ w3 ⟨b4, rfl, hS5⟩ hA2; clear hA0 hS0 a0
 refine st hA2 (op_assign rfl (evc _ _)) rfl rfl (by decide) fun a6 hA7 => ?_; clear hA2 a1
 refine wl_nil ?_
 refine then_n ?_
 refine c_seq ?_
 refine c_seq ?_
 refine c_region ?_
 refine st hA7 (op_move rfl (hA7.ev rfl)) rfl rfl (by decide) fun a8 hA9 => ?_; clear hA7 a6
 refine st hA9 (op_field rfl fd_26_2 (hA9.ev rfl)) rfl rfl (by decide) fun a10 hA11 => ?_; clear hA9 a8
 refine st hA11 (op_load1 rfl ty_3 (hA11.ev rfl) (hS5.bk 0 rfl) rfl) rfl rfl (by decide) fun a12 hA13 => ?_; clear hA11 a10
 refine st hA13 (op_sub rfl (hA13.ev rfl) (hA13.ev rfl) (by omega) (by omega)) rfl rfl (by decide) fun a14 hA15 => ?_; clear hA13 a12
 refine st hA15 (op_assign rfl (hA15.ev rfl)) rfl rfl (by decide) fun a16 hA17 => ?_; clear hA15 a14
 refine wl_nil ?_
 refine then_n ?_
 refine c_block ?_
 have hA18 := hA17.as [(13, (Value.int .i64 (y - d.spread))), (6, (bptr b4 0)), (1, xl), (2, (Value.int .i64 lab)), (3, (Value.int .i64 sh)), (4, (Value.int .i64 (i : Int))), (5, (Value.int .i64 y))] rfl; clear hA17
 refine c_loop (G := Nat) (fun (k : Nat) a_ w_ => Fr 33 [] [(13, (Value.int .i64 ((y - d.spread) + (k : Int)))), (6, (bptr b4 0)), (1, xl), (2, (Value.int .i64 lab)), (3, (Value.int .i64 sh)), (4, (Value.int .i64 (i : Int))), (5, (Value.int .i64 y))] a_ ∧ Sep NoB w w_ [(blk b4 26 [rl, rs, (Value.int .i64 d.spread), rb]), (sl xl 1 l.length (ints l)), (rndR false rl rs rb rlv d)] ∧ (k ≤ (2 * d.spread + 1).toNat) ∧ (∀ j : Nat, j < k → agB d l lab sh i (y - d.spread + (j : Int)) = false)) (fun k => (2 * d.spread + 1).toNat - k) 0 ⟨hA18.as _ (by simp [pickSlots, List.lookup]), hS5, by omega, (fun _ h => absurd h (Nat.not_lt_zero _))⟩ ?_
 clear hA18 hS5 a16
 rintro k a19 w21 ⟨hA20, hS22, hk, hn⟩
 refine c_seq ?_
 refine c_seq ?_
 refine c_region ?_
 refine st hA20 (op_move rfl (hA20.ev rfl)) rfl rfl (by decide) fun a23 hA24 => ?_; clear hA20 a19
 refine st hA24 (op_move rfl (hA24.ev rfl)) rfl rfl (by decide) fun a25 hA26 => ?_; clear hA24 a23
 refine st hA26 (op_field rfl fd_26_2 (hA26.ev rfl)) rfl rfl (by decide) fun a27 hA28 => ?_; clear hA26 a25
 refine st hA28 (op_load1 rfl ty_3 (hA28.ev rfl) (hS22.bk 0 rfl) rfl) rfl rfl (by decide) fun a29 hA30 => ?_; clear hA28 a27
 refine st hA30 (op_add rfl (hA30.ev rfl) (hA30.ev rfl) (by omega) (by omega)) rfl rfl (by decide) fun a31 hA32 => ?_; clear hA30 a29
 refine st hA32 (op_leq rfl (hA32.ev rfl) (hA32.ev rfl)) rfl rfl (by decide) fun a33 hA34 => ?_; clear hA32 a31
 refine wl_nil ?_
 refine then_n ?_
 by_cases hb35 : ((y - d.spread) + (k : Int)) ≤ (y + d.spread)
 ·skip
  rw [decide_eq_true hb35] at hA34
  refine c_true hA34 rfl ?_
  refine c_skip ?_
  refine then_n ?_
  refine c_seq ?_
  refine c_block ?_
  refine c_seq ?_
  have hA36 := hA34.as [(13, (Value.int .i64 ((y - d.spread) + (k : Int)))), (6, (bptr b4 0)), (1, xl), (2, (Value.int .i64 lab)), (3, (Value.int .i64 sh)), (4, (Value.int .i64 (i : Int))), (5, (Value.int .i64 y))] rfl; clear hA34
  refine c_region ?_
  refine st hA36 (op_loadA rfl ty_26 (hA36.ev rfl) (hS22.bk 0 rfl) (l := [rl, rs, (Value.int .i64 d.spread), rb]) rfl rfl) rfl rfl (by decide) fun a37 hA38 => ?_; clear hA36 a33
  refine st hA38 (op_move rfl (hA38.ev rfl)) rfl rfl (by decide) fun a39 hA40 => ?_; clear hA38 a37
  refine st hA40 (op_move rfl (hA40.ev rfl)) rfl rfl (by decide) fun a41 hA42 => ?_; clear hA40 a39
  refine st hA42 (op_move rfl (hA42.ev rfl)) rfl rfl (by decide) fun a43 hA44 => ?_; clear hA42 a41
  refine st hA44 (op_move rfl (hA44.ev rfl)) rfl rfl (by decide) fun a45 hA46 => ?_; clear hA44 a43
  refine st hA46 (op_move rfl (hA46.ev rfl)) rfl rfl (by decide) fun a47 hA48 => ?_; clear hA46 a45
  refine stw hA48 (op_call rfl en_56 (ev6 (hA48.ev rfl) (hA48.ev rfl) (hA48.ev rfl) (hA48.ev rfl) (hA48.ev rfl) (hA48.ev rfl)) (Agrees_ok rl rs rb rlv d _ (rnd_at (hS22.ok 2 _ rfl)) _ l (hS22.sk 1 rfl) (by omega) lab sh hV (by omega) i ((y - d.spread) + (k : Int)) (by omega) (by omega))) rfl rfl (by decide) ?_
  rintro a49 _ w51 ⟨rfl, hE52⟩ hA50; have hS53 := hS22.step hE52; clear hE52 hA48 hS22 a47
  refine wl_nil ?_
  refine then_n ?_
  rcases Bool.eq_false_or_eq_true ((agB d l lab sh i ((y - d.spread) + (k : Int)))) with hb54 | hb54
  ·skip
   rw [hb54] at hA50
   refine c_true hA50 rfl ?_
   refine c_seq ?_
   have hA55 := hA50.as [] rfl; clear hA50
   refine c_region ?_
   refine st hA55 (op_assign rfl (evc _ _)) rfl rfl (by decide) fun a56 hA57 => ?_; clear hA55 a49
   refine wl_nil ?_
   refine then_n ?_
   refine c_ret ?_
   refine blk_ret ?_
   refine then_ret ?_
   refine then_ret ?_
   refine blk_ret ?_
   refine then_ret ?_
   refine fin_run hA57 (.inl rfl) (run_results1 hA57 rfl (.tmp rfl)) ?_
   exact ⟨congrArg Value.bool (by unfold nearB; first | exact (any_yes (k := k) (by omega) (by assumption)).symm | exact (any_no (fun j hj => hn j (by omega))).symm), hS53.ext⟩
  ·skip
   rw [hb54] at hA50
   refine c_false hA50 rfl ?_
   refine c_skip ?_
   refine blk_n ?_
   refine then_n ?_
   have hA58 := hA50.as [(13, (Value.int .i64 ((y - d.spread) + (k : Int)))), (6, (bptr b4 0)), (1, xl), (2, (Value.int .i64 lab)), (3, (Value.int .i64 sh)), (4, (Value.int .i64 (i : Int))), (5, (Value.int .i64 y))] rfl; clear hA50
   refine c_region ?_
   refine st hA58 (op_move rfl (hA58.ev rfl)) rfl rfl (by decide) fun a59 hA60 => ?_; clear hA58 a49
   refine st hA60 (op_add rfl (hA60.ev rfl) (evc _ _) (by omega) (by omega)) rfl rfl (by decide) fun a61 hA62 => ?_; clear hA60 a59
   refine st hA62 (op_assign rfl (hA62.ev rfl)) rfl rfl (by decide) fun a63 hA64 => ?_; clear hA62 a61
   refine wl_nil ?_
   exact then_n ⟨k + 1, ⟨hA64.as _ (by simp [pickSlots, List.lookup]; omega), hS53, by omega, (fun j hj => by rcases Nat.lt_succ_iff_lt_or_eq.1 hj with h | h; exact hn j h; subst h; assumption)⟩, by omega⟩
 ·skip
  rw [decide_eq_false hb35] at hA34
  refine c_false hA34 rfl ?_
  refine c_exit ?_
  refine then_exit ?_
  refine then_exit ?_
  refine blk_hit ?_
  refine then_n ?_
  refine c_seq ?_
  have hA65 := hA34.as [] rfl; clear hA34
  refine c_region ?_
  refine st hA65 (op_assign rfl (evc _ _)) rfl rfl (by decide) fun a66 hA67 => ?_; clear hA65 a33
  refine wl_nil ?_
  refine then_n ?_
  refine c_ret ?_
  refine fin_run hA67 (.inl rfl) (run_results1 hA67 rfl (.tmp rfl)) ?_
  exact ⟨congrArg Value.bool (by unfold nearB; first | exact (any_yes (k := k) (by omega) (by assumption)).symm | exact (any_no (fun j hj => hn j (by omega))).symm), hS22.ext⟩

theorem LotFits_ok (rl rs rb : Value) (rlv : List Value) (d : RD) (w : World) (hR : RoundAt w rl rs rb rlv d) (xl : Value) (l : List Int) (hx : SlAt w xl 1 l.length (ints l)) (hlen : l.length ≤ 1000000) (lab sh : Int) (hV : Valid d) (hsh : -5000 ≤ sh ∧ sh ≤ 5000) (lot x : Int) (hyb : -5000 ≤ x ∧ x ≤ 5000) :
  Calls Try.prog 72 #[(Value.agg #[rl, rs, (Value.int .i64 d.spread), rb]), xl, (Value.int .i64 lab), (Value.int .i64 sh), (Value.int .i64 lot), (Value.int .i64 x)] w (Ret fun v w' => v = .bool (lfB d l lab sh lot x) ∧ Ext NoB w w') := by
 refine calls_enter Try.func72 rfl fun a0 hA0 => ?_
 replace hA0 : Fr 38 [] [(0, (Value.agg #[rl, rs, (Value.int .i64 d.spread), rb])), (1, xl), (2, (Value.int .i64 lab)), (3, (Value.int .i64 sh)), (4, (Value.int .i64 lot)), (5, (Value.int .i64 x))] a0 := hA0
 have hns := hV.ns
 have hS0 : Sep NoB w w [(sl xl 1 l.length (ints l)), (rndR false rl rs rb rlv d)] := sep_ro ⟨rfl, hx, rfl, hR, trivial⟩
 refine c_seq ?_
 refine c_region ?_
 refine stw hA0 (op_box hS0 rfl (hA0.ev rfl) (cs := [rl, rs, (Value.int .i64 d.spread), rb]) rfl) rfl rfl (by decide) ?_
 rintro a1 _ w3 ⟨b4, rfl, hS5⟩ hA2; clear hA0 hS0 a0
 refine st hA2 (op_assign rfl (evc _ _)) rfl rfl (by decide) fun a6 hA7 => ?_; clear hA2 a1
 refine wl_nil ?_
 refine then_n ?_
 refine c_seq ?_
 refine c_seq ?_
 refine c_region ?_
 refine st hA7 (op_assign rfl (evc _ _)) rfl rfl (by decide) fun a8 hA9 => ?_; clear hA7 a6
 refine wl_nil ?_
 refine then_n ?_
 refine c_block ?_
 have hA10 := hA9.as [(13, (Value.int .i64 0)), (6, (bptr b4 0)), (1, xl), (2, (Value.int .i64 lab)), (3, (Value.int .i64 sh)), (4, (Value.int .i64 lot)), (5, (Value.int .i64 x))] rfl; clear hA9
 refine c_loop (G := Nat) (fun (k : Nat) a_ w_ => Fr 38 [] [(13, (Value.int .i64 (k : Int))), (6, (bptr b4 0)), (1, xl), (2, (Value.int .i64 lab)), (3, (Value.int .i64 sh)), (4, (Value.int .i64 lot)), (5, (Value.int .i64 x))] a_ ∧ Sep NoB w w_ [(blk b4 26 [rl, rs, (Value.int .i64 d.spread), rb]), (sl xl 1 l.length (ints l)), (rndR false rl rs rb rlv d)] ∧ (k ≤ d.samples.length) ∧ (∀ i, i < k → (!decide (d.samples.getD i 0 = lot) || nearB d l lab sh i x) = true)) (fun k => d.samples.length - k) 0 ⟨hA10.as _ rfl, hS5, by omega, (fun _ h => absurd h (Nat.not_lt_zero _))⟩ ?_
 clear hA10 hS5 a8
 rintro k a11 w13 ⟨hA12, hS14, hkk, hn⟩
 refine c_seq ?_
 refine c_seq ?_
 refine c_region ?_
 refine st hA12 (op_move rfl (hA12.ev rfl)) rfl rfl (by decide) fun a15 hA16 => ?_; clear hA12 a11
 refine st hA16 (op_field rfl fd_26_1 (hA16.ev rfl)) rfl rfl (by decide) fun a17 hA18 => ?_; clear hA16 a15
 refine st hA18 (op_load1 rfl ty_23 (hA18.ev rfl) (hS14.bk 0 rfl) rfl) rfl rfl (by decide) fun a19 hA20 => ?_; clear hA18 a17
 refine st hA20 (op_lenS rfl un_23 (hA20.ev rfl) (rnd_at (hS14.ok 2 _ rfl)).samples) rfl rfl (by decide) fun a21 hA22 => ?_; clear hA20 a19
 refine st hA22 (op_lss rfl (hA22.ev rfl) (hA22.ev rfl)) rfl rfl (by decide) fun a23 hA24 => ?_; clear hA22 a21
 refine wl_nil ?_
 refine then_n ?_
 by_cases hb25 : (k : Int) < (d.samples.length : Int)
 ·skip
  rw [decide_eq_true hb25] at hA24
  refine c_true hA24 rfl ?_
  refine c_skip ?_
  refine then_n ?_
  refine c_seq ?_
  refine c_block ?_
  refine c_seq ?_
  refine c_region ?_
  refine st hA24 (op_field rfl fd_26_1 (hA24.ev rfl)) rfl rfl (by decide) fun a26 hA27 => ?_; clear hA24 a23
  refine st hA27 (op_load1 rfl ty_23 (hA27.ev rfl) (hS14.bk 0 rfl) rfl) rfl rfl (by decide) fun a28 hA29 => ?_; clear hA27 a26
  refine st hA29 (op_move rfl (hA29.ev rfl)) rfl rfl (by decide) fun a30 hA31 => ?_; clear hA29 a28
  refine st hA31 (op_indexS rfl un_23 ty_3 (hA31.ev rfl) (i := k) (hA31.ev rfl) (rnd_at (hS14.ok 2 _ rfl)).samples (by decide) (by omega)) rfl rfl (by decide) fun a32 hA33 => ?_; clear hA31 a30
  refine st hA33 (op_load1E rfl ty_3 (hA33.ev rfl) (rnd_at (hS14.ok 2 _ rfl)).samples (ints_at (by omega))) rfl rfl (by decide) fun a34 hA35 => ?_; clear hA33 a32
  refine st hA35 (op_move rfl (hA35.ev rfl)) rfl rfl (by decide) fun a36 hA37 => ?_; clear hA35 a34
  refine st hA37 (op_eql rfl (hA37.ev rfl) (hA37.ev rfl)) rfl rfl (by decide) fun a38 hA39 => ?_; clear hA37 a36
  refine st hA39 (op_move rfl (hA39.ev rfl)) rfl rfl (by decide) fun a40 hA41 => ?_; clear hA39 a38
  by_cases hb42 : (d.samples.getD k 0) = lot
  ·skip
   rw [decide_eq_true hb42] at hA41
   refine stg hA41 (op_loadA rfl ty_26 (hA41.ev rfl) (hS14.bk 0 rfl) (l := [rl, rs, (Value.int .i64 d.spread), rb]) rfl rfl) rfl rfl rfl rfl (by decide) fun a43 hA44 => ?_; clear hA41 a40
   refine stg hA44 (op_move rfl (hA44.ev rfl)) rfl rfl rfl rfl (by decide) fun a45 hA46 => ?_; clear hA44 a43
   refine stg hA46 (op_move rfl (hA46.ev rfl)) rfl rfl rfl rfl (by decide) fun a47 hA48 => ?_; clear hA46 a45
   refine stg hA48 (op_move rfl (hA48.ev rfl)) rfl rfl rfl rfl (by decide) fun a49 hA50 => ?_; clear hA48 a47
   refine stg hA50 (op_move rfl (hA50.ev rfl)) rfl rfl rfl rfl (by decide) fun a51 hA52 => ?_; clear hA50 a49
   refine stg hA52 (op_move rfl (hA52.ev rfl)) rfl rfl rfl rfl (by decide) fun a53 hA54 => ?_; clear hA52 a51
   refine stwg hA54 (op_call rfl en_88 (ev6 (hA54.ev rfl) (hA54.ev rfl) (hA54.ev rfl) (hA54.ev rfl) (hA54.ev rfl) (hA54.ev rfl)) (Near_ok rl rs rb rlv d _ (rnd_at (hS14.ok 2 _ rfl)) _ l (hS14.sk 1 rfl) (by omega) lab sh hV (by omega) k x (by omega) (by omega))) rfl rfl rfl rfl (by decide) ?_
   rintro a55 _ w57 ⟨rfl, hE58⟩ hA56; have hS59 := hS14.step hE58; clear hE58 hA54 hS14 a53
   refine stg hA56 (op_not rfl (hA56.ev rfl)) rfl rfl rfl rfl (by decide) fun a60 hA61 => ?_; clear hA56 a55
   refine st hA61 (op_pick_t rfl (hA61.ev rfl) (hA61.ev rfl)) rfl rfl (by decide) fun a62 hA63 => ?_; clear hA61 a60
   refine wl_nil ?_
   refine then_n ?_
   rcases Bool.eq_false_or_eq_true ((nearB d l lab sh k x)) with hb64 | hb64
   ·skip
    rw [hb64] at hA63
    refine c_false hA63 rfl ?_
    refine c_skip ?_
    refine blk_n ?_
    refine then_n ?_
    have hA65 := hA63.as [(13, (Value.int .i64 (k : Int))), (6, (bptr b4 0)), (1, xl), (2, (Value.int .i64 lab)), (3, (Value.int .i64 sh)), (4, (Value.int .i64 lot)), (5, (Value.int .i64 x))] rfl; clear hA63
    refine c_region ?_
    refine st hA65 (op_move rfl (hA65.ev rfl)) rfl rfl (by decide) fun a66 hA67 => ?_; clear hA65 a62
    refine st hA67 (op_add rfl (hA67.ev rfl) (evc _ _) (by omega) (by omega)) rfl rfl (by decide) fun a68 hA69 => ?_; clear hA67 a66
    refine st hA69 (op_assign rfl (hA69.ev rfl)) rfl rfl (by decide) fun a70 hA71 => ?_; clear hA69 a68
    refine wl_nil ?_
    exact then_n ⟨k + 1, ⟨hA71.as _ rfl, hS59, by omega, (fun i hi => by rcases Nat.lt_succ_iff_lt_or_eq.1 hi with h | h; exact hn i h; subst h; first | (rw [decide_eq_false (by assumption)]; rfl) | (rw [‹nearB d l lab sh _ x = true›, Bool.or_true]))⟩, by omega⟩
   ·skip
    rw [hb64] at hA63
    refine c_true hA63 rfl ?_
    refine c_seq ?_
    have hA72 := hA63.as [] rfl; clear hA63
    refine c_region ?_
    refine st hA72 (op_assign rfl (evc _ _)) rfl rfl (by decide) fun a73 hA74 => ?_; clear hA72 a62
    refine wl_nil ?_
    refine then_n ?_
    refine c_ret ?_
    refine blk_ret ?_
    refine then_ret ?_
    refine then_ret ?_
    refine blk_ret ?_
    refine then_ret ?_
    refine fin_run hA74 (.inl rfl) (run_results1 hA74 rfl (.tmp rfl)) ?_
    exact ⟨congrArg Value.bool (by unfold lfB; first | exact (all_yes (fun i hi => hn i (by omega))).symm | exact (all_no (k := k) (by omega) (by rw [decide_eq_true (by assumption), ‹nearB d l lab sh _ x = false›]; rfl)).symm), hS59.ext⟩
  ·skip
   rw [decide_eq_false hb42] at hA41
   refine skp hA41 rfl rfl rfl rfl rfl (by decide) fun a75 hA76 => ?_; clear hA41 a40
   refine skp hA76 rfl rfl rfl rfl rfl (by decide) fun a77 hA78 => ?_; clear hA76 a75
   refine skp hA78 rfl rfl rfl rfl rfl (by decide) fun a79 hA80 => ?_; clear hA78 a77
   refine skp hA80 rfl rfl rfl rfl rfl (by decide) fun a81 hA82 => ?_; clear hA80 a79
   refine skp hA82 rfl rfl rfl rfl rfl (by decide) fun a83 hA84 => ?_; clear hA82 a81
   refine skp hA84 rfl rfl rfl rfl rfl (by decide) fun a85 hA86 => ?_; clear hA84 a83
   refine skp hA86 rfl rfl rfl rfl rfl (by decide) fun a87 hA88 => ?_; clear hA86 a85
   refine skp hA88 rfl rfl rfl rfl rfl (by decide) fun a89 hA90 => ?_; clear hA88 a87
   refine st hA90 (op_pick_f rfl (hA90.ev rfl) (evc _ _)) rfl rfl (by decide) fun a91 hA92 => ?_; clear hA90 a89
   refine wl_nil ?_
   refine then_n ?_
   refine c_false hA92 rfl ?_
   refine c_skip ?_
   refine blk_n ?_
   refine then_n ?_
   have hA93 := hA92.as [(13, (Value.int .i64 (k : Int))), (6, (bptr b4 0)), (1, xl), (2, (Value.int .i64 lab)), (3, (Value.int .i64 sh)), (4, (Value.int .i64 lot)), (5, (Value.int .i64 x))] rfl; clear hA92
   refine c_region ?_
   refine st hA93 (op_move rfl (hA93.ev rfl)) rfl rfl (by decide) fun a94 hA95 => ?_; clear hA93 a91
   refine st hA95 (op_add rfl (hA95.ev rfl) (evc _ _) (by omega) (by omega)) rfl rfl (by decide) fun a96 hA97 => ?_; clear hA95 a94
   refine st hA97 (op_assign rfl (hA97.ev rfl)) rfl rfl (by decide) fun a98 hA99 => ?_; clear hA97 a96
   refine wl_nil ?_
   exact then_n ⟨k + 1, ⟨hA99.as _ rfl, hS14, by omega, (fun i hi => by rcases Nat.lt_succ_iff_lt_or_eq.1 hi with h | h; exact hn i h; subst h; first | (rw [decide_eq_false (by assumption)]; rfl) | (rw [‹nearB d l lab sh _ x = true›, Bool.or_true]))⟩, by omega⟩
 ·skip
  rw [decide_eq_false hb25] at hA24
  refine c_false hA24 rfl ?_
  refine c_exit ?_
  refine then_exit ?_
  refine then_exit ?_
  refine blk_hit ?_
  refine then_n ?_
  refine c_seq ?_
  have hA100 := hA24.as [] rfl; clear hA24
  refine c_region ?_
  refine st hA100 (op_assign rfl (evc _ _)) rfl rfl (by decide) fun a101 hA102 => ?_; clear hA100 a23
  refine wl_nil ?_
  refine then_n ?_
  refine c_ret ?_
  refine fin_run hA102 (.inl rfl) (run_results1 hA102 rfl (.tmp rfl)) ?_
  exact ⟨congrArg Value.bool (by unfold lfB; first | exact (all_yes (fun i hi => hn i (by omega))).symm | exact (all_no (k := k) (by omega) (by rw [decide_eq_true (by assumption), ‹nearB d l lab sh _ x = false›]; rfl)).symm), hS14.ext⟩

theorem Lots_ok (rl rs rb : Value) (rlv : List Value) (d : RD) (w : World) (hR : RoundAt w rl rs rb rlv d) (xl : Value) (l : List Int) (hx : SlAt w xl 1 l.length (ints l)) (hlen : l.length ≤ 1000000) (lab sh : Int) (hV : Valid d) (hsh : -5000 ≤ sh ∧ sh ≤ 5000) :
  Calls Try.prog 53 #[(Value.agg #[rl, rs, (Value.int .i64 d.spread), rb]), xl, (Value.int .i64 lab), (Value.int .i64 sh)] w (Ret fun v w' => ∃ u ov, v = .tuple #[u, .bool (refOk d l lab sh)] ∧ Sep NoB w w' [row u 23 1 ov.length ov, lstR ov (lotsUpto d l lab sh d.lots.length)]) := by
 refine calls_enter Try.func53 rfl fun a0 hA0 => ?_
 replace hA0 : Fr 61 [] [(0, (Value.agg #[rl, rs, (Value.int .i64 d.spread), rb])), (1, xl), (2, (Value.int .i64 lab)), (3, (Value.int .i64 sh))] a0 := hA0
 have hnl := hV.nl
 have hS0 : Sep NoB w w [(sl xl 1 l.length (ints l)), (rndR false rl rs rb rlv d)] := sep_ro ⟨rfl, hx, rfl, hR, trivial⟩
 refine c_seq ?_
 refine c_region ?_
 refine stw hA0 (op_box hS0 rfl (hA0.ev rfl) (cs := [rl, rs, (Value.int .i64 d.spread), rb]) rfl) rfl rfl (by decide) ?_
 rintro a1 _ w3 ⟨b4, rfl, hS5⟩ hA2; clear hA0 hS0 a0
 refine st hA2 (op_assign rfl (evc _ _)) rfl rfl (by decide) fun a6 hA7 => ?_; clear hA2 a1
 refine st hA7 (op_assign rfl (evc _ _)) rfl rfl (by decide) fun a8 hA9 => ?_; clear hA7 a6
 refine wl_nil ?_
 refine then_n ?_
 refine c_seq ?_
 refine c_region ?_
 refine st hA9 (op_assign rfl (evc _ _)) rfl rfl (by decide) fun a10 hA11 => ?_; clear hA9 a8
 have hS12 := hS5.nil_row 23 1; clear hS5
 refine wl_nil ?_
 refine then_n ?_
 refine c_seq ?_
 refine c_region ?_
 refine st hA11 (op_assign rfl (evc _ _)) rfl rfl (by decide) fun a13 hA14 => ?_; clear hA11 a10
 refine wl_nil ?_
 refine then_n ?_
 refine c_seq ?_
 refine c_seq ?_
 refine c_region ?_
 refine st hA14 (op_assign rfl (evc _ _)) rfl rfl (by decide) fun a15 hA16 => ?_; clear hA14 a13
 refine wl_nil ?_
 refine then_n ?_
 refine c_block ?_
 have hS17 := hS12.lst_nil; clear hS12
 have hA18 := hA16.as [(12, (Value.int .i64 0)), (11, (Value.bool true)), (10, (Value.slice none 0 0)), (4, (bptr b4 0)), (1, xl), (2, (Value.int .i64 lab)), (3, (Value.int .i64 sh))] rfl; clear hA16
 refine c_loop (G := Nat) (fun (k : Nat) a_ w_ => ∃ ov_ : List Value, ∃ v10_ : Value, Fr 61 [] [(12, (Value.int .i64 (k : Int))), (11, (Value.bool (canUpto d l lab sh k))), (10, v10_), (4, (bptr b4 0)), (1, xl), (2, (Value.int .i64 lab)), (3, (Value.int .i64 sh))] a_ ∧ Sep NoB w w_ [(lstR ov_ (lotsUpto d l lab sh k)), (row v10_ 23 1 ov_.length ov_), (blk b4 26 [rl, rs, (Value.int .i64 d.spread), rb]), (sl xl 1 l.length (ints l)), (rndR false rl rs rb rlv d)] ∧ (k ≤ d.lots.length)) (fun k => d.lots.length - k) 0 ⟨[], (Value.slice none 0 0), hA18.as _ rfl, hS17, by omega⟩ ?_
 clear hA18 hS17 a15
 rintro k a19 w21 ⟨ov_, v10_, hA20, hS22, hk⟩
 have hol := hS22.lst_len 0 rfl; rw [lotsUpto_length] at hol
 refine c_seq ?_
 refine c_seq ?_
 refine c_region ?_
 refine st hA20 (op_move rfl (hA20.ev rfl)) rfl rfl (by decide) fun a23 hA24 => ?_; clear hA20 a19
 refine st hA24 (op_field rfl fd_26_0 (hA24.ev rfl)) rfl rfl (by decide) fun a25 hA26 => ?_; clear hA24 a23
 refine st hA26 (op_load1 rfl ty_22 (hA26.ev rfl) (hS22.bk 2 rfl) rfl) rfl rfl (by decide) fun a27 hA28 => ?_; clear hA26 a25
 refine st hA28 (op_lenS rfl un_22 (hA28.ev rfl) (rnd_at (hS22.ok 4 _ rfl)).lots) rfl rfl (by decide) fun a29 hA30 => ?_; clear hA28 a27
 refine st hA30 (op_lss rfl (hA30.ev rfl) (hA30.ev rfl)) rfl rfl (by decide) fun a31 hA32 => ?_; clear hA30 a29
 refine wl_nil ?_
 refine then_n ?_
 by_cases hb33 : (k : Int) < (d.lots.length : Int)
 ·skip
  rw [decide_eq_true hb33] at hA32
  have hlk := hV.lots k (by omega)
  refine c_true hA32 rfl ?_
  refine c_skip ?_
  refine then_n ?_
  refine c_seq ?_
  refine c_block ?_
  refine c_seq ?_
  refine c_region ?_
  refine st hA32 (op_assign rfl (evc _ _)) rfl rfl (by decide) fun a34 hA35 => ?_; clear hA32 a31
  have hS36 := hS22.nil_row 3 1; clear hS22
  refine wl_nil ?_
  refine then_n ?_
  refine c_seq ?_
  refine c_seq ?_
  refine c_region ?_
  refine st hA35 (op_field rfl fd_26_0 (hA35.ev rfl)) rfl rfl (by decide) fun a37 hA38 => ?_; clear hA35 a34
  refine st hA38 (op_load1 rfl ty_22 (hA38.ev rfl) (hS36.bk 3 rfl) rfl) rfl rfl (by decide) fun a39 hA40 => ?_; clear hA38 a37
  refine st hA40 (op_move rfl (hA40.ev rfl)) rfl rfl (by decide) fun a41 hA42 => ?_; clear hA40 a39
  refine st hA42 (op_indexS rfl un_22 ty_44 (hA42.ev rfl) (i := k) (hA42.ev rfl) (rnd_at (hS36.ok 5 _ rfl)).lots (by decide) (by omega)) rfl rfl (by decide) fun a43 hA44 => ?_; clear hA42 a41
  refine st hA44 (op_fieldS rfl fd_44_0 (hA44.ev rfl) (rnd_at (hS36.ok 5 _ rfl)).lots (by rw [((rnd_at (hS36.ok 5 _ rfl)).lots).1]; omega)) rfl rfl (by decide) fun a45 hA46 => ?_; clear hA44 a43
  refine st hA46 (op_load1E rfl ty_3 (hA46.ev rfl) (rnd_at (hS36.ok 5 _ rfl)).lots (pairs_at0 (by omega))) rfl rfl (by decide) fun a47 hA48 => ?_; clear hA46 a45
  refine st hA48 (op_assign rfl (hA48.ev rfl)) rfl rfl (by decide) fun a49 hA50 => ?_; clear hA48 a47
  refine wl_nil ?_
  refine then_n ?_
  refine c_block ?_
  have hA51 := hA50.as [(14, (Value.int .i64 ((d.lots.getD k (0, 0)).1))), (13, (Value.slice none 0 0)), (12, (Value.int .i64 (k : Int))), (11, (Value.bool (canUpto d l lab sh k))), (10, v10_), (4, (bptr b4 0)), (1, xl), (2, (Value.int .i64 lab)), (3, (Value.int .i64 sh))] rfl; clear hA50
  refine c_loop (G := Nat) (fun (t : Nat) a_ w_ => ∃ v13_ : Value, Fr 61 [] [(14, (Value.int .i64 ((d.lots.getD k (0, 0)).1 + (t : Int)))), (13, v13_), (12, (Value.int .i64 (k : Int))), (11, (Value.bool (canUpto d l lab sh k))), (10, v10_), (4, (bptr b4 0)), (1, xl), (2, (Value.int .i64 lab)), (3, (Value.int .i64 sh))] a_ ∧ Sep NoB w w_ [(row v13_ 3 1 ((lotUpto d l lab sh k t).length) (ints (lotUpto d l lab sh k t))), (lstR ov_ (lotsUpto d l lab sh k)), (row v10_ 23 1 ov_.length ov_), (blk b4 26 [rl, rs, (Value.int .i64 d.spread), rb]), (sl xl 1 l.length (ints l)), (rndR false rl rs rb rlv d)] ∧ (t ≤ ((d.lots.getD k (0, 0)).2 - (d.lots.getD k (0, 0)).1 + 1).toNat)) (fun t => ((d.lots.getD k (0, 0)).2 - (d.lots.getD k (0, 0)).1 + 1).toNat - t) 0 ⟨(Value.slice none 0 0), hA51.as _ (by simp [pickSlots, List.lookup]), hS36, by omega⟩ ?_
  clear hA51 hS36 a49
  rintro t a52 w54 ⟨v13_, hA53, hS55, ht⟩
  have htl := lotUpto_len (d := d) (l := l) (lab := lab) (sh := sh) (i := k) (n := t)
  refine c_seq ?_
  refine c_seq ?_
  refine c_region ?_
  refine st hA53 (op_move rfl (hA53.ev rfl)) rfl rfl (by decide) fun a56 hA57 => ?_; clear hA53 a52
  refine st hA57 (op_field rfl fd_26_0 (hA57.ev rfl)) rfl rfl (by decide) fun a58 hA59 => ?_; clear hA57 a56
  refine st hA59 (op_load1 rfl ty_22 (hA59.ev rfl) (hS55.bk 3 rfl) rfl) rfl rfl (by decide) fun a60 hA61 => ?_; clear hA59 a58
  refine st hA61 (op_move rfl (hA61.ev rfl)) rfl rfl (by decide) fun a62 hA63 => ?_; clear hA61 a60
  refine st hA63 (op_indexS rfl un_22 ty_44 (hA63.ev rfl) (i := k) (hA63.ev rfl) (rnd_at (hS55.ok 5 _ rfl)).lots (by decide) (by omega)) rfl rfl (by decide) fun a64 hA65 => ?_; clear hA63 a62
  refine st hA65 (op_fieldS rfl fd_44_1 (hA65.ev rfl) (rnd_at (hS55.ok 5 _ rfl)).lots (by rw [((rnd_at (hS55.ok 5 _ rfl)).lots).1]; omega)) rfl rfl (by decide) fun a66 hA67 => ?_; clear hA65 a64
  refine st hA67 (op_load1E rfl ty_3 (hA67.ev rfl) (rnd_at (hS55.ok 5 _ rfl)).lots (pairs_at1 (by omega))) rfl rfl (by decide) fun a68 hA69 => ?_; clear hA67 a66
  refine st hA69 (op_leq rfl (hA69.ev rfl) (hA69.ev rfl)) rfl rfl (by decide) fun a70 hA71 => ?_; clear hA69 a68
  refine wl_nil ?_
  refine then_n ?_
  by_cases hb72 : ((d.lots.getD k (0, 0)).1 + (t : Int)) ≤ ((d.lots.getD k (0, 0)).2)
  ·skip
   rw [decide_eq_true hb72] at hA71
   refine c_true hA71 rfl ?_
   refine c_skip ?_
   refine then_n ?_
   refine c_seq ?_
   refine c_block ?_
   refine c_seq ?_
   have hA73 := hA71.as [(14, (Value.int .i64 ((d.lots.getD k (0, 0)).1 + (t : Int)))), (13, v13_), (12, (Value.int .i64 (k : Int))), (11, (Value.bool (canUpto d l lab sh k))), (10, v10_), (4, (bptr b4 0)), (1, xl), (2, (Value.int .i64 lab)), (3, (Value.int .i64 sh))] rfl; clear hA71
   refine c_region ?_
   refine st hA73 (op_loadA rfl ty_26 (hA73.ev rfl) (hS55.bk 3 rfl) (l := [rl, rs, (Value.int .i64 d.spread), rb]) rfl rfl) rfl rfl (by decide) fun a74 hA75 => ?_; clear hA73 a70
   refine st hA75 (op_move rfl (hA75.ev rfl)) rfl rfl (by decide) fun a76 hA77 => ?_; clear hA75 a74
   refine st hA77 (op_move rfl (hA77.ev rfl)) rfl rfl (by decide) fun a78 hA79 => ?_; clear hA77 a76
   refine st hA79 (op_move rfl (hA79.ev rfl)) rfl rfl (by decide) fun a80 hA81 => ?_; clear hA79 a78
   refine st hA81 (op_move rfl (hA81.ev rfl)) rfl rfl (by decide) fun a82 hA83 => ?_; clear hA81 a80
   refine st hA83 (op_move rfl (hA83.ev rfl)) rfl rfl (by decide) fun a84 hA85 => ?_; clear hA83 a82
   refine stw hA85 (op_call rfl en_72 (ev6 (hA85.ev rfl) (hA85.ev rfl) (hA85.ev rfl) (hA85.ev rfl) (hA85.ev rfl) (hA85.ev rfl)) (LotFits_ok rl rs rb rlv d _ (rnd_at (hS55.ok 5 _ rfl)) _ l (hS55.sk 4 rfl) (by omega) lab sh hV (by omega) (k : Int) ((d.lots.getD k (0, 0)).1 + (t : Int)) (by omega))) rfl rfl (by decide) ?_
   rintro a86 _ w88 ⟨rfl, hE89⟩ hA87; have hS90 := hS55.step hE89; clear hE89 hA85 hS55 a84
   refine wl_nil ?_
   refine then_n ?_
   rcases Bool.eq_false_or_eq_true ((lfB d l lab sh (k : Int) ((d.lots.getD k (0, 0)).1 + (t : Int)))) with hb91 | hb91
   ·skip
    rw [hb91] at hA87
    refine c_true hA87 rfl ?_
    have hA92 := hA87.as [(14, (Value.int .i64 ((d.lots.getD k (0, 0)).1 + (t : Int)))), (13, v13_), (12, (Value.int .i64 (k : Int))), (11, (Value.bool (canUpto d l lab sh k))), (10, v10_), (4, (bptr b4 0)), (1, xl), (2, (Value.int .i64 lab)), (3, (Value.int .i64 sh))] rfl; clear hA87
    refine c_region ?_
    refine st hA92 (op_move rfl (hA92.ev rfl)) rfl rfl (by decide) fun a93 hA94 => ?_; clear hA92 a86
    refine st hA94 (op_move rfl (hA94.ev rfl)) rfl rfl (by decide) fun a95 hA96 => ?_; clear hA94 a93
    refine stw hA96 (op_buildSlice hS90 rfl (pv1 (hA96.ev rfl)) un_23 ty_3 ze_3 (by decide) (cs := [(Value.int .i64 ((d.lots.getD k (0, 0)).1 + (t : Int)))]) (bs_3_1_0i _)) rfl rfl (by decide) ?_
    rintro a97 _ w99 ⟨b100, rfl, hS101⟩ hA98; clear hA96 hS90 a95
    refine stw hA98 (op_append hS101 rfl un_23 el_3 (hA98.ev rfl) (hA98.ev rfl) (i := 1) rfl (SlAt.of_blk (hS101.bk 0 rfl) rfl (Nat.le_of_ble_eq_true rfl)) rfl (by simp only [maxLen]; omega) (by omega)) rfl rfl (by decide) ?_
    intro a102 v105 w104 hS106 hA103
    have hS107 := hS106.row_say (i := 1) rfl (n' := ((lotUpto d l lab sh k t) ++ [(d.lots.getD k (0, 0)).1 + (t : Int)]).length) (xs' := (ints ((lotUpto d l lab sh k t) ++ [(d.lots.getD k (0, 0)).1 + (t : Int)]))) (by simp) (by simp [ints]); clear hS106 hA98 hS101 a97
    refine st hA103 (op_assign rfl (hA103.ev rfl)) rfl rfl (by decide) fun a108 hA109 => ?_; clear hA103 a102
    refine wl_nil ?_
    refine blk_n ?_
    refine then_n ?_
    refine c_region ?_
    refine st hA109 (op_move rfl (hA109.ev rfl)) rfl rfl (by decide) fun a110 hA111 => ?_; clear hA109 a108
    refine st hA111 (op_add rfl (hA111.ev rfl) (evc _ _) (by omega) (by omega)) rfl rfl (by decide) fun a112 hA113 => ?_; clear hA111 a110
    refine st hA113 (op_assign rfl (hA113.ev rfl)) rfl rfl (by decide) fun a114 hA115 => ?_; clear hA113 a112
    refine wl_nil ?_
    have hS116 : Sep NoB w w104 [(row v105 3 1 (((lotUpto d l lab sh k t) ++ [(d.lots.getD k (0, 0)).1 + (t : Int)]).length) (ints ((lotUpto d l lab sh k t) ++ [(d.lots.getD k (0, 0)).1 + (t : Int)]))), (lstR ov_ (lotsUpto d l lab sh k)), (row v10_ 23 1 ov_.length ov_), (blk b4 26 [rl, rs, (Value.int .i64 d.spread), rb]), (sl xl 1 l.length (ints l)), (rndR false rl rs rb rlv d)] := hS107.keep [1, 2, 3, 4, 5, 6] (by decide) _ rfl rfl; clear hS107
    exact then_n ⟨t + 1, ⟨v105, hA115.as _ (by simp [pickSlots, List.lookup]; omega), (hS116.row_say (i := 0) rfl (by rw [lotUpto_yes (by assumption)]) (by rw [lotUpto_yes (by assumption)])), by omega⟩, by omega⟩
   ·skip
    rw [hb91] at hA87
    refine c_false hA87 rfl ?_
    refine c_skip ?_
    refine blk_n ?_
    refine then_n ?_
    have hA117 := hA87.as [(14, (Value.int .i64 ((d.lots.getD k (0, 0)).1 + (t : Int)))), (13, v13_), (12, (Value.int .i64 (k : Int))), (11, (Value.bool (canUpto d l lab sh k))), (10, v10_), (4, (bptr b4 0)), (1, xl), (2, (Value.int .i64 lab)), (3, (Value.int .i64 sh))] rfl; clear hA87
    refine c_region ?_
    refine st hA117 (op_move rfl (hA117.ev rfl)) rfl rfl (by decide) fun a118 hA119 => ?_; clear hA117 a86
    refine st hA119 (op_add rfl (hA119.ev rfl) (evc _ _) (by omega) (by omega)) rfl rfl (by decide) fun a120 hA121 => ?_; clear hA119 a118
    refine st hA121 (op_assign rfl (hA121.ev rfl)) rfl rfl (by decide) fun a122 hA123 => ?_; clear hA121 a120
    refine wl_nil ?_
    exact then_n ⟨t + 1, ⟨v13_, hA123.as _ (by simp [pickSlots, List.lookup]; omega), (hS90.row_say (i := 0) rfl (by rw [lotUpto_no (by assumption)]) (by rw [lotUpto_no (by assumption)])), by omega⟩, by omega⟩
  ·skip
   rw [decide_eq_false hb72] at hA71
   refine c_false hA71 rfl ?_
   refine c_exit ?_
   refine then_exit ?_
   refine then_exit ?_
   refine blk_hit ?_
   refine then_n ?_
   refine c_seq ?_
   have hA124 := hA71.as [(13, v13_), (12, (Value.int .i64 (k : Int))), (11, (Value.bool (canUpto d l lab sh k))), (10, v10_), (4, (bptr b4 0)), (1, xl), (2, (Value.int .i64 lab)), (3, (Value.int .i64 sh))] rfl; clear hA71
   refine c_region ?_
   refine st hA124 (op_move rfl (hA124.ev rfl)) rfl rfl (by decide) fun a125 hA126 => ?_; clear hA124 a70
   refine st hA126 (op_move rfl (hA126.ev rfl)) rfl rfl (by decide) fun a127 hA128 => ?_; clear hA126 a125
   refine stw hA128 (op_buildSlice hS55 rfl (pv1 (hA128.ev rfl)) un_51 ty_23 ze_23 (by decide) (cs := [v13_]) (bs_23_1_0s _ (SlAt.isSl (SlAt.of_row (hS55.ok_row 0 rfl))))) rfl rfl (by decide) ?_
   rintro a129 _ w131 ⟨b132, rfl, hS133⟩ hA130; clear hA128 hS55 a127
   refine stw hA130 (op_append hS133 rfl un_51 el_23 (hA130.ev rfl) (hA130.ev rfl) (i := 3) rfl (SlAt.of_blk (hS133.bk 0 rfl) rfl (Nat.le_of_ble_eq_true rfl)) (all_c (SlAt.one (SlAt.of_row (hS133.ok_row 1 rfl))) all_n) (by simp only [maxLen]; omega) (by omega)) rfl rfl (by decide) ?_
   intro a134 v137 w136 hS138 hA135
   have hS139 := hS138.row_say (i := 3) rfl (n' := (ov_ ++ [v13_]).length) (xs' := (ov_ ++ [v13_])) (by simp) rfl; clear hS138 hA130 hS133 a129
   refine st hA135 (op_assign rfl (hA135.ev rfl)) rfl rfl (by decide) fun a140 hA141 => ?_; clear hA135 a134
   refine wl_nil ?_
   refine then_n ?_
   refine c_region ?_
   refine st hA141 (op_move rfl (hA141.ev rfl)) rfl rfl (by decide) fun a142 hA143 => ?_; clear hA141 a140
   refine st hA143 (op_move rfl (hA143.ev rfl)) rfl rfl (by decide) fun a144 hA145 => ?_; clear hA143 a142
   rcases Bool.eq_false_or_eq_true ((canUpto d l lab sh k)) with hb146 | hb146
   ·skip
    rw [hb146] at hA145
    refine stg hA145 (op_move rfl (hA145.ev rfl)) rfl rfl rfl rfl (by decide) fun a147 hA148 => ?_; clear hA145 a144
    refine stg hA148 (op_lenS rfl un_23 (hA148.ev rfl) (SlAt.of_row (hS139.ok_row 1 rfl))) rfl rfl rfl rfl (by decide) fun a149 hA150 => ?_; clear hA148 a147
    refine stg hA150 (op_gtr rfl (hA150.ev rfl) (evc _ _)) rfl rfl rfl rfl (by decide) fun a151 hA152 => ?_; clear hA150 a149
    refine st hA152 (op_pick_t rfl (hA152.ev rfl) (hA152.ev rfl)) rfl rfl (by decide) fun a153 hA154 => ?_; clear hA152 a151
    refine st hA154 (op_assign rfl (hA154.ev rfl)) rfl rfl (by decide) fun a155 hA156 => ?_; clear hA154 a153
    refine wl_nil ?_
    refine blk_n ?_
    refine then_n ?_
    have hA157 := hA156.as [(11, (Value.bool (decide (0 < ((lotUpto d l lab sh k t).length : Int))))), (10, v137), (12, (Value.int .i64 (k : Int))), (4, (bptr b4 0)), (1, xl), (2, (Value.int .i64 lab)), (3, (Value.int .i64 sh))] rfl; clear hA156
    refine c_region ?_
    refine st hA157 (op_move rfl (hA157.ev rfl)) rfl rfl (by decide) fun a158 hA159 => ?_; clear hA157 a155
    refine st hA159 (op_add rfl (hA159.ev rfl) (evc _ _) (by omega) (by omega)) rfl rfl (by decide) fun a160 hA161 => ?_; clear hA159 a158
    refine st hA161 (op_assign rfl (hA161.ev rfl)) rfl rfl (by decide) fun a162 hA163 => ?_; clear hA161 a160
    refine wl_nil ?_
    have hS164 : Sep NoB w w136 [(row v13_ 3 1 ((lotUpto d l lab sh k t).length) (ints (lotUpto d l lab sh k t))), (lstR ov_ (lotsUpto d l lab sh k)), (blk b132 23 [v13_]), (row v137 23 1 ((ov_ ++ [v13_]).length) (ov_ ++ [v13_])), (blk b4 26 [rl, rs, (Value.int .i64 d.spread), rb]), (sl xl 1 l.length (ints l)), (rndR false rl rs rb rlv d)] := hS139.keep [1, 2, 0, 3, 4, 5, 6] (by decide) _ rfl rfl; clear hS139
    have hS165 := hS164.lst_snoc; clear hS164
    have hS166 : Sep NoB w w136 [(lstR (ov_ ++ [v13_]) (lotsUpto d l lab sh k ++ [(lotUpto d l lab sh k t)])), (row v137 23 1 ((ov_ ++ [v13_]).length) (ov_ ++ [v13_])), (blk b4 26 [rl, rs, (Value.int .i64 d.spread), rb]), (sl xl 1 l.length (ints l)), (rndR false rl rs rb rlv d)] := hS165.keep [0, 2, 3, 4, 5] (by decide) _ rfl rfl; clear hS165
    exact then_n ⟨k + 1, ⟨(ov_ ++ [v13_]), v137, hA163.as _ (by first | (rw [canUpto_t (by assumption) (t := t) (by omega)]; rfl) | (rw [canUpto_f (by assumption)]; rfl)), (hS166.lst_say (i := 0) rfl (by rw [lotsUpto_succ, lotVals, show ((d.lots.getD k (0, 0)).2 - (d.lots.getD k (0, 0)).1 + 1).toNat = t by omega])), by omega⟩, by omega⟩
   ·skip
    rw [hb146] at hA145
    refine skp hA145 rfl rfl rfl rfl rfl (by decide) fun a167 hA168 => ?_; clear hA145 a144
    refine skp hA168 rfl rfl rfl rfl rfl (by decide) fun a169 hA170 => ?_; clear hA168 a167
    refine skp hA170 rfl rfl rfl rfl rfl (by decide) fun a171 hA172 => ?_; clear hA170 a169
    refine st hA172 (op_pick_f rfl (hA172.ev rfl) (evc _ _)) rfl rfl (by decide) fun a173 hA174 => ?_; clear hA172 a171
    refine st hA174 (op_assign rfl (hA174.ev rfl)) rfl rfl (by decide) fun a175 hA176 => ?_; clear hA174 a173
    refine wl_nil ?_
    refine blk_n ?_
    refine then_n ?_
    have hA177 := hA176.as [(11, (Value.bool false)), (10, v137), (12, (Value.int .i64 (k : Int))), (4, (bptr b4 0)), (1, xl), (2, (Value.int .i64 lab)), (3, (Value.int .i64 sh))] rfl; clear hA176
    refine c_region ?_
    refine st hA177 (op_move rfl (hA177.ev rfl)) rfl rfl (by decide) fun a178 hA179 => ?_; clear hA177 a175
    refine st hA179 (op_add rfl (hA179.ev rfl) (evc _ _) (by omega) (by omega)) rfl rfl (by decide) fun a180 hA181 => ?_; clear hA179 a178
    refine st hA181 (op_assign rfl (hA181.ev rfl)) rfl rfl (by decide) fun a182 hA183 => ?_; clear hA181 a180
    refine wl_nil ?_
    have hS184 : Sep NoB w w136 [(row v13_ 3 1 ((lotUpto d l lab sh k t).length) (ints (lotUpto d l lab sh k t))), (lstR ov_ (lotsUpto d l lab sh k)), (blk b132 23 [v13_]), (row v137 23 1 ((ov_ ++ [v13_]).length) (ov_ ++ [v13_])), (blk b4 26 [rl, rs, (Value.int .i64 d.spread), rb]), (sl xl 1 l.length (ints l)), (rndR false rl rs rb rlv d)] := hS139.keep [1, 2, 0, 3, 4, 5, 6] (by decide) _ rfl rfl; clear hS139
    have hS185 := hS184.lst_snoc; clear hS184
    have hS186 : Sep NoB w w136 [(lstR (ov_ ++ [v13_]) (lotsUpto d l lab sh k ++ [(lotUpto d l lab sh k t)])), (row v137 23 1 ((ov_ ++ [v13_]).length) (ov_ ++ [v13_])), (blk b4 26 [rl, rs, (Value.int .i64 d.spread), rb]), (sl xl 1 l.length (ints l)), (rndR false rl rs rb rlv d)] := hS185.keep [0, 2, 3, 4, 5] (by decide) _ rfl rfl; clear hS185
    exact then_n ⟨k + 1, ⟨(ov_ ++ [v13_]), v137, hA183.as _ (by first | (rw [canUpto_t (by assumption) (t := t) (by omega)]; rfl) | (rw [canUpto_f (by assumption)]; rfl)), (hS186.lst_say (i := 0) rfl (by rw [lotsUpto_succ, lotVals, show ((d.lots.getD k (0, 0)).2 - (d.lots.getD k (0, 0)).1 + 1).toNat = t by omega])), by omega⟩, by omega⟩
 ·skip
  rw [decide_eq_false hb33] at hA32
  refine c_false hA32 rfl ?_
  refine c_exit ?_
  refine then_exit ?_
  refine then_exit ?_
  refine blk_hit ?_
  refine then_n ?_
  refine c_seq ?_
  have hA187 := hA32.as [(11, (Value.bool (canUpto d l lab sh k))), (10, v10_)] rfl; clear hA32
  refine c_region ?_
  refine st hA187 (op_move rfl (hA187.ev rfl)) rfl rfl (by decide) fun a188 hA189 => ?_; clear hA187 a31
  refine st hA189 (op_move rfl (hA189.ev rfl)) rfl rfl (by decide) fun a190 hA191 => ?_; clear hA189 a188
  refine st hA191 (op_assign rfl (hA191.ev rfl)) rfl rfl (by decide) fun a192 hA193 => ?_; clear hA191 a190
  refine st hA193 (op_assign rfl (hA193.ev rfl)) rfl rfl (by decide) fun a194 hA195 => ?_; clear hA193 a192
  refine wl_nil ?_
  refine then_n ?_
  refine c_ret ?_
  refine fin_run hA195 (.inl rfl) (run_results2 hA195 rfl (.tmp rfl) (.tmp rfl)) ?_
  obtain rfl : k = d.lots.length := by omega
  exact ⟨_, _, rfl, hS22.keep [1, 0] (by decide) _ rfl rfl⟩

theorem RefExplains_ok (rl rs rb : Value) (rlv : List Value) (d : RD) (w : World) (hR : RoundAt w rl rs rb rlv d) (xl : Value) (l : List Int) (hx : SlAt w xl 1 l.length (ints l)) (hlen : l.length ≤ 1000000) (hV : Valid d) :
  Calls Try.prog 25 #[(Value.agg #[rl, rs, (Value.int .i64 d.spread), rb]), xl] w (Ret fun v w' => v = .bool (refOk d l (-1) 0) ∧ Ext NoB w w') := by
 refine calls_enter Try.func25 rfl fun a0 hA0 => ?_
 replace hA0 : Fr 14 [] [(0, (Value.agg #[rl, rs, (Value.int .i64 d.spread), rb])), (1, xl)] a0 := hA0
 have hS0 : Sep NoB w w [(sl xl 1 l.length (ints l)), (rndR false rl rs rb rlv d)] := sep_ro ⟨rfl, hx, rfl, hR, trivial⟩
 refine c_seq ?_
 refine c_region ?_
 refine stw hA0 (op_box hS0 rfl (hA0.ev rfl) (cs := [rl, rs, (Value.int .i64 d.spread), rb]) rfl) rfl rfl (by decide) ?_
 rintro a1 _ w3 ⟨b4, rfl, hS5⟩ hA2; clear hA0 hS0 a0
 refine st hA2 (op_assign rfl (evc _ _)) rfl rfl (by decide) fun a6 hA7 => ?_; clear hA2 a1
 refine wl_nil ?_
 refine then_n ?_
 refine c_seq ?_
 refine c_region ?_
 refine st hA7 (op_loadA rfl ty_26 (hA7.ev rfl) (hS5.bk 0 rfl) (l := [rl, rs, (Value.int .i64 d.spread), rb]) rfl rfl) rfl rfl (by decide) fun a8 hA9 => ?_; clear hA7 a6
 refine st hA9 (op_move rfl (hA9.ev rfl)) rfl rfl (by decide) fun a10 hA11 => ?_; clear hA9 a8
 refine stw hA11 (op_call rfl en_53 (ev4 (hA11.ev rfl) (hA11.ev rfl) (evc _ _) (evc _ _)) (Lots_ok rl rs rb rlv d _ (rnd_at (hS5.ok 2 _ rfl)) _ l (hS5.sk 1 rfl) (by omega) (-1) 0 hV (by omega))) rfl rfl (by decide) ?_
 rintro a12 _ w14 ⟨u15, ov16, rfl, hT17⟩ hA13; have hS18 := hS5.callS hT17 rfl; clear hT17 hA11 hS5 a10
 have hol_ov16 := hS18.lst_len 1 rfl; rw [lotsUpto_length] at hol_ov16
 refine st hA13 (op_move rfl (hA13.ev rfl)) rfl rfl (by decide) fun a19 hA20 => ?_; clear hA13 a12
 refine st hA20 (op_extract rfl (hA20.ev rfl) rfl) rfl rfl (by decide) fun a21 hA22 => ?_; clear hA20 a19
 refine st hA22 (op_extract rfl (hA22.ev rfl) rfl) rfl rfl (by decide) fun a23 hA24 => ?_; clear hA22 a21
 refine st hA24 (op_assign rfl (hA24.ev rfl)) rfl rfl (by decide) fun a25 hA26 => ?_; clear hA24 a23
 refine st hA26 (op_assign rfl (hA26.ev rfl)) rfl rfl (by decide) fun a27 hA28 => ?_; clear hA26 a25
 refine wl_nil ?_
 refine then_n ?_
 refine c_seq ?_
 have hA29 := hA28.as [(6, (Value.bool (refOk d l (-1) 0)))] rfl; clear hA28
 refine c_region ?_
 refine st hA29 (op_move rfl (hA29.ev rfl)) rfl rfl (by decide) fun a30 hA31 => ?_; clear hA29 a27
 refine st hA31 (op_assign rfl (hA31.ev rfl)) rfl rfl (by decide) fun a32 hA33 => ?_; clear hA31 a30
 refine wl_nil ?_
 refine then_n ?_
 refine c_ret ?_
 refine fin_run hA33 (.inl rfl) (run_results1 hA33 rfl (.tmp rfl)) ?_
 exact ⟨rfl, hS18.ext⟩

theorem Errs_ok (rl rs rb : Value) (rlv : List Value) (d : RD) (w : World) (hR : RoundAt w rl rs rb rlv d) (lab sh : Int) (hV : Valid d) (hsh : -5000 ≤ sh ∧ sh ≤ 5000) :
  Calls Try.prog 34 #[(Value.agg #[rl, rs, (Value.int .i64 d.spread), rb]), (Value.int .i64 lab), (Value.int .i64 sh)] w (Ret fun v w' => v = .bool (refOk d [] lab sh) ∧ Ext NoB w w') := by
 refine calls_enter Try.func34 rfl fun a0 hA0 => ?_
 replace hA0 : Fr 17 [] [(0, (Value.agg #[rl, rs, (Value.int .i64 d.spread), rb])), (1, (Value.int .i64 lab)), (2, (Value.int .i64 sh))] a0 := hA0
 have hS0 : Sep NoB w w [(rndR false rl rs rb rlv d)] := sep_ro ⟨rfl, hR, trivial⟩
 refine c_seq ?_
 refine c_region ?_
 refine stw hA0 (op_box hS0 rfl (hA0.ev rfl) (cs := [rl, rs, (Value.int .i64 d.spread), rb]) rfl) rfl rfl (by decide) ?_
 rintro a1 _ w3 ⟨b4, rfl, hS5⟩ hA2; clear hA0 hS0 a0
 refine st hA2 (op_assign rfl (evc _ _)) rfl rfl (by decide) fun a6 hA7 => ?_; clear hA2 a1
 refine wl_nil ?_
 refine then_n ?_
 refine c_seq ?_
 refine c_region ?_
 refine st hA7 (op_loadA rfl ty_26 (hA7.ev rfl) (hS5.bk 0 rfl) (l := [rl, rs, (Value.int .i64 d.spread), rb]) rfl rfl) rfl rfl (by decide) fun a8 hA9 => ?_; clear hA7 a6
 refine st hA9 (op_move rfl (hA9.ev rfl)) rfl rfl (by decide) fun a10 hA11 => ?_; clear hA9 a8
 refine st hA11 (op_move rfl (hA11.ev rfl)) rfl rfl (by decide) fun a12 hA13 => ?_; clear hA11 a10
 refine stw hA13 (op_call rfl en_53 (ev4 (hA13.ev rfl) (evc _ _) (hA13.ev rfl) (hA13.ev rfl)) (Lots_ok rl rs rb rlv d _ (rnd_at (hS5.ok 1 _ rfl)) _ ([]) (slAt_nil _ 1) (Nat.le_of_ble_eq_true rfl) lab sh hV (by omega))) rfl rfl (by decide) ?_
 rintro a14 _ w16 ⟨u17, ov18, rfl, hT19⟩ hA15; have hS20 := hS5.callS hT19 rfl; clear hT19 hA13 hS5 a12
 have hol_ov18 := hS20.lst_len 1 rfl; rw [lotsUpto_length] at hol_ov18
 refine st hA15 (op_move rfl (hA15.ev rfl)) rfl rfl (by decide) fun a21 hA22 => ?_; clear hA15 a14
 refine st hA22 (op_extract rfl (hA22.ev rfl) rfl) rfl rfl (by decide) fun a23 hA24 => ?_; clear hA22 a21
 refine st hA24 (op_extract rfl (hA24.ev rfl) rfl) rfl rfl (by decide) fun a25 hA26 => ?_; clear hA24 a23
 refine st hA26 (op_assign rfl (hA26.ev rfl)) rfl rfl (by decide) fun a27 hA28 => ?_; clear hA26 a25
 refine st hA28 (op_assign rfl (hA28.ev rfl)) rfl rfl (by decide) fun a29 hA30 => ?_; clear hA28 a27
 refine wl_nil ?_
 refine then_n ?_
 refine c_seq ?_
 have hA31 := hA30.as [(8, (Value.bool (refOk d ([]) lab sh)))] rfl; clear hA30
 refine c_region ?_
 refine st hA31 (op_move rfl (hA31.ev rfl)) rfl rfl (by decide) fun a32 hA33 => ?_; clear hA31 a29
 refine st hA33 (op_assign rfl (hA33.ev rfl)) rfl rfl (by decide) fun a34 hA35 => ?_; clear hA33 a32
 refine wl_nil ?_
 refine then_n ?_
 refine c_ret ?_
 refine fin_run hA35 (.inl rfl) (run_results1 hA35 rfl (.tmp rfl)) ?_
 exact ⟨rfl, hS20.ext⟩

end Go.Proofs.Ytfhmigoddaaljaa
