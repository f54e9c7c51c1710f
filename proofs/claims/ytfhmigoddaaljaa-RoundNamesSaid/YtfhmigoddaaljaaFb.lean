/-
  Walks through the functions of the seat, printed by a program of ours (gowalk), a theorem a function: what the call returns and what it leaves in memory.
-/
import Derived.Test.YtfhmigoddaaljaaFa
set_option linter.unusedSimpArgs false
set_option linter.unusedVariables false
namespace Go.Proofs.Ytfhmigoddaaljaa
open Go.RowKit Go.Shelf Go.Eng
theorem readings_ok (bj : Nat) (i : Nat) (off : List Bool) (lab sh : Int) (w : World) :
  Calls Try.prog 74 #[(bptr bj 0), (Value.int .i64 (i : Int)), (Value.agg (bools off).toArray), (Value.agg #[(Value.int .i64 lab), (Value.int .i64 sh)])] w (Ret fun v w' => ∃ b4 b5 b6 b7, v = .func (.func 89) #[] #[bptr b4 0, bptr b5 0, bptr b6 0, bptr b7 0] ∧ Sep NoB w w' [blk b7 94 [.int .i64 lab, .int .i64 sh], blk b6 85 (bools off), blk b5 3 [.int .i64 (i : Int)], blk b4 83 [bptr bj 0]]) := by
 refine calls_enter Try.func74 rfl fun a0 hA0 => ?_
 replace hA0 : Fr 10 [] [(0, (bptr bj 0)), (1, (Value.int .i64 (i : Int))), (2, (Value.agg (bools off).toArray)), (3, (Value.agg #[(Value.int .i64 lab), (Value.int .i64 sh)]))] a0 := hA0
 have hS0 : Sep NoB w w [] := Sep.start _ _
 refine c_seq ?_
 refine c_region ?_
 refine stw hA0 (op_box hS0 rfl (hA0.ev rfl) (cs := [(bptr bj 0)]) rfl) rfl rfl (by decide) ?_
 rintro a1 _ w3 ⟨b4, rfl, hS5⟩ hA2; clear hA0 hS0 a0
 refine stw hA2 (op_box hS5 rfl (hA2.ev rfl) (cs := [(Value.int .i64 (i : Int))]) rfl) rfl rfl (by decide) ?_
 rintro a6 _ w8 ⟨b9, rfl, hS10⟩ hA7; clear hA2 hS5 a1
 refine stw hA7 (op_box hS10 rfl (hA7.ev rfl) (cs := (bools off)) rfl) rfl rfl (by decide) ?_
 rintro a11 _ w13 ⟨b14, rfl, hS15⟩ hA12; clear hA7 hS10 a6
 refine stw hA12 (op_box hS15 rfl (hA12.ev rfl) (cs := [(Value.int .i64 lab), (Value.int .i64 sh)]) rfl) rfl rfl (by decide) ?_
 rintro a16 _ w18 ⟨b19, rfl, hS20⟩ hA17; clear hA12 hS15 a11
 refine st hA17 (op_assign rfl (evc _ _)) rfl rfl (by decide) fun a21 hA22 => ?_; clear hA17 a16
 refine wl_nil ?_
 refine then_n ?_
 refine c_seq ?_
 refine c_region ?_
 refine st hA22 (op_makeFunc rfl ev0 (ev4 (hA22.ev rfl) (hA22.ev rfl) (hA22.ev rfl) (hA22.ev rfl))) rfl rfl (by decide) fun a23 hA24 => ?_; clear hA22 a21
 refine st hA24 (op_assign rfl (hA24.ev rfl)) rfl rfl (by decide) fun a25 hA26 => ?_; clear hA24 a23
 refine wl_nil ?_
 refine then_n ?_
 refine c_ret ?_
 refine fin_run hA26 (.inl rfl) (run_results1 hA26 rfl (.tmp rfl)) ?_
 exact ⟨_, _, _, _, rfl, hS20⟩

theorem readings_it (b4 b5 b6 b7 bj i : Nat) (off : List Bool) (lab sh : Int) (mp vl vs vb : Value) (lv : List Value) (d : RD) (hoff : off.length = 6) (hV : Valid d) (hi : i < d.samples.length) (hsh : -2000 ≤ sh ∧ sh ≤ 2000) (hlvl : lv.length = d.tols.length) (hrdl : d.rds.length = d.tols.length) :
  Iter Try.prog 89 #[bptr b4 0, bptr b5 0, bptr b6 0, bptr b7 0] (rdUpto d i off lab sh d.tols.length).length (fun k => #[.agg #[.int .i64 ((rdUpto d i off lab sh d.tols.length).getD k (0, 0)).1, .int .i64 ((rdUpto d i off lab sh d.tols.length).getD k (0, 0)).2]]) (RData b4 b5 b6 b7 bj i off lab sh mp vl vs vb lv d) := by
 intro l J Jx W hJ hJx hD h0 hy
 refine calls_enter Try.func89 rfl fun a0 hA0 => ?_
 replace hA0 : Fr 50 [] [(0, (Value.func (.yield l) #[] #[])), (1, (bptr b4 0)), (2, (bptr b5 0)), (3, (bptr b6 0)), (4, (bptr b7 0))] a0 := hA0
 have hj0 := h0
 have hD2 := hD _ _ h0
 have hS1 : Sep NoB W W [(rob b4 83 [(bptr bj 0)]), (rob b5 3 [(Value.int .i64 (i : Int))]), (rob b6 85 (bools off)), (rob b7 94 [(Value.int .i64 lab), (Value.int .i64 sh)]), (rob bj 107 [vl, vs, (Value.int .i64 d.spread), vb, mp]), (sl vl 2 d.lots.length (pairs d.lots)), (sl vs 1 d.samples.length (ints d.samples)), (sl vb 2 d.tols.length (vpairs (d.tols.zip lv))), (rdsR lv d.rds)] := sep_ro ⟨rfl, hD2.c4, rfl, hD2.c5, rfl, hD2.c6, rfl, hD2.c7, rfl, hD2.cj, rfl, hD2.rd.lots, rfl, hD2.rd.samples, rfl, hD2.rd.labs, rfl, hD2.rd.rds, trivial⟩
 clear hD2
 refine c_seq ?_
 refine c_region ?_
 refine st hA0 (op_load1 rfl ty_83 (hA0.ev rfl) (hS1.rk 0 rfl) rfl) rfl rfl (by decide) fun a3 hA4 => ?_; clear hA0 a0
 refine st hA4 (op_nilCheck rfl (hA4.ev rfl)) rfl rfl (by decide) fun a5 hA6 => ?_; clear hA4 a3
 refine st hA6 (op_field rfl fd_107_0 (hA6.ev rfl)) rfl rfl (by decide) fun a7 hA8 => ?_; clear hA6 a5
 refine st hA8 (op_field rfl fd_34_3 (hA8.ev rfl)) rfl rfl (by decide) fun a9 hA10 => ?_; clear hA8 a7
 refine st hA10 (op_load1 rfl ty_32 (hA10.ev rfl) (hS1.rk 4 rfl) rfl) rfl rfl (by decide) fun a11 hA12 => ?_; clear hA10 a9
 refine st hA12 (op_lenS rfl un_32 (hA12.ev rfl) (hS1.sk 7 rfl)) rfl rfl (by decide) fun a13 hA14 => ?_; clear hA12 a11
 refine st hA14 (op_move rfl (evc _ _)) rfl rfl (by decide) fun a15 hA16 => ?_; clear hA14 a13
 refine wl_nil ?_
 refine then_n ?_
 refine c_block ?_
 have hA17 := hA16.as [(15, (Value.int .i64 0)), (14, (Value.int .i64 (d.tols.length : Int))), (13, vb), (0, (Value.func (.yield l) #[] #[])), (2, (bptr b5 0)), (3, (bptr b6 0)), (4, (bptr b7 0))] rfl; clear hA16
 refine c_loop (G := Nat) (fun (q : Nat) a_ w_ => Fr 50 [] [(15, (Value.int .i64 (q : Int))), (14, (Value.int .i64 (d.tols.length : Int))), (13, vb), (0, (Value.func (.yield l) #[] #[])), (2, (bptr b5 0)), (3, (bptr b6 0)), (4, (bptr b7 0))] a_ ∧ True ∧ (q ≤ d.tols.length) ∧ (J (rdUpto d i off lab sh q).length w_)) (fun q => d.tols.length - q) 0 ⟨hA17.as _ rfl, trivial, by omega, (hJ _ _ _ h0 hS1.ext)⟩ ?_
 clear hA17 hS1 a15
 rintro q a18 w20 ⟨hA19, hS21, hq0, hj⟩
 clear hS21
 have hD23 := hD _ _ hj
 have hS22 : Sep NoB w20 w20 [(rob b4 83 [(bptr bj 0)]), (rob b5 3 [(Value.int .i64 (i : Int))]), (rob b6 85 (bools off)), (rob b7 94 [(Value.int .i64 lab), (Value.int .i64 sh)]), (rob bj 107 [vl, vs, (Value.int .i64 d.spread), vb, mp]), (sl vl 2 d.lots.length (pairs d.lots)), (sl vs 1 d.samples.length (ints d.samples)), (sl vb 2 d.tols.length (vpairs (d.tols.zip lv))), (rdsR lv d.rds)] := sep_ro ⟨rfl, hD23.c4, rfl, hD23.c5, rfl, hD23.c6, rfl, hD23.c7, rfl, hD23.cj, rfl, hD23.rd.lots, rfl, hD23.rd.samples, rfl, hD23.rd.labs, rfl, hD23.rd.rds, trivial⟩
 clear hD23
 refine c_seq ?_
 refine c_region ?_
 refine st hA19 (op_lss rfl (hA19.ev rfl) (hA19.ev rfl)) rfl rfl (by decide) fun a24 hA25 => ?_; clear hA19 a18
 refine wl_nil ?_
 refine then_n ?_
 refine c_seq ?_
 by_cases hb26 : (q : Int) < (d.tols.length : Int)
 ·skip
  rw [decide_eq_true hb26] at hA25
  have hq : q < d.tols.length := by omega
  have hrd := hV.rds q hq i hi; have htl := hV.tols q hq; have hrl := hV.rdl q hq; have hnb := hV.nb
  refine c_true hA25 rfl ?_
  refine c_skip ?_
  refine then_n ?_
  refine c_seq ?_
  refine c_block ?_
  refine c_seq ?_
  refine c_region ?_
  refine st hA25 (op_move rfl (hA25.ev rfl)) rfl rfl (by decide) fun a27 hA28 => ?_; clear hA25 a24
  refine st hA28 (op_indexS rfl un_32 ty_75 (hA28.ev rfl) (i := q) (hA28.ev rfl) (hS22.sk 7 rfl) (by decide) (by omega)) rfl rfl (by decide) fun a29 hA30 => ?_; clear hA28 a27
  refine st hA30 (op_loadAE rfl ty_75 (hA30.ev rfl) (hS22.sk 7 rfl) (labs_all hlvl (by omega)) rfl (by decide)) rfl rfl (by decide) fun a31 hA32 => ?_; clear hA30 a29
  refine stw hA32 (op_alloc hS22 rfl ze_75 (cs := [(Value.int .i64 0), (Value.slice none 0 0)]) rfl) rfl rfl (by decide) ?_
  rintro a33 _ w35 ⟨b36, rfl, hS37⟩ hA34; clear hA32 hS22 a31
  refine st hA34 (op_assign rfl (hA34.ev rfl)) rfl rfl (by decide) fun a38 hA39 => ?_; clear hA34 a33
  refine sts hA39 (op_store hS37 rfl ty_75 (hA39.ev rfl) (hA39.ev rfl) (i := 0) rfl (vs := [(Value.int .i64 (d.tols.getD q 0)), (lv.getD q nilS)]) rfl rfl (all_c rfl (all_c (SlAt.one (hS37.ok 9 _ rfl q (by have := hrdl; omega))) all_n)) (Nat.le_of_ble_eq_true rfl)) rfl rfl ?_
  intro _ w40 hS41 hA42; clear hA39
  have hS43 : Sep NoB w20 w40 [(blk b36 75 [(Value.int .i64 (d.tols.getD q 0)), (lv.getD q nilS)]), (rob b4 83 [(bptr bj 0)]), (rob b5 3 [(Value.int .i64 (i : Int))]), (rob b6 85 (bools off)), (rob b7 94 [(Value.int .i64 lab), (Value.int .i64 sh)]), (rob bj 107 [vl, vs, (Value.int .i64 d.spread), vb, mp]), (sl vl 2 d.lots.length (pairs d.lots)), (sl vs 1 d.samples.length (ints d.samples)), (sl vb 2 d.tols.length (vpairs (d.tols.zip lv))), (rdsR lv d.rds)] := hS41; clear hS41 hS37
  refine wl_nil ?_
  refine then_n ?_
  refine c_seq ?_
  refine c_region ?_
  refine st hA42 (op_field rfl fd_75_1 (hA42.ev rfl)) rfl rfl (by decide) fun a44 hA45 => ?_; clear hA42 a38
  refine st hA45 (op_load1 rfl ty_23 (hA45.ev rfl) (hS43.bk 0 rfl) rfl) rfl rfl (by decide) fun a46 hA47 => ?_; clear hA45 a44
  refine st hA47 (op_load1 rfl ty_3 (hA47.ev rfl) (hS43.rk 2 rfl) rfl) rfl rfl (by decide) fun a48 hA49 => ?_; clear hA47 a46
  refine st hA49 (op_indexS rfl un_23 ty_3 (hA49.ev rfl) (i := i) (hA49.ev rfl) (hS43.ok 9 _ rfl q (by have := hrdl; omega)) (by decide) (by omega)) rfl rfl (by decide) fun a50 hA51 => ?_; clear hA49 a48
  refine st hA51 (op_load1E rfl ty_3 (hA51.ev rfl) (hS43.ok 9 _ rfl q (by have := hrdl; omega)) (ints_at (by omega))) rfl rfl (by decide) fun a52 hA53 => ?_; clear hA51 a50
  refine st hA53 (op_assign rfl (hA53.ev rfl)) rfl rfl (by decide) fun a54 hA55 => ?_; clear hA53 a52
  refine wl_nil ?_
  refine then_n ?_
  refine c_seq ?_
  refine c_seq ?_
  have hA56 := hA55.as [(8, (Value.int .i64 ((d.rds.getD q []).getD i 0))), (6, (Value.int .i64 (q : Int))), (7, (bptr b36 0)), (15, (Value.int .i64 (q : Int))), (14, (Value.int .i64 (d.tols.length : Int))), (13, vb), (0, (Value.func (.yield l) #[] #[])), (2, (bptr b5 0)), (3, (bptr b6 0)), (4, (bptr b7 0))] rfl; clear hA55
  refine c_region ?_
  refine st hA56 (op_move rfl (hA56.ev rfl)) rfl rfl (by decide) fun a57 hA58 => ?_; clear hA56 a54
  refine st hA58 (op_indexA rfl un_85 ty_4 (hA58.ev rfl) (i := q) (hA58.ev rfl) (by omega)) rfl rfl (by decide) fun a59 hA60 => ?_; clear hA58 a57
  refine st hA60 (op_load1 rfl ty_4 (hA60.ev rfl) (hS43.rk 3 rfl) (bools_at (by omega))) rfl rfl (by decide) fun a61 hA62 => ?_; clear hA60 a59
  refine st hA62 (op_move rfl (hA62.ev rfl)) rfl rfl (by decide) fun a63 hA64 => ?_; clear hA62 a61
  rcases Bool.eq_false_or_eq_true ((off.getD q false)) with hb65 | hb65
  ·skip
   rw [hb65] at hA64
   refine skp hA64 rfl rfl rfl rfl rfl (by decide) fun a66 hA67 => ?_; clear hA64 a63
   refine skp hA67 rfl rfl rfl rfl rfl (by decide) fun a68 hA69 => ?_; clear hA67 a66
   refine st hA69 (op_pick_t rfl (hA69.ev rfl) (evc _ _)) rfl rfl (by decide) fun a70 hA71 => ?_; clear hA69 a68
   refine wl_nil ?_
   refine then_n ?_
   refine c_true hA71 rfl ?_
   refine c_exit ?_
   refine then_exit ?_
   refine blk_hit ?_
   refine then_n ?_
   have hA72 := hA71.as [(15, (Value.int .i64 (q : Int))), (14, (Value.int .i64 (d.tols.length : Int))), (13, vb), (0, (Value.func (.yield l) #[] #[])), (2, (bptr b5 0)), (3, (bptr b6 0)), (4, (bptr b7 0))] rfl; clear hA71
   refine c_region ?_
   refine st hA72 (op_add rfl (hA72.ev rfl) (evc _ _) (by omega) (by omega)) rfl rfl (by decide) fun a73 hA74 => ?_; clear hA72 a70
   refine st hA74 (op_move rfl (hA74.ev rfl)) rfl rfl (by decide) fun a75 hA76 => ?_; clear hA74 a73
   refine wl_nil ?_
   exact then_n ⟨q + 1, ⟨hA76.as _ rfl, trivial, by omega, (by rw [rd_same (by first | exact rd_no1 (by assumption) | exact rd_no2 (by assumption) (by assumption))]; exact hJ _ _ _ hj hS43.ext)⟩, by omega⟩
  ·skip
   rw [hb65] at hA64
   refine stg hA64 (op_move rfl (hA64.ev rfl)) rfl rfl rfl rfl (by decide) fun a77 hA78 => ?_; clear hA64 a63
   refine stg hA78 (op_eql rfl (hA78.ev rfl) (evc _ _)) rfl rfl rfl rfl (by decide) fun a79 hA80 => ?_; clear hA78 a77
   refine st hA80 (op_pick_f rfl (hA80.ev rfl) (hA80.ev rfl)) rfl rfl (by decide) fun a81 hA82 => ?_; clear hA80 a79
   refine wl_nil ?_
   refine then_n ?_
   by_cases hb83 : ((d.rds.getD q []).getD i 0) = (-1)
   ·skip
    rw [decide_eq_true hb83] at hA82
    refine c_true hA82 rfl ?_
    refine c_exit ?_
    refine then_exit ?_
    refine blk_hit ?_
    refine then_n ?_
    have hA84 := hA82.as [(15, (Value.int .i64 (q : Int))), (14, (Value.int .i64 (d.tols.length : Int))), (13, vb), (0, (Value.func (.yield l) #[] #[])), (2, (bptr b5 0)), (3, (bptr b6 0)), (4, (bptr b7 0))] rfl; clear hA82
    refine c_region ?_
    refine st hA84 (op_add rfl (hA84.ev rfl) (evc _ _) (by omega) (by omega)) rfl rfl (by decide) fun a85 hA86 => ?_; clear hA84 a81
    refine st hA86 (op_move rfl (hA86.ev rfl)) rfl rfl (by decide) fun a87 hA88 => ?_; clear hA86 a85
    refine wl_nil ?_
    exact then_n ⟨q + 1, ⟨hA88.as _ rfl, trivial, by omega, (by rw [rd_same (by first | exact rd_no1 (by assumption) | exact rd_no2 (by assumption) (by assumption))]; exact hJ _ _ _ hj hS43.ext)⟩, by omega⟩
   ·skip
    rw [decide_eq_false hb83] at hA82
    refine c_false hA82 rfl ?_
    refine c_skip ?_
    refine then_n ?_
    refine c_seq ?_
    refine c_seq ?_
    have hA89 := hA82.as [(8, (Value.int .i64 ((d.rds.getD q []).getD i 0))), (6, (Value.int .i64 (q : Int))), (7, (bptr b36 0)), (15, (Value.int .i64 (q : Int))), (14, (Value.int .i64 (d.tols.length : Int))), (13, vb), (0, (Value.func (.yield l) #[] #[])), (2, (bptr b5 0)), (3, (bptr b6 0)), (4, (bptr b7 0))] rfl; clear hA82
    refine c_region ?_
    refine st hA89 (op_move rfl (hA89.ev rfl)) rfl rfl (by decide) fun a90 hA91 => ?_; clear hA89 a81
    refine st hA91 (op_field rfl fd_94_0 (hA91.ev rfl)) rfl rfl (by decide) fun a92 hA93 => ?_; clear hA91 a90
    refine st hA93 (op_load1 rfl ty_3 (hA93.ev rfl) (hS43.rk 4 rfl) rfl) rfl rfl (by decide) fun a94 hA95 => ?_; clear hA93 a92
    refine st hA95 (op_eql rfl (hA95.ev rfl) (hA95.ev rfl)) rfl rfl (by decide) fun a96 hA97 => ?_; clear hA95 a94
    refine wl_nil ?_
    refine then_n ?_
    by_cases hb98 : (q : Int) = lab
    ·skip
     rw [decide_eq_true hb98] at hA97
     refine c_true hA97 rfl ?_
     refine c_region ?_
     refine st hA97 (op_move rfl (hA97.ev rfl)) rfl rfl (by decide) fun a99 hA100 => ?_; clear hA97 a96
     refine st hA100 (op_field rfl fd_94_1 (hA100.ev rfl)) rfl rfl (by decide) fun a101 hA102 => ?_; clear hA100 a99
     refine st hA102 (op_load1 rfl ty_3 (hA102.ev rfl) (hS43.rk 4 rfl) rfl) rfl rfl (by decide) fun a103 hA104 => ?_; clear hA102 a101
     refine st hA104 (op_sub rfl (hA104.ev rfl) (hA104.ev rfl) (by omega) (by omega)) rfl rfl (by decide) fun a105 hA106 => ?_; clear hA104 a103
     refine st hA106 (op_assign rfl (hA106.ev rfl)) rfl rfl (by decide) fun a107 hA108 => ?_; clear hA106 a105
     refine wl_nil ?_
     refine then_n ?_
     refine c_seq ?_
     have hA109 := hA108.as [(8, (Value.int .i64 (((d.rds.getD q []).getD i 0) - sh))), (7, (bptr b36 0)), (15, (Value.int .i64 (q : Int))), (14, (Value.int .i64 (d.tols.length : Int))), (13, vb), (0, (Value.func (.yield l) #[] #[])), (2, (bptr b5 0)), (3, (bptr b6 0)), (4, (bptr b7 0))] rfl; clear hA108
     refine c_region ?_
     refine st hA109 (op_move rfl (hA109.ev rfl)) rfl rfl (by decide) fun a110 hA111 => ?_; clear hA109 a107
     refine st hA111 (op_move rfl (hA111.ev rfl)) rfl rfl (by decide) fun a112 hA113 => ?_; clear hA111 a110
     refine st hA113 (op_move rfl (hA113.ev rfl)) rfl rfl (by decide) fun a114 hA115 => ?_; clear hA113 a112
     refine st hA115 (op_build rfl (pv2 (hA115.ev rfl) (hA115.ev rfl)) (bd_46_0i_1i _ _)) rfl rfl (by decide) fun a116 hA117 => ?_; clear hA115 a114
     refine st hA117 (op_field rfl fd_75_0 (hA117.ev rfl)) rfl rfl (by decide) fun a118 hA119 => ?_; clear hA117 a116
     refine st hA119 (op_load1 rfl ty_3 (hA119.ev rfl) (hS43.bk 0 rfl) rfl) rfl rfl (by decide) fun a120 hA121 => ?_; clear hA119 a118
     refine stw hA121 (op_call rfl en_77 (ev2 (hA121.ev rfl) (hA121.ev rfl)) (wider_ok _ _ _ _ (by omega) (by omega) (by omega) (by omega) (by omega) (by omega))) rfl rfl (by decide) ?_
     rintro a122 _ w124 ⟨rfl, hE125⟩ hA123; have hS126 := hS43.step hE125; clear hE125 hA121 hS43 a120
     have he133 : rdOne d i off lab sh q = some ((((d.rds.getD q []).getD i 0) - sh) - (d.tols.getD q 0), (((d.rds.getD q []).getD i 0) - sh) + (d.tols.getD q 0)) := by first | exact rd_yes1 (by assumption) (by assumption) (by assumption) | exact rd_yes2 (by assumption) (by assumption) (by assumption)
     refine stw hA123 (op_yield rfl (hA123.ev rfl) (ev1 (hA123.ev rfl)) (by have hz := hy _ (rd_at hq he133).1 _ (hJ _ _ _ hj hS126.ext); dsimp only at hz; rw [(rd_at hq he133).2] at hz; exact hz)) rfl rfl (by decide) ?_
     rintro a127 v132 w129 hv130 hA128; clear hA123 hS126 a122
     rcases hv130 with ⟨rfl, hj131⟩ | ⟨rfl, hj131⟩
     ·skip
      refine st hA128 (op_not rfl (hA128.ev rfl)) rfl rfl (by decide) fun a134 hA135 => ?_; clear hA128 a127
      refine wl_nil ?_
      refine then_n ?_
      refine c_false hA135 rfl ?_
      refine c_skip ?_
      refine blk_n ?_
      refine then_n ?_
      have hA136 := hA135.as [(15, (Value.int .i64 (q : Int))), (14, (Value.int .i64 (d.tols.length : Int))), (13, vb), (0, (Value.func (.yield l) #[] #[])), (2, (bptr b5 0)), (3, (bptr b6 0)), (4, (bptr b7 0))] rfl; clear hA135
      refine c_region ?_
      refine st hA136 (op_add rfl (hA136.ev rfl) (evc _ _) (by omega) (by omega)) rfl rfl (by decide) fun a137 hA138 => ?_; clear hA136 a134
      refine st hA138 (op_move rfl (hA138.ev rfl)) rfl rfl (by decide) fun a139 hA140 => ?_; clear hA138 a137
      refine wl_nil ?_
      exact then_n ⟨q + 1, ⟨hA140.as _ rfl, trivial, by omega, (by rw [rd_more he133]; exact hj131)⟩, by omega⟩
     ·skip
      refine st hA128 (op_not rfl (hA128.ev rfl)) rfl rfl (by decide) fun a141 hA142 => ?_; clear hA128 a127
      refine wl_nil ?_
      refine then_n ?_
      refine c_true hA142 rfl ?_
      refine c_ret ?_
      refine blk_ret ?_
      refine then_ret ?_
      refine then_ret ?_
      refine blk_ret ?_
      refine fin_run hA142 (.inl rfl) (run_results0 rfl _) ?_
      exact .inr ⟨_, hj131⟩
    ·skip
     rw [decide_eq_false hb98] at hA97
     refine c_false hA97 rfl ?_
     refine c_skip ?_
     refine then_n ?_
     refine c_seq ?_
     refine c_region ?_
     refine st hA97 (op_move rfl (hA97.ev rfl)) rfl rfl (by decide) fun a143 hA144 => ?_; clear hA97 a96
     refine st hA144 (op_move rfl (hA144.ev rfl)) rfl rfl (by decide) fun a145 hA146 => ?_; clear hA144 a143
     refine st hA146 (op_move rfl (hA146.ev rfl)) rfl rfl (by decide) fun a147 hA148 => ?_; clear hA146 a145
     refine st hA148 (op_build rfl (pv2 (hA148.ev rfl) (hA148.ev rfl)) (bd_46_0i_1i _ _)) rfl rfl (by decide) fun a149 hA150 => ?_; clear hA148 a147
     refine st hA150 (op_field rfl fd_75_0 (hA150.ev rfl)) rfl rfl (by decide) fun a151 hA152 => ?_; clear hA150 a149
     refine st hA152 (op_load1 rfl ty_3 (hA152.ev rfl) (hS43.bk 0 rfl) rfl) rfl rfl (by decide) fun a153 hA154 => ?_; clear hA152 a151
     refine stw hA154 (op_call rfl en_77 (ev2 (hA154.ev rfl) (hA154.ev rfl)) (wider_ok _ _ _ _ (by omega) (by omega) (by omega) (by omega) (by omega) (by omega))) rfl rfl (by decide) ?_
     rintro a155 _ w157 ⟨rfl, hE158⟩ hA156; have hS159 := hS43.step hE158; clear hE158 hA154 hS43 a153
     have he166 : rdOne d i off lab sh q = some (((d.rds.getD q []).getD i 0) - (d.tols.getD q 0), ((d.rds.getD q []).getD i 0) + (d.tols.getD q 0)) := by first | exact rd_yes1 (by assumption) (by assumption) (by assumption) | exact rd_yes2 (by assumption) (by assumption) (by assumption)
     refine stw hA156 (op_yield rfl (hA156.ev rfl) (ev1 (hA156.ev rfl)) (by have hz := hy _ (rd_at hq he166).1 _ (hJ _ _ _ hj hS159.ext); dsimp only at hz; rw [(rd_at hq he166).2] at hz; exact hz)) rfl rfl (by decide) ?_
     rintro a160 v165 w162 hv163 hA161; clear hA156 hS159 a155
     rcases hv163 with ⟨rfl, hj164⟩ | ⟨rfl, hj164⟩
     ·skip
      refine st hA161 (op_not rfl (hA161.ev rfl)) rfl rfl (by decide) fun a167 hA168 => ?_; clear hA161 a160
      refine wl_nil ?_
      refine then_n ?_
      refine c_false hA168 rfl ?_
      refine c_skip ?_
      refine blk_n ?_
      refine then_n ?_
      have hA169 := hA168.as [(15, (Value.int .i64 (q : Int))), (14, (Value.int .i64 (d.tols.length : Int))), (13, vb), (0, (Value.func (.yield l) #[] #[])), (2, (bptr b5 0)), (3, (bptr b6 0)), (4, (bptr b7 0))] rfl; clear hA168
      refine c_region ?_
      refine st hA169 (op_add rfl (hA169.ev rfl) (evc _ _) (by omega) (by omega)) rfl rfl (by decide) fun a170 hA171 => ?_; clear hA169 a167
      refine st hA171 (op_move rfl (hA171.ev rfl)) rfl rfl (by decide) fun a172 hA173 => ?_; clear hA171 a170
      refine wl_nil ?_
      exact then_n ⟨q + 1, ⟨hA173.as _ rfl, trivial, by omega, (by rw [rd_more he166]; exact hj164)⟩, by omega⟩
     ·skip
      refine st hA161 (op_not rfl (hA161.ev rfl)) rfl rfl (by decide) fun a174 hA175 => ?_; clear hA161 a160
      refine wl_nil ?_
      refine then_n ?_
      refine c_true hA175 rfl ?_
      refine c_ret ?_
      refine blk_ret ?_
      refine then_ret ?_
      refine then_ret ?_
      refine blk_ret ?_
      refine fin_run hA175 (.inl rfl) (run_results0 rfl _) ?_
      exact .inr ⟨_, hj164⟩
 ·skip
  rw [decide_eq_false hb26] at hA25
  refine c_false hA25 rfl ?_
  refine c_exit ?_
  refine then_exit ?_
  refine then_exit ?_
  refine blk_hit ?_
  refine fin_run hA25 (.inr rfl) (run_results0 rfl _) ?_
  exact .inl (by rw [show d.tols.length = q by omega]; exact hJ _ _ _ hj hS22.ext)

end Go.Proofs.Ytfhmigoddaaljaa

namespace Go.Proofs.Ytfhmigoddaaljaa
open Go.RowKit Go.Shelf Go.Eng
theorem clone_rng (xs : List (Int × Int)) (v : Value) (w : World) (hv : SlAt w v 2 xs.length (pairs xs)) (hlen : xs.length ≤ 1000000) :
  Calls Try.prog 73 #[v] w (Ret fun v w' => Ext NoB w w' ∧ w'.ownsRow w.heap.size 46 2 v xs.length (pairs xs)) := by
 refine calls_enter Try.func73 rfl fun a0 hA0 => ?_
 replace hA0 : Fr 8 [] [(0, v)] a0 := hA0
 have hS0 : Sep NoB w w [(sl v 2 xs.length (pairs xs))] := sep_ro ⟨rfl, hv, trivial⟩
 refine c_seq ?_
 refine c_region ?_
 refine st hA0 (op_assign rfl (evc _ _)) rfl rfl (by decide) fun a1 hA2 => ?_; clear hA0 a0
 refine wl_nil ?_
 refine then_n ?_
 refine c_seq ?_
 refine c_seq ?_
 refine c_region ?_
 refine st hA2 (op_move rfl (hA2.ev rfl)) rfl rfl (by decide) fun a3 hA4 => ?_; clear hA2 a1
 refine stw hA4 (op_eqlNil un_31 rfl (hA4.ev rfl) (evc _ _) (hS0.sk 0 rfl) (by decide)) rfl rfl (by decide) ?_
 rintro a5 _ _ ⟨bn7, rfl, rfl, hn8⟩ hA6; clear hA4 a3
 refine wl_nil ?_
 refine then_n ?_
 rcases Bool.eq_false_or_eq_true (bn7) with hb9 | hb9
 ·skip
  rw [hb9] at hA6
  refine c_true hA6 rfl ?_
  refine c_seq ?_
  refine c_region ?_
  refine st hA6 (op_assign rfl (evc _ _)) rfl rfl (by decide) fun a10 hA11 => ?_; clear hA6 a5
  refine wl_nil ?_
  refine then_n ?_
  refine c_ret ?_
  refine then_ret ?_
  refine fin_run hA11 (.inl rfl) (run_results1 hA11 rfl (.tmp rfl)) ?_
  exact ⟨hS0.ext, by have hz := (hn8 (by assumption)); rw [hz.1, hz.2]; exact ⟨by simp, .inl ⟨rfl, rfl⟩⟩⟩
 ·skip
  rw [hb9] at hA6
  refine c_false hA6 rfl ?_
  refine c_skip ?_
  refine then_n ?_
  refine c_seq ?_
  refine c_region ?_
  refine stw hA6 (op_buildSlice hS0 rfl pv0 un_31 ty_46 ze_46 (by decide) (cs := []) bs_46_0_) rfl rfl (by decide) ?_
  rintro a12 _ w14 ⟨b15, rfl, hS16⟩ hA13; clear hA6 hS0 a5
  refine st hA13 (op_move rfl (hA13.ev rfl)) rfl rfl (by decide) fun a17 hA18 => ?_; clear hA13 a12
  have hS19 := hS16.blk_row (i := 0) (sz := 2) (n := 0) rfl rfl (by decide); clear hS16
  refine stw hA18 (op_append hS19 rfl un_31 el_46 (hA18.ev rfl) (hA18.ev rfl) (i := 0) rfl (hS19.sk 1 rfl) (pairs_one _) (by simp [maxLen]; omega) (by omega)) rfl rfl (by decide) ?_
  intro a20 v23 w22 hS24 hA21
  have hS25 := hS24.row_say (i := 0) rfl (n' := xs.length) (xs' := (pairs xs)) (by simp) (by simp); clear hS24 hA18 hS19 a17
  refine st hA21 (op_assign rfl (hA21.ev rfl)) rfl rfl (by decide) fun a26 hA27 => ?_; clear hA21 a20
  refine wl_nil ?_
  refine then_n ?_
  refine c_ret ?_
  refine fin_run hA27 (.inl rfl) (run_results1 hA27 rfl (.tmp rfl)) ?_
  exact ⟨hS25.ext, hS25.row_new (i := 0) rfl⟩

theorem clone_int (xs : List Int) (v : Value) (w : World) (hv : SlAt w v 1 xs.length (ints xs)) (hlen : xs.length ≤ 1000000) :
  Calls Try.prog 79 #[v] w (Ret fun v w' => Ext NoB w w' ∧ w'.ownsRow w.heap.size 3 1 v xs.length (ints xs)) := by
 refine calls_enter Try.func79 rfl fun a0 hA0 => ?_
 replace hA0 : Fr 8 [] [(0, v)] a0 := hA0
 have hS0 : Sep NoB w w [(sl v 1 xs.length (ints xs))] := sep_ro ⟨rfl, hv, trivial⟩
 refine c_seq ?_
 refine c_region ?_
 refine st hA0 (op_assign rfl (evc _ _)) rfl rfl (by decide) fun a1 hA2 => ?_; clear hA0 a0
 refine wl_nil ?_
 refine then_n ?_
 refine c_seq ?_
 refine c_seq ?_
 refine c_region ?_
 refine st hA2 (op_move rfl (hA2.ev rfl)) rfl rfl (by decide) fun a3 hA4 => ?_; clear hA2 a1
 refine stw hA4 (op_eqlNil un_23 rfl (hA4.ev rfl) (evc _ _) (hS0.sk 0 rfl) (by decide)) rfl rfl (by decide) ?_
 rintro a5 _ _ ⟨bn7, rfl, rfl, hn8⟩ hA6; clear hA4 a3
 refine wl_nil ?_
 refine then_n ?_
 rcases Bool.eq_false_or_eq_true (bn7) with hb9 | hb9
 ·skip
  rw [hb9] at hA6
  refine c_true hA6 rfl ?_
  refine c_seq ?_
  refine c_region ?_
  refine st hA6 (op_assign rfl (evc _ _)) rfl rfl (by decide) fun a10 hA11 => ?_; clear hA6 a5
  refine wl_nil ?_
  refine then_n ?_
  refine c_ret ?_
  refine then_ret ?_
  refine fin_run hA11 (.inl rfl) (run_results1 hA11 rfl (.tmp rfl)) ?_
  exact ⟨hS0.ext, by have hz := (hn8 (by assumption)); rw [hz.1, hz.2]; exact ⟨by simp, .inl ⟨rfl, rfl⟩⟩⟩
 ·skip
  rw [hb9] at hA6
  refine c_false hA6 rfl ?_
  refine c_skip ?_
  refine then_n ?_
  refine c_seq ?_
  refine c_region ?_
  refine stw hA6 (op_buildSlice hS0 rfl pv0 un_23 ty_3 ze_3 (by decide) (cs := []) bs_3_0_) rfl rfl (by decide) ?_
  rintro a12 _ w14 ⟨b15, rfl, hS16⟩ hA13; clear hA6 hS0 a5
  refine st hA13 (op_move rfl (hA13.ev rfl)) rfl rfl (by decide) fun a17 hA18 => ?_; clear hA13 a12
  have hS19 := hS16.blk_row (i := 0) (sz := 1) (n := 0) rfl rfl (by decide); clear hS16
  refine stw hA18 (op_append hS19 rfl un_23 el_3 (hA18.ev rfl) (hA18.ev rfl) (i := 0) rfl (hS19.sk 1 rfl) (ints_one _) (by simp [maxLen]; omega) (by omega)) rfl rfl (by decide) ?_
  intro a20 v23 w22 hS24 hA21
  have hS25 := hS24.row_say (i := 0) rfl (n' := xs.length) (xs' := (ints xs)) (by simp) (by simp); clear hS24 hA18 hS19 a17
  refine st hA21 (op_assign rfl (hA21.ev rfl)) rfl rfl (by decide) fun a26 hA27 => ?_; clear hA21 a20
  refine wl_nil ?_
  refine then_n ?_
  refine c_ret ?_
  refine fin_run hA27 (.inl rfl) (run_results1 hA27 rfl (.tmp rfl)) ?_
  exact ⟨hS25.ext, hS25.row_new (i := 0) rfl⟩

end Go.Proofs.Ytfhmigoddaaljaa

namespace Go.Proofs.Ytfhmigoddaaljaa
open Go.RowKit Go.Shelf Go.Eng
theorem spans_ok (bj : Nat) (off : List Bool) (lab sh : Int) (mp vl vs vb : Value) (lv : List Value) (d : RD) (w : World) (hoff : off.length = 6) (hV : Valid d) (hsh : -2000 ≤ sh ∧ sh ≤ 2000) (hR : RoundAt w vl vs vb lv d) (hb : (blk bj 107 [vl, vs, .int .i64 d.spread, vb, mp]).p w) :
  Calls Try.prog 54 #[(bptr bj 0), (Value.agg (bools off).toArray), (Value.agg #[(Value.int .i64 lab), (Value.int .i64 sh)])] w (Ret fun v w' => ∃ u, v = .tuple #[u, .bool (spansF d off lab sh).2] ∧ Ext NoB w w' ∧ w'.ownsRow w.heap.size 46 2 u (spansF d off lab sh).1.length (pairs (spansF d off lab sh).1)) := by
 refine calls_enterM Try.func54 rfl fun a0 hA0 => ?_
 replace hA0 : Fr 109 (marks []) [(0, (bptr bj 0)), (1, (Value.agg (bools off).toArray)), (2, (Value.agg #[(Value.int .i64 lab), (Value.int .i64 sh)]))] a0 := hA0
 have hnl := hV.nl; have hns := hV.ns; have hsd := hV.spread
 have hS0 : Sep NoB w w [(marksR []), (rob bj 107 [vl, vs, (Value.int .i64 d.spread), vb, mp]), (sl vl 2 d.lots.length (pairs d.lots)), (sl vs 1 d.samples.length (ints d.samples)), (sl vb 2 d.tols.length (vpairs (d.tols.zip lv))), (rdsR lv d.rds)] := sep_marks (sep_ro ⟨rfl, hb, rfl, hR.lots, rfl, hR.samples, rfl, hR.labs, rfl, hR.rds, trivial⟩)
 refine c_seq ?_
 refine c_region ?_
 refine stw hA0 (op_box hS0 rfl (hA0.ev rfl) (cs := (bools off)) rfl) rfl rfl (by decide) ?_
 rintro a1 _ w3 ⟨b4, rfl, hS5⟩ hA2; clear hA0 hS0 a0
 refine stw hA2 (op_box hS5 rfl (hA2.ev rfl) (cs := [(Value.int .i64 lab), (Value.int .i64 sh)]) rfl) rfl rfl (by decide) ?_
 rintro a6 _ w8 ⟨b9, rfl, hS10⟩ hA7; clear hA2 hS5 a1
 refine st hA7 (op_assign rfl (evc _ _)) rfl rfl (by decide) fun a11 hA12 => ?_; clear hA7 a6
 refine st hA12 (op_assign rfl (evc _ _)) rfl rfl (by decide) fun a13 hA14 => ?_; clear hA12 a11
 refine wl_nil ?_
 refine then_n ?_
 refine c_scope ?_
 refine c_seq ?_
 refine c_region ?_
 refine st hA14 (op_move rfl (hA14.ev rfl)) rfl rfl (by decide) fun a15 hA16 => ?_; clear hA14 a13
 refine st hA16 (op_nilCheck rfl (hA16.ev rfl)) rfl rfl (by decide) fun a17 hA18 => ?_; clear hA16 a15
 refine st hA18 (op_field rfl fd_107_0 (hA18.ev rfl)) rfl rfl (by decide) fun a19 hA20 => ?_; clear hA18 a17
 refine st hA20 (op_field rfl fd_34_0 (hA20.ev rfl)) rfl rfl (by decide) fun a21 hA22 => ?_; clear hA20 a19
 refine st hA22 (op_load1 rfl ty_31 (hA22.ev rfl) (hS10.rk 3 rfl) rfl) rfl rfl (by decide) fun a23 hA24 => ?_; clear hA22 a21
 refine stw hA24 (op_call rfl en_73 (ev1 (hA24.ev rfl)) (clone_rng d.lots _ _ (hS10.sk 4 rfl) (by omega))) rfl rfl (by decide) ?_
 rintro a25 v31 w27 ⟨hE28, hO29⟩ hA26; have hS30 := hS10.new_row hE28 hO29; clear hE28 hO29 hA24 hS10 a23
 refine st hA26 (op_assign rfl (hA26.ev rfl)) rfl rfl (by decide) fun a32 hA33 => ?_; clear hA26 a25
 refine wl_nil ?_
 refine then_n ?_
 refine c_seq ?_
 have hA34 := hA33.as [(8, v31), (5, (bptr b9 0)), (4, (bptr b4 0)), (0, (bptr bj 0))] rfl; clear hA33
 refine c_region ?_
 refine st hA34 (op_assign rfl (evc _ _)) rfl rfl (by decide) fun a35 hA36 => ?_; clear hA34 a32
 have hS37 := hS30.nil_row 46 2; clear hS30
 refine wl_nil ?_
 refine then_n ?_
 refine c_seq ?_
 refine c_seq ?_
 refine c_region ?_
 refine st hA36 (op_move rfl (hA36.ev rfl)) rfl rfl (by decide) fun a38 hA39 => ?_; clear hA36 a35
 refine st hA39 (op_nilCheck rfl (hA39.ev rfl)) rfl rfl (by decide) fun a40 hA41 => ?_; clear hA39 a38
 refine st hA41 (op_field rfl fd_107_0 (hA41.ev rfl)) rfl rfl (by decide) fun a42 hA43 => ?_; clear hA41 a40
 refine st hA43 (op_field rfl fd_34_1 (hA43.ev rfl)) rfl rfl (by decide) fun a44 hA45 => ?_; clear hA43 a42
 refine st hA45 (op_load1 rfl ty_23 (hA45.ev rfl) (hS37.rk 5 rfl) rfl) rfl rfl (by decide) fun a46 hA47 => ?_; clear hA45 a44
 refine st hA47 (op_lenS rfl un_23 (hA47.ev rfl) (hS37.sk 7 rfl)) rfl rfl (by decide) fun a48 hA49 => ?_; clear hA47 a46
 refine st hA49 (op_move rfl (evc _ _)) rfl rfl (by decide) fun a50 hA51 => ?_; clear hA49 a48
 refine wl_nil ?_
 refine then_n ?_
 refine c_block ?_
 have hA52 := hA51.as [(31, (Value.int .i64 0)), (30, (Value.int .i64 (d.samples.length : Int))), (29, vs), (9, (Value.slice none 0 0)), (8, v31), (5, (bptr b9 0)), (4, (bptr b4 0)), (0, (bptr bj 0))] rfl; clear hA51
 refine c_loop (G := Nat) (fun (k : Nat) a_ w_ => ∃ Ds_ : List Nat, ∃ out : List (Int × Int), ∃ lots : List (Int × Int), ∃ v9_ : Value, Fr 109 (marks Ds_) [(31, (Value.int .i64 (k : Int))), (30, (Value.int .i64 (d.samples.length : Int))), (29, vs), (9, v9_), (8, v31), (5, (bptr b9 0)), (4, (bptr b4 0)), (0, (bptr bj 0))] a_ ∧ Sep NoB w w_ [(row v9_ 46 2 out.length (pairs out)), (row v31 46 2 lots.length (pairs lots)), (blk b9 94 [(Value.int .i64 lab), (Value.int .i64 sh)]), (blk b4 85 (bools off)), (marksR Ds_), (rob bj 107 [vl, vs, (Value.int .i64 d.spread), vb, mp]), (sl vl 2 d.lots.length (pairs d.lots)), (sl vs 1 d.samples.length (ints d.samples)), (sl vb 2 d.tols.length (vpairs (d.tols.zip lv))), (rdsR lv d.rds)] ∧ (k ≤ d.samples.length) ∧ (spLoop d off lab sh k = some (out, lots))) (fun k => d.samples.length - k) 0 ⟨[], [], d.lots, (Value.slice none 0 0), hA52.as _ rfl, hS37, by omega, rfl⟩ ?_
 clear hA52 hS37 a50
 rintro k a53 w55 ⟨Ds_, out, lots, v9_, hA54, hS56, hk, hsp⟩
 obtain ⟨ho1, ho2, ho3, ho4⟩ := spLoop_ok hV hsh hk hsp
 refine c_seq ?_
 refine c_region ?_
 refine st hA54 (op_lss rfl (hA54.ev rfl) (hA54.ev rfl)) rfl rfl (by decide) fun a57 hA58 => ?_; clear hA54 a53
 refine wl_nil ?_
 refine then_n ?_
 refine c_seq ?_
 by_cases hb59 : (k : Int) < (d.samples.length : Int)
 ·skip
  rw [decide_eq_true hb59] at hA58
  have hsm := hV.samples k (by omega)
  refine c_true hA58 rfl ?_
  refine c_skip ?_
  refine then_n ?_
  refine c_seq ?_
  refine c_block ?_
  refine c_seq ?_
  refine c_region ?_
  refine st hA58 (op_move rfl (hA58.ev rfl)) rfl rfl (by decide) fun a60 hA61 => ?_; clear hA58 a57
  refine st hA61 (op_indexS rfl un_23 ty_3 (hA61.ev rfl) (i := k) (hA61.ev rfl) (hS56.sk 7 rfl) (by decide) (by omega)) rfl rfl (by decide) fun a62 hA63 => ?_; clear hA61 a60
  refine st hA63 (op_load1E rfl ty_3 (hA63.ev rfl) (hS56.sk 7 rfl) (ints_at (by omega))) rfl rfl (by decide) fun a64 hA65 => ?_; clear hA63 a62
  refine st hA65 (op_assign rfl (hA65.ev rfl)) rfl rfl (by decide) fun a66 hA67 => ?_; clear hA65 a64
  refine st hA67 (op_assign rfl (hA67.ev rfl)) rfl rfl (by decide) fun a68 hA69 => ?_; clear hA67 a66
  refine wl_nil ?_
  refine then_n ?_
  refine c_seq ?_
  refine c_region ?_
  refine st hA69 (op_build rfl (pv2 (evc _ _) (evc _ _)) (bd_46_0i_1i _ _)) rfl rfl (by decide) fun a70 hA71 => ?_; clear hA69 a68
  refine stw hA71 (op_alloc hS56 rfl ze_46 (cs := [(Value.int .i64 0), (Value.int .i64 0)]) rfl) rfl rfl (by decide) ?_
  rintro a72 _ w74 ⟨b75, rfl, hS76⟩ hA73; clear hA71 hS56 a70
  refine sts hA73 (op_store hS76 rfl ty_46 (hA73.ev rfl) (hA73.ev rfl) (i := 0) rfl (vs := [(Value.int .i64 (-1073741824)), (Value.int .i64 1073741824)]) rfl rfl rfl (Nat.le_of_ble_eq_true rfl)) rfl rfl ?_
  intro _ w77 hS78 hA79; clear hA73
  have hS80 : Sep NoB w w77 [(blk b75 46 [(Value.int .i64 (-1073741824)), (Value.int .i64 1073741824)]), (row v9_ 46 2 out.length (pairs out)), (row v31 46 2 lots.length (pairs lots)), (blk b9 94 [(Value.int .i64 lab), (Value.int .i64 sh)]), (blk b4 85 (bools off)), (marksR Ds_), (rob bj 107 [vl, vs, (Value.int .i64 d.spread), vb, mp]), (sl vl 2 d.lots.length (pairs d.lots)), (sl vs 1 d.samples.length (ints d.samples)), (sl vb 2 d.tols.length (vpairs (d.tols.zip lv))), (rdsR lv d.rds)] := hS78; clear hS78 hS76
  refine wl_nil ?_
  refine then_n ?_
  refine c_seq ?_
  refine c_seq ?_
  refine c_region ?_
  refine st hA79 (op_move rfl (hA79.ev rfl)) rfl rfl (by decide) fun a81 hA82 => ?_; clear hA79 a72
  refine st hA82 (op_move rfl (hA82.ev rfl)) rfl rfl (by decide) fun a83 hA84 => ?_; clear hA82 a81
  refine st hA84 (op_loadA rfl ty_85 (hA84.ev rfl) (hS80.bk 4 rfl) (l := (bools off)) (drop_take_all _ _ (by simp [bools_length, hoff])) (by simp [bools_length, hoff])) rfl rfl (by decide) fun a85 hA86 => ?_; clear hA84 a83
  refine st hA86 (op_loadA rfl ty_94 (hA86.ev rfl) (hS80.bk 3 rfl) (l := [(Value.int .i64 lab), (Value.int .i64 sh)]) rfl rfl) rfl rfl (by decide) fun a87 hA88 => ?_; clear hA86 a85
  refine stw hA88 (op_call rfl en_74 (ev4 (hA88.ev rfl) (hA88.ev rfl) (hA88.ev rfl) (hA88.ev rfl)) (readings_ok _ _ _ _ _ _)) rfl rfl (by decide) ?_
  rintro a89 _ w91 ⟨b94, b95, b96, b97, rfl, hT92⟩ hA90; have hS93 := hS80.callS hT92 rfl; clear hT92 hA88 hS80 a87
  refine wl_nil ?_
  refine then_n ?_
  refine c_block ?_
  have hA98 := hA90.as [(41, (Value.func (.func 89) #[] #[(bptr b94 0), (bptr b95 0), (bptr b96 0), (bptr b97 0)])), (12, (bptr b75 0)), (11, (Value.int .i64 (d.samples.getD k 0))), (31, (Value.int .i64 (k : Int))), (30, (Value.int .i64 (d.samples.length : Int))), (29, vs), (9, v9_), (8, v31), (5, (bptr b9 0)), (4, (bptr b4 0)), (0, (bptr bj 0))] rfl; clear hA90
  have hS99 : Sep NoB w w91 [(marksR Ds_), (blk b97 94 [(Value.int .i64 lab), (Value.int .i64 sh)]), (blk b96 85 (bools off)), (blk b95 3 [(Value.int .i64 (k : Int))]), (blk b94 83 [(bptr bj 0)]), (blk b75 46 [(Value.int .i64 (-1073741824)), (Value.int .i64 1073741824)]), (row v9_ 46 2 out.length (pairs out)), (row v31 46 2 lots.length (pairs lots)), (blk b9 94 [(Value.int .i64 lab), (Value.int .i64 sh)]), (blk b4 85 (bools off)), (rob bj 107 [vl, vs, (Value.int .i64 d.spread), vb, mp]), (sl vl 2 d.lots.length (pairs d.lots)), (sl vs 1 d.samples.length (ints d.samples)), (sl vb 2 d.tols.length (vpairs (d.tols.zip lv))), (rdsR lv d.rds)] := hS93.keep [9, 0, 1, 2, 3, 4, 5, 6, 7, 8, 10, 11, 12, 13, 14] (by decide) _ rfl rfl; clear hS93
  refine c_range hA98 hS99 (hA98.ev rfl) en_89 ((rdUpto d k off lab sh d.tols.length).length) (fun q => #[.agg #[.int .i64 ((rdUpto d k off lab sh d.tols.length).getD q (0, 0)).1, .int .i64 ((rdUpto d k off lab sh d.tols.length).getD q (0, 0)).2]]) (fun _ => rfl) (RData b94 b95 b96 b97 bj k off lab sh mp vl vs vb lv d) (readings_it _ _ _ _ _ _ _ _ _ _ _ _ _ _ _ hoff hV (by omega) hsh hR.lvl hR.rdl) (fun q L_ => L_ = [(blk b97 94 [(Value.int .i64 lab), (Value.int .i64 sh)]), (blk b96 85 (bools off)), (blk b95 3 [(Value.int .i64 (k : Int))]), (blk b94 83 [(bptr bj 0)]), (blk b75 46 [(Value.int .i64 ((foldUpto d k off lab sh q).1)), (Value.int .i64 ((foldUpto d k off lab sh q).2))]), (row v9_ 46 2 out.length (pairs out)), (row v31 46 2 lots.length (pairs lots)), (blk b9 94 [(Value.int .i64 lab), (Value.int .i64 sh)]), (blk b4 85 (bools off)), (rob bj 107 [vl, vs, (Value.int .i64 d.spread), vb, mp]), (sl vl 2 d.lots.length (pairs d.lots)), (sl vs 1 d.samples.length (ints d.samples)), (sl vb 2 d.tols.length (vpairs (d.tols.zip lv))), (rdsR lv d.rds)]) (fun _ => False) none rfl (fun q L_ W_ r1_ r2_ hI_ hW_ => by subst hI_; exact ⟨hW_.bk 5 rfl, hW_.bk 4 rfl, hW_.bk 3 rfl, hW_.bk 2 rfl, hW_.rk 11 rfl, ⟨hW_.sk 12 rfl, hW_.sk 13 rfl, hW_.sk 14 rfl, hW_.ok 15 _ rfl, hR.lvl, hR.rdl⟩⟩) ?_ ?_ (fun _ hc_ => by cases hc_)
  ·skip
   intro q hq L_ hL_ l105 D106 rc107 a100 w101 ha104 hS102; subst hL_
   have hA103 : Fr 109 [] [(42, (Value.agg #[(Value.int .i64 (((rdUpto d k off lab sh d.tols.length).getD q (0, 0)).1)), (Value.int .i64 (((rdUpto d k off lab sh d.tols.length).getD q (0, 0)).2))])), (41, (Value.func (.func 89) #[] #[(bptr b94 0), (bptr b95 0), (bptr b96 0), (bptr b97 0)])), (12, (bptr b75 0)), (11, (Value.int .i64 (d.samples.getD k 0))), (31, (Value.int .i64 (k : Int))), (30, (Value.int .i64 (d.samples.length : Int))), (29, vs), (9, v9_), (8, v31), (5, (bptr b9 0)), (4, (bptr b4 0)), (0, (bptr bj 0))] a100 := by rw [ha104]; exact Fr.round1 hA98 (by decide)
   clear ha104 hS99
   have hA108 := hA103.as [(42, (Value.agg #[(Value.int .i64 (((rdUpto d k off lab sh d.tols.length).getD q (0, 0)).1)), (Value.int .i64 (((rdUpto d k off lab sh d.tols.length).getD q (0, 0)).2))])), (12, (bptr b75 0))] rfl; clear hA103
   refine c_region ?_
   refine stw hA108 (op_alloc hS102 rfl ze_46 (cs := [(Value.int .i64 0), (Value.int .i64 0)]) rfl) rfl rfl (by decide) ?_
   rintro a109 _ w111 ⟨b112, rfl, hS113⟩ hA110; clear hA108 hS102 a100
   refine sts hA110 (op_store hS113 rfl ty_46 (hA110.ev rfl) (hA110.ev rfl) (i := 0) rfl (vs := [(Value.int .i64 (((rdUpto d k off lab sh d.tols.length).getD q (0, 0)).1)), (Value.int .i64 (((rdUpto d k off lab sh d.tols.length).getD q (0, 0)).2))]) rfl rfl rfl (Nat.le_of_ble_eq_true rfl)) rfl rfl ?_
   intro _ w114 hS115 hA116; clear hA110
   have hS117 : Sep NoB w w114 [(blk b112 46 [(Value.int .i64 (((rdUpto d k off lab sh d.tols.length).getD q (0, 0)).1)), (Value.int .i64 (((rdUpto d k off lab sh d.tols.length).getD q (0, 0)).2))]), (obR l105 (.loop (rc107 .ready none))), (marksR (D106 :: Ds_)), (blk b97 94 [(Value.int .i64 lab), (Value.int .i64 sh)]), (blk b96 85 (bools off)), (blk b95 3 [(Value.int .i64 (k : Int))]), (blk b94 83 [(bptr bj 0)]), (blk b75 46 [(Value.int .i64 ((foldUpto d k off lab sh q).1)), (Value.int .i64 ((foldUpto d k off lab sh q).2))]), (row v9_ 46 2 out.length (pairs out)), (row v31 46 2 lots.length (pairs lots)), (blk b9 94 [(Value.int .i64 lab), (Value.int .i64 sh)]), (blk b4 85 (bools off)), (rob bj 107 [vl, vs, (Value.int .i64 d.spread), vb, mp]), (sl vl 2 d.lots.length (pairs d.lots)), (sl vs 1 d.samples.length (ints d.samples)), (sl vb 2 d.tols.length (vpairs (d.tols.zip lv))), (rdsR lv d.rds)] := hS115; clear hS115 hS113
   refine wl_nil ?_
   have hS118 : Sep NoB w w114 [(obR l105 (.loop (rc107 .ready none))), (marksR (D106 :: Ds_)), (blk b112 46 [(Value.int .i64 (((rdUpto d k off lab sh d.tols.length).getD q (0, 0)).1)), (Value.int .i64 (((rdUpto d k off lab sh d.tols.length).getD q (0, 0)).2))]), (blk b97 94 [(Value.int .i64 lab), (Value.int .i64 sh)]), (blk b96 85 (bools off)), (blk b95 3 [(Value.int .i64 (k : Int))]), (blk b94 83 [(bptr bj 0)]), (blk b75 46 [(Value.int .i64 ((foldUpto d k off lab sh q).1)), (Value.int .i64 ((foldUpto d k off lab sh q).2))]), (row v9_ 46 2 out.length (pairs out)), (row v31 46 2 lots.length (pairs lots)), (blk b9 94 [(Value.int .i64 lab), (Value.int .i64 sh)]), (blk b4 85 (bools off)), (rob bj 107 [vl, vs, (Value.int .i64 d.spread), vb, mp]), (sl vl 2 d.lots.length (pairs d.lots)), (sl vs 1 d.samples.length (ints d.samples)), (sl vb 2 d.tols.length (vpairs (d.tols.zip lv))), (rdsR lv d.rds)] := hS117.keep [1, 2, 0, 3, 4, 5, 6, 7, 8, 9, 10, 11, 12, 13, 14, 15, 16] (by decide) _ rfl rfl; clear hS117
   refine ⟨rfl, _, hS118, ?_⟩; intro w119 hS120; clear hS118
   refine c_block ?_
   refine c_region ?_
   refine st hA116 (op_loadA rfl ty_46 (hA116.ev rfl) (hS120.bk 7 rfl) (l := [(Value.int .i64 ((foldUpto d k off lab sh q).1)), (Value.int .i64 ((foldUpto d k off lab sh q).2))]) rfl rfl) rfl rfl (by decide) fun a121 hA122 => ?_; clear hA116 a109
   refine st hA122 (op_loadA rfl ty_46 (hA122.ev rfl) (hS120.bk 2 rfl) (l := [(Value.int .i64 (((rdUpto d k off lab sh d.tols.length).getD q (0, 0)).1)), (Value.int .i64 (((rdUpto d k off lab sh d.tols.length).getD q (0, 0)).2))]) rfl rfl) rfl rfl (by decide) fun a123 hA124 => ?_; clear hA122 a121
   refine stw hA124 (op_call rfl en_75 (ev2 (hA124.ev rfl) (hA124.ev rfl)) (cut_ok _ _ _ _ _)) rfl rfl (by decide) ?_
   rintro a125 _ w127 ⟨rfl, hE128⟩ hA126; have hS129 := hS120.step hE128; clear hE128 hA124 hS120 a123
   refine sts hA126 (op_store hS129 rfl ty_46 (hA126.ev rfl) (hA126.ev rfl) (i := 7) rfl (vs := [(Value.int .i64 (max ((foldUpto d k off lab sh q).1) (((rdUpto d k off lab sh d.tols.length).getD q (0, 0)).1))), (Value.int .i64 (min ((foldUpto d k off lab sh q).2) (((rdUpto d k off lab sh d.tols.length).getD q (0, 0)).2)))]) rfl rfl rfl (Nat.le_of_ble_eq_true rfl)) rfl rfl ?_
   intro _ w130 hS131 hA132; clear hA126
   have hS133 : Sep NoB w w130 [(obR l105 (.loop (rc107 .busy none))), (marksR (D106 :: Ds_)), (blk b112 46 [(Value.int .i64 (((rdUpto d k off lab sh d.tols.length).getD q (0, 0)).1)), (Value.int .i64 (((rdUpto d k off lab sh d.tols.length).getD q (0, 0)).2))]), (blk b97 94 [(Value.int .i64 lab), (Value.int .i64 sh)]), (blk b96 85 (bools off)), (blk b95 3 [(Value.int .i64 (k : Int))]), (blk b94 83 [(bptr bj 0)]), (blk b75 46 [(Value.int .i64 (max ((foldUpto d k off lab sh q).1) (((rdUpto d k off lab sh d.tols.length).getD q (0, 0)).1))), (Value.int .i64 (min ((foldUpto d k off lab sh q).2) (((rdUpto d k off lab sh d.tols.length).getD q (0, 0)).2)))]), (row v9_ 46 2 out.length (pairs out)), (row v31 46 2 lots.length (pairs lots)), (blk b9 94 [(Value.int .i64 lab), (Value.int .i64 sh)]), (blk b4 85 (bools off)), (rob bj 107 [vl, vs, (Value.int .i64 d.spread), vb, mp]), (sl vl 2 d.lots.length (pairs d.lots)), (sl vs 1 d.samples.length (ints d.samples)), (sl vb 2 d.tols.length (vpairs (d.tols.zip lv))), (rdsR lv d.rds)] := hS131; clear hS131 hS129
   refine wl_nil ?_
   refine blk_n ?_
   have hS134 : Sep NoB w w130 [(obR l105 (.loop (rc107 .busy none))), (marksR (D106 :: Ds_)), (blk b97 94 [(Value.int .i64 lab), (Value.int .i64 sh)]), (blk b96 85 (bools off)), (blk b95 3 [(Value.int .i64 (k : Int))]), (blk b94 83 [(bptr bj 0)]), (blk b75 46 [(Value.int .i64 (max ((foldUpto d k off lab sh q).1) (((rdUpto d k off lab sh d.tols.length).getD q (0, 0)).1))), (Value.int .i64 (min ((foldUpto d k off lab sh q).2) (((rdUpto d k off lab sh d.tols.length).getD q (0, 0)).2)))]), (row v9_ 46 2 out.length (pairs out)), (row v31 46 2 lots.length (pairs lots)), (blk b9 94 [(Value.int .i64 lab), (Value.int .i64 sh)]), (blk b4 85 (bools off)), (rob bj 107 [vl, vs, (Value.int .i64 d.spread), vb, mp]), (sl vl 2 d.lots.length (pairs d.lots)), (sl vs 1 d.samples.length (ints d.samples)), (sl vb 2 d.tols.length (vpairs (d.tols.zip lv))), (rdsR lv d.rds)] := hS133.keep [0, 1, 3, 4, 5, 6, 7, 8, 9, 10, 11, 12, 13, 14, 15, 16] (by decide) _ rfl rfl; clear hS133
   exact re_n (by rw [fold_succ hq]; rfl) hS134
  intro L_ hL_ D139 a135 w136 hA138 hS137; subst hL_; clear hA98 hS99
  rw [fold_all] at hS137; have hsb := spanAt_bd (off := off) (lab := lab) hV (show k < d.samples.length by omega) hsh
  refine blk_n ?_
  refine then_n ?_
  refine c_seq ?_
  refine c_seq ?_
  refine c_region ?_
  refine st hA138 (op_loadA rfl ty_46 (hA138.ev rfl) (hS137.bk 5 rfl) (l := [(Value.int .i64 ((spanAt d k off lab sh).1)), (Value.int .i64 ((spanAt d k off lab sh).2))]) rfl rfl) rfl rfl (by decide) fun a141 hA142 => ?_; clear hA138 a135
  refine stw hA142 (op_call rfl en_76 (ev1 (hA142.ev rfl)) (empty_ok _ _ _)) rfl rfl (by decide) ?_
  rintro a143 _ w145 ⟨rfl, hE146⟩ hA144; have hS147 := hS137.step hE146; clear hE146 hA142 hS137 a141
  refine wl_nil ?_
  refine then_n ?_
  by_cases hb148 : ((spanAt d k off lab sh).2) < ((spanAt d k off lab sh).1)
  ·skip
   rw [decide_eq_true hb148] at hA144
   refine c_true hA144 rfl ?_
   refine c_seq ?_
   have hA149 := hA144.as [] rfl; clear hA144
   refine c_region ?_
   refine st hA149 (op_assign rfl (evc _ _)) rfl rfl (by decide) fun a150 hA151 => ?_; clear hA149 a143
   refine st hA151 (op_assign rfl (evc _ _)) rfl rfl (by decide) fun a152 hA153 => ?_; clear hA151 a150
   refine wl_nil ?_
   refine then_n ?_
   refine c_ret ?_
   refine then_ret ?_
   refine blk_ret ?_
   refine then_ret ?_
   refine then_ret ?_
   refine blk_ret ?_
   refine then_ret ?_
   refine ng_ret ?_
   refine fin_runM hA153 (.inl rfl) hS147 ?_
   intro w154 hS155; clear hS147; refine ⟨_, (run_results2 hA153 rfl (.tmp rfl) (.tmp rfl)), ?_⟩
   rw [spansF_none (by omega) hsp (by assumption)]; exact ⟨_, rfl, hS155.ext, ⟨rfl, .inl ⟨rfl, rfl⟩⟩⟩
  ·skip
   rw [decide_eq_false hb148] at hA144
   refine c_false hA144 rfl ?_
   refine c_skip ?_
   refine then_n ?_
   refine c_seq ?_
   refine c_region ?_
   refine st hA144 (op_move rfl (hA144.ev rfl)) rfl rfl (by decide) fun a156 hA157 => ?_; clear hA144 a143
   refine st hA157 (op_loadA rfl ty_46 (hA157.ev rfl) (hS147.bk 5 rfl) (l := [(Value.int .i64 ((spanAt d k off lab sh).1)), (Value.int .i64 ((spanAt d k off lab sh).2))]) rfl rfl) rfl rfl (by decide) fun a158 hA159 => ?_; clear hA157 a156
   refine stw hA159 (op_buildSlice hS147 rfl (pv1 (hA159.ev rfl)) un_31 ty_46 ze_46 (by decide) (cs := [(Value.int .i64 ((spanAt d k off lab sh).1)), (Value.int .i64 ((spanAt d k off lab sh).2))]) (bs_46_1_0iia _ _)) rfl rfl (by decide) ?_
   rintro a160 _ w162 ⟨b163, rfl, hS164⟩ hA161; clear hA159 hS147 a158
   refine stw hA161 (op_append hS164 rfl un_31 el_46 (hA161.ev rfl) (hA161.ev rfl) (i := 7) rfl (SlAt.of_blk (hS164.bk 0 rfl) rfl (Nat.le_of_ble_eq_true rfl)) rfl (by simp [maxLen]; omega) (by omega)) rfl rfl (by decide) ?_
   intro a165 v168 w167 hS169 hA166
   have hS170 := hS169.row_say (i := 7) rfl (n' := (out ++ [((spanAt d k off lab sh).1, (spanAt d k off lab sh).2)]).length) (xs' := (pairs (out ++ [((spanAt d k off lab sh).1, (spanAt d k off lab sh).2)]))) (by simp) (by simp [pairs]); clear hS169 hA161 hS164 a160
   refine st hA166 (op_assign rfl (hA166.ev rfl)) rfl rfl (by decide) fun a171 hA172 => ?_; clear hA166 a165
   refine wl_nil ?_
   refine then_n ?_
   have hA173 := hA172.as [(9, v168), (12, (bptr b75 0)), (11, (Value.int .i64 (d.samples.getD k 0))), (31, (Value.int .i64 (k : Int))), (30, (Value.int .i64 (d.samples.length : Int))), (29, vs), (8, v31), (5, (bptr b9 0)), (4, (bptr b4 0)), (0, (bptr bj 0))] rfl; clear hA172
   have hA174 := hA173.as [(9, v168), (12, (bptr b75 0)), (11, (Value.int .i64 (d.samples.getD k 0))), (31, (Value.int .i64 (k : Int))), (30, (Value.int .i64 (d.samples.length : Int))), (29, vs), (8, v31), (5, (bptr b9 0)), (4, (bptr b4 0)), (0, (bptr bj 0))] rfl; clear hA173
   refine c_drawn mixed hA174 hS170 14 [[], [], [], [], [2, 3], [4], [], [], [7], [8], [9], [10], [6, 11], [5, 12]] [(Yd.val v31), (Yd.val (Value.int .i64 (d.samples.getD k 0))), (Yd.val v31), (Yd.val (Value.int .i64 (d.samples.getD k 0))), (Yd.val (eptr v31 ((d.samples.getD k 0).toNat * 2))), (Yd.val (Value.agg #[(Value.int .i64 ((lots.getD ((d.samples.getD k 0).toNat) (0, 0)).1)), (Value.int .i64 ((lots.getD ((d.samples.getD k 0).toNat) (0, 0)).2))])), (Yd.val (Value.agg #[(Value.int .i64 ((spanAt d k off lab sh).1)), (Value.int .i64 ((spanAt d k off lab sh).2))])), (Yd.val (bptr bj 0)), (Yd.val (bptr bj 0)), (Yd.val (bptr bj 0)), (Yd.val (bptr bj 2)), (Yd.val (Value.int .i64 d.spread)), (Yd.val (Value.agg #[(Value.int .i64 (((spanAt d k off lab sh).1) - d.spread)), (Value.int .i64 (((spanAt d k off lab sh).2) + d.spread))])), (Yd.val (Value.agg #[(Value.int .i64 (max ((lots.getD ((d.samples.getD k 0).toNat) (0, 0)).1) (((spanAt d k off lab sh).1) - d.spread))), (Value.int .i64 (min ((lots.getD ((d.samples.getD k 0).toNat) (0, 0)).2) (((spanAt d k off lab sh).2) + d.spread)))]))] (by decide +kernel) rfl rfl ?_ ?_
   ·skip
    refine ⟨fun a w hA hS hd => ?_, ?_⟩
    ·skip
     exact opG_of rfl (dv (op_move rfl (hA.ev rfl)) hS rfl)
    refine ⟨fun a w hA hS hd => ?_, ?_⟩
    ·skip
     exact opG_of rfl (dv (op_move rfl (hA.ev rfl)) hS rfl)
    refine ⟨fun a w hA hS hd => ?_, ?_⟩
    ·skip
     exact opG_of rfl (dv (op_move rfl (hA.ev rfl)) hS rfl)
    refine ⟨fun a w hA hS hd => ?_, ?_⟩
    ·skip
     exact opG_of rfl (dv (op_move rfl (hA.ev rfl)) hS rfl)
    refine ⟨fun a w hA hS hd => ?_, ?_⟩
    ·skip
     have e2 := has_ev (hd 2 (by decide)) rfl (fun _ h => h)
     have e3 := has_ev (hd 3 (by decide)) rfl (fun _ h => h)
     exact opG_of rfl (dv (op_indexS rfl un_31 ty_46 (tmp_ev e2) (i := (d.samples.getD k 0).toNat) ((tmp_ev e3).trans (int_nat (by omega))) (SlAt.of_row (hS.ok_row 8 rfl)) (by decide) (by omega)) hS rfl)
    refine ⟨fun a w hA hS hd => ?_, ?_⟩
    ·skip
     have e4 := has_ev (hd 4 (by decide)) rfl (fun _ h => h)
     exact opG_of rfl (dv (op_loadAE rfl ty_46 (tmp_ev e4) (SlAt.of_row (hS.ok_row 8 rfl)) (pairs_all (by omega)) rfl (by decide)) hS rfl)
    refine ⟨fun a w hA hS hd => ?_, ?_⟩
    ·skip
     exact opG_of rfl (dv (op_loadA rfl ty_46 (hA.ev rfl) (hS.bk 6 rfl) (l := [(Value.int .i64 ((spanAt d k off lab sh).1)), (Value.int .i64 ((spanAt d k off lab sh).2))]) rfl rfl) hS rfl)
    refine ⟨fun a w hA hS hd => ?_, ?_⟩
    ·skip
     exact opG_of rfl (dv (op_move rfl (hA.ev rfl)) hS rfl)
    refine ⟨fun a w hA hS hd => ?_, ?_⟩
    ·skip
     have e7 := has_ev (hd 7 (by decide)) rfl (fun _ h => h)
     exact opG_of rfl (dv (op_nilCheck rfl (tmp_ev e7)) hS rfl)
    refine ⟨fun a w hA hS hd => ?_, ?_⟩
    ·skip
     have e8 := has_ev (hd 8 (by decide)) rfl (fun _ h => h)
     exact opG_of rfl (dv (op_field rfl fd_107_0 (tmp_ev e8)) hS rfl)
    refine ⟨fun a w hA hS hd => ?_, ?_⟩
    ·skip
     have e9 := has_ev (hd 9 (by decide)) rfl (fun _ h => h)
     exact opG_of rfl (dv (op_field rfl fd_34_2 (tmp_ev e9)) hS rfl)
    refine ⟨fun a w hA hS hd => ?_, ?_⟩
    ·skip
     have e10 := has_ev (hd 10 (by decide)) rfl (fun _ h => h)
     exact opG_of rfl (dv (op_load1 rfl ty_3 (tmp_ev e10) (hS.rk 11 rfl) rfl) hS rfl)
    refine ⟨fun a w hA hS hd => ?_, ?_⟩
    ·skip
     have e6 := has_ev (hd 6 (by decide)) rfl (fun _ h => h)
     have e11 := has_ev (hd 11 (by decide)) rfl (fun _ h => h)
     exact opG_of rfl (dx (op_call rfl en_77 (ev2 (tmp_ev e6) (tmp_ev e11)) (wider_ok _ _ _ _ (by omega) (by omega) (by omega) (by omega) (by omega) (by omega))) hS (fun _ => rfl))
    refine ⟨fun a w hA hS hd => ?_, ?_⟩
    ·skip
     have e5 := has_ev (hd 5 (by decide)) rfl (fun _ h => h)
     have e12 := has_ev (hd 12 (by decide)) rfl (fun _ h => h)
     exact opG_of rfl (dx (op_call rfl en_75 (ev2 (tmp_ev e5) (tmp_ev e12)) (cut_ok _ _ _ _ _)) hS (fun _ => rfl))
    trivial
   intro a175 w176 hA177 hS178 hH179; clear hA174 hS170
   have hA181 := hA177.add (has_ev (hH179 0 (by decide)) rfl (fun _ h => h)); clear hA177
   have hA182 := hA181.add (has_ev (hH179 1 (by decide)) rfl (fun _ h => h)); clear hA181
   have hA183 := hA182.add (has_ev (hH179 13 (by decide)) rfl (fun _ h => h)); clear hA182
   clear hH179
   refine st hA183 (op_indexS rfl un_31 ty_46 (hA183.ev rfl) (i := (d.samples.getD k 0).toNat) ((hA183.ev rfl).trans (int_nat (by omega))) (SlAt.of_row (hS178.ok_row 8 rfl)) (by decide) (by omega)) rfl rfl (by decide) fun a184 hA185 => ?_; clear hA183 a175
   refine sts hA185 (op_storeE hS178 rfl ty_46 (hA185.ev rfl) (hA185.ev rfl) (i := 8) rfl (vs := [(Value.int .i64 (max ((lots.getD ((d.samples.getD k 0).toNat) (0, 0)).1) (((spanAt d k off lab sh).1) - d.spread))), (Value.int .i64 (min ((lots.getD ((d.samples.getD k 0).toNat) (0, 0)).2) (((spanAt d k off lab sh).2) + d.spread)))]) rfl rfl rfl (by rw [pairs_length]; omega) (by decide)) rfl rfl ?_
   intro _ w186 hS187 hA189; have hS188 := hS187.row_say (i := 8) rfl (n' := (lots.set ((d.samples.getD k 0).toNat) (max ((lots.getD ((d.samples.getD k 0).toNat) (0, 0)).1) (((spanAt d k off lab sh).1) - d.spread), min ((lots.getD ((d.samples.getD k 0).toNat) (0, 0)).2) (((spanAt d k off lab sh).2) + d.spread))).length) (xs' := (pairs (lots.set ((d.samples.getD k 0).toNat) (max ((lots.getD ((d.samples.getD k 0).toNat) (0, 0)).1) (((spanAt d k off lab sh).1) - d.spread), min ((lots.getD ((d.samples.getD k 0).toNat) (0, 0)).2) (((spanAt d k off lab sh).2) + d.spread))))) (by simp) (pairs_set _ _ (_, _)); clear hS187 hA185 hS178
   refine wl_nil ?_
   refine blk_n ?_
   refine then_n ?_
   have hA190 := hA189.as [(9, v168), (31, (Value.int .i64 (k : Int))), (30, (Value.int .i64 (d.samples.length : Int))), (29, vs), (8, v31), (5, (bptr b9 0)), (4, (bptr b4 0)), (0, (bptr bj 0))] rfl; clear hA189
   refine c_region ?_
   refine st hA190 (op_add rfl (hA190.ev rfl) (evc _ _) (by omega) (by omega)) rfl rfl (by decide) fun a191 hA192 => ?_; clear hA190 a184
   refine st hA192 (op_move rfl (hA192.ev rfl)) rfl rfl (by decide) fun a193 hA194 => ?_; clear hA192 a191
   refine wl_nil ?_
   have hS195 : Sep NoB w w186 [(row v168 46 2 ((out ++ [((spanAt d k off lab sh).1, (spanAt d k off lab sh).2)]).length) (pairs (out ++ [((spanAt d k off lab sh).1, (spanAt d k off lab sh).2)]))), (row v31 46 2 ((lots.set ((d.samples.getD k 0).toNat) (max ((lots.getD ((d.samples.getD k 0).toNat) (0, 0)).1) (((spanAt d k off lab sh).1) - d.spread), min ((lots.getD ((d.samples.getD k 0).toNat) (0, 0)).2) (((spanAt d k off lab sh).2) + d.spread))).length) (pairs (lots.set ((d.samples.getD k 0).toNat) (max ((lots.getD ((d.samples.getD k 0).toNat) (0, 0)).1) (((spanAt d k off lab sh).1) - d.spread), min ((lots.getD ((d.samples.getD k 0).toNat) (0, 0)).2) (((spanAt d k off lab sh).2) + d.spread))))), (blk b9 94 [(Value.int .i64 lab), (Value.int .i64 sh)]), (blk b4 85 (bools off)), (marksR (D139 :: Ds_)), (rob bj 107 [vl, vs, (Value.int .i64 d.spread), vb, mp]), (sl vl 2 d.lots.length (pairs d.lots)), (sl vs 1 d.samples.length (ints d.samples)), (sl vb 2 d.tols.length (vpairs (d.tols.zip lv))), (rdsR lv d.rds)] := hS188.keep [7, 8, 9, 10, 1, 11, 12, 13, 14, 15] (by decide) _ rfl rfl; clear hS188
   exact then_n ⟨k + 1, ⟨(D139 :: Ds_), (out ++ [(spanAt d k off lab sh)]), (lots.set (lotOf d k) (cutP (lots.getD (lotOf d k) (0, 0)) (widerP (spanAt d k off lab sh) d.spread))), v168, hA194.as _ rfl, hS195, by omega, (spLoop_step hsp (by assumption))⟩, by omega⟩
 ·skip
  rw [decide_eq_false hb59] at hA58
  refine c_false hA58 rfl ?_
  refine c_exit ?_
  refine then_exit ?_
  refine then_exit ?_
  refine blk_hit ?_
  refine then_n ?_
  refine c_seq ?_
  have hA196 := hA58.as [(9, v9_), (8, v31), (0, (bptr bj 0))] rfl; clear hA58
  refine c_region ?_
  refine st hA196 (op_assign rfl (evc _ _)) rfl rfl (by decide) fun a197 hA198 => ?_; clear hA196 a57
  refine wl_nil ?_
  refine then_n ?_
  refine c_seq ?_
  refine c_label ?_
  refine then_n ?_
  refine c_seq ?_
  refine c_seq ?_
  refine c_region ?_
  refine st hA198 (op_move rfl (hA198.ev rfl)) rfl rfl (by decide) fun a199 hA200 => ?_; clear hA198 a197
  refine st hA200 (op_lenS rfl un_31 (hA200.ev rfl) (SlAt.of_row (hS56.ok_row 1 rfl))) rfl rfl (by decide) fun a201 hA202 => ?_; clear hA200 a199
  refine st hA202 (op_move rfl (evc _ _)) rfl rfl (by decide) fun a203 hA204 => ?_; clear hA202 a201
  refine wl_nil ?_
  refine then_n ?_
  refine c_block ?_
  have hA205 := hA204.as [(70, (Value.int .i64 0)), (69, (Value.int .i64 (lots.length : Int))), (68, v31), (14, (Value.bool true)), (9, v9_), (8, v31), (0, (bptr bj 0))] rfl; clear hA204
  refine c_loop (G := Nat) (fun (k1 : Nat) a_ w_ => Fr 109 (marks Ds_) [(70, (Value.int .i64 (k1 : Int))), (69, (Value.int .i64 (lots.length : Int))), (68, v31), (14, (Value.bool true)), (9, v9_), (8, v31), (0, (bptr bj 0))] a_ ∧ Sep NoB w w_ [(row v9_ 46 2 out.length (pairs out)), (row v31 46 2 lots.length (pairs lots)), (blk b9 94 [(Value.int .i64 lab), (Value.int .i64 sh)]), (blk b4 85 (bools off)), (marksR Ds_), (rob bj 107 [vl, vs, (Value.int .i64 d.spread), vb, mp]), (sl vl 2 d.lots.length (pairs d.lots)), (sl vs 1 d.samples.length (ints d.samples)), (sl vb 2 d.tols.length (vpairs (d.tols.zip lv))), (rdsR lv d.rds)] ∧ (k1 ≤ lots.length) ∧ (∀ i, i < k1 → ¬ (lots.getD i (0, 0)).2 < (lots.getD i (0, 0)).1)) (fun k1 => lots.length - k1) 0 ⟨hA205.as _ rfl, hS56, by omega, by omega⟩ ?_
  clear hA205 hS56 a203
  rintro k1 a206 w208 ⟨hA207, hS209, hk1, hok⟩
  refine c_seq ?_
  refine c_region ?_
  refine st hA207 (op_lss rfl (hA207.ev rfl) (hA207.ev rfl)) rfl rfl (by decide) fun a210 hA211 => ?_; clear hA207 a206
  refine wl_nil ?_
  refine then_n ?_
  refine c_seq ?_
  by_cases hb212 : (k1 : Int) < (lots.length : Int)
  ·skip
   rw [decide_eq_true hb212] at hA211
   refine c_true hA211 rfl ?_
   refine c_skip ?_
   refine then_n ?_
   refine c_seq ?_
   refine c_block ?_
   refine c_seq ?_
   refine c_region ?_
   refine st hA211 (op_indexS rfl un_31 ty_46 (hA211.ev rfl) (i := k1) (hA211.ev rfl) (SlAt.of_row (hS209.ok_row 1 rfl)) (by decide) (by omega)) rfl rfl (by decide) fun a213 hA214 => ?_; clear hA211 a210
   refine st hA214 (op_loadAE rfl ty_46 (hA214.ev rfl) (SlAt.of_row (hS209.ok_row 1 rfl)) (pairs_all (by omega)) rfl (by decide)) rfl rfl (by decide) fun a215 hA216 => ?_; clear hA214 a213
   refine stw hA216 (op_alloc hS209 rfl ze_46 (cs := [(Value.int .i64 0), (Value.int .i64 0)]) rfl) rfl rfl (by decide) ?_
   rintro a217 _ w219 ⟨b220, rfl, hS221⟩ hA218; clear hA216 hS209 a215
   refine sts hA218 (op_store hS221 rfl ty_46 (hA218.ev rfl) (hA218.ev rfl) (i := 0) rfl (vs := [(Value.int .i64 ((lots.getD k1 (0, 0)).1)), (Value.int .i64 ((lots.getD k1 (0, 0)).2))]) rfl rfl rfl (Nat.le_of_ble_eq_true rfl)) rfl rfl ?_
   intro _ w222 hS223 hA224; clear hA218
   have hS225 : Sep NoB w w222 [(blk b220 46 [(Value.int .i64 ((lots.getD k1 (0, 0)).1)), (Value.int .i64 ((lots.getD k1 (0, 0)).2))]), (row v9_ 46 2 out.length (pairs out)), (row v31 46 2 lots.length (pairs lots)), (blk b9 94 [(Value.int .i64 lab), (Value.int .i64 sh)]), (blk b4 85 (bools off)), (marksR Ds_), (rob bj 107 [vl, vs, (Value.int .i64 d.spread), vb, mp]), (sl vl 2 d.lots.length (pairs d.lots)), (sl vs 1 d.samples.length (ints d.samples)), (sl vb 2 d.tols.length (vpairs (d.tols.zip lv))), (rdsR lv d.rds)] := hS223; clear hS223 hS221
   refine wl_nil ?_
   refine then_n ?_
   refine c_seq ?_
   refine c_region ?_
   refine st hA224 (op_loadA rfl ty_46 (hA224.ev rfl) (hS225.bk 0 rfl) (l := [(Value.int .i64 ((lots.getD k1 (0, 0)).1)), (Value.int .i64 ((lots.getD k1 (0, 0)).2))]) rfl rfl) rfl rfl (by decide) fun a226 hA227 => ?_; clear hA224 a217
   refine stw hA227 (op_call rfl en_76 (ev1 (hA227.ev rfl)) (empty_ok _ _ _)) rfl rfl (by decide) ?_
   rintro a228 _ w230 ⟨rfl, hE231⟩ hA229; have hS232 := hS225.step hE231; clear hE231 hA227 hS225 a226
   refine wl_nil ?_
   refine then_n ?_
   by_cases hb233 : ((lots.getD k1 (0, 0)).2) < ((lots.getD k1 (0, 0)).1)
   ·skip
    rw [decide_eq_true hb233] at hA229
    refine c_true hA229 rfl ?_
    refine c_seq ?_
    have hA234 := hA229.as [(9, v9_), (8, v31), (0, (bptr bj 0))] rfl; clear hA229
    refine c_region ?_
    refine st hA234 (op_assign rfl (evc _ _)) rfl rfl (by decide) fun a235 hA236 => ?_; clear hA234 a228
    refine wl_nil ?_
    refine then_n ?_
    refine c_exit ?_
    refine blk_miss (by decide) ?_
    refine then_exit ?_
    refine then_exit ?_
    refine blk_hit ?_
    refine then_n ?_
    refine c_seq ?_
    refine c_seq ?_
    refine c_region ?_
    refine st hA236 (op_move rfl (hA236.ev rfl)) rfl rfl (by decide) fun a237 hA238 => ?_; clear hA236 a235
    refine st hA238 (op_nilCheck rfl (hA238.ev rfl)) rfl rfl (by decide) fun a239 hA240 => ?_; clear hA238 a237
    refine st hA240 (op_field rfl fd_107_0 (hA240.ev rfl)) rfl rfl (by decide) fun a241 hA242 => ?_; clear hA240 a239
    refine st hA242 (op_field rfl fd_34_1 (hA242.ev rfl)) rfl rfl (by decide) fun a243 hA244 => ?_; clear hA242 a241
    refine st hA244 (op_load1 rfl ty_23 (hA244.ev rfl) (hS232.rk 6 rfl) rfl) rfl rfl (by decide) fun a245 hA246 => ?_; clear hA244 a243
    refine st hA246 (op_lenS rfl un_23 (hA246.ev rfl) (hS232.sk 8 rfl)) rfl rfl (by decide) fun a247 hA248 => ?_; clear hA246 a245
    refine st hA248 (op_move rfl (evc _ _)) rfl rfl (by decide) fun a249 hA250 => ?_; clear hA248 a247
    refine wl_nil ?_
    refine then_n ?_
    refine c_block ?_
    have hA251 := hA250.as [(83, (Value.int .i64 0)), (82, (Value.int .i64 (d.samples.length : Int))), (81, vs), (14, (Value.bool false)), (9, v9_), (8, v31), (0, (bptr bj 0))] rfl; clear hA250
    refine c_loop (G := Nat) (fun (k2 : Nat) a_ w_ => Fr 109 (marks Ds_) [(83, (Value.int .i64 (k2 : Int))), (82, (Value.int .i64 (d.samples.length : Int))), (81, vs), (14, (Value.bool false)), (9, v9_), (8, v31), (0, (bptr bj 0))] a_ ∧ Sep NoB w w_ [(blk b220 46 [(Value.int .i64 ((lots.getD k1 (0, 0)).1)), (Value.int .i64 ((lots.getD k1 (0, 0)).2))]), (row v9_ 46 2 ((lastUpto d lots out k2).length) (pairs (lastUpto d lots out k2))), (row v31 46 2 lots.length (pairs lots)), (blk b9 94 [(Value.int .i64 lab), (Value.int .i64 sh)]), (blk b4 85 (bools off)), (marksR Ds_), (rob bj 107 [vl, vs, (Value.int .i64 d.spread), vb, mp]), (sl vl 2 d.lots.length (pairs d.lots)), (sl vs 1 d.samples.length (ints d.samples)), (sl vb 2 d.tols.length (vpairs (d.tols.zip lv))), (rdsR lv d.rds)] ∧ (k2 ≤ d.samples.length)) (fun k2 => d.samples.length - k2) 0 ⟨hA251.as _ rfl, (hS232.row_say (i := 1) rfl (by rw [lastUpto_zero]) (by rw [lastUpto_zero])), by omega⟩ ?_
    clear hA251 hS232 a249
    rintro k2 a252 w254 ⟨hA253, hS255, hk2⟩
    have hlen2 := lastUpto_length (d := d) (lots := lots) (out := out) (k := k2) (by omega)
    refine c_seq ?_
    refine c_region ?_
    refine st hA253 (op_lss rfl (hA253.ev rfl) (hA253.ev rfl)) rfl rfl (by decide) fun a256 hA257 => ?_; clear hA253 a252
    refine wl_nil ?_
    refine then_n ?_
    refine c_seq ?_
    by_cases hb258 : (k2 : Int) < (d.samples.length : Int)
    ·skip
     rw [decide_eq_true hb258] at hA257
     have hsm := hV.samples k2 (by omega); have hlb := ho4 (d.samples.getD k2 0).toNat; unfold Bd at hlb
     refine c_true hA257 rfl ?_
     refine c_skip ?_
     refine then_n ?_
     refine c_seq ?_
     refine c_block ?_
     refine c_seq ?_
     refine c_region ?_
     refine st hA257 (op_move rfl (hA257.ev rfl)) rfl rfl (by decide) fun a259 hA260 => ?_; clear hA257 a256
     refine st hA260 (op_indexS rfl un_23 ty_3 (hA260.ev rfl) (i := k2) (hA260.ev rfl) (hS255.sk 8 rfl) (by decide) (by omega)) rfl rfl (by decide) fun a261 hA262 => ?_; clear hA260 a259
     refine st hA262 (op_load1E rfl ty_3 (hA262.ev rfl) (hS255.sk 8 rfl) (ints_at (by omega))) rfl rfl (by decide) fun a263 hA264 => ?_; clear hA262 a261
     refine st hA264 (op_assign rfl (hA264.ev rfl)) rfl rfl (by decide) fun a265 hA266 => ?_; clear hA264 a263
     refine st hA266 (op_assign rfl (hA266.ev rfl)) rfl rfl (by decide) fun a267 hA268 => ?_; clear hA266 a265
     refine wl_nil ?_
     refine then_n ?_
     have hA269 := hA268.as [(18, (Value.int .i64 (d.samples.getD k2 0))), (17, (Value.int .i64 (k2 : Int))), (83, (Value.int .i64 (k2 : Int))), (82, (Value.int .i64 (d.samples.length : Int))), (81, vs), (14, (Value.bool false)), (9, v9_), (8, v31), (0, (bptr bj 0))] rfl; clear hA268
     refine c_drawn mixed hA269 hS255 17 [[], [], [], [], [2, 3], [4], [], [], [6, 7], [8], [], [10], [11], [12], [13], [9, 14], [5, 15]] [(Yd.val v9_), (Yd.val (Value.int .i64 (k2 : Int))), (Yd.val v9_), (Yd.val (Value.int .i64 (k2 : Int))), (Yd.val (eptr v9_ (k2 * 2))), (Yd.val (Value.agg #[(Value.int .i64 (((lastUpto d lots out k2).getD k2 (0, 0)).1)), (Value.int .i64 (((lastUpto d lots out k2).getD k2 (0, 0)).2))])), (Yd.val v31), (Yd.val (Value.int .i64 (d.samples.getD k2 0))), (Yd.val (eptr v31 ((d.samples.getD k2 0).toNat * 2))), (Yd.val (Value.agg #[(Value.int .i64 ((lots.getD ((d.samples.getD k2 0).toNat) (0, 0)).1)), (Value.int .i64 ((lots.getD ((d.samples.getD k2 0).toNat) (0, 0)).2))])), (Yd.val (bptr bj 0)), (Yd.val (bptr bj 0)), (Yd.val (bptr bj 0)), (Yd.val (bptr bj 2)), (Yd.val (Value.int .i64 d.spread)), (Yd.val (Value.agg #[(Value.int .i64 (((lots.getD ((d.samples.getD k2 0).toNat) (0, 0)).1) - d.spread)), (Value.int .i64 (((lots.getD ((d.samples.getD k2 0).toNat) (0, 0)).2) + d.spread))])), (Yd.val (Value.agg #[(Value.int .i64 (max (((lastUpto d lots out k2).getD k2 (0, 0)).1) (((lots.getD ((d.samples.getD k2 0).toNat) (0, 0)).1) - d.spread))), (Value.int .i64 (min (((lastUpto d lots out k2).getD k2 (0, 0)).2) (((lots.getD ((d.samples.getD k2 0).toNat) (0, 0)).2) + d.spread)))]))] (by decide +kernel) rfl rfl ?_ ?_
     ·skip
      refine ⟨fun a w hA hS hd => ?_, ?_⟩
      ·skip
       exact opG_of rfl (dv (op_move rfl (hA.ev rfl)) hS rfl)
      refine ⟨fun a w hA hS hd => ?_, ?_⟩
      ·skip
       exact opG_of rfl (dv (op_move rfl (hA.ev rfl)) hS rfl)
      refine ⟨fun a w hA hS hd => ?_, ?_⟩
      ·skip
       exact opG_of rfl (dv (op_move rfl (hA.ev rfl)) hS rfl)
      refine ⟨fun a w hA hS hd => ?_, ?_⟩
      ·skip
       exact opG_of rfl (dv (op_move rfl (hA.ev rfl)) hS rfl)
      refine ⟨fun a w hA hS hd => ?_, ?_⟩
      ·skip
       have e2 := has_ev (hd 2 (by decide)) rfl (fun _ h => h)
       have e3 := has_ev (hd 3 (by decide)) rfl (fun _ h => h)
       exact opG_of rfl (dv (op_indexS rfl un_31 ty_46 (tmp_ev e2) (i := k2) (tmp_ev e3) (SlAt.of_row (hS.ok_row 1 rfl)) (by decide) (by omega)) hS rfl)
      refine ⟨fun a w hA hS hd => ?_, ?_⟩
      ·skip
       have e4 := has_ev (hd 4 (by decide)) rfl (fun _ h => h)
       exact opG_of rfl (dv (op_loadAE rfl ty_46 (tmp_ev e4) (SlAt.of_row (hS.ok_row 1 rfl)) (pairs_all (by omega)) rfl (by decide)) hS rfl)
      refine ⟨fun a w hA hS hd => ?_, ?_⟩
      ·skip
       exact opG_of rfl (dv (op_move rfl (hA.ev rfl)) hS rfl)
      refine ⟨fun a w hA hS hd => ?_, ?_⟩
      ·skip
       exact opG_of rfl (dv (op_move rfl (hA.ev rfl)) hS rfl)
      refine ⟨fun a w hA hS hd => ?_, ?_⟩
      ·skip
       have e6 := has_ev (hd 6 (by decide)) rfl (fun _ h => h)
       have e7 := has_ev (hd 7 (by decide)) rfl (fun _ h => h)
       exact opG_of rfl (dv (op_indexS rfl un_31 ty_46 (tmp_ev e6) (i := (d.samples.getD k2 0).toNat) ((tmp_ev e7).trans (int_nat (by omega))) (SlAt.of_row (hS.ok_row 2 rfl)) (by decide) (by omega)) hS rfl)
      refine ⟨fun a w hA hS hd => ?_, ?_⟩
      ·skip
       have e8 := has_ev (hd 8 (by decide)) rfl (fun _ h => h)
       exact opG_of rfl (dv (op_loadAE rfl ty_46 (tmp_ev e8) (SlAt.of_row (hS.ok_row 2 rfl)) (pairs_all (by omega)) rfl (by decide)) hS rfl)
      refine ⟨fun a w hA hS hd => ?_, ?_⟩
      ·skip
       exact opG_of rfl (dv (op_move rfl (hA.ev rfl)) hS rfl)
      refine ⟨fun a w hA hS hd => ?_, ?_⟩
      ·skip
       have e10 := has_ev (hd 10 (by decide)) rfl (fun _ h => h)
       exact opG_of rfl (dv (op_nilCheck rfl (tmp_ev e10)) hS rfl)
      refine ⟨fun a w hA hS hd => ?_, ?_⟩
      ·skip
       have e11 := has_ev (hd 11 (by decide)) rfl (fun _ h => h)
       exact opG_of rfl (dv (op_field rfl fd_107_0 (tmp_ev e11)) hS rfl)
      refine ⟨fun a w hA hS hd => ?_, ?_⟩
      ·skip
       have e12 := has_ev (hd 12 (by decide)) rfl (fun _ h => h)
       exact opG_of rfl (dv (op_field rfl fd_34_2 (tmp_ev e12)) hS rfl)
      refine ⟨fun a w hA hS hd => ?_, ?_⟩
      ·skip
       have e13 := has_ev (hd 13 (by decide)) rfl (fun _ h => h)
       exact opG_of rfl (dv (op_load1 rfl ty_3 (tmp_ev e13) (hS.rk 6 rfl) rfl) hS rfl)
      refine ⟨fun a w hA hS hd => ?_, ?_⟩
      ·skip
       have e9 := has_ev (hd 9 (by decide)) rfl (fun _ h => h)
       have e14 := has_ev (hd 14 (by decide)) rfl (fun _ h => h)
       exact opG_of rfl (dx (op_call rfl en_77 (ev2 (tmp_ev e9) (tmp_ev e14)) (wider_ok _ _ _ _ (by omega) (by omega) (by omega) (by omega) (by omega) (by omega))) hS (fun _ => rfl))
      refine ⟨fun a w hA hS hd => ?_, ?_⟩
      ·skip
       have e5 := has_ev (hd 5 (by decide)) rfl (fun _ h => h)
       have e15 := has_ev (hd 15 (by decide)) rfl (fun _ h => h)
       exact opG_of rfl (dx (op_call rfl en_75 (ev2 (tmp_ev e5) (tmp_ev e15)) (cut_ok _ _ _ _ _)) hS (fun _ => rfl))
      trivial
     intro a270 w271 hA272 hS273 hH274; clear hA269 hS255
     have hA276 := hA272.add (has_ev (hH274 0 (by decide)) rfl (fun _ h => h)); clear hA272
     have hA277 := hA276.add (has_ev (hH274 1 (by decide)) rfl (fun _ h => h)); clear hA276
     have hA278 := hA277.add (has_ev (hH274 16 (by decide)) rfl (fun _ h => h)); clear hA277
     clear hH274
     refine st hA278 (op_indexS rfl un_31 ty_46 (hA278.ev rfl) (i := k2) (hA278.ev rfl) (SlAt.of_row (hS273.ok_row 1 rfl)) (by decide) (by omega)) rfl rfl (by decide) fun a279 hA280 => ?_; clear hA278 a270
     refine sts hA280 (op_storeE hS273 rfl ty_46 (hA280.ev rfl) (hA280.ev rfl) (i := 1) rfl (vs := [(Value.int .i64 (max (((lastUpto d lots out k2).getD k2 (0, 0)).1) (((lots.getD ((d.samples.getD k2 0).toNat) (0, 0)).1) - d.spread))), (Value.int .i64 (min (((lastUpto d lots out k2).getD k2 (0, 0)).2) (((lots.getD ((d.samples.getD k2 0).toNat) (0, 0)).2) + d.spread)))]) rfl rfl rfl (by rw [pairs_length]; omega) (by decide)) rfl rfl ?_
     intro _ w281 hS282 hA284; have hS283 := hS282.row_say (i := 1) rfl (n' := ((lastUpto d lots out k2).set k2 (max (((lastUpto d lots out k2).getD k2 (0, 0)).1) (((lots.getD ((d.samples.getD k2 0).toNat) (0, 0)).1) - d.spread), min (((lastUpto d lots out k2).getD k2 (0, 0)).2) (((lots.getD ((d.samples.getD k2 0).toNat) (0, 0)).2) + d.spread))).length) (xs' := (pairs ((lastUpto d lots out k2).set k2 (max (((lastUpto d lots out k2).getD k2 (0, 0)).1) (((lots.getD ((d.samples.getD k2 0).toNat) (0, 0)).1) - d.spread), min (((lastUpto d lots out k2).getD k2 (0, 0)).2) (((lots.getD ((d.samples.getD k2 0).toNat) (0, 0)).2) + d.spread))))) (by simp) (pairs_set _ _ (_, _)); clear hS282 hA280 hS273
     refine wl_nil ?_
     refine blk_n ?_
     refine then_n ?_
     have hA285 := hA284.as [(83, (Value.int .i64 (k2 : Int))), (82, (Value.int .i64 (d.samples.length : Int))), (81, vs), (14, (Value.bool false)), (9, v9_), (8, v31), (0, (bptr bj 0))] rfl; clear hA284
     refine c_region ?_
     refine st hA285 (op_add rfl (hA285.ev rfl) (evc _ _) (by omega) (by omega)) rfl rfl (by decide) fun a286 hA287 => ?_; clear hA285 a279
     refine st hA287 (op_move rfl (hA287.ev rfl)) rfl rfl (by decide) fun a288 hA289 => ?_; clear hA287 a286
     refine wl_nil ?_
     exact then_n ⟨k2 + 1, ⟨hA289.as _ rfl, (hS283.row_say (i := 1) rfl (by rw [List.length_set, lastUpto_length (by omega), lastUpto_length (by omega)]) (by rw [lastUpto_at (by omega), ← lastUpto_succ (by omega)]; rfl)), by omega⟩, by omega⟩
    ·skip
     rw [decide_eq_false hb258] at hA257
     refine c_false hA257 rfl ?_
     refine c_exit ?_
     refine then_exit ?_
     refine then_exit ?_
     refine blk_hit ?_
     refine then_n ?_
     refine c_seq ?_
     have hA290 := hA257.as [(14, (Value.bool false)), (9, v9_)] rfl; clear hA257
     refine c_region ?_
     refine st hA290 (op_move rfl (hA290.ev rfl)) rfl rfl (by decide) fun a291 hA292 => ?_; clear hA290 a256
     refine st hA292 (op_move rfl (hA292.ev rfl)) rfl rfl (by decide) fun a293 hA294 => ?_; clear hA292 a291
     refine st hA294 (op_assign rfl (hA294.ev rfl)) rfl rfl (by decide) fun a295 hA296 => ?_; clear hA294 a293
     refine st hA296 (op_assign rfl (hA296.ev rfl)) rfl rfl (by decide) fun a297 hA298 => ?_; clear hA296 a295
     refine wl_nil ?_
     refine then_n ?_
     refine c_ret ?_
     refine ng_ret ?_
     have hS299 : Sep NoB w w254 [(marksR Ds_), (blk b220 46 [(Value.int .i64 ((lots.getD k1 (0, 0)).1)), (Value.int .i64 ((lots.getD k1 (0, 0)).2))]), (row v9_ 46 2 ((lastUpto d lots out k2).length) (pairs (lastUpto d lots out k2))), (row v31 46 2 lots.length (pairs lots)), (blk b9 94 [(Value.int .i64 lab), (Value.int .i64 sh)]), (blk b4 85 (bools off)), (rob bj 107 [vl, vs, (Value.int .i64 d.spread), vb, mp]), (sl vl 2 d.lots.length (pairs d.lots)), (sl vs 1 d.samples.length (ints d.samples)), (sl vb 2 d.tols.length (vpairs (d.tols.zip lv))), (rdsR lv d.rds)] := hS255.keep [5, 0, 1, 2, 3, 4, 6, 7, 8, 9, 10] (by decide) _ rfl rfl; clear hS255
     refine fin_runM hA298 (.inl rfl) hS299 ?_
     intro w300 hS301; clear hS299; refine ⟨_, (run_results2 hA298 rfl (.tmp rfl) (.tmp rfl)), ?_⟩
     rw [spansF_some (by omega) hsp, okLots_no (k := k1) (by omega) (by assumption)]
     refine ⟨_, rfl, hS301.ext, ?_⟩
     have hrn := hS301.row_new (i := 1) rfl
     rw [lastUpto_all (by omega), show k2 = d.samples.length by omega] at hrn
     exact hrn
   ·skip
    rw [decide_eq_false hb233] at hA229
    refine c_false hA229 rfl ?_
    refine c_skip ?_
    refine blk_n ?_
    refine then_n ?_
    have hA302 := hA229.as [(70, (Value.int .i64 (k1 : Int))), (69, (Value.int .i64 (lots.length : Int))), (68, v31), (14, (Value.bool true)), (9, v9_), (8, v31), (0, (bptr bj 0))] rfl; clear hA229
    refine c_region ?_
    refine st hA302 (op_add rfl (hA302.ev rfl) (evc _ _) (by omega) (by omega)) rfl rfl (by decide) fun a303 hA304 => ?_; clear hA302 a228
    refine st hA304 (op_move rfl (hA304.ev rfl)) rfl rfl (by decide) fun a305 hA306 => ?_; clear hA304 a303
    refine wl_nil ?_
    have hS307 : Sep NoB w w230 [(row v9_ 46 2 out.length (pairs out)), (row v31 46 2 lots.length (pairs lots)), (blk b9 94 [(Value.int .i64 lab), (Value.int .i64 sh)]), (blk b4 85 (bools off)), (marksR Ds_), (rob bj 107 [vl, vs, (Value.int .i64 d.spread), vb, mp]), (sl vl 2 d.lots.length (pairs d.lots)), (sl vs 1 d.samples.length (ints d.samples)), (sl vb 2 d.tols.length (vpairs (d.tols.zip lv))), (rdsR lv d.rds)] := hS232.keep [1, 2, 3, 4, 5, 6, 7, 8, 9, 10] (by decide) _ rfl rfl; clear hS232
    exact then_n ⟨k1 + 1, ⟨hA306.as _ rfl, hS307, by omega, (fun i hi => by rcases Nat.lt_succ_iff_lt_or_eq.1 hi with h | h; exact hok i h; subst h; assumption)⟩, by omega⟩
  ·skip
   rw [decide_eq_false hb212] at hA211
   refine c_false hA211 rfl ?_
   refine c_exit ?_
   refine then_exit ?_
   refine then_exit ?_
   refine blk_hit ?_
   refine then_n ?_
   refine c_seq ?_
   refine c_seq ?_
   refine c_region ?_
   refine st hA211 (op_move rfl (hA211.ev rfl)) rfl rfl (by decide) fun a308 hA309 => ?_; clear hA211 a210
   refine st hA309 (op_nilCheck rfl (hA309.ev rfl)) rfl rfl (by decide) fun a310 hA311 => ?_; clear hA309 a308
   refine st hA311 (op_field rfl fd_107_0 (hA311.ev rfl)) rfl rfl (by decide) fun a312 hA313 => ?_; clear hA311 a310
   refine st hA313 (op_field rfl fd_34_1 (hA313.ev rfl)) rfl rfl (by decide) fun a314 hA315 => ?_; clear hA313 a312
   refine st hA315 (op_load1 rfl ty_23 (hA315.ev rfl) (hS209.rk 5 rfl) rfl) rfl rfl (by decide) fun a316 hA317 => ?_; clear hA315 a314
   refine st hA317 (op_lenS rfl un_23 (hA317.ev rfl) (hS209.sk 7 rfl)) rfl rfl (by decide) fun a318 hA319 => ?_; clear hA317 a316
   refine st hA319 (op_move rfl (evc _ _)) rfl rfl (by decide) fun a320 hA321 => ?_; clear hA319 a318
   refine wl_nil ?_
   refine then_n ?_
   refine c_block ?_
   have hA322 := hA321.as [(83, (Value.int .i64 0)), (82, (Value.int .i64 (d.samples.length : Int))), (81, vs), (14, (Value.bool true)), (9, v9_), (8, v31), (0, (bptr bj 0))] rfl; clear hA321
   refine c_loop (G := Nat) (fun (k2 : Nat) a_ w_ => Fr 109 (marks Ds_) [(83, (Value.int .i64 (k2 : Int))), (82, (Value.int .i64 (d.samples.length : Int))), (81, vs), (14, (Value.bool true)), (9, v9_), (8, v31), (0, (bptr bj 0))] a_ ∧ Sep NoB w w_ [(row v9_ 46 2 ((lastUpto d lots out k2).length) (pairs (lastUpto d lots out k2))), (row v31 46 2 lots.length (pairs lots)), (blk b9 94 [(Value.int .i64 lab), (Value.int .i64 sh)]), (blk b4 85 (bools off)), (marksR Ds_), (rob bj 107 [vl, vs, (Value.int .i64 d.spread), vb, mp]), (sl vl 2 d.lots.length (pairs d.lots)), (sl vs 1 d.samples.length (ints d.samples)), (sl vb 2 d.tols.length (vpairs (d.tols.zip lv))), (rdsR lv d.rds)] ∧ (k2 ≤ d.samples.length)) (fun k2 => d.samples.length - k2) 0 ⟨hA322.as _ rfl, (hS209.row_say (i := 0) rfl (by rw [lastUpto_zero]) (by rw [lastUpto_zero])), by omega⟩ ?_
   clear hA322 hS209 a320
   rintro k2 a323 w325 ⟨hA324, hS326, hk2⟩
   have hlen2 := lastUpto_length (d := d) (lots := lots) (out := out) (k := k2) (by omega)
   refine c_seq ?_
   refine c_region ?_
   refine st hA324 (op_lss rfl (hA324.ev rfl) (hA324.ev rfl)) rfl rfl (by decide) fun a327 hA328 => ?_; clear hA324 a323
   refine wl_nil ?_
   refine then_n ?_
   refine c_seq ?_
   by_cases hb329 : (k2 : Int) < (d.samples.length : Int)
   ·skip
    rw [decide_eq_true hb329] at hA328
    have hsm := hV.samples k2 (by omega); have hlb := ho4 (d.samples.getD k2 0).toNat; unfold Bd at hlb
    refine c_true hA328 rfl ?_
    refine c_skip ?_
    refine then_n ?_
    refine c_seq ?_
    refine c_block ?_
    refine c_seq ?_
    refine c_region ?_
    refine st hA328 (op_move rfl (hA328.ev rfl)) rfl rfl (by decide) fun a330 hA331 => ?_; clear hA328 a327
    refine st hA331 (op_indexS rfl un_23 ty_3 (hA331.ev rfl) (i := k2) (hA331.ev rfl) (hS326.sk 7 rfl) (by decide) (by omega)) rfl rfl (by decide) fun a332 hA333 => ?_; clear hA331 a330
    refine st hA333 (op_load1E rfl ty_3 (hA333.ev rfl) (hS326.sk 7 rfl) (ints_at (by omega))) rfl rfl (by decide) fun a334 hA335 => ?_; clear hA333 a332
    refine st hA335 (op_assign rfl (hA335.ev rfl)) rfl rfl (by decide) fun a336 hA337 => ?_; clear hA335 a334
    refine st hA337 (op_assign rfl (hA337.ev rfl)) rfl rfl (by decide) fun a338 hA339 => ?_; clear hA337 a336
    refine wl_nil ?_
    refine then_n ?_
    have hA340 := hA339.as [(18, (Value.int .i64 (d.samples.getD k2 0))), (17, (Value.int .i64 (k2 : Int))), (83, (Value.int .i64 (k2 : Int))), (82, (Value.int .i64 (d.samples.length : Int))), (81, vs), (14, (Value.bool true)), (9, v9_), (8, v31), (0, (bptr bj 0))] rfl; clear hA339
    refine c_drawn mixed hA340 hS326 17 [[], [], [], [], [2, 3], [4], [], [], [6, 7], [8], [], [10], [11], [12], [13], [9, 14], [5, 15]] [(Yd.val v9_), (Yd.val (Value.int .i64 (k2 : Int))), (Yd.val v9_), (Yd.val (Value.int .i64 (k2 : Int))), (Yd.val (eptr v9_ (k2 * 2))), (Yd.val (Value.agg #[(Value.int .i64 (((lastUpto d lots out k2).getD k2 (0, 0)).1)), (Value.int .i64 (((lastUpto d lots out k2).getD k2 (0, 0)).2))])), (Yd.val v31), (Yd.val (Value.int .i64 (d.samples.getD k2 0))), (Yd.val (eptr v31 ((d.samples.getD k2 0).toNat * 2))), (Yd.val (Value.agg #[(Value.int .i64 ((lots.getD ((d.samples.getD k2 0).toNat) (0, 0)).1)), (Value.int .i64 ((lots.getD ((d.samples.getD k2 0).toNat) (0, 0)).2))])), (Yd.val (bptr bj 0)), (Yd.val (bptr bj 0)), (Yd.val (bptr bj 0)), (Yd.val (bptr bj 2)), (Yd.val (Value.int .i64 d.spread)), (Yd.val (Value.agg #[(Value.int .i64 (((lots.getD ((d.samples.getD k2 0).toNat) (0, 0)).1) - d.spread)), (Value.int .i64 (((lots.getD ((d.samples.getD k2 0).toNat) (0, 0)).2) + d.spread))])), (Yd.val (Value.agg #[(Value.int .i64 (max (((lastUpto d lots out k2).getD k2 (0, 0)).1) (((lots.getD ((d.samples.getD k2 0).toNat) (0, 0)).1) - d.spread))), (Value.int .i64 (min (((lastUpto d lots out k2).getD k2 (0, 0)).2) (((lots.getD ((d.samples.getD k2 0).toNat) (0, 0)).2) + d.spread)))]))] (by decide +kernel) rfl rfl ?_ ?_
    ·skip
     refine ⟨fun a w hA hS hd => ?_, ?_⟩
     ·skip
      exact opG_of rfl (dv (op_move rfl (hA.ev rfl)) hS rfl)
     refine ⟨fun a w hA hS hd => ?_, ?_⟩
     ·skip
      exact opG_of rfl (dv (op_move rfl (hA.ev rfl)) hS rfl)
     refine ⟨fun a w hA hS hd => ?_, ?_⟩
     ·skip
      exact opG_of rfl (dv (op_move rfl (hA.ev rfl)) hS rfl)
     refine ⟨fun a w hA hS hd => ?_, ?_⟩
     ·skip
      exact opG_of rfl (dv (op_move rfl (hA.ev rfl)) hS rfl)
     refine ⟨fun a w hA hS hd => ?_, ?_⟩
     ·skip
      have e2 := has_ev (hd 2 (by decide)) rfl (fun _ h => h)
      have e3 := has_ev (hd 3 (by decide)) rfl (fun _ h => h)
      exact opG_of rfl (dv (op_indexS rfl un_31 ty_46 (tmp_ev e2) (i := k2) (tmp_ev e3) (SlAt.of_row (hS.ok_row 0 rfl)) (by decide) (by omega)) hS rfl)
     refine ⟨fun a w hA hS hd => ?_, ?_⟩
     ·skip
      have e4 := has_ev (hd 4 (by decide)) rfl (fun _ h => h)
      exact opG_of rfl (dv (op_loadAE rfl ty_46 (tmp_ev e4) (SlAt.of_row (hS.ok_row 0 rfl)) (pairs_all (by omega)) rfl (by decide)) hS rfl)
     refine ⟨fun a w hA hS hd => ?_, ?_⟩
     ·skip
      exact opG_of rfl (dv (op_move rfl (hA.ev rfl)) hS rfl)
     refine ⟨fun a w hA hS hd => ?_, ?_⟩
     ·skip
      exact opG_of rfl (dv (op_move rfl (hA.ev rfl)) hS rfl)
     refine ⟨fun a w hA hS hd => ?_, ?_⟩
     ·skip
      have e6 := has_ev (hd 6 (by decide)) rfl (fun _ h => h)
      have e7 := has_ev (hd 7 (by decide)) rfl (fun _ h => h)
      exact opG_of rfl (dv (op_indexS rfl un_31 ty_46 (tmp_ev e6) (i := (d.samples.getD k2 0).toNat) ((tmp_ev e7).trans (int_nat (by omega))) (SlAt.of_row (hS.ok_row 1 rfl)) (by decide) (by omega)) hS rfl)
     refine ⟨fun a w hA hS hd => ?_, ?_⟩
     ·skip
      have e8 := has_ev (hd 8 (by decide)) rfl (fun _ h => h)
      exact opG_of rfl (dv (op_loadAE rfl ty_46 (tmp_ev e8) (SlAt.of_row (hS.ok_row 1 rfl)) (pairs_all (by omega)) rfl (by decide)) hS rfl)
     refine ⟨fun a w hA hS hd => ?_, ?_⟩
     ·skip
      exact opG_of rfl (dv (op_move rfl (hA.ev rfl)) hS rfl)
     refine ⟨fun a w hA hS hd => ?_, ?_⟩
     ·skip
      have e10 := has_ev (hd 10 (by decide)) rfl (fun _ h => h)
      exact opG_of rfl (dv (op_nilCheck rfl (tmp_ev e10)) hS rfl)
     refine ⟨fun a w hA hS hd => ?_, ?_⟩
     ·skip
      have e11 := has_ev (hd 11 (by decide)) rfl (fun _ h => h)
      exact opG_of rfl (dv (op_field rfl fd_107_0 (tmp_ev e11)) hS rfl)
     refine ⟨fun a w hA hS hd => ?_, ?_⟩
     ·skip
      have e12 := has_ev (hd 12 (by decide)) rfl (fun _ h => h)
      exact opG_of rfl (dv (op_field rfl fd_34_2 (tmp_ev e12)) hS rfl)
     refine ⟨fun a w hA hS hd => ?_, ?_⟩
     ·skip
      have e13 := has_ev (hd 13 (by decide)) rfl (fun _ h => h)
      exact opG_of rfl (dv (op_load1 rfl ty_3 (tmp_ev e13) (hS.rk 5 rfl) rfl) hS rfl)
     refine ⟨fun a w hA hS hd => ?_, ?_⟩
     ·skip
      have e9 := has_ev (hd 9 (by decide)) rfl (fun _ h => h)
      have e14 := has_ev (hd 14 (by decide)) rfl (fun _ h => h)
      exact opG_of rfl (dx (op_call rfl en_77 (ev2 (tmp_ev e9) (tmp_ev e14)) (wider_ok _ _ _ _ (by omega) (by omega) (by omega) (by omega) (by omega) (by omega))) hS (fun _ => rfl))
     refine ⟨fun a w hA hS hd => ?_, ?_⟩
     ·skip
      have e5 := has_ev (hd 5 (by decide)) rfl (fun _ h => h)
      have e15 := has_ev (hd 15 (by decide)) rfl (fun _ h => h)
      exact opG_of rfl (dx (op_call rfl en_75 (ev2 (tmp_ev e5) (tmp_ev e15)) (cut_ok _ _ _ _ _)) hS (fun _ => rfl))
     trivial
    intro a341 w342 hA343 hS344 hH345; clear hA340 hS326
    have hA347 := hA343.add (has_ev (hH345 0 (by decide)) rfl (fun _ h => h)); clear hA343
    have hA348 := hA347.add (has_ev (hH345 1 (by decide)) rfl (fun _ h => h)); clear hA347
    have hA349 := hA348.add (has_ev (hH345 16 (by decide)) rfl (fun _ h => h)); clear hA348
    clear hH345
    refine st hA349 (op_indexS rfl un_31 ty_46 (hA349.ev rfl) (i := k2) (hA349.ev rfl) (SlAt.of_row (hS344.ok_row 0 rfl)) (by decide) (by omega)) rfl rfl (by decide) fun a350 hA351 => ?_; clear hA349 a341
    refine sts hA351 (op_storeE hS344 rfl ty_46 (hA351.ev rfl) (hA351.ev rfl) (i := 0) rfl (vs := [(Value.int .i64 (max (((lastUpto d lots out k2).getD k2 (0, 0)).1) (((lots.getD ((d.samples.getD k2 0).toNat) (0, 0)).1) - d.spread))), (Value.int .i64 (min (((lastUpto d lots out k2).getD k2 (0, 0)).2) (((lots.getD ((d.samples.getD k2 0).toNat) (0, 0)).2) + d.spread)))]) rfl rfl rfl (by rw [pairs_length]; omega) (by decide)) rfl rfl ?_
    intro _ w352 hS353 hA355; have hS354 := hS353.row_say (i := 0) rfl (n' := ((lastUpto d lots out k2).set k2 (max (((lastUpto d lots out k2).getD k2 (0, 0)).1) (((lots.getD ((d.samples.getD k2 0).toNat) (0, 0)).1) - d.spread), min (((lastUpto d lots out k2).getD k2 (0, 0)).2) (((lots.getD ((d.samples.getD k2 0).toNat) (0, 0)).2) + d.spread))).length) (xs' := (pairs ((lastUpto d lots out k2).set k2 (max (((lastUpto d lots out k2).getD k2 (0, 0)).1) (((lots.getD ((d.samples.getD k2 0).toNat) (0, 0)).1) - d.spread), min (((lastUpto d lots out k2).getD k2 (0, 0)).2) (((lots.getD ((d.samples.getD k2 0).toNat) (0, 0)).2) + d.spread))))) (by simp) (pairs_set _ _ (_, _)); clear hS353 hA351 hS344
    refine wl_nil ?_
    refine blk_n ?_
    refine then_n ?_
    have hA356 := hA355.as [(83, (Value.int .i64 (k2 : Int))), (82, (Value.int .i64 (d.samples.length : Int))), (81, vs), (14, (Value.bool true)), (9, v9_), (8, v31), (0, (bptr bj 0))] rfl; clear hA355
    refine c_region ?_
    refine st hA356 (op_add rfl (hA356.ev rfl) (evc _ _) (by omega) (by omega)) rfl rfl (by decide) fun a357 hA358 => ?_; clear hA356 a350
    refine st hA358 (op_move rfl (hA358.ev rfl)) rfl rfl (by decide) fun a359 hA360 => ?_; clear hA358 a357
    refine wl_nil ?_
    exact then_n ⟨k2 + 1, ⟨hA360.as _ rfl, (hS354.row_say (i := 0) rfl (by rw [List.length_set, lastUpto_length (by omega), lastUpto_length (by omega)]) (by rw [lastUpto_at (by omega), ← lastUpto_succ (by omega)]; rfl)), by omega⟩, by omega⟩
   ·skip
    rw [decide_eq_false hb329] at hA328
    refine c_false hA328 rfl ?_
    refine c_exit ?_
    refine then_exit ?_
    refine then_exit ?_
    refine blk_hit ?_
    refine then_n ?_
    refine c_seq ?_
    have hA361 := hA328.as [(14, (Value.bool true)), (9, v9_)] rfl; clear hA328
    refine c_region ?_
    refine st hA361 (op_move rfl (hA361.ev rfl)) rfl rfl (by decide) fun a362 hA363 => ?_; clear hA361 a327
    refine st hA363 (op_move rfl (hA363.ev rfl)) rfl rfl (by decide) fun a364 hA365 => ?_; clear hA363 a362
    refine st hA365 (op_assign rfl (hA365.ev rfl)) rfl rfl (by decide) fun a366 hA367 => ?_; clear hA365 a364
    refine st hA367 (op_assign rfl (hA367.ev rfl)) rfl rfl (by decide) fun a368 hA369 => ?_; clear hA367 a366
    refine wl_nil ?_
    refine then_n ?_
    refine c_ret ?_
    refine ng_ret ?_
    have hS370 : Sep NoB w w325 [(marksR Ds_), (row v9_ 46 2 ((lastUpto d lots out k2).length) (pairs (lastUpto d lots out k2))), (row v31 46 2 lots.length (pairs lots)), (blk b9 94 [(Value.int .i64 lab), (Value.int .i64 sh)]), (blk b4 85 (bools off)), (rob bj 107 [vl, vs, (Value.int .i64 d.spread), vb, mp]), (sl vl 2 d.lots.length (pairs d.lots)), (sl vs 1 d.samples.length (ints d.samples)), (sl vb 2 d.tols.length (vpairs (d.tols.zip lv))), (rdsR lv d.rds)] := hS326.keep [4, 0, 1, 2, 3, 5, 6, 7, 8, 9] (by decide) _ rfl rfl; clear hS326
    refine fin_runM hA369 (.inl rfl) hS370 ?_
    intro w371 hS372; clear hS370; refine ⟨_, (run_results2 hA369 rfl (.tmp rfl) (.tmp rfl)), ?_⟩
    rw [spansF_some (by omega) hsp, okLots_yes (by omega) hok]
    refine ⟨_, rfl, hS372.ext, ?_⟩
    have hrn := hS372.row_new (i := 0) rfl
    rw [lastUpto_all (by omega), show k2 = d.samples.length by omega] at hrn
    exact hrn

end Go.Proofs.Ytfhmigoddaaljaa

namespace Go.Proofs.Ytfhmigoddaaljaa
open Go.RowKit Go.Shelf Go.Eng
theorem explain_ok (bj bm : Nat) (off : List Bool) (vl vs vb : Value) (lv : List Value) (d : RD) (w : World) (hoff : off.length = 6) (hV : Valid d) (hlvl : lv.length = d.tols.length) (hrdl : d.rds.length = d.tols.length) (hJ : Sep (fun b => b = bm) w w [(memo bm (KR d)), (rob bj 107 [vl, vs, (Value.int .i64 d.spread), vb, (Value.map (some bm))]), (sl vl 2 d.lots.length (pairs d.lots)), (sl vs 1 d.samples.length (ints d.samples)), (sl vb 2 d.tols.length (vpairs (d.tols.zip lv))), (rdsR lv d.rds)]) :
  Calls Try.prog 52 #[(bptr bj 0), (Value.agg (bools off).toArray)] w (Ret fun v w' => v = .bool (explB d off) ∧ Ext (fun b => b = bm) w w' ∧ (memo bm (KR d)).p w') := by
 refine calls_enter Try.func52 rfl fun a0 hA0 => ?_
 replace hA0 : Fr 32 [] [(0, (bptr bj 0)), (1, (Value.agg (bools off).toArray))] a0 := hA0
 have hS0 : Sep (fun b => b = bm) w w [(memo bm (KR d)), (rob bj 107 [vl, vs, (Value.int .i64 d.spread), vb, (Value.map (some bm))]), (sl vl 2 d.lots.length (pairs d.lots)), (sl vs 1 d.samples.length (ints d.samples)), (sl vb 2 d.tols.length (vpairs (d.tols.zip lv))), (rdsR lv d.rds)] := hJ
 refine c_seq ?_
 refine c_region ?_
 refine stw hA0 (op_box hS0 rfl (hA0.ev rfl) (cs := (bools off)) rfl) rfl rfl (by decide) ?_
 rintro a1 _ w3 ⟨b4, rfl, hS5⟩ hA2; clear hA0 hS0 a0
 refine st hA2 (op_assign rfl (evc _ _)) rfl rfl (by decide) fun a6 hA7 => ?_; clear hA2 a1
 refine wl_nil ?_
 refine then_n ?_
 refine c_seq ?_
 obtain ⟨rs8, hr9, hS10⟩ := memo_look hS5 (i := 1) rfl un_85 (keyOk_bools un_85 un_4 ty_4 (KR_keys d) off hoff); clear hS5
 rcases hr9 with rfl | ⟨u, rfl, hK⟩
 ·skip
  have hA11 := hA7.as [(3, (bptr b4 0)), (0, (bptr bj 0))] rfl; clear hA7
  refine c_drawn mixed hA11 hS10 10 [[], [0], [1], [2], [], [3, 4], [5], [6], [6], [7]] [(Yd.val (bptr bj 0)), (Yd.val (bptr bj 0)), (Yd.val (bptr bj 4)), (Yd.val (Value.map (some bm))), (Yd.val (Value.agg (bools off).toArray)), (Yd.val (Value.tuple #[(Value.bool false), (Value.bool false)])), (Yd.val (Value.tuple #[(Value.bool false), (Value.bool false)])), (Yd.val (Value.bool false)), (Yd.val (Value.bool false)), (Yd.val (Value.bool false))] (by decide +kernel) rfl rfl ?_ ?_
  ·skip
   refine ⟨fun a w hA hS hd => ?_, ?_⟩
   ·skip
    exact opG_of rfl (dv (op_move rfl (hA.ev rfl)) hS rfl)
   refine ⟨fun a w hA hS hd => ?_, ?_⟩
   ·skip
    have e0 := has_ev (hd 0 (by decide)) rfl (fun _ h => h)
    exact opG_of rfl (dv (op_nilCheck rfl (tmp_ev e0)) hS rfl)
   refine ⟨fun a w hA hS hd => ?_, ?_⟩
   ·skip
    have e1 := has_ev (hd 1 (by decide)) rfl (fun _ h => h)
    exact opG_of rfl (dv (op_field rfl fd_107_1 (tmp_ev e1)) hS rfl)
   refine ⟨fun a w hA hS hd => ?_, ?_⟩
   ·skip
    have e2 := has_ev (hd 2 (by decide)) rfl (fun _ h => h)
    exact opG_of rfl (dv (op_load1 rfl ty_105 (tmp_ev e2) (hS.rk 2 rfl) rfl) hS rfl)
   refine ⟨fun a w hA hS hd => ?_, ?_⟩
   ·skip
    exact opG_of rfl (dv (op_loadA rfl ty_85 (hA.ev rfl) (hS.bk 0 rfl) (l := (bools off)) (drop_take_all _ _ (by simp [bools_length, hoff])) (by simp [bools_length, hoff])) hS rfl)
   refine ⟨fun a w hA hS hd => ?_, ?_⟩
   ·skip
    have e3 := has_ev (hd 3 (by decide)) rfl (fun _ h => h)
    have e4 := has_ev (hd 4 (by decide)) rfl (fun _ h => h)
    exact opG_of rfl (dv (op_lookupAt hS rfl un_105 ze_4 (tmp_ev e3) (tmp_ev e4) (i := 1) rfl (keyOk_bools un_85 un_4 ty_4 (KR_keys d) off hoff)) hS rfl)
   refine ⟨fun a w hA hS hd => ?_, ?_⟩
   ·skip
    have e5 := has_ev (hd 5 (by decide)) rfl (fun _ h => h)
    exact opG_of rfl (dv (op_move rfl (tmp_ev e5)) hS rfl)
   refine ⟨fun a w hA hS hd => ?_, ?_⟩
   ·skip
    have e6 := has_ev (hd 6 (by decide)) rfl (fun _ h => h)
    exact opG_of rfl (dv (op_extract rfl (tmp_ev e6) rfl) hS rfl)
   refine ⟨fun a w hA hS hd => ?_, ?_⟩
   ·skip
    have e6 := has_ev (hd 6 (by decide)) rfl (fun _ h => h)
    exact opG_of rfl (dv (op_extract rfl (tmp_ev e6) rfl) hS rfl)
   refine ⟨fun a w hA hS hd => ?_, ?_⟩
   ·skip
    have e7 := has_ev (hd 7 (by decide)) rfl (fun _ h => h)
    exact opG_of rfl (dv (op_assign rfl (tmp_ev e7)) hS rfl)
   trivial
  intro a12 w13 hA14 hS15 hH16; clear hA11 hS10
  have hA18 := hA14.add (has_ev (hH16 8 (by decide)) rfl (fun _ h => h)); clear hA14
  have hA19 := hA18.add (has_ev (hH16 9 (by decide)) rfl (fun _ h => h)); clear hA18
  clear hH16
  refine st hA19 (op_assign rfl (hA19.ev rfl)) rfl rfl (by decide) fun a20 hA21 => ?_; clear hA19 a12
  refine wl_nil ?_
  refine then_n ?_
  refine c_seq ?_
  refine c_seq ?_
  have hS22 := memo_back hS15 (i := 1) rfl; clear hS15
  refine c_region ?_
  refine st hA21 (op_move rfl (hA21.ev rfl)) rfl rfl (by decide) fun a23 hA24 => ?_; clear hA21 a20
  refine st hA24 (op_not rfl (hA24.ev rfl)) rfl rfl (by decide) fun a25 hA26 => ?_; clear hA24 a23
  refine wl_nil ?_
  refine then_n ?_
  refine c_true hA26 rfl ?_
  refine c_seq ?_
  have hA27 := hA26.as [(3, (bptr b4 0)), (0, (bptr bj 0))] rfl; clear hA26
  refine c_drawn mixed hA27 hS22 7 [[], [], [], [0, 1, 2], [3], [4], [4]] [(Yd.val (bptr bj 0)), (Yd.val (Value.agg (bools off).toArray)), (Yd.val (Value.agg #[(Value.int .i64 (-1)), (Value.int .i64 0)])), (Yd.ex fun v => ∃ u_, v = (Value.tuple #[u_, (Value.bool (spansF d off (-1) 0).2)])), (Yd.ex fun v => ∃ u_, v = (Value.tuple #[u_, (Value.bool ((spansF d off (-1) 0).2))])), (Yd.ex fun v => ∃ u_, v = u_), (Yd.val (Value.bool ((spansF d off (-1) 0).2)))] (by decide +kernel) rfl rfl ?_ ?_
  ·skip
   refine ⟨fun a w hA hS hd => ?_, ?_⟩
   ·skip
    exact opG_of rfl (dv (op_move rfl (hA.ev rfl)) hS rfl)
   refine ⟨fun a w hA hS hd => ?_, ?_⟩
   ·skip
    exact opG_of rfl (dv (op_loadA rfl ty_85 (hA.ev rfl) (hS.bk 0 rfl) (l := (bools off)) (drop_take_all _ _ (by simp [bools_length, hoff])) (by simp [bools_length, hoff])) hS rfl)
   refine ⟨fun a w hA hS hd => ?_, ?_⟩
   ·skip
    exact opG_of rfl (dx (op_call rfl en_55 ev0 (nobody_ok _)) hS (fun _ => rfl))
   refine ⟨fun a w hA hS hd => ?_, ?_⟩
   ·skip
    have e0 := has_ev (hd 0 (by decide)) rfl (fun _ h => h)
    have e1 := has_ev (hd 1 (by decide)) rfl (fun _ h => h)
    have e2 := has_ev (hd 2 (by decide)) rfl (fun _ h => h)
    exact opG_of rfl (dxe (op_call rfl en_54 (ev3 (tmp_ev e0) (tmp_ev e1) (tmp_ev e2)) (spans_ok _ _ _ _ _ vl vs vb lv d _ (by simp [*]) hV (by decide) ⟨hS.sk 3 rfl, hS.sk 4 rfl, hS.sk 5 rfl, hS.ok 6 _ rfl, hlvl, hrdl⟩ (hS.rk 2 rfl))) hS (fun v w' h => by obtain ⟨u, h1, h2, _⟩ := h; exact ⟨h2, u, h1⟩))
   refine ⟨fun a w hA hS hd => ?_, ?_⟩
   ·skip
    obtain ⟨_, e3, u_, rfl⟩ := has_get (hd 3 (by decide)) rfl
    exact opG_of rfl (dv (op_move rfl (tmp_ev e3)) hS ⟨_, rfl⟩)
   refine ⟨fun a w hA hS hd => ?_, ?_⟩
   ·skip
    obtain ⟨_, e4, u_, rfl⟩ := has_get (hd 4 (by decide)) rfl
    exact opG_of rfl (dv (op_extract rfl (tmp_ev e4) rfl) hS ⟨_, rfl⟩)
   refine ⟨fun a w hA hS hd => ?_, ?_⟩
   ·skip
    obtain ⟨_, e4, u_, rfl⟩ := has_get (hd 4 (by decide)) rfl
    exact opG_of rfl (dv (op_extract rfl (tmp_ev e4) rfl) hS rfl)
   trivial
  intro a28 w29 hA30 hS31 hH32; clear hA27 hS22
  have hA34 := hA30.add (has_ev (hH32 6 (by decide)) rfl (fun _ h => h)); clear hA30
  clear hH32
  refine st hA34 (op_assign rfl (hA34.ev rfl)) rfl rfl (by decide) fun a35 hA36 => ?_; clear hA34 a28
  refine wl_nil ?_
  refine then_n ?_
  have hA37 := hA36.as [(5, (Value.bool ((spansF d off (-1) 0).2))), (3, (bptr b4 0)), (0, (bptr bj 0))] rfl; clear hA36
  refine c_drawn mixed hA37 hS31 6 [[], [0], [1], [2], [], []] [(Yd.val (bptr bj 0)), (Yd.val (bptr bj 0)), (Yd.val (bptr bj 4)), (Yd.val (Value.map (some bm))), (Yd.val (Value.agg (bools off).toArray)), (Yd.val (Value.bool ((spansF d off (-1) 0).2)))] (by decide +kernel) rfl rfl ?_ ?_
  ·skip
   refine ⟨fun a w hA hS hd => ?_, ?_⟩
   ·skip
    exact opG_of rfl (dv (op_move rfl (hA.ev rfl)) hS rfl)
   refine ⟨fun a w hA hS hd => ?_, ?_⟩
   ·skip
    have e0 := has_ev (hd 0 (by decide)) rfl (fun _ h => h)
    exact opG_of rfl (dv (op_nilCheck rfl (tmp_ev e0)) hS rfl)
   refine ⟨fun a w hA hS hd => ?_, ?_⟩
   ·skip
    have e1 := has_ev (hd 1 (by decide)) rfl (fun _ h => h)
    exact opG_of rfl (dv (op_field rfl fd_107_1 (tmp_ev e1)) hS rfl)
   refine ⟨fun a w hA hS hd => ?_, ?_⟩
   ·skip
    have e2 := has_ev (hd 2 (by decide)) rfl (fun _ h => h)
    exact opG_of rfl (dv (op_load1 rfl ty_105 (tmp_ev e2) (hS.rk 2 rfl) rfl) hS rfl)
   refine ⟨fun a w hA hS hd => ?_, ?_⟩
   ·skip
    exact opG_of rfl (dv (op_loadA rfl ty_85 (hA.ev rfl) (hS.bk 0 rfl) (l := (bools off)) (drop_take_all _ _ (by simp [bools_length, hoff])) (by simp [bools_length, hoff])) hS rfl)
   refine ⟨fun a w hA hS hd => ?_, ?_⟩
   ·skip
    exact opG_of rfl (dv (op_move rfl (hA.ev rfl)) hS rfl)
   trivial
  intro a38 w39 hA40 hS41 hH42; clear hA37 hS31
  have hA44 := hA40.add (has_ev (hH42 3 (by decide)) rfl (fun _ h => h)); clear hA40
  have hA45 := hA44.add (has_ev (hH42 4 (by decide)) rfl (fun _ h => h)); clear hA44
  have hA46 := hA45.add (has_ev (hH42 5 (by decide)) rfl (fun _ h => h)); clear hA45
  clear hH42
  refine sts hA46 (op_mapUpdate hS41 rfl un_105 un_85 (hA46.ev rfl) (hA46.ev rfl) (hA46.ev rfl) (i := 1) rfl (keyOk_bools un_85 un_4 ty_4 (KR_keys d) off hoff) ⟨off, hoff, rfl, rfl⟩) rfl rfl ?_
  intro _ w47 hS48 hA49; clear hA46 hS41
  refine wl_nil ?_
  refine then_n ?_
  refine c_seq ?_
  refine c_region ?_
  refine st hA49 (op_move rfl (hA49.ev rfl)) rfl rfl (by decide) fun a50 hA51 => ?_; clear hA49 a38
  refine st hA51 (op_assign rfl (hA51.ev rfl)) rfl rfl (by decide) fun a52 hA53 => ?_; clear hA51 a50
  refine wl_nil ?_
  refine then_n ?_
  refine c_ret ?_
  refine fin_run hA53 (.inl rfl) (run_results1 hA53 rfl (.tmp rfl)) ?_
  exact ⟨rfl, hS48.ext, hS48.ok 1 _ rfl⟩
 ·skip
  obtain rfl := KR_val hK
  have hA54 := hA7.as [(3, (bptr b4 0)), (0, (bptr bj 0))] rfl; clear hA7
  refine c_drawn mixed hA54 hS10 10 [[], [0], [1], [2], [], [3, 4], [5], [6], [6], [7]] [(Yd.val (bptr bj 0)), (Yd.val (bptr bj 0)), (Yd.val (bptr bj 4)), (Yd.val (Value.map (some bm))), (Yd.val (Value.agg (bools off).toArray)), (Yd.val (Value.tuple #[(Value.bool (explB d off)), (Value.bool true)])), (Yd.val (Value.tuple #[(Value.bool (explB d off)), (Value.bool true)])), (Yd.val (Value.bool (explB d off))), (Yd.val (Value.bool true)), (Yd.val (Value.bool (explB d off)))] (by decide +kernel) rfl rfl ?_ ?_
  ·skip
   refine ⟨fun a w hA hS hd => ?_, ?_⟩
   ·skip
    exact opG_of rfl (dv (op_move rfl (hA.ev rfl)) hS rfl)
   refine ⟨fun a w hA hS hd => ?_, ?_⟩
   ·skip
    have e0 := has_ev (hd 0 (by decide)) rfl (fun _ h => h)
    exact opG_of rfl (dv (op_nilCheck rfl (tmp_ev e0)) hS rfl)
   refine ⟨fun a w hA hS hd => ?_, ?_⟩
   ·skip
    have e1 := has_ev (hd 1 (by decide)) rfl (fun _ h => h)
    exact opG_of rfl (dv (op_field rfl fd_107_1 (tmp_ev e1)) hS rfl)
   refine ⟨fun a w hA hS hd => ?_, ?_⟩
   ·skip
    have e2 := has_ev (hd 2 (by decide)) rfl (fun _ h => h)
    exact opG_of rfl (dv (op_load1 rfl ty_105 (tmp_ev e2) (hS.rk 2 rfl) rfl) hS rfl)
   refine ⟨fun a w hA hS hd => ?_, ?_⟩
   ·skip
    exact opG_of rfl (dv (op_loadA rfl ty_85 (hA.ev rfl) (hS.bk 0 rfl) (l := (bools off)) (drop_take_all _ _ (by simp [bools_length, hoff])) (by simp [bools_length, hoff])) hS rfl)
   refine ⟨fun a w hA hS hd => ?_, ?_⟩
   ·skip
    have e3 := has_ev (hd 3 (by decide)) rfl (fun _ h => h)
    have e4 := has_ev (hd 4 (by decide)) rfl (fun _ h => h)
    exact opG_of rfl (dv (op_lookupAt hS rfl un_105 ze_4 (tmp_ev e3) (tmp_ev e4) (i := 1) rfl (keyOk_bools un_85 un_4 ty_4 (KR_keys d) off hoff)) hS rfl)
   refine ⟨fun a w hA hS hd => ?_, ?_⟩
   ·skip
    have e5 := has_ev (hd 5 (by decide)) rfl (fun _ h => h)
    exact opG_of rfl (dv (op_move rfl (tmp_ev e5)) hS rfl)
   refine ⟨fun a w hA hS hd => ?_, ?_⟩
   ·skip
    have e6 := has_ev (hd 6 (by decide)) rfl (fun _ h => h)
    exact opG_of rfl (dv (op_extract rfl (tmp_ev e6) rfl) hS rfl)
   refine ⟨fun a w hA hS hd => ?_, ?_⟩
   ·skip
    have e6 := has_ev (hd 6 (by decide)) rfl (fun _ h => h)
    exact opG_of rfl (dv (op_extract rfl (tmp_ev e6) rfl) hS rfl)
   refine ⟨fun a w hA hS hd => ?_, ?_⟩
   ·skip
    have e7 := has_ev (hd 7 (by decide)) rfl (fun _ h => h)
    exact opG_of rfl (dv (op_assign rfl (tmp_ev e7)) hS rfl)
   trivial
  intro a55 w56 hA57 hS58 hH59; clear hA54 hS10
  have hA61 := hA57.add (has_ev (hH59 8 (by decide)) rfl (fun _ h => h)); clear hA57
  have hA62 := hA61.add (has_ev (hH59 9 (by decide)) rfl (fun _ h => h)); clear hA61
  clear hH59
  refine st hA62 (op_assign rfl (hA62.ev rfl)) rfl rfl (by decide) fun a63 hA64 => ?_; clear hA62 a55
  refine wl_nil ?_
  refine then_n ?_
  refine c_seq ?_
  refine c_seq ?_
  have hS65 := memo_back hS58 (i := 1) rfl; clear hS58
  refine c_region ?_
  refine st hA64 (op_move rfl (hA64.ev rfl)) rfl rfl (by decide) fun a66 hA67 => ?_; clear hA64 a63
  refine st hA67 (op_not rfl (hA67.ev rfl)) rfl rfl (by decide) fun a68 hA69 => ?_; clear hA67 a66
  refine wl_nil ?_
  refine then_n ?_
  refine c_false hA69 rfl ?_
  refine c_skip ?_
  refine then_n ?_
  refine c_seq ?_
  have hA70 := hA69.as [(5, (Value.bool (explB d off)))] rfl; clear hA69
  refine c_region ?_
  refine st hA70 (op_move rfl (hA70.ev rfl)) rfl rfl (by decide) fun a71 hA72 => ?_; clear hA70 a68
  refine st hA72 (op_assign rfl (hA72.ev rfl)) rfl rfl (by decide) fun a73 hA74 => ?_; clear hA72 a71
  refine wl_nil ?_
  refine then_n ?_
  refine c_ret ?_
  refine fin_run hA74 (.inl rfl) (run_results1 hA74 rfl (.tmp rfl)) ?_
  exact ⟨rfl, hS65.ext, hS65.ok 1 _ rfl⟩

end Go.Proofs.Ytfhmigoddaaljaa

namespace Go.Proofs.Ytfhmigoddaaljaa
open Go.RowKit Go.Shelf Go.Eng
theorem asked_no (vl vs vb : Value) (lv : List Value) (d : RD) (w : World) (hR : RoundAt w vl vs vb lv d) (xl : Value) (l : List Int) (hx : SlAt w xl 1 l.length (ints l)) (hlen : l.length ≤ 1000000) (hc : checkR d = 0) (hV : d.tols.length ≤ 6) (hr : riseB d.tols.length l = false) :
  Calls Try.prog 51 #[(Value.agg #[vl, vs, (Value.int .i64 d.spread), vb]), xl] w (Ret fun v w' => v = .tuple #[.pointer none, zero6, .int .i64 2] ∧ Ext NoB w w') :=
 (asked_any vl vs vb lv d w hR xl l hx hlen hc hV).mono (Ret.mono fun v w' h => by
  rcases h with ⟨_, h⟩ | ⟨h, _⟩
  ·exact h
  ·rw [hr] at h; cases h)
theorem asked_yes (vl vs vb : Value) (lv : List Value) (d : RD) (w : World) (hR : RoundAt w vl vs vb lv d) (xl : Value) (l : List Int) (hx : SlAt w xl 1 l.length (ints l)) (hlen : l.length ≤ 1000000) (hc : checkR d = 0) (hV : d.tols.length ≤ 6) (hr : riseB d.tols.length l = true) :
  Calls Try.prog 51 #[(Value.agg #[vl, vs, (Value.int .i64 d.spread), vb]), xl] w (Ret fun v w' => ∃ bj bm, v = .tuple #[bptr bj 0, .agg (bools (offUpto l l.length)).toArray, .int .i64 0] ∧ Sep NoB w w' [blk bj 107 [vl, vs, .int .i64 d.spread, vb, .map (some bm)], memo bm (KR d)]) :=
 (asked_any vl vs vb lv d w hR xl l hx hlen hc hV).mono (Ret.mono fun v w' h => by
  rcases h with ⟨h, _⟩ | ⟨_, h⟩
  ·rw [hr] at h; cases h
  ·exact h)

theorem explains_bad (vl vs vb : Value) (lv : List Value) (d : RD) (w : World) (hR : RoundAt w vl vs vb lv d) (xl : Value) (l : List Int) (hx : SlAt w xl 1 l.length (ints l)) (hlen : l.length ≤ 1000000) (hc : checkR d ≠ 0) :
  Calls Try.prog 21 #[(Value.agg #[vl, vs, (Value.int .i64 d.spread), vb]), xl] w (Ret fun v w' => v = .tuple #[.bool false, .int .i64 (checkR d)] ∧ Ext NoB w w') := by
 refine calls_enter Try.func21 rfl fun a0 hA0 => ?_
 replace hA0 : Fr 22 [] [(0, (Value.agg #[vl, vs, (Value.int .i64 d.spread), vb])), (1, xl)] a0 := hA0
 try have hVd := valid_of hc
 have hS0 : Sep NoB w w [(sl xl 1 l.length (ints l)), (sl vl 2 d.lots.length (pairs d.lots)), (sl vs 1 d.samples.length (ints d.samples)), (sl vb 2 d.tols.length (vpairs (d.tols.zip lv))), (rdsR lv d.rds)] := sep_ro ⟨rfl, hx, rfl, hR.lots, rfl, hR.samples, rfl, hR.labs, rfl, hR.rds, trivial⟩
 refine c_seq ?_
 refine c_region ?_
 refine stw hA0 (op_box hS0 rfl (hA0.ev rfl) (cs := [vl, vs, (Value.int .i64 d.spread), vb]) rfl) rfl rfl (by decide) ?_
 rintro a1 _ w3 ⟨b4, rfl, hS5⟩ hA2; clear hA0 hS0 a0
 refine st hA2 (op_assign rfl (evc _ _)) rfl rfl (by decide) fun a6 hA7 => ?_; clear hA2 a1
 refine st hA7 (op_assign rfl (evc _ _)) rfl rfl (by decide) fun a8 hA9 => ?_; clear hA7 a6
 refine wl_nil ?_
 refine then_n ?_
 refine c_seq ?_
 refine c_region ?_
 refine st hA9 (op_loadA rfl ty_34 (hA9.ev rfl) (hS5.bk 0 rfl) (l := [vl, vs, (Value.int .i64 d.spread), vb]) rfl rfl) rfl rfl (by decide) fun a10 hA11 => ?_; clear hA9 a8
 refine st hA11 (op_move rfl (hA11.ev rfl)) rfl rfl (by decide) fun a12 hA13 => ?_; clear hA11 a10
 refine stw hA13 (op_call rfl en_51 (ev2 (hA13.ev rfl) (hA13.ev rfl)) (asked_bad vl vs vb lv d _ (hR.step hS5.ext) xl l (hx.step hS5.ext) hlen hc)) rfl rfl (by decide) ?_
 rintro a14 _ w16 ⟨rfl, hE17⟩ hA15; have hS18 := hS5.step hE17; clear hE17 hA13 hS5 a12
 refine st hA15 (op_move rfl (hA15.ev rfl)) rfl rfl (by decide) fun a19 hA20 => ?_; clear hA15 a14
 refine st hA20 (op_extract rfl (hA20.ev rfl) rfl) rfl rfl (by decide) fun a21 hA22 => ?_; clear hA20 a19
 refine st hA22 (op_extract rfl (hA22.ev rfl) rfl) rfl rfl (by decide) fun a23 hA24 => ?_; clear hA22 a21
 refine st hA24 (op_extract rfl (hA24.ev rfl) rfl) rfl rfl (by decide) fun a25 hA26 => ?_; clear hA24 a23
 refine stw hA26 (op_alloc hS18 rfl ze_85 (cs := [(Value.bool false), (Value.bool false), (Value.bool false), (Value.bool false), (Value.bool false), (Value.bool false)]) rfl) rfl rfl (by decide) ?_
 rintro a27 _ w29 ⟨b30, rfl, hS31⟩ hA28; clear hA26 hS18 a25
 refine st hA28 (op_assign rfl (hA28.ev rfl)) rfl rfl (by decide) fun a32 hA33 => ?_; clear hA28 a27
 refine sts hA33 (op_store hS31 rfl ty_85 (hA33.ev rfl) (hA33.ev rfl) (i := 0) rfl (vs := [(Value.bool false), (Value.bool false), (Value.bool false), (Value.bool false), (Value.bool false), (Value.bool false)]) rfl rfl rfl (Nat.le_of_ble_eq_true rfl)) rfl rfl ?_
 intro _ w34 hS35 hA36; clear hA33
 have hS37 : Sep NoB w w34 [(blk b30 85 [(Value.bool false), (Value.bool false), (Value.bool false), (Value.bool false), (Value.bool false), (Value.bool false)]), (blk b4 34 [vl, vs, (Value.int .i64 d.spread), vb]), (sl xl 1 l.length (ints l)), (sl vl 2 d.lots.length (pairs d.lots)), (sl vs 1 d.samples.length (ints d.samples)), (sl vb 2 d.tols.length (vpairs (d.tols.zip lv))), (rdsR lv d.rds)] := hS35; clear hS35 hS31
 refine st hA36 (op_assign rfl (hA36.ev rfl)) rfl rfl (by decide) fun a38 hA39 => ?_; clear hA36 a32
 refine wl_nil ?_
 refine then_n ?_
 refine c_seq ?_
 refine c_seq ?_
 have hA40 := hA39.as [(8, (Value.int .i64 (checkR d))), (6, (Value.pointer none)), (7, (bptr b30 0))] rfl; clear hA39
 refine c_region ?_
 refine st hA40 (op_move rfl (hA40.ev rfl)) rfl rfl (by decide) fun a41 hA42 => ?_; clear hA40 a38
 refine st hA42 (op_neq rfl (hA42.ev rfl) (evc _ _)) rfl rfl (by decide) fun a43 hA44 => ?_; clear hA42 a41
 have hd45 : ¬ ((checkR d) = 0) := hc
 rw [decide_eq_false hd45] at hA44
 refine wl_nil ?_
 refine then_n ?_
 refine c_true hA44 rfl ?_
 refine c_seq ?_
 refine c_region ?_
 refine st hA44 (op_move rfl (hA44.ev rfl)) rfl rfl (by decide) fun a46 hA47 => ?_; clear hA44 a43
 refine st hA47 (op_assign rfl (evc _ _)) rfl rfl (by decide) fun a48 hA49 => ?_; clear hA47 a46
 refine st hA49 (op_assign rfl (hA49.ev rfl)) rfl rfl (by decide) fun a50 hA51 => ?_; clear hA49 a48
 refine wl_nil ?_
 refine then_n ?_
 refine c_ret ?_
 refine then_ret ?_
 refine fin_run hA51 (.inl rfl) (run_results2 hA51 rfl (.tmp rfl) (.tmp rfl)) ?_
 exact ⟨rfl, hS37.ext⟩

theorem explains_no (vl vs vb : Value) (lv : List Value) (d : RD) (w : World) (hR : RoundAt w vl vs vb lv d) (xl : Value) (l : List Int) (hx : SlAt w xl 1 l.length (ints l)) (hlen : l.length ≤ 1000000) (hc : checkR d = 0) (hr : riseB d.tols.length l = false) :
  Calls Try.prog 21 #[(Value.agg #[vl, vs, (Value.int .i64 d.spread), vb]), xl] w (Ret fun v w' => v = .tuple #[.bool false, .int .i64 2] ∧ Ext NoB w w') := by
 refine calls_enter Try.func21 rfl fun a0 hA0 => ?_
 replace hA0 : Fr 22 [] [(0, (Value.agg #[vl, vs, (Value.int .i64 d.spread), vb])), (1, xl)] a0 := hA0
 try have hVd := valid_of hc
 have hS0 : Sep NoB w w [(sl xl 1 l.length (ints l)), (sl vl 2 d.lots.length (pairs d.lots)), (sl vs 1 d.samples.length (ints d.samples)), (sl vb 2 d.tols.length (vpairs (d.tols.zip lv))), (rdsR lv d.rds)] := sep_ro ⟨rfl, hx, rfl, hR.lots, rfl, hR.samples, rfl, hR.labs, rfl, hR.rds, trivial⟩
 refine c_seq ?_
 refine c_region ?_
 refine stw hA0 (op_box hS0 rfl (hA0.ev rfl) (cs := [vl, vs, (Value.int .i64 d.spread), vb]) rfl) rfl rfl (by decide) ?_
 rintro a1 _ w3 ⟨b4, rfl, hS5⟩ hA2; clear hA0 hS0 a0
 refine st hA2 (op_assign rfl (evc _ _)) rfl rfl (by decide) fun a6 hA7 => ?_; clear hA2 a1
 refine st hA7 (op_assign rfl (evc _ _)) rfl rfl (by decide) fun a8 hA9 => ?_; clear hA7 a6
 refine wl_nil ?_
 refine then_n ?_
 refine c_seq ?_
 refine c_region ?_
 refine st hA9 (op_loadA rfl ty_34 (hA9.ev rfl) (hS5.bk 0 rfl) (l := [vl, vs, (Value.int .i64 d.spread), vb]) rfl rfl) rfl rfl (by decide) fun a10 hA11 => ?_; clear hA9 a8
 refine st hA11 (op_move rfl (hA11.ev rfl)) rfl rfl (by decide) fun a12 hA13 => ?_; clear hA11 a10
 refine stw hA13 (op_call rfl en_51 (ev2 (hA13.ev rfl) (hA13.ev rfl)) (asked_no vl vs vb lv d _ (hR.step hS5.ext) xl l (hx.step hS5.ext) hlen hc (valid_of hc).nb hr)) rfl rfl (by decide) ?_
 rintro a14 _ w16 ⟨rfl, hE17⟩ hA15; have hS18 := hS5.step hE17; clear hE17 hA13 hS5 a12
 refine st hA15 (op_move rfl (hA15.ev rfl)) rfl rfl (by decide) fun a19 hA20 => ?_; clear hA15 a14
 refine st hA20 (op_extract rfl (hA20.ev rfl) rfl) rfl rfl (by decide) fun a21 hA22 => ?_; clear hA20 a19
 refine st hA22 (op_extract rfl (hA22.ev rfl) rfl) rfl rfl (by decide) fun a23 hA24 => ?_; clear hA22 a21
 refine st hA24 (op_extract rfl (hA24.ev rfl) rfl) rfl rfl (by decide) fun a25 hA26 => ?_; clear hA24 a23
 refine stw hA26 (op_alloc hS18 rfl ze_85 (cs := [(Value.bool false), (Value.bool false), (Value.bool false), (Value.bool false), (Value.bool false), (Value.bool false)]) rfl) rfl rfl (by decide) ?_
 rintro a27 _ w29 ⟨b30, rfl, hS31⟩ hA28; clear hA26 hS18 a25
 refine st hA28 (op_assign rfl (hA28.ev rfl)) rfl rfl (by decide) fun a32 hA33 => ?_; clear hA28 a27
 refine sts hA33 (op_store hS31 rfl ty_85 (hA33.ev rfl) (hA33.ev rfl) (i := 0) rfl (vs := [(Value.bool false), (Value.bool false), (Value.bool false), (Value.bool false), (Value.bool false), (Value.bool false)]) rfl rfl rfl (Nat.le_of_ble_eq_true rfl)) rfl rfl ?_
 intro _ w34 hS35 hA36; clear hA33
 have hS37 : Sep NoB w w34 [(blk b30 85 [(Value.bool false), (Value.bool false), (Value.bool false), (Value.bool false), (Value.bool false), (Value.bool false)]), (blk b4 34 [vl, vs, (Value.int .i64 d.spread), vb]), (sl xl 1 l.length (ints l)), (sl vl 2 d.lots.length (pairs d.lots)), (sl vs 1 d.samples.length (ints d.samples)), (sl vb 2 d.tols.length (vpairs (d.tols.zip lv))), (rdsR lv d.rds)] := hS35; clear hS35 hS31
 refine st hA36 (op_assign rfl (hA36.ev rfl)) rfl rfl (by decide) fun a38 hA39 => ?_; clear hA36 a32
 refine wl_nil ?_
 refine then_n ?_
 refine c_seq ?_
 refine c_seq ?_
 have hA40 := hA39.as [(8, (Value.int .i64 2)), (6, (Value.pointer none)), (7, (bptr b30 0))] rfl; clear hA39
 refine c_region ?_
 refine st hA40 (op_move rfl (hA40.ev rfl)) rfl rfl (by decide) fun a41 hA42 => ?_; clear hA40 a38
 refine st hA42 (op_neq rfl (hA42.ev rfl) (evc _ _)) rfl rfl (by decide) fun a43 hA44 => ?_; clear hA42 a41
 refine wl_nil ?_
 refine then_n ?_
 refine c_true hA44 rfl ?_
 refine c_seq ?_
 refine c_region ?_
 refine st hA44 (op_move rfl (hA44.ev rfl)) rfl rfl (by decide) fun a45 hA46 => ?_; clear hA44 a43
 refine st hA46 (op_assign rfl (evc _ _)) rfl rfl (by decide) fun a47 hA48 => ?_; clear hA46 a45
 refine st hA48 (op_assign rfl (hA48.ev rfl)) rfl rfl (by decide) fun a49 hA50 => ?_; clear hA48 a47
 refine wl_nil ?_
 refine then_n ?_
 refine c_ret ?_
 refine then_ret ?_
 refine fin_run hA50 (.inl rfl) (run_results2 hA50 rfl (.tmp rfl) (.tmp rfl)) ?_
 exact ⟨rfl, hS37.ext⟩

theorem explains_yes (vl vs vb : Value) (lv : List Value) (d : RD) (w : World) (hR : RoundAt w vl vs vb lv d) (xl : Value) (l : List Int) (hx : SlAt w xl 1 l.length (ints l)) (hlen : l.length ≤ 1000000) (hc : checkR d = 0) (hr : riseB d.tols.length l = true) :
  Calls Try.prog 21 #[(Value.agg #[vl, vs, (Value.int .i64 d.spread), vb]), xl] w (Ret fun v w' => v = .tuple #[.bool (explB d (offUpto l l.length)), .int .i64 0] ∧ Ext NoB w w') := by
 refine calls_enter Try.func21 rfl fun a0 hA0 => ?_
 replace hA0 : Fr 22 [] [(0, (Value.agg #[vl, vs, (Value.int .i64 d.spread), vb])), (1, xl)] a0 := hA0
 try have hVd := valid_of hc
 have hS0 : Sep NoB w w [(sl xl 1 l.length (ints l)), (sl vl 2 d.lots.length (pairs d.lots)), (sl vs 1 d.samples.length (ints d.samples)), (sl vb 2 d.tols.length (vpairs (d.tols.zip lv))), (rdsR lv d.rds)] := sep_ro ⟨rfl, hx, rfl, hR.lots, rfl, hR.samples, rfl, hR.labs, rfl, hR.rds, trivial⟩
 refine c_seq ?_
 refine c_region ?_
 refine stw hA0 (op_box hS0 rfl (hA0.ev rfl) (cs := [vl, vs, (Value.int .i64 d.spread), vb]) rfl) rfl rfl (by decide) ?_
 rintro a1 _ w3 ⟨b4, rfl, hS5⟩ hA2; clear hA0 hS0 a0
 refine st hA2 (op_assign rfl (evc _ _)) rfl rfl (by decide) fun a6 hA7 => ?_; clear hA2 a1
 refine st hA7 (op_assign rfl (evc _ _)) rfl rfl (by decide) fun a8 hA9 => ?_; clear hA7 a6
 refine wl_nil ?_
 refine then_n ?_
 refine c_seq ?_
 refine c_region ?_
 refine st hA9 (op_loadA rfl ty_34 (hA9.ev rfl) (hS5.bk 0 rfl) (l := [vl, vs, (Value.int .i64 d.spread), vb]) rfl rfl) rfl rfl (by decide) fun a10 hA11 => ?_; clear hA9 a8
 refine st hA11 (op_move rfl (hA11.ev rfl)) rfl rfl (by decide) fun a12 hA13 => ?_; clear hA11 a10
 refine stw hA13 (op_call rfl en_51 (ev2 (hA13.ev rfl) (hA13.ev rfl)) (asked_yes vl vs vb lv d _ (hR.step hS5.ext) xl l (hx.step hS5.ext) hlen hc (valid_of hc).nb hr)) rfl rfl (by decide) ?_
 rintro a14 _ w16 ⟨bj19, bm20, rfl, hT17⟩ hA15; have hS18 := hS5.callS hT17 rfl; clear hT17 hA13 hS5 a12
 refine st hA15 (op_move rfl (hA15.ev rfl)) rfl rfl (by decide) fun a21 hA22 => ?_; clear hA15 a14
 refine st hA22 (op_extract rfl (hA22.ev rfl) rfl) rfl rfl (by decide) fun a23 hA24 => ?_; clear hA22 a21
 refine st hA24 (op_extract rfl (hA24.ev rfl) rfl) rfl rfl (by decide) fun a25 hA26 => ?_; clear hA24 a23
 refine st hA26 (op_extract rfl (hA26.ev rfl) rfl) rfl rfl (by decide) fun a27 hA28 => ?_; clear hA26 a25
 refine stw hA28 (op_alloc hS18 rfl ze_85 (cs := [(Value.bool false), (Value.bool false), (Value.bool false), (Value.bool false), (Value.bool false), (Value.bool false)]) rfl) rfl rfl (by decide) ?_
 rintro a29 _ w31 ⟨b32, rfl, hS33⟩ hA30; clear hA28 hS18 a27
 refine st hA30 (op_assign rfl (hA30.ev rfl)) rfl rfl (by decide) fun a34 hA35 => ?_; clear hA30 a29
 refine sts hA35 (op_store hS33 rfl ty_85 (hA35.ev rfl) (hA35.ev rfl) (i := 0) rfl (vs := (bools (offUpto l l.length))) rfl (by simp [bools_length, offUpto_length]) (bools_one _) (by decide)) rfl rfl ?_
 intro _ w36 hS37 hA39; have hS38 := hS37.blk_say (i := 0) rfl (cs' := (bools (offUpto l l.length))) (setFrom_all _ _ (Eq.symm (by simp [bools_length, offUpto_length]))); clear hS37 hA35 hS33
 refine st hA39 (op_assign rfl (hA39.ev rfl)) rfl rfl (by decide) fun a40 hA41 => ?_; clear hA39 a34
 refine wl_nil ?_
 refine then_n ?_
 refine c_seq ?_
 refine c_seq ?_
 have hA42 := hA41.as [(8, (Value.int .i64 0)), (6, (bptr bj19 0)), (7, (bptr b32 0))] rfl; clear hA41
 refine c_region ?_
 refine st hA42 (op_move rfl (hA42.ev rfl)) rfl rfl (by decide) fun a43 hA44 => ?_; clear hA42 a40
 refine st hA44 (op_neq rfl (hA44.ev rfl) (evc _ _)) rfl rfl (by decide) fun a45 hA46 => ?_; clear hA44 a43
 refine wl_nil ?_
 refine then_n ?_
 refine c_false hA46 rfl ?_
 refine c_skip ?_
 refine then_n ?_
 refine c_seq ?_
 refine c_region ?_
 refine st hA46 (op_move rfl (hA46.ev rfl)) rfl rfl (by decide) fun a47 hA48 => ?_; clear hA46 a45
 refine st hA48 (op_loadA rfl ty_85 (hA48.ev rfl) (hS38.bk 0 rfl) (l := (bools (offUpto l l.length))) (drop_take_all _ _ (by simp [bools_length, offUpto_length])) (by simp [bools_length, offUpto_length])) rfl rfl (by decide) fun a49 hA50 => ?_; clear hA48 a47
 refine stw hA50 (op_call rfl en_52 (ev2 (hA50.ev rfl) (hA50.ev rfl)) (explain_ok _ _ (offUpto l l.length) vl vs vb lv d _ (by simp [offUpto_length]) hVd hR.lvl hR.rdl (hS38.lendM (i := 2) rfl [1, 5, 6, 7, 8] ⟨rfl, by decide, hS38.bk 1 rfl, ⟨_, rfl, fun _ hz => hz⟩, rfl, by decide, hS38.sk 5 rfl, ⟨_, rfl, fun _ hz => hz⟩, rfl, by decide, hS38.sk 6 rfl, ⟨_, rfl, fun _ hz => hz⟩, rfl, by decide, hS38.sk 7 rfl, ⟨_, rfl, fun _ hz => hz⟩, rfl, by decide, hS38.ok 8 _ rfl, ⟨_, rfl, fun _ hz => hz⟩, trivial⟩))) rfl rfl (by decide) ?_
 rintro a51 _ w53 ⟨rfl, hE54, hM55⟩ hA52; have hS56 := hS38.updM (i := 2) rfl hE54 hM55; clear hE54 hM55 hA50 hS38 a49
 refine st hA52 (op_assign rfl (hA52.ev rfl)) rfl rfl (by decide) fun a57 hA58 => ?_; clear hA52 a51
 refine st hA58 (op_assign rfl (evc _ _)) rfl rfl (by decide) fun a59 hA60 => ?_; clear hA58 a57
 refine wl_nil ?_
 refine then_n ?_
 refine c_ret ?_
 refine fin_run hA60 (.inl rfl) (run_results2 hA60 rfl (.tmp rfl) (.tmp rfl)) ?_
 exact ⟨rfl, hS56.ext⟩

theorem explains_ok (vl vs vb : Value) (lv : List Value) (d : RD) (w : World) (hR : RoundAt w vl vs vb lv d) (xl : Value) (l : List Int) (hx : SlAt w xl 1 l.length (ints l)) (hlen : l.length ≤ 1000000) :
  Calls Try.prog 21 #[(Value.agg #[vl, vs, (Value.int .i64 d.spread), vb]), xl] w (Ret fun v w' => v = .tuple #[.bool (explainsF d l).1, .int .i64 (explainsF d l).2] ∧ Ext NoB w w') := by
 unfold explainsF
 by_cases hc : checkR d = 0
 ·rw [if_pos hc]
  by_cases hr : riseB d.tols.length l = true
  ·rw [if_pos hr]; exact explains_yes vl vs vb lv d w hR xl l hx hlen hc hr
  ·rw [if_neg hr]; exact explains_no vl vs vb lv d w hR xl l hx hlen hc (by simpa using hr)
 ·rw [if_neg hc]; exact explains_bad vl vs vb lv d w hR xl l hx hlen hc

end Go.Proofs.Ytfhmigoddaaljaa

namespace Go.Proofs.Ytfhmigoddaaljaa
open Go.RowKit Go.Shelf Go.Eng
theorem spansE_bad (vl vs vb : Value) (lv : List Value) (d : RD) (w : World) (hR : RoundAt w vl vs vb lv d) (xl : Value) (l : List Int) (hx : SlAt w xl 1 l.length (ints l)) (hlen : l.length ≤ 1000000) (hc : checkR d ≠ 0) :
  Calls Try.prog 26 #[(Value.agg #[vl, vs, (Value.int .i64 d.spread), vb]), xl] w (Ret fun v w' => ∃ u, v = .tuple #[u, .int .i64 (checkR d)] ∧ Ext NoB w w' ∧ w'.ownsRow w.heap.size 46 2 u ([] : List (Int × Int)).length (pairs [])) := by
 refine calls_enter Try.func26 rfl fun a0 hA0 => ?_
 replace hA0 : Fr 31 [] [(0, (Value.agg #[vl, vs, (Value.int .i64 d.spread), vb])), (1, xl)] a0 := hA0
 try have hVd := valid_of hc
 have hS0 : Sep NoB w w [(sl xl 1 l.length (ints l)), (sl vl 2 d.lots.length (pairs d.lots)), (sl vs 1 d.samples.length (ints d.samples)), (sl vb 2 d.tols.length (vpairs (d.tols.zip lv))), (rdsR lv d.rds)] := sep_ro ⟨rfl, hx, rfl, hR.lots, rfl, hR.samples, rfl, hR.labs, rfl, hR.rds, trivial⟩
 refine c_seq ?_
 refine c_region ?_
 refine stw hA0 (op_box hS0 rfl (hA0.ev rfl) (cs := [vl, vs, (Value.int .i64 d.spread), vb]) rfl) rfl rfl (by decide) ?_
 rintro a1 _ w3 ⟨b4, rfl, hS5⟩ hA2; clear hA0 hS0 a0
 refine st hA2 (op_assign rfl (evc _ _)) rfl rfl (by decide) fun a6 hA7 => ?_; clear hA2 a1
 refine st hA7 (op_assign rfl (evc _ _)) rfl rfl (by decide) fun a8 hA9 => ?_; clear hA7 a6
 refine wl_nil ?_
 refine then_n ?_
 refine c_seq ?_
 refine c_region ?_
 refine st hA9 (op_loadA rfl ty_34 (hA9.ev rfl) (hS5.bk 0 rfl) (l := [vl, vs, (Value.int .i64 d.spread), vb]) rfl rfl) rfl rfl (by decide) fun a10 hA11 => ?_; clear hA9 a8
 refine st hA11 (op_move rfl (hA11.ev rfl)) rfl rfl (by decide) fun a12 hA13 => ?_; clear hA11 a10
 refine stw hA13 (op_call rfl en_51 (ev2 (hA13.ev rfl) (hA13.ev rfl)) (asked_bad vl vs vb lv d _ (hR.step hS5.ext) xl l (hx.step hS5.ext) hlen hc)) rfl rfl (by decide) ?_
 rintro a14 _ w16 ⟨rfl, hE17⟩ hA15; have hS18 := hS5.step hE17; clear hE17 hA13 hS5 a12
 refine st hA15 (op_move rfl (hA15.ev rfl)) rfl rfl (by decide) fun a19 hA20 => ?_; clear hA15 a14
 refine st hA20 (op_extract rfl (hA20.ev rfl) rfl) rfl rfl (by decide) fun a21 hA22 => ?_; clear hA20 a19
 refine st hA22 (op_extract rfl (hA22.ev rfl) rfl) rfl rfl (by decide) fun a23 hA24 => ?_; clear hA22 a21
 refine st hA24 (op_extract rfl (hA24.ev rfl) rfl) rfl rfl (by decide) fun a25 hA26 => ?_; clear hA24 a23
 refine stw hA26 (op_alloc hS18 rfl ze_85 (cs := [(Value.bool false), (Value.bool false), (Value.bool false), (Value.bool false), (Value.bool false), (Value.bool false)]) rfl) rfl rfl (by decide) ?_
 rintro a27 _ w29 ⟨b30, rfl, hS31⟩ hA28; clear hA26 hS18 a25
 refine st hA28 (op_assign rfl (hA28.ev rfl)) rfl rfl (by decide) fun a32 hA33 => ?_; clear hA28 a27
 refine sts hA33 (op_store hS31 rfl ty_85 (hA33.ev rfl) (hA33.ev rfl) (i := 0) rfl (vs := [(Value.bool false), (Value.bool false), (Value.bool false), (Value.bool false), (Value.bool false), (Value.bool false)]) rfl rfl rfl (Nat.le_of_ble_eq_true rfl)) rfl rfl ?_
 intro _ w34 hS35 hA36; clear hA33
 have hS37 : Sep NoB w w34 [(blk b30 85 [(Value.bool false), (Value.bool false), (Value.bool false), (Value.bool false), (Value.bool false), (Value.bool false)]), (blk b4 34 [vl, vs, (Value.int .i64 d.spread), vb]), (sl xl 1 l.length (ints l)), (sl vl 2 d.lots.length (pairs d.lots)), (sl vs 1 d.samples.length (ints d.samples)), (sl vb 2 d.tols.length (vpairs (d.tols.zip lv))), (rdsR lv d.rds)] := hS35; clear hS35 hS31
 refine st hA36 (op_assign rfl (hA36.ev rfl)) rfl rfl (by decide) fun a38 hA39 => ?_; clear hA36 a32
 refine wl_nil ?_
 refine then_n ?_
 refine c_seq ?_
 refine c_seq ?_
 have hA40 := hA39.as [(8, (Value.int .i64 (checkR d))), (6, (Value.pointer none)), (7, (bptr b30 0))] rfl; clear hA39
 refine c_region ?_
 refine st hA40 (op_move rfl (hA40.ev rfl)) rfl rfl (by decide) fun a41 hA42 => ?_; clear hA40 a38
 refine st hA42 (op_neq rfl (hA42.ev rfl) (evc _ _)) rfl rfl (by decide) fun a43 hA44 => ?_; clear hA42 a41
 have hd45 : ¬ ((checkR d) = 0) := hc
 rw [decide_eq_false hd45] at hA44
 refine wl_nil ?_
 refine then_n ?_
 refine c_true hA44 rfl ?_
 refine c_seq ?_
 refine c_region ?_
 refine st hA44 (op_move rfl (hA44.ev rfl)) rfl rfl (by decide) fun a46 hA47 => ?_; clear hA44 a43
 refine st hA47 (op_assign rfl (evc _ _)) rfl rfl (by decide) fun a48 hA49 => ?_; clear hA47 a46
 refine st hA49 (op_assign rfl (hA49.ev rfl)) rfl rfl (by decide) fun a50 hA51 => ?_; clear hA49 a48
 refine wl_nil ?_
 refine then_n ?_
 refine c_ret ?_
 refine then_ret ?_
 refine fin_run hA51 (.inl rfl) (run_results2 hA51 rfl (.tmp rfl) (.tmp rfl)) ?_
 exact ⟨_, rfl, hS37.ext, ⟨rfl, .inl ⟨rfl, rfl⟩⟩⟩

theorem spansE_no (vl vs vb : Value) (lv : List Value) (d : RD) (w : World) (hR : RoundAt w vl vs vb lv d) (xl : Value) (l : List Int) (hx : SlAt w xl 1 l.length (ints l)) (hlen : l.length ≤ 1000000) (hc : checkR d = 0) (hr : riseB d.tols.length l = false) :
  Calls Try.prog 26 #[(Value.agg #[vl, vs, (Value.int .i64 d.spread), vb]), xl] w (Ret fun v w' => ∃ u, v = .tuple #[u, .int .i64 (2)] ∧ Ext NoB w w' ∧ w'.ownsRow w.heap.size 46 2 u ([] : List (Int × Int)).length (pairs [])) := by
 refine calls_enter Try.func26 rfl fun a0 hA0 => ?_
 replace hA0 : Fr 31 [] [(0, (Value.agg #[vl, vs, (Value.int .i64 d.spread), vb])), (1, xl)] a0 := hA0
 try have hVd := valid_of hc
 have hS0 : Sep NoB w w [(sl xl 1 l.length (ints l)), (sl vl 2 d.lots.length (pairs d.lots)), (sl vs 1 d.samples.length (ints d.samples)), (sl vb 2 d.tols.length (vpairs (d.tols.zip lv))), (rdsR lv d.rds)] := sep_ro ⟨rfl, hx, rfl, hR.lots, rfl, hR.samples, rfl, hR.labs, rfl, hR.rds, trivial⟩
 refine c_seq ?_
 refine c_region ?_
 refine stw hA0 (op_box hS0 rfl (hA0.ev rfl) (cs := [vl, vs, (Value.int .i64 d.spread), vb]) rfl) rfl rfl (by decide) ?_
 rintro a1 _ w3 ⟨b4, rfl, hS5⟩ hA2; clear hA0 hS0 a0
 refine st hA2 (op_assign rfl (evc _ _)) rfl rfl (by decide) fun a6 hA7 => ?_; clear hA2 a1
 refine st hA7 (op_assign rfl (evc _ _)) rfl rfl (by decide) fun a8 hA9 => ?_; clear hA7 a6
 refine wl_nil ?_
 refine then_n ?_
 refine c_seq ?_
 refine c_region ?_
 refine st hA9 (op_loadA rfl ty_34 (hA9.ev rfl) (hS5.bk 0 rfl) (l := [vl, vs, (Value.int .i64 d.spread), vb]) rfl rfl) rfl rfl (by decide) fun a10 hA11 => ?_; clear hA9 a8
 refine st hA11 (op_move rfl (hA11.ev rfl)) rfl rfl (by decide) fun a12 hA13 => ?_; clear hA11 a10
 refine stw hA13 (op_call rfl en_51 (ev2 (hA13.ev rfl) (hA13.ev rfl)) (asked_no vl vs vb lv d _ (hR.step hS5.ext) xl l (hx.step hS5.ext) hlen hc (valid_of hc).nb hr)) rfl rfl (by decide) ?_
 rintro a14 _ w16 ⟨rfl, hE17⟩ hA15; have hS18 := hS5.step hE17; clear hE17 hA13 hS5 a12
 refine st hA15 (op_move rfl (hA15.ev rfl)) rfl rfl (by decide) fun a19 hA20 => ?_; clear hA15 a14
 refine st hA20 (op_extract rfl (hA20.ev rfl) rfl) rfl rfl (by decide) fun a21 hA22 => ?_; clear hA20 a19
 refine st hA22 (op_extract rfl (hA22.ev rfl) rfl) rfl rfl (by decide) fun a23 hA24 => ?_; clear hA22 a21
 refine st hA24 (op_extract rfl (hA24.ev rfl) rfl) rfl rfl (by decide) fun a25 hA26 => ?_; clear hA24 a23
 refine stw hA26 (op_alloc hS18 rfl ze_85 (cs := [(Value.bool false), (Value.bool false), (Value.bool false), (Value.bool false), (Value.bool false), (Value.bool false)]) rfl) rfl rfl (by decide) ?_
 rintro a27 _ w29 ⟨b30, rfl, hS31⟩ hA28; clear hA26 hS18 a25
 refine st hA28 (op_assign rfl (hA28.ev rfl)) rfl rfl (by decide) fun a32 hA33 => ?_; clear hA28 a27
 refine sts hA33 (op_store hS31 rfl ty_85 (hA33.ev rfl) (hA33.ev rfl) (i := 0) rfl (vs := [(Value.bool false), (Value.bool false), (Value.bool false), (Value.bool false), (Value.bool false), (Value.bool false)]) rfl rfl rfl (Nat.le_of_ble_eq_true rfl)) rfl rfl ?_
 intro _ w34 hS35 hA36; clear hA33
 have hS37 : Sep NoB w w34 [(blk b30 85 [(Value.bool false), (Value.bool false), (Value.bool false), (Value.bool false), (Value.bool false), (Value.bool false)]), (blk b4 34 [vl, vs, (Value.int .i64 d.spread), vb]), (sl xl 1 l.length (ints l)), (sl vl 2 d.lots.length (pairs d.lots)), (sl vs 1 d.samples.length (ints d.samples)), (sl vb 2 d.tols.length (vpairs (d.tols.zip lv))), (rdsR lv d.rds)] := hS35; clear hS35 hS31
 refine st hA36 (op_assign rfl (hA36.ev rfl)) rfl rfl (by decide) fun a38 hA39 => ?_; clear hA36 a32
 refine wl_nil ?_
 refine then_n ?_
 refine c_seq ?_
 refine c_seq ?_
 have hA40 := hA39.as [(8, (Value.int .i64 2)), (6, (Value.pointer none)), (7, (bptr b30 0))] rfl; clear hA39
 refine c_region ?_
 refine st hA40 (op_move rfl (hA40.ev rfl)) rfl rfl (by decide) fun a41 hA42 => ?_; clear hA40 a38
 refine st hA42 (op_neq rfl (hA42.ev rfl) (evc _ _)) rfl rfl (by decide) fun a43 hA44 => ?_; clear hA42 a41
 refine wl_nil ?_
 refine then_n ?_
 refine c_true hA44 rfl ?_
 refine c_seq ?_
 refine c_region ?_
 refine st hA44 (op_move rfl (hA44.ev rfl)) rfl rfl (by decide) fun a45 hA46 => ?_; clear hA44 a43
 refine st hA46 (op_assign rfl (evc _ _)) rfl rfl (by decide) fun a47 hA48 => ?_; clear hA46 a45
 refine st hA48 (op_assign rfl (hA48.ev rfl)) rfl rfl (by decide) fun a49 hA50 => ?_; clear hA48 a47
 refine wl_nil ?_
 refine then_n ?_
 refine c_ret ?_
 refine then_ret ?_
 refine fin_run hA50 (.inl rfl) (run_results2 hA50 rfl (.tmp rfl) (.tmp rfl)) ?_
 exact ⟨_, rfl, hS37.ext, ⟨rfl, .inl ⟨rfl, rfl⟩⟩⟩

theorem spansE_fail (vl vs vb : Value) (lv : List Value) (d : RD) (w : World) (hR : RoundAt w vl vs vb lv d) (xl : Value) (l : List Int) (hx : SlAt w xl 1 l.length (ints l)) (hlen : l.length ≤ 1000000) (hc : checkR d = 0) (hr : riseB d.tols.length l = true) (hs : (spansF d (offUpto l l.length) (-1) 0).2 = false) :
  Calls Try.prog 26 #[(Value.agg #[vl, vs, (Value.int .i64 d.spread), vb]), xl] w (Ret fun v w' => ∃ u, v = .tuple #[u, .int .i64 (9)] ∧ Ext NoB w w' ∧ w'.ownsRow w.heap.size 46 2 u ([] : List (Int × Int)).length (pairs [])) := by
 refine calls_enter Try.func26 rfl fun a0 hA0 => ?_
 replace hA0 : Fr 31 [] [(0, (Value.agg #[vl, vs, (Value.int .i64 d.spread), vb])), (1, xl)] a0 := hA0
 try have hVd := valid_of hc
 have hS0 : Sep NoB w w [(sl xl 1 l.length (ints l)), (sl vl 2 d.lots.length (pairs d.lots)), (sl vs 1 d.samples.length (ints d.samples)), (sl vb 2 d.tols.length (vpairs (d.tols.zip lv))), (rdsR lv d.rds)] := sep_ro ⟨rfl, hx, rfl, hR.lots, rfl, hR.samples, rfl, hR.labs, rfl, hR.rds, trivial⟩
 refine c_seq ?_
 refine c_region ?_
 refine stw hA0 (op_box hS0 rfl (hA0.ev rfl) (cs := [vl, vs, (Value.int .i64 d.spread), vb]) rfl) rfl rfl (by decide) ?_
 rintro a1 _ w3 ⟨b4, rfl, hS5⟩ hA2; clear hA0 hS0 a0
 refine st hA2 (op_assign rfl (evc _ _)) rfl rfl (by decide) fun a6 hA7 => ?_; clear hA2 a1
 refine st hA7 (op_assign rfl (evc _ _)) rfl rfl (by decide) fun a8 hA9 => ?_; clear hA7 a6
 refine wl_nil ?_
 refine then_n ?_
 refine c_seq ?_
 refine c_region ?_
 refine st hA9 (op_loadA rfl ty_34 (hA9.ev rfl) (hS5.bk 0 rfl) (l := [vl, vs, (Value.int .i64 d.spread), vb]) rfl rfl) rfl rfl (by decide) fun a10 hA11 => ?_; clear hA9 a8
 refine st hA11 (op_move rfl (hA11.ev rfl)) rfl rfl (by decide) fun a12 hA13 => ?_; clear hA11 a10
 refine stw hA13 (op_call rfl en_51 (ev2 (hA13.ev rfl) (hA13.ev rfl)) (asked_yes vl vs vb lv d _ (hR.step hS5.ext) xl l (hx.step hS5.ext) hlen hc (valid_of hc).nb hr)) rfl rfl (by decide) ?_
 rintro a14 _ w16 ⟨bj19, bm20, rfl, hT17⟩ hA15; have hS18 := hS5.callS hT17 rfl; clear hT17 hA13 hS5 a12
 refine st hA15 (op_move rfl (hA15.ev rfl)) rfl rfl (by decide) fun a21 hA22 => ?_; clear hA15 a14
 refine st hA22 (op_extract rfl (hA22.ev rfl) rfl) rfl rfl (by decide) fun a23 hA24 => ?_; clear hA22 a21
 refine st hA24 (op_extract rfl (hA24.ev rfl) rfl) rfl rfl (by decide) fun a25 hA26 => ?_; clear hA24 a23
 refine st hA26 (op_extract rfl (hA26.ev rfl) rfl) rfl rfl (by decide) fun a27 hA28 => ?_; clear hA26 a25
 refine stw hA28 (op_alloc hS18 rfl ze_85 (cs := [(Value.bool false), (Value.bool false), (Value.bool false), (Value.bool false), (Value.bool false), (Value.bool false)]) rfl) rfl rfl (by decide) ?_
 rintro a29 _ w31 ⟨b32, rfl, hS33⟩ hA30; clear hA28 hS18 a27
 refine st hA30 (op_assign rfl (hA30.ev rfl)) rfl rfl (by decide) fun a34 hA35 => ?_; clear hA30 a29
 refine sts hA35 (op_store hS33 rfl ty_85 (hA35.ev rfl) (hA35.ev rfl) (i := 0) rfl (vs := (bools (offUpto l l.length))) rfl (by simp [bools_length, offUpto_length]) (bools_one _) (by decide)) rfl rfl ?_
 intro _ w36 hS37 hA39; have hS38 := hS37.blk_say (i := 0) rfl (cs' := (bools (offUpto l l.length))) (setFrom_all _ _ (Eq.symm (by simp [bools_length, offUpto_length]))); clear hS37 hA35 hS33
 refine st hA39 (op_assign rfl (hA39.ev rfl)) rfl rfl (by decide) fun a40 hA41 => ?_; clear hA39 a34
 refine wl_nil ?_
 refine then_n ?_
 refine c_seq ?_
 refine c_seq ?_
 have hA42 := hA41.as [(8, (Value.int .i64 0)), (6, (bptr bj19 0)), (7, (bptr b32 0))] rfl; clear hA41
 refine c_region ?_
 refine st hA42 (op_move rfl (hA42.ev rfl)) rfl rfl (by decide) fun a43 hA44 => ?_; clear hA42 a40
 refine st hA44 (op_neq rfl (hA44.ev rfl) (evc _ _)) rfl rfl (by decide) fun a45 hA46 => ?_; clear hA44 a43
 refine wl_nil ?_
 refine then_n ?_
 refine c_false hA46 rfl ?_
 refine c_skip ?_
 refine then_n ?_
 refine c_seq ?_
 have hA47 := hA46.as [(6, (bptr bj19 0)), (7, (bptr b32 0))] rfl; clear hA46
 have hB48 := hS38.below
 refine c_drawnZ mixed hA47 hS38 8 [[], [], [], [0, 1, 2], [3], [4], [4], [5]] [(Yd.val (bptr bj19 0)), (Yd.val (Value.agg (bools (offUpto l l.length)).toArray)), (Yd.val (Value.agg #[(Value.int .i64 (-1)), (Value.int .i64 0)])), (Yd.exr w36.heap.size 46 2 (spansF d (offUpto l l.length) (-1) 0).1.length (pairs (spansF d (offUpto l l.length) (-1) 0).1) (fun u_ => (Value.tuple #[u_, (Value.bool ((spansF d (offUpto l l.length) (-1) 0).2))]))), (Yd.exr w36.heap.size 46 2 ((spansF d (offUpto l l.length) (-1) 0).1.length) (pairs (spansF d (offUpto l l.length) (-1) 0).1) (fun u_ => (Value.tuple #[u_, (Value.bool ((spansF d (offUpto l l.length) (-1) 0).2))]))), (Yd.exr w36.heap.size 46 2 ((spansF d (offUpto l l.length) (-1) 0).1.length) (pairs (spansF d (offUpto l l.length) (-1) 0).1) (fun u_ => u_)), (Yd.val (Value.bool false)), (Yd.exr w36.heap.size 46 2 ((spansF d (offUpto l l.length) (-1) 0).1.length) (pairs (spansF d (offUpto l l.length) (-1) 0).1) (fun u_ => u_))] (by decide +kernel) rfl rfl ?_ ?_
 ·skip
  refine ⟨fun a w hA hS hz hd => ?_, ?_⟩
  ·skip
   exact opG_of rfl (dv (op_move rfl (hA.ev rfl)) hS rfl)
  refine ⟨fun a w hA hS hz hd => ?_, ?_⟩
  ·skip
   exact opG_of rfl (dv (op_loadA rfl ty_85 (hA.ev rfl) (hS.bk 0 rfl) (l := (bools (offUpto l l.length))) (drop_take_all _ _ (by simp [bools_length, offUpto_length])) (by simp [bools_length, offUpto_length])) hS rfl)
  refine ⟨fun a w hA hS hz hd => ?_, ?_⟩
  ·skip
   exact opG_of rfl (dx (op_call rfl en_55 ev0 (nobody_ok _)) hS (fun _ => rfl))
  refine ⟨fun a w hA hS hz hd => ?_, ?_⟩
  ·skip
   have e0 := has_ev (hd 0 (by decide)) rfl (fun _ h => h)
   have e1 := has_ev (hd 1 (by decide)) rfl (fun _ h => h)
   have e2 := has_ev (hd 2 (by decide)) rfl (fun _ h => h)
   exact opG_of rfl (dxe (op_call rfl en_54 (ev3 (tmp_ev e0) (tmp_ev e1) (tmp_ev e2)) (spans_ok _ _ _ _ _ vl vs vb lv d _ (by simp [offUpto_length]) hVd (by decide) (hR.step hS.ext) (hS.bk 1 rfl))) hS (fun v w' h => by obtain ⟨u, h1, h2, h3⟩ := h; exact ⟨h2, u, h1, row_of_owns hz h3⟩))
  refine ⟨fun a w hA hS hz hd => ?_, ?_⟩
  ·skip
   obtain ⟨_, e3, u_, rfl, hro, hbo⟩ := has_get (hd 3 (by decide)) rfl
   exact opG_of rfl (dv (op_move rfl (tmp_ev e3)) hS ⟨_, rfl, hro, hbo⟩)
  refine ⟨fun a w hA hS hz hd => ?_, ?_⟩
  ·skip
   obtain ⟨_, e4, u_, rfl, hro, hbo⟩ := has_get (hd 4 (by decide)) rfl
   exact opG_of rfl (dv (op_extract rfl (tmp_ev e4) rfl) hS ⟨_, rfl, hro, hbo⟩)
  refine ⟨fun a w hA hS hz hd => ?_, ?_⟩
  ·skip
   obtain ⟨_, e4, u_, rfl, hro, hbo⟩ := has_get (hd 4 (by decide)) rfl
   exact opG_of rfl (dv (op_extract rfl (tmp_ev e4) rfl) hS (by show Value.bool _ = _; simp [hs]))
  refine ⟨fun a w hA hS hz hd => ?_, ?_⟩
  ·skip
   obtain ⟨_, e5, u_, rfl, hro, hbo⟩ := has_get (hd 5 (by decide)) rfl
   exact opG_of rfl (dv (op_assign rfl (tmp_ev e5)) hS ⟨_, rfl, hro, hbo⟩)
  trivial
 intro a49 w50 hA51 hS52 hH53; clear hA47 hS38
 have hA55 := hA51.add (has_ev (hH53 6 (by decide)) rfl (fun _ h => h)); clear hA51
 obtain ⟨v_u57, ht58, u57, hv_u57, hro59, hbo60⟩ := has_get (hH53 7 (by decide)) rfl; subst v_u57
 have hA56 := hA55.add ht58; have hS61 := hS52.addNew hB48 hro59 hbo60; clear hA55 hS52 ht58 hro59 hbo60
 clear hH53
 refine st hA56 (op_assign rfl (hA56.ev rfl)) rfl rfl (by decide) fun a62 hA63 => ?_; clear hA56 a49
 refine wl_nil ?_
 refine then_n ?_
 refine c_seq ?_
 refine c_seq ?_
 refine c_region ?_
 refine st hA63 (op_move rfl (hA63.ev rfl)) rfl rfl (by decide) fun a64 hA65 => ?_; clear hA63 a62
 refine st hA65 (op_not rfl (hA65.ev rfl)) rfl rfl (by decide) fun a66 hA67 => ?_; clear hA65 a64
 refine wl_nil ?_
 refine then_n ?_
 refine c_true hA67 rfl ?_
 refine c_seq ?_
 have hA68 := hA67.as [] rfl; clear hA67
 refine c_region ?_
 refine st hA68 (op_assign rfl (evc _ _)) rfl rfl (by decide) fun a69 hA70 => ?_; clear hA68 a66
 refine st hA70 (op_assign rfl (evc _ _)) rfl rfl (by decide) fun a71 hA72 => ?_; clear hA70 a69
 refine wl_nil ?_
 refine then_n ?_
 refine c_ret ?_
 refine then_ret ?_
 refine fin_run hA72 (.inl rfl) (run_results2 hA72 rfl (.tmp rfl) (.tmp rfl)) ?_
 exact ⟨_, rfl, hS61.ext, ⟨rfl, .inl ⟨rfl, rfl⟩⟩⟩

theorem spansE_yes (vl vs vb : Value) (lv : List Value) (d : RD) (w : World) (hR : RoundAt w vl vs vb lv d) (xl : Value) (l : List Int) (hx : SlAt w xl 1 l.length (ints l)) (hlen : l.length ≤ 1000000) (hc : checkR d = 0) (hr : riseB d.tols.length l = true) (hs : (spansF d (offUpto l l.length) (-1) 0).2 = true) :
  Calls Try.prog 26 #[(Value.agg #[vl, vs, (Value.int .i64 d.spread), vb]), xl] w (Ret fun v w' => ∃ u, v = .tuple #[u, .int .i64 (0)] ∧ Ext NoB w w' ∧ w'.ownsRow w.heap.size 46 2 u ((spansF d (offUpto l l.length) (-1) 0).1 : List (Int × Int)).length (pairs (spansF d (offUpto l l.length) (-1) 0).1)) := by
 refine calls_enter Try.func26 rfl fun a0 hA0 => ?_
 replace hA0 : Fr 31 [] [(0, (Value.agg #[vl, vs, (Value.int .i64 d.spread), vb])), (1, xl)] a0 := hA0
 try have hVd := valid_of hc
 have hS0 : Sep NoB w w [(sl xl 1 l.length (ints l)), (sl vl 2 d.lots.length (pairs d.lots)), (sl vs 1 d.samples.length (ints d.samples)), (sl vb 2 d.tols.length (vpairs (d.tols.zip lv))), (rdsR lv d.rds)] := sep_ro ⟨rfl, hx, rfl, hR.lots, rfl, hR.samples, rfl, hR.labs, rfl, hR.rds, trivial⟩
 refine c_seq ?_
 refine c_region ?_
 refine stw hA0 (op_box hS0 rfl (hA0.ev rfl) (cs := [vl, vs, (Value.int .i64 d.spread), vb]) rfl) rfl rfl (by decide) ?_
 rintro a1 _ w3 ⟨b4, rfl, hS5⟩ hA2; clear hA0 hS0 a0
 refine st hA2 (op_assign rfl (evc _ _)) rfl rfl (by decide) fun a6 hA7 => ?_; clear hA2 a1
 refine st hA7 (op_assign rfl (evc _ _)) rfl rfl (by decide) fun a8 hA9 => ?_; clear hA7 a6
 refine wl_nil ?_
 refine then_n ?_
 refine c_seq ?_
 refine c_region ?_
 refine st hA9 (op_loadA rfl ty_34 (hA9.ev rfl) (hS5.bk 0 rfl) (l := [vl, vs, (Value.int .i64 d.spread), vb]) rfl rfl) rfl rfl (by decide) fun a10 hA11 => ?_; clear hA9 a8
 refine st hA11 (op_move rfl (hA11.ev rfl)) rfl rfl (by decide) fun a12 hA13 => ?_; clear hA11 a10
 refine stw hA13 (op_call rfl en_51 (ev2 (hA13.ev rfl) (hA13.ev rfl)) (asked_yes vl vs vb lv d _ (hR.step hS5.ext) xl l (hx.step hS5.ext) hlen hc (valid_of hc).nb hr)) rfl rfl (by decide) ?_
 rintro a14 _ w16 ⟨bj19, bm20, rfl, hT17⟩ hA15; have hS18 := hS5.callS hT17 rfl; clear hT17 hA13 hS5 a12
 refine st hA15 (op_move rfl (hA15.ev rfl)) rfl rfl (by decide) fun a21 hA22 => ?_; clear hA15 a14
 refine st hA22 (op_extract rfl (hA22.ev rfl) rfl) rfl rfl (by decide) fun a23 hA24 => ?_; clear hA22 a21
 refine st hA24 (op_extract rfl (hA24.ev rfl) rfl) rfl rfl (by decide) fun a25 hA26 => ?_; clear hA24 a23
 refine st hA26 (op_extract rfl (hA26.ev rfl) rfl) rfl rfl (by decide) fun a27 hA28 => ?_; clear hA26 a25
 refine stw hA28 (op_alloc hS18 rfl ze_85 (cs := [(Value.bool false), (Value.bool false), (Value.bool false), (Value.bool false), (Value.bool false), (Value.bool false)]) rfl) rfl rfl (by decide) ?_
 rintro a29 _ w31 ⟨b32, rfl, hS33⟩ hA30; clear hA28 hS18 a27
 refine st hA30 (op_assign rfl (hA30.ev rfl)) rfl rfl (by decide) fun a34 hA35 => ?_; clear hA30 a29
 refine sts hA35 (op_store hS33 rfl ty_85 (hA35.ev rfl) (hA35.ev rfl) (i := 0) rfl (vs := (bools (offUpto l l.length))) rfl (by simp [bools_length, offUpto_length]) (bools_one _) (by decide)) rfl rfl ?_
 intro _ w36 hS37 hA39; have hS38 := hS37.blk_say (i := 0) rfl (cs' := (bools (offUpto l l.length))) (setFrom_all _ _ (Eq.symm (by simp [bools_length, offUpto_length]))); clear hS37 hA35 hS33
 refine st hA39 (op_assign rfl (hA39.ev rfl)) rfl rfl (by decide) fun a40 hA41 => ?_; clear hA39 a34
 refine wl_nil ?_
 refine then_n ?_
 refine c_seq ?_
 refine c_seq ?_
 have hA42 := hA41.as [(8, (Value.int .i64 0)), (6, (bptr bj19 0)), (7, (bptr b32 0))] rfl; clear hA41
 refine c_region ?_
 refine st hA42 (op_move rfl (hA42.ev rfl)) rfl rfl (by decide) fun a43 hA44 => ?_; clear hA42 a40
 refine st hA44 (op_neq rfl (hA44.ev rfl) (evc _ _)) rfl rfl (by decide) fun a45 hA46 => ?_; clear hA44 a43
 refine wl_nil ?_
 refine then_n ?_
 refine c_false hA46 rfl ?_
 refine c_skip ?_
 refine then_n ?_
 refine c_seq ?_
 have hA47 := hA46.as [(6, (bptr bj19 0)), (7, (bptr b32 0))] rfl; clear hA46
 have hB48 := hS38.below
 refine c_drawnZ mixed hA47 hS38 8 [[], [], [], [0, 1, 2], [3], [4], [4], [5]] [(Yd.val (bptr bj19 0)), (Yd.val (Value.agg (bools (offUpto l l.length)).toArray)), (Yd.val (Value.agg #[(Value.int .i64 (-1)), (Value.int .i64 0)])), (Yd.exr w36.heap.size 46 2 (spansF d (offUpto l l.length) (-1) 0).1.length (pairs (spansF d (offUpto l l.length) (-1) 0).1) (fun u_ => (Value.tuple #[u_, (Value.bool ((spansF d (offUpto l l.length) (-1) 0).2))]))), (Yd.exr w36.heap.size 46 2 ((spansF d (offUpto l l.length) (-1) 0).1.length) (pairs (spansF d (offUpto l l.length) (-1) 0).1) (fun u_ => (Value.tuple #[u_, (Value.bool ((spansF d (offUpto l l.length) (-1) 0).2))]))), (Yd.exr w36.heap.size 46 2 ((spansF d (offUpto l l.length) (-1) 0).1.length) (pairs (spansF d (offUpto l l.length) (-1) 0).1) (fun u_ => u_)), (Yd.val (Value.bool true)), (Yd.exr w36.heap.size 46 2 ((spansF d (offUpto l l.length) (-1) 0).1.length) (pairs (spansF d (offUpto l l.length) (-1) 0).1) (fun u_ => u_))] (by decide +kernel) rfl rfl ?_ ?_
 ·skip
  refine ⟨fun a w hA hS hz hd => ?_, ?_⟩
  ·skip
   exact opG_of rfl (dv (op_move rfl (hA.ev rfl)) hS rfl)
  refine ⟨fun a w hA hS hz hd => ?_, ?_⟩
  ·skip
   exact opG_of rfl (dv (op_loadA rfl ty_85 (hA.ev rfl) (hS.bk 0 rfl) (l := (bools (offUpto l l.length))) (drop_take_all _ _ (by simp [bools_length, offUpto_length])) (by simp [bools_length, offUpto_length])) hS rfl)
  refine ⟨fun a w hA hS hz hd => ?_, ?_⟩
  ·skip
   exact opG_of rfl (dx (op_call rfl en_55 ev0 (nobody_ok _)) hS (fun _ => rfl))
  refine ⟨fun a w hA hS hz hd => ?_, ?_⟩
  ·skip
   have e0 := has_ev (hd 0 (by decide)) rfl (fun _ h => h)
   have e1 := has_ev (hd 1 (by decide)) rfl (fun _ h => h)
   have e2 := has_ev (hd 2 (by decide)) rfl (fun _ h => h)
   exact opG_of rfl (dxe (op_call rfl en_54 (ev3 (tmp_ev e0) (tmp_ev e1) (tmp_ev e2)) (spans_ok _ _ _ _ _ vl vs vb lv d _ (by simp [offUpto_length]) hVd (by decide) (hR.step hS.ext) (hS.bk 1 rfl))) hS (fun v w' h => by obtain ⟨u, h1, h2, h3⟩ := h; exact ⟨h2, u, h1, row_of_owns hz h3⟩))
  refine ⟨fun a w hA hS hz hd => ?_, ?_⟩
  ·skip
   obtain ⟨_, e3, u_, rfl, hro, hbo⟩ := has_get (hd 3 (by decide)) rfl
   exact opG_of rfl (dv (op_move rfl (tmp_ev e3)) hS ⟨_, rfl, hro, hbo⟩)
  refine ⟨fun a w hA hS hz hd => ?_, ?_⟩
  ·skip
   obtain ⟨_, e4, u_, rfl, hro, hbo⟩ := has_get (hd 4 (by decide)) rfl
   exact opG_of rfl (dv (op_extract rfl (tmp_ev e4) rfl) hS ⟨_, rfl, hro, hbo⟩)
  refine ⟨fun a w hA hS hz hd => ?_, ?_⟩
  ·skip
   obtain ⟨_, e4, u_, rfl, hro, hbo⟩ := has_get (hd 4 (by decide)) rfl
   exact opG_of rfl (dv (op_extract rfl (tmp_ev e4) rfl) hS (by show Value.bool _ = _; simp [hs]))
  refine ⟨fun a w hA hS hz hd => ?_, ?_⟩
  ·skip
   obtain ⟨_, e5, u_, rfl, hro, hbo⟩ := has_get (hd 5 (by decide)) rfl
   exact opG_of rfl (dv (op_assign rfl (tmp_ev e5)) hS ⟨_, rfl, hro, hbo⟩)
  trivial
 intro a49 w50 hA51 hS52 hH53; clear hA47 hS38
 have hA55 := hA51.add (has_ev (hH53 6 (by decide)) rfl (fun _ h => h)); clear hA51
 obtain ⟨v_u57, ht58, u57, hv_u57, hro59, hbo60⟩ := has_get (hH53 7 (by decide)) rfl; subst v_u57
 have hA56 := hA55.add ht58; have hS61 := hS52.addNew hB48 hro59 hbo60; clear hA55 hS52 ht58 hro59 hbo60
 clear hH53
 refine st hA56 (op_assign rfl (hA56.ev rfl)) rfl rfl (by decide) fun a62 hA63 => ?_; clear hA56 a49
 refine wl_nil ?_
 refine then_n ?_
 refine c_seq ?_
 refine c_seq ?_
 refine c_region ?_
 refine st hA63 (op_move rfl (hA63.ev rfl)) rfl rfl (by decide) fun a64 hA65 => ?_; clear hA63 a62
 refine st hA65 (op_not rfl (hA65.ev rfl)) rfl rfl (by decide) fun a66 hA67 => ?_; clear hA65 a64
 refine wl_nil ?_
 refine then_n ?_
 refine c_false hA67 rfl ?_
 refine c_skip ?_
 refine then_n ?_
 refine c_seq ?_
 have hA68 := hA67.as [(9, u57)] rfl; clear hA67
 refine c_region ?_
 refine st hA68 (op_move rfl (hA68.ev rfl)) rfl rfl (by decide) fun a69 hA70 => ?_; clear hA68 a66
 refine st hA70 (op_assign rfl (hA70.ev rfl)) rfl rfl (by decide) fun a71 hA72 => ?_; clear hA70 a69
 refine st hA72 (op_assign rfl (evc _ _)) rfl rfl (by decide) fun a73 hA74 => ?_; clear hA72 a71
 refine wl_nil ?_
 refine then_n ?_
 refine c_ret ?_
 refine fin_run hA74 (.inl rfl) (run_results2 hA74 rfl (.tmp rfl) (.tmp rfl)) ?_
 exact ⟨_, rfl, hS61.ext, hS61.row_new (i := 0) rfl⟩

theorem spansE_ok (vl vs vb : Value) (lv : List Value) (d : RD) (w : World) (hR : RoundAt w vl vs vb lv d) (xl : Value) (l : List Int) (hx : SlAt w xl 1 l.length (ints l)) (hlen : l.length ≤ 1000000) :
  Calls Try.prog 26 #[(Value.agg #[vl, vs, (Value.int .i64 d.spread), vb]), xl] w (Ret fun v w' => ∃ u, v = .tuple #[u, .int .i64 (spansR d l).2] ∧ Ext NoB w w' ∧ w'.ownsRow w.heap.size 46 2 u (spansR d l).1.length (pairs (spansR d l).1)) := by
 unfold spansR
 by_cases hc : checkR d = 0
 ·rw [if_pos hc]
  by_cases hr : riseB d.tols.length l = true
  ·rw [if_pos hr]
   by_cases hs : (spansF d (offUpto l l.length) (-1) 0).2 = true
   ·rw [if_pos hs]; exact spansE_yes vl vs vb lv d w hR xl l hx hlen hc hr hs
   ·rw [if_neg hs]; exact spansE_fail vl vs vb lv d w hR xl l hx hlen hc hr (by simpa using hs)
  ·rw [if_neg hr]; exact spansE_no vl vs vb lv d w hR xl l hx hlen hc (by simpa using hr)
 ·rw [if_neg hc]; exact spansE_bad vl vs vb lv d w hR xl l hx hlen hc

end Go.Proofs.Ytfhmigoddaaljaa
