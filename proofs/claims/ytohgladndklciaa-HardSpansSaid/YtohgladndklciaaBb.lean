/-
  When a table is one of a book: told by the first thing that is not right.
  The straight lines of a table that are not broken, in order; what a function that goes through them finds.
-/
import Derived.Test.YtohgladndklciaaBa
import Derived.Test.YtohgladndklciaaEnga
set_option linter.unusedSimpArgs false
set_option linter.unusedVariables false
namespace Go.Proofs.Ytohgladndklciaa
open Go.RowKit Go.Shelf Go.Eng Go.Hard
theorem fd_106_3 : fldK Try.prog 106 3 = some 3 := by kernel_rfl
theorem en_78 : ∀ args w, (callFunc 78 args).run Try.prog w = .ok (.enter 78 args) w := enters_of Try.func78 (by kernel_rfl) rfl
theorem en_69 : ∀ args w, (callFunc 69 args).run Try.prog w = .ok (.enter 69 args) w := enters_of Try.func69 (by kernel_rfl) rfl
theorem g_5 : fldK Try.prog 46 2 = some 2 := by kernel_rfl
theorem l_5 : tyK Try.prog 43 = some (false, 1) := by kernel_rfl
theorem l_6 : Try.prog.underlying 43 = some (.slice 75) := by kernel_rfl
theorem n_3 : tyK Try.prog 75 = some (true, 2) := by kernel_rfl
theorem l_2 : fldK Try.prog 75 0 = some 0 := by kernel_rfl
theorem y_3 : tyK Try.prog 46 = some (true, 5) := by kernel_rfl
theorem en_54 : ∀ args w, (callFunc 54 args).run Try.prog w = .ok (.enter 54 args) w := enters_of Try.func54 (by kernel_rfl) rfl
theorem convclo_ok (j : Nat) (X M : Int) (t : TabD) (vr vb : Value) (A B : Nat) (w : World) (q : (blk A 30 [.int .i64 X, .int .i64 M]).p w) (r : (blk B 106 [.int .i64 t.frm, .int .i64 t.dst, vr, vb, .int .i64 t.err]).p w) (hr : SlAt w vr 2 t.rows.length (pairs t.rows)) (hb : SlAt w vb 1 t.brk.length (ints t.brk)) (hrl : t.rows.length ≤ 1000000) (hj : j + 1 < t.rows.length) :
  Calls Try.prog 78 #[(Value.int .i64 (j : Int)), (bptr A 0), (bptr B 0)] w (Ret fun v w' => v = .bool (brB t (X, M) j) ∧ Ext NoB w w') := by
 refine a_8 Try.func78 rfl fun g J => ?_
 replace J : Fr 26 [] [(0, (Value.int .i64 (j : Int))), (1, (bptr A 0)), (2, (bptr B 0))] g := J
 have e2_ : (t.rows.getD ((j : Int) + 1).toNat (0, 0)).1 = (t.rows.getD (j + 1) (0, 0)).1 := by rw [show ((j : Int) + 1).toNat = j + 1 from by omega]
 have L : Sep NoB w w [(rob A 30 [(Value.int .i64 X), (Value.int .i64 M)]), (rob B 106 [(Value.int .i64 t.frm), (Value.int .i64 t.dst), vr, vb, (Value.int .i64 t.err)]), (sl vr 2 t.rows.length (pairs t.rows)), (sl vb 1 t.brk.length (ints t.brk))] := f_1 ⟨rfl, q, rfl, r, rfl, hr, rfl, hb, trivial⟩
 refine m2 ?_
 refine s1 J (a_0 rfl (evc _ _)) fun y Y => ?_; clear J g
 refine n2 ?_
 have K := Y.as [(0, (Value.int .i64 (j : Int))), (1, (bptr A 0)), (2, (bptr B 0))] rfl; clear Y
 by_cases b : M ≤ ((t.rows.getD j (0, 0)).1)
 ·skip
  have Z := K.as [(0, (Value.int .i64 (j : Int))), (1, (bptr A 0)), (2, (bptr B 0))] rfl; clear K
  refine g_3 mixed Z L 19 [[], [0], [], [2], [], [3, 4], [5], [6], [1, 7], [8], [9], [9, 10], [9], [9, 12], [9], [9, 14], [9, 13, 15], [9, 16], [9, 17]] [(Yd.val (bptr A 1)), (Yd.val (Value.int .i64 M)), (Yd.val (bptr B 2)), (Yd.val vr), (Yd.val (Value.int .i64 (j : Int))), (Yd.val (eptr vr (j * 2))), (Yd.val (eptr vr (j * 2 + 0))), (Yd.val (Value.int .i64 ((t.rows.getD j (0, 0)).1))), (Yd.val (Value.bool true)), (Yd.val (Value.bool true)), (Yd.val undef), (Yd.val undef), (Yd.val undef), (Yd.val undef), (Yd.val undef), (Yd.val undef), (Yd.val undef), (Yd.val undef), (Yd.val undef)] (by decide +kernel) rfl rfl ?_ ?_
  ·skip
   refine dq (fun a w hA hS hd => a_3 rfl p_8 (hA.ev rfl)) ?_
   refine dq (fun a w hA hS hd => a_2 rfl ty_3 (hq hd 0) (hS.rk 0 rfl) rfl) ?_
   refine dq (fun a w hA hS hd => a_3 rfl j_3 (hA.ev rfl)) ?_
   refine dq (fun a w hA hS hd => a_2 rfl n_9 (hq hd 2) (hS.rk 1 rfl) rfl) ?_
   refine dq (fun a w hA hS hd => a_1 rfl (hA.ev rfl)) ?_
   refine dq (fun a w hA hS hd => b_3 rfl k_4 i_6 (hq hd 3) (i := j) (hq hd 4) (hS.sk 2 rfl) (by decide) (by omega)) ?_
   refine dq (fun a w hA hS hd => d_1 rfl j_4 (hq hd 5) (hS.sk 2 rfl) (by rw [((hS.sk 2 rfl)).1]; omega)) ?_
   refine dq (fun a w hA hS hd => c_4 rfl ty_3 (hq hd 6) (hS.sk 2 rfl) (f_7 (by omega))) ?_
   refine ⟨fun a w hA hS hd => by have c := hx hd 1; have d := hx hd 7; exact b_1 rfl (dv (u_3 rfl (a_7 c) (a_7 d)) hS (by show Value.bool _ = _; simp only [decide_eq_true b, decide_true, decide_false, Bool.not_true, Bool.not_false])), ?_⟩
   refine dq (fun a w hA hS hd => a_1 rfl (hq hd 8)) ?_
   refine dn 9 ?_
   refine dn 9 ?_
   refine dn 9 ?_
   refine dn 9 ?_
   refine dn 9 ?_
   refine dn 9 ?_
   refine dn 9 ?_
   refine dn 9 ?_
   refine dn 9 ?_
   trivial
  intro o z N e E; clear Z L
  have O := N.add (hz E 9); clear N
  have P := O.add (hz E 11); clear O
  have Q := P.add (hz E 18); clear P
  clear E
  refine s3 Q fun h G => ?_; clear Q o
  refine s1 G (b_9 rfl (G.ev rfl) (evc _ _)) fun k H => ?_; clear G h
  refine s1 H (a_0 rfl (H.ev rfl)) fun s R => ?_; clear H k
  refine n1 ?_
  refine c_9 ?_
  refine a_9 R (.inl rfl) (a_4 R rfl (.tmp rfl)) ?_
  exact ⟨congrArg Value.bool (by unfold brB tx; dsimp only; (rw [Bool.eq_iff_iff]; (try simp only [Bool.true_and, Bool.false_and, Bool.and_true, Bool.and_false, Bool.false_or, Bool.true_or, Bool.or_false, Bool.or_true, true_and, and_true, false_and, and_false, false_or, or_false, true_or, or_true, Bool.and_eq_true, Bool.or_eq_true, Bool.not_eq_true', decide_eq_true_eq, decide_eq_false_iff_not, Bool.false_eq_true, Bool.true_eq_false, Bool.not_true, Bool.not_false, eq_self_iff_true, true_iff, false_iff, iff_true, iff_false, not_true, not_false_eq_true]); omega)), e.ext⟩
 skip
 have S := K.as [(0, (Value.int .i64 (j : Int))), (1, (bptr A 0)), (2, (bptr B 0))] rfl; clear K
 refine g_3 mixed S L 19 [[], [0], [], [2], [], [3, 4], [5], [6], [1, 7], [8], [9], [9, 10], [9], [9, 12], [9], [9, 14], [9, 13, 15], [9, 16], [9, 17]] [(Yd.val (bptr A 1)), (Yd.val (Value.int .i64 M)), (Yd.val (bptr B 2)), (Yd.val vr), (Yd.val (Value.int .i64 (j : Int))), (Yd.val (eptr vr (j * 2))), (Yd.val (eptr vr (j * 2 + 0))), (Yd.val (Value.int .i64 ((t.rows.getD j (0, 0)).1))), (Yd.val (Value.bool false)), (Yd.val (Value.bool false)), (Yd.val (bptr A 0)), (Yd.val (Value.int .i64 X)), (Yd.val (bptr B 2)), (Yd.val vr), (Yd.val (Value.int .i64 (j : Int))), (Yd.val (Value.int .i64 ((j : Int) + 1))), (Yd.val (eptr vr ((j + 1) * 2))), (Yd.val (eptr vr ((j + 1) * 2 + 0))), (Yd.val (Value.int .i64 ((t.rows.getD (j + 1) (0, 0)).1)))] (by decide +kernel) rfl rfl ?_ ?_
 ·skip
  refine dq (fun a w hA hS hd => a_3 rfl p_8 (hA.ev rfl)) ?_
  refine dq (fun a w hA hS hd => a_2 rfl ty_3 (hq hd 0) (hS.rk 0 rfl) rfl) ?_
  refine dq (fun a w hA hS hd => a_3 rfl j_3 (hA.ev rfl)) ?_
  refine dq (fun a w hA hS hd => a_2 rfl n_9 (hq hd 2) (hS.rk 1 rfl) rfl) ?_
  refine dq (fun a w hA hS hd => a_1 rfl (hA.ev rfl)) ?_
  refine dq (fun a w hA hS hd => b_3 rfl k_4 i_6 (hq hd 3) (i := j) (hq hd 4) (hS.sk 2 rfl) (by decide) (by omega)) ?_
  refine dq (fun a w hA hS hd => d_1 rfl j_4 (hq hd 5) (hS.sk 2 rfl) (by rw [((hS.sk 2 rfl)).1]; omega)) ?_
  refine dq (fun a w hA hS hd => c_4 rfl ty_3 (hq hd 6) (hS.sk 2 rfl) (f_7 (by omega))) ?_
  refine ⟨fun a w hA hS hd => by have c := hx hd 1; have d := hx hd 7; exact b_1 rfl (dv (u_3 rfl (a_7 c) (a_7 d)) hS (by show Value.bool _ = _; simp only [decide_eq_false b, decide_true, decide_false, Bool.not_true, Bool.not_false])), ?_⟩
  refine dq (fun a w hA hS hd => a_1 rfl (hq hd 8)) ?_
  refine dy 9 (fun a w hA hS hd => a_3 rfl p_7 (hA.ev rfl)) ?_
  refine dy 9 (fun a w hA hS hd => a_2 rfl ty_3 (hq hd 10) (hS.rk 0 rfl) rfl) ?_
  refine dy 9 (fun a w hA hS hd => a_3 rfl j_3 (hA.ev rfl)) ?_
  refine dy 9 (fun a w hA hS hd => a_2 rfl n_9 (hq hd 12) (hS.rk 1 rfl) rfl) ?_
  refine dy 9 (fun a w hA hS hd => a_1 rfl (hA.ev rfl)) ?_
  refine dy 9 (fun a w hA hS hd => f_4 rfl (hq hd 14) (evc _ _) (by omega) (by omega)) ?_
  refine dy 9 (fun a w hA hS hd => b_3 rfl k_4 i_6 (hq hd 13) (i := j + 1) ((hq hd 15).trans (congrArg (Value.int .i64) (show ((j : Int) + 1 : Int) = ((j + 1 : Nat) : Int) by omega))) (hS.sk 2 rfl) (by decide) (by omega)) ?_
  refine dy 9 (fun a w hA hS hd => d_1 rfl j_4 (hq hd 16) (hS.sk 2 rfl) (by rw [((hS.sk 2 rfl)).1]; omega)) ?_
  refine dy 9 (fun a w hA hS hd => c_4 rfl ty_3 (hq hd 17) (hS.sk 2 rfl) (f_7 (by omega))) ?_
  trivial
 intro l x T f F; clear S L
 have U := T.add (hz F 9); clear T
 have V := U.add (hz F 11); clear U
 have C := V.add (hz F 18); clear V
 clear F
 refine s5 C (z_0 rfl (C.ev rfl) (C.ev rfl)) fun m D => ?_; clear C l
 refine s1 D (d_3 rfl (D.ev rfl) (D.ev rfl)) fun n I => ?_; clear D m
 refine s1 I (a_0 rfl (I.ev rfl)) fun u W => ?_; clear I n
 refine n1 ?_
 refine c_9 ?_
 refine a_9 W (.inl rfl) (a_4 W rfl (.tmp rfl)) ?_
 exact ⟨congrArg Value.bool (by unfold brB tx; dsimp only; (rw [Bool.eq_iff_iff]; (try simp only [Bool.true_and, Bool.false_and, Bool.and_true, Bool.and_false, Bool.false_or, Bool.true_or, Bool.or_false, Bool.or_true, true_and, and_true, false_and, and_false, false_or, or_false, true_or, or_true, Bool.and_eq_true, Bool.or_eq_true, Bool.not_eq_true', decide_eq_true_eq, decide_eq_false_iff_not, Bool.false_eq_true, Bool.true_eq_false, Bool.not_true, Bool.not_false, eq_self_iff_true, true_iff, false_iff, iff_true, iff_false, not_true, not_false_eq_true]); omega)), f.ext⟩
theorem convclo_at (x : Int) (C D : Int) (t : TabD) (vr vb : Value) (A B : Nat) (w : World) (E : (blk A 30 [.int .i64 C, .int .i64 D]).p w) (F : (blk B 106 [.int .i64 t.frm, .int .i64 t.dst, vr, vb, .int .i64 t.err]).p w) (hr : SlAt w vr 2 t.rows.length (pairs t.rows)) (hb : SlAt w vb 1 t.brk.length (ints t.brk)) (hrl : t.rows.length ≤ 1000000) (hx : 0 ≤ x ∧ x ≤ (t.rows.length : Int) - 2) : Calls Try.prog 78 #[.int .i64 x, bptr A 0, bptr B 0] w (Ret fun v w' => v = .bool (brB t (C, D) x.toNat) ∧ Ext NoB w w') := by
 obtain ⟨j, rfl⟩ : ∃ j : Nat, x = (j : Int) := ⟨x.toNat, by omega⟩
 exact convclo_ok j C D t vr vb A B w E F hr hb hrl (by omega)
theorem converts_ok (M S : Int) (t : TabD) (vr vb : Value) (w : World) (hr : SlAt w vr 2 t.rows.length (pairs t.rows)) (hb : SlAt w vb 1 t.brk.length (ints t.brk)) (hrl : t.rows.length ≤ 1000000) (hbl : t.brk.length ≤ 1000000) (n : Int) (hV : TabV n t) :
  Calls Try.prog 49 #[(Value.agg #[(Value.int .i64 t.frm), (Value.int .i64 t.dst), vr, vb, (Value.int .i64 t.err)]), (Value.agg #[(Value.int .i64 M), (Value.int .i64 S)])] w (Ret fun v w' => v = .bool (n_5 t (M, S)) ∧ Ext NoB w w') := by
 refine a_8 Try.func49 rfl fun a0 L => ?_
 replace L : Fr 31 [] [(0, (Value.agg #[(Value.int .i64 t.frm), (Value.int .i64 t.dst), vr, vb, (Value.int .i64 t.err)])), (1, (Value.agg #[(Value.int .i64 M), (Value.int .i64 S)]))] a0 := L
 have hln := hV.len; have e2_ : (t.rows.getD ((t.rows.length : Int) - 1).toNat (0, 0)).1 = (t.rows.getD (t.rows.length - 1) (0, 0)).1 := by rw [show ((t.rows.length : Int) - 1).toNat = t.rows.length - 1 from by omega]
 have s : Sep NoB w w [(sl vr 2 t.rows.length (pairs t.rows)), (sl vb 1 t.brk.length (ints t.brk))] := f_1 ⟨rfl, hr, rfl, hb, trivial⟩
 refine m2 ?_
 refine s2 L (f_0 s rfl (L.ev rfl) (cs := [(Value.int .i64 t.frm), (Value.int .i64 t.dst), vr, vb, (Value.int .i64 t.err)]) rfl) ?_
 rintro a1 _ w3 ⟨K, rfl, u⟩ V; clear L s a0
 refine s2 V (f_0 u rfl (V.ev rfl) (cs := [(Value.int .i64 M), (Value.int .i64 S)]) rfl) ?_
 rintro a6 _ w8 ⟨N, rfl, J⟩ r; clear V u a1
 refine s1 r (a_0 rfl (evc _ _)) fun AN T => ?_; clear r a6
 refine n2 ?_
 refine b_8 ?_
 have C := T.as [(3, (bptr N 0)), (2, (bptr K 0))] rfl; clear T
 by_cases o : M < ((t.rows.getD 0 (0, 0)).1)
 ·skip
  have U := C.as [(3, (bptr N 0)), (2, (bptr K 0))] rfl; clear C
  refine g_3 mixed U J 20 [[], [0], [], [2], [3], [4], [5], [1, 6], [7], [8], [8, 9], [8], [8, 11], [8], [8, 13], [8, 14], [8, 15], [8, 12, 16], [8, 17], [8, 18]] [(Yd.val (bptr N 0)), (Yd.val (Value.int .i64 M)), (Yd.val (bptr K 2)), (Yd.val vr), (Yd.val (eptr vr (0 * 2))), (Yd.val (eptr vr (0 * 2 + 0))), (Yd.val (Value.int .i64 ((t.rows.getD 0 (0, 0)).1))), (Yd.val (Value.bool true)), (Yd.val (Value.bool true)), (Yd.val undef), (Yd.val undef), (Yd.val undef), (Yd.val undef), (Yd.val undef), (Yd.val undef), (Yd.val undef), (Yd.val undef), (Yd.val undef), (Yd.val undef), (Yd.val undef)] (by decide +kernel) rfl rfl ?_ ?_
  ·skip
   refine dq (fun a w hA hS hd => a_3 rfl p_7 (hA.ev rfl)) ?_
   refine dq (fun a w hA hS hd => a_2 rfl ty_3 (hq hd 0) (hS.bk 0 rfl) rfl) ?_
   refine dq (fun a w hA hS hd => a_3 rfl j_3 (hA.ev rfl)) ?_
   refine dq (fun a w hA hS hd => a_2 rfl n_9 (hq hd 2) (hS.bk 1 rfl) rfl) ?_
   refine dq (fun a w hA hS hd => b_3 rfl k_4 i_6 (hq hd 3) (i := 0) (show _ = Value.int .i64 ((0 : Nat) : Int) from (evc _ _)) (hS.sk 2 rfl) (by decide) (by omega)) ?_
   refine dq (fun a w hA hS hd => d_1 rfl j_4 (hq hd 4) (hS.sk 2 rfl) (by rw [((hS.sk 2 rfl)).1]; omega)) ?_
   refine dq (fun a w hA hS hd => c_4 rfl ty_3 (hq hd 5) (hS.sk 2 rfl) (f_7 (by omega))) ?_
   refine ⟨fun a w hA hS hd => by have x := hx hd 1; have y := hx hd 6; exact b_1 rfl (dv (f_8 rfl (a_7 x) (a_7 y)) hS (by show Value.bool _ = _; simp only [decide_eq_true o, decide_true, decide_false, Bool.not_true, Bool.not_false])), ?_⟩
   refine dq (fun a w hA hS hd => a_1 rfl (hq hd 7)) ?_
   refine dn 8 ?_
   refine dn 8 ?_
   refine dn 8 ?_
   refine dn 8 ?_
   refine dn 8 ?_
   refine dn 8 ?_
   refine dn 8 ?_
   refine dn 8 ?_
   refine dn 8 ?_
   refine dn 8 ?_
   refine dn 8 ?_
   trivial
  intro AC AR X z H; clear U J
  have Y := X.add (hz H 8); clear X
  have Z := Y.add (hz H 10); clear Y
  have b := Z.add (hz H 19); clear Z
  clear H
  refine s3 b fun AD O => ?_; clear b AC
  refine s1 O (b_9 rfl (O.ev rfl) (evc _ _)) fun AE P => ?_; clear O AD
  refine n1 ?_
  refine c_3 P rfl ?_
  refine b_8 ?_
  have c := P.as [] rfl; clear P
  refine a_5 ?_
  refine s1 c (a_0 rfl (evc _ _)) fun AO d => ?_; clear c AE
  refine n1 ?_
  refine c_9 ?_
  refine a_6 ?_
  refine a_9 d (.inl rfl) (a_4 d rfl (.tmp rfl)) ?_
  exact ⟨congrArg Value.bool (Eq.symm (by first | exact conv_n1 (by unfold tx; dsimp only; omega) | exact conv_n2 (by unfold tx; dsimp only; omega))), z.ext⟩
 skip
 have e := C.as [(3, (bptr N 0)), (2, (bptr K 0))] rfl; clear C
 refine g_3 mixed e J 20 [[], [0], [], [2], [3], [4], [5], [1, 6], [7], [8], [8, 9], [8], [8, 11], [8], [8, 13], [8, 14], [8, 15], [8, 12, 16], [8, 17], [8, 18]] [(Yd.val (bptr N 0)), (Yd.val (Value.int .i64 M)), (Yd.val (bptr K 2)), (Yd.val vr), (Yd.val (eptr vr (0 * 2))), (Yd.val (eptr vr (0 * 2 + 0))), (Yd.val (Value.int .i64 ((t.rows.getD 0 (0, 0)).1))), (Yd.val (Value.bool false)), (Yd.val (Value.bool false)), (Yd.val (bptr N 1)), (Yd.val (Value.int .i64 S)), (Yd.val (bptr K 2)), (Yd.val vr), (Yd.val (bptr K 2)), (Yd.val vr), (Yd.val (Value.int .i64 (t.rows.length : Int))), (Yd.val (Value.int .i64 ((t.rows.length : Int) - 1))), (Yd.val (eptr vr (((t.rows.length : Int) - 1).toNat * 2))), (Yd.val (eptr vr (((t.rows.length : Int) - 1).toNat * 2 + 0))), (Yd.val (Value.int .i64 ((t.rows.getD (((t.rows.length : Int) - 1).toNat) (0, 0)).1)))] (by decide +kernel) rfl rfl ?_ ?_
 ·skip
  refine dq (fun a w hA hS hd => a_3 rfl p_7 (hA.ev rfl)) ?_
  refine dq (fun a w hA hS hd => a_2 rfl ty_3 (hq hd 0) (hS.bk 0 rfl) rfl) ?_
  refine dq (fun a w hA hS hd => a_3 rfl j_3 (hA.ev rfl)) ?_
  refine dq (fun a w hA hS hd => a_2 rfl n_9 (hq hd 2) (hS.bk 1 rfl) rfl) ?_
  refine dq (fun a w hA hS hd => b_3 rfl k_4 i_6 (hq hd 3) (i := 0) (show _ = Value.int .i64 ((0 : Nat) : Int) from (evc _ _)) (hS.sk 2 rfl) (by decide) (by omega)) ?_
  refine dq (fun a w hA hS hd => d_1 rfl j_4 (hq hd 4) (hS.sk 2 rfl) (by rw [((hS.sk 2 rfl)).1]; omega)) ?_
  refine dq (fun a w hA hS hd => c_4 rfl ty_3 (hq hd 5) (hS.sk 2 rfl) (f_7 (by omega))) ?_
  refine ⟨fun a w hA hS hd => by have x := hx hd 1; have y := hx hd 6; exact b_1 rfl (dv (f_8 rfl (a_7 x) (a_7 y)) hS (by show Value.bool _ = _; simp only [decide_eq_false o, decide_true, decide_false, Bool.not_true, Bool.not_false])), ?_⟩
  refine dq (fun a w hA hS hd => a_1 rfl (hq hd 7)) ?_
  refine dy 8 (fun a w hA hS hd => a_3 rfl p_8 (hA.ev rfl)) ?_
  refine dy 8 (fun a w hA hS hd => a_2 rfl ty_3 (hq hd 9) (hS.bk 0 rfl) rfl) ?_
  refine dy 8 (fun a w hA hS hd => a_3 rfl j_3 (hA.ev rfl)) ?_
  refine dy 8 (fun a w hA hS hd => a_2 rfl n_9 (hq hd 11) (hS.bk 1 rfl) rfl) ?_
  refine dy 8 (fun a w hA hS hd => a_3 rfl j_3 (hA.ev rfl)) ?_
  refine dy 8 (fun a w hA hS hd => a_2 rfl n_9 (hq hd 13) (hS.bk 1 rfl) rfl) ?_
  refine dy 8 (fun a w hA hS hd => d_6 rfl k_4 (hq hd 14) (hS.sk 2 rfl)) ?_
  refine dy 8 (fun a w hA hS hd => h_9 rfl (hq hd 15) (evc _ _) (by omega) (by omega)) ?_
  refine dy 8 (fun a w hA hS hd => b_3 rfl k_4 i_6 (hq hd 12) (i := ((t.rows.length : Int) - 1).toNat) ((hq hd 16).trans (h_1 (by omega))) (hS.sk 2 rfl) (by decide) (by omega)) ?_
  refine dy 8 (fun a w hA hS hd => d_1 rfl j_4 (hq hd 17) (hS.sk 2 rfl) (by rw [((hS.sk 2 rfl)).1]; omega)) ?_
  refine dy 8 (fun a w hA hS hd => c_4 rfl ty_3 (hq hd 18) (hS.sk 2 rfl) (f_7 (by omega))) ?_
  trivial
 intro AF AS f B I; clear e J
 have g := f.add (hz I 8); clear f
 have h := g.add (hz I 10); clear g
 have D := h.add (hz I 19); clear h
 clear I
 refine s5 D (j_0 rfl (D.ev rfl) (D.ev rfl)) fun AG E => ?_; clear D AF
 refine s1 E (d_3 rfl (E.ev rfl) (E.ev rfl)) fun q A => ?_; clear E AG
 refine n1 ?_
 by_cases p : ((t.rows.getD (((t.rows.length : Int) - 1).toNat) (0, 0)).1) < S
 ·skip
  rw [decide_eq_true p] at A
  refine c_3 A rfl ?_
  refine b_8 ?_
  have j := A.as [] rfl; clear A
  refine a_5 ?_
  refine s1 j (a_0 rfl (evc _ _)) fun AP k => ?_; clear j q
  refine n1 ?_
  refine c_9 ?_
  refine a_6 ?_
  refine a_9 k (.inl rfl) (a_4 k rfl (.tmp rfl)) ?_
  exact ⟨congrArg Value.bool (Eq.symm (by first | exact conv_n1 (by unfold tx; dsimp only; omega) | exact conv_n2 (by unfold tx; dsimp only; omega))), B.ext⟩
 skip
 rw [decide_eq_false p] at A
 refine b_7 A rfl ?_
 refine d_0 ?_
 refine b_0 ?_
 refine m2 ?_
 refine s1 A (a_3 rfl fd_106_3 (A.ev rfl)) fun AH Q => ?_; clear A q
 refine s1 Q (a_2 rfl aa_6 (Q.ev rfl) (B.bk 1 rfl) rfl) fun AI F => ?_; clear Q AH
 refine s1 F (h_5 rfl ev0 (ev2 (F.ev rfl) (F.ev rfl))) fun AJ G => ?_; clear F AI
 refine s2 G (b_4 rfl en_69 (ev2 (G.ev rfl) (G.ev rfl)) (all_int t.brk _ 78 #[] #[(bptr N 0), (bptr K 0)] (fun i => brB t (M, S) (t.brk.getD i 0).toNat) _ (B.sk 3 rfl) (by omega) ⟨en_78, fun i hi W hW => convclo_at _ _ _ t _ _ _ _ W ((B.step hW).bk 0 rfl) ((B.step hW).bk 1 rfl) ((B.step hW).sk 2 rfl) ((B.step hW).sk 3 rfl) hrl (hV.brk _ (o_9 hi))⟩)) ?_
 rintro AK _ AT ⟨rfl, m⟩ R; have AA := B.step m; clear m G B AJ
 refine s1 R (a_0 rfl (R.ev rfl)) fun AQ l => ?_; clear R AK
 refine n1 ?_
 refine c_9 ?_
 refine a_9 l (.inl rfl) (a_4 l rfl (.tmp rfl)) ?_
 exact ⟨congrArg Value.bool (Eq.symm (conv_y (by unfold tx; dsimp only; omega) (by unfold tx; dsimp only; omega))), AA.ext⟩
theorem rconverts_ok (L M : Int) (t : TabD) (vr vb : Value) (w : World) (hr : SlAt w vr 2 t.rows.length (pairs t.rows)) (hb : SlAt w vb 1 t.brk.length (ints t.brk)) (hrl : t.rows.length ≤ 1000000) (hbl : t.brk.length ≤ 1000000) (n : Int) (hV : TabV n t) :
  Calls Try.prog 23 #[(Value.agg #[(Value.int .i64 t.frm), (Value.int .i64 t.dst), vr, vb, (Value.int .i64 t.err)]), (Value.agg #[(Value.int .i64 L), (Value.int .i64 M)])] w (Ret fun v w' => v = .bool (n_5 t (L, M)) ∧ Ext NoB w w') := by
 refine a_8 Try.func23 rfl fun a0 j => ?_
 replace j : Fr 62 [] [(0, (Value.agg #[(Value.int .i64 t.frm), (Value.int .i64 t.dst), vr, vb, (Value.int .i64 t.err)])), (1, (Value.agg #[(Value.int .i64 L), (Value.int .i64 M)]))] a0 := j
 have hln := hV.len; have e2_ : (t.rows.getD ((t.rows.length : Int) - 1).toNat (0, 0)).1 = (t.rows.getD (t.rows.length - 1) (0, 0)).1 := by rw [show ((t.rows.length : Int) - 1).toNat = t.rows.length - 1 from by omega]
 have A1 : Sep NoB w w [(sl vr 2 t.rows.length (pairs t.rows)), (sl vb 1 t.brk.length (ints t.brk))] := f_1 ⟨rfl, hr, rfl, hb, trivial⟩
 refine m2 ?_
 refine s2 j (f_0 A1 rfl (j.ev rfl) (cs := [(Value.int .i64 t.frm), (Value.int .i64 t.dst), vr, vb, (Value.int .i64 t.err)]) rfl) ?_
 rintro a1 _ w3 ⟨A, rfl, A2⟩ AR; clear j A1 a0
 refine s2 AR (f_0 A2 rfl (AR.ev rfl) (cs := [(Value.int .i64 L), (Value.int .i64 M)]) rfl) ?_
 rintro a6 _ w8 ⟨D, rfl, g⟩ A0; clear AR A2 a1
 refine s1 A0 (a_0 rfl (evc _ _)) fun Bh AP => ?_; clear A0 a6
 refine n2 ?_
 refine b_8 ?_
 have R := AP.as [(3, (bptr D 0)), (2, (bptr A 0))] rfl; clear AP
 by_cases Ao : L < ((t.rows.getD 0 (0, 0)).1)
 ·skip
  have AQ := R.as [(3, (bptr D 0)), (2, (bptr A 0))] rfl; clear R
  refine g_3 mixed AQ g 20 [[], [0], [], [2], [3], [4], [5], [1, 6], [7], [8], [8, 9], [8], [8, 11], [8], [8, 13], [8, 14], [8, 15], [8, 12, 16], [8, 17], [8, 18]] [(Yd.val (bptr D 0)), (Yd.val (Value.int .i64 L)), (Yd.val (bptr A 2)), (Yd.val vr), (Yd.val (eptr vr (0 * 2))), (Yd.val (eptr vr (0 * 2 + 0))), (Yd.val (Value.int .i64 ((t.rows.getD 0 (0, 0)).1))), (Yd.val (Value.bool true)), (Yd.val (Value.bool true)), (Yd.val undef), (Yd.val undef), (Yd.val undef), (Yd.val undef), (Yd.val undef), (Yd.val undef), (Yd.val undef), (Yd.val undef), (Yd.val undef), (Yd.val undef), (Yd.val undef)] (by decide +kernel) rfl rfl ?_ ?_
  ·skip
   refine dq (fun a w hA hS hd => a_3 rfl l_0 (hA.ev rfl)) ?_
   refine dq (fun a w hA hS hd => a_2 rfl ty_3 (hq hd 0) (hS.bk 0 rfl) rfl) ?_
   refine dq (fun a w hA hS hd => a_3 rfl g_5 (hA.ev rfl)) ?_
   refine dq (fun a w hA hS hd => a_2 rfl l_5 (hq hd 2) (hS.bk 1 rfl) rfl) ?_
   refine dq (fun a w hA hS hd => b_3 rfl l_6 n_3 (hq hd 3) (i := 0) (show _ = Value.int .i64 ((0 : Nat) : Int) from (evc _ _)) (hS.sk 2 rfl) (by decide) (by omega)) ?_
   refine dq (fun a w hA hS hd => d_1 rfl l_2 (hq hd 4) (hS.sk 2 rfl) (by rw [((hS.sk 2 rfl)).1]; omega)) ?_
   refine dq (fun a w hA hS hd => c_4 rfl ty_3 (hq hd 5) (hS.sk 2 rfl) (f_7 (by omega))) ?_
   refine ⟨fun a w hA hS hd => by have N := hx hd 1; have e6 := hx hd 6; exact b_1 rfl (dv (f_8 rfl (a_7 N) (a_7 e6)) hS (by show Value.bool _ = _; simp only [decide_eq_true Ao, decide_true, decide_false, Bool.not_true, Bool.not_false])), ?_⟩
   refine dq (fun a w hA hS hd => a_1 rfl (hq hd 7)) ?_
   refine dn 8 ?_
   refine dn 8 ?_
   refine dn 8 ?_
   refine dn 8 ?_
   refine dn 8 ?_
   refine dn 8 ?_
   refine dn 8 ?_
   refine dn 8 ?_
   refine dn 8 ?_
   refine dn 8 ?_
   refine dn 8 ?_
   trivial
  intro BI Bl AS BG d; clear AQ g
  have AT := AS.add (hz d 8); clear AS
  have AU := AT.add (hz d 10); clear AT
  have AV := AU.add (hz d 19); clear AU
  clear d
  refine s3 AV fun BJ m => ?_; clear AV BI
  refine s1 m (b_9 rfl (m.ev rfl) (evc _ _)) fun BK o => ?_; clear m BJ
  refine n1 ?_
  refine c_3 o rfl ?_
  refine b_8 ?_
  have AW := o.as [] rfl; clear o
  refine a_5 ?_
  refine s1 AW (a_0 rfl (evc _ _)) fun Bi AX => ?_; clear AW BK
  refine n1 ?_
  refine c_9 ?_
  refine a_6 ?_
  refine a_9 AX (.inl rfl) (a_4 AX rfl (.tmp rfl)) ?_
  exact ⟨congrArg Value.bool (Eq.symm (by first | exact conv_n1 (by unfold tx; dsimp only; omega) | exact conv_n2 (by unfold tx; dsimp only; omega) | exact rconv_n (k := k) (by assumption) (by unfold tx; dsimp only; omega) (by unfold tx; dsimp only; have e3_ : (t.rows.getD ((k : Int) + 1).toNat (0, 0)).1 = (t.rows.getD (k + 1) (0, 0)).1 := (by rw [show ((k : Int) + 1).toNat = k + 1 from by omega]); omega))), BG.ext⟩
 skip
 have AY := R.as [(3, (bptr D 0)), (2, (bptr A 0))] rfl; clear R
 refine g_3 mixed AY g 20 [[], [0], [], [2], [3], [4], [5], [1, 6], [7], [8], [8, 9], [8], [8, 11], [8], [8, 13], [8, 14], [8, 15], [8, 12, 16], [8, 17], [8, 18]] [(Yd.val (bptr D 0)), (Yd.val (Value.int .i64 L)), (Yd.val (bptr A 2)), (Yd.val vr), (Yd.val (eptr vr (0 * 2))), (Yd.val (eptr vr (0 * 2 + 0))), (Yd.val (Value.int .i64 ((t.rows.getD 0 (0, 0)).1))), (Yd.val (Value.bool false)), (Yd.val (Value.bool false)), (Yd.val (bptr D 1)), (Yd.val (Value.int .i64 M)), (Yd.val (bptr A 2)), (Yd.val vr), (Yd.val (bptr A 2)), (Yd.val vr), (Yd.val (Value.int .i64 (t.rows.length : Int))), (Yd.val (Value.int .i64 ((t.rows.length : Int) - 1))), (Yd.val (eptr vr (((t.rows.length : Int) - 1).toNat * 2))), (Yd.val (eptr vr (((t.rows.length : Int) - 1).toNat * 2 + 0))), (Yd.val (Value.int .i64 ((t.rows.getD (((t.rows.length : Int) - 1).toNat) (0, 0)).1)))] (by decide +kernel) rfl rfl ?_ ?_
 ·skip
  refine dq (fun a w hA hS hd => a_3 rfl l_0 (hA.ev rfl)) ?_
  refine dq (fun a w hA hS hd => a_2 rfl ty_3 (hq hd 0) (hS.bk 0 rfl) rfl) ?_
  refine dq (fun a w hA hS hd => a_3 rfl g_5 (hA.ev rfl)) ?_
  refine dq (fun a w hA hS hd => a_2 rfl l_5 (hq hd 2) (hS.bk 1 rfl) rfl) ?_
  refine dq (fun a w hA hS hd => b_3 rfl l_6 n_3 (hq hd 3) (i := 0) (show _ = Value.int .i64 ((0 : Nat) : Int) from (evc _ _)) (hS.sk 2 rfl) (by decide) (by omega)) ?_
  refine dq (fun a w hA hS hd => d_1 rfl l_2 (hq hd 4) (hS.sk 2 rfl) (by rw [((hS.sk 2 rfl)).1]; omega)) ?_
  refine dq (fun a w hA hS hd => c_4 rfl ty_3 (hq hd 5) (hS.sk 2 rfl) (f_7 (by omega))) ?_
  refine ⟨fun a w hA hS hd => by have N := hx hd 1; have e6 := hx hd 6; exact b_1 rfl (dv (f_8 rfl (a_7 N) (a_7 e6)) hS (by show Value.bool _ = _; simp only [decide_eq_false Ao, decide_true, decide_false, Bool.not_true, Bool.not_false])), ?_⟩
  refine dq (fun a w hA hS hd => a_1 rfl (hq hd 7)) ?_
  refine dy 8 (fun a w hA hS hd => a_3 rfl l_1 (hA.ev rfl)) ?_
  refine dy 8 (fun a w hA hS hd => a_2 rfl ty_3 (hq hd 9) (hS.bk 0 rfl) rfl) ?_
  refine dy 8 (fun a w hA hS hd => a_3 rfl g_5 (hA.ev rfl)) ?_
  refine dy 8 (fun a w hA hS hd => a_2 rfl l_5 (hq hd 11) (hS.bk 1 rfl) rfl) ?_
  refine dy 8 (fun a w hA hS hd => a_3 rfl g_5 (hA.ev rfl)) ?_
  refine dy 8 (fun a w hA hS hd => a_2 rfl l_5 (hq hd 13) (hS.bk 1 rfl) rfl) ?_
  refine dy 8 (fun a w hA hS hd => d_6 rfl l_6 (hq hd 14) (hS.sk 2 rfl)) ?_
  refine dy 8 (fun a w hA hS hd => h_9 rfl (hq hd 15) (evc _ _) (by omega) (by omega)) ?_
  refine dy 8 (fun a w hA hS hd => b_3 rfl l_6 n_3 (hq hd 12) (i := ((t.rows.length : Int) - 1).toNat) ((hq hd 16).trans (h_1 (by omega))) (hS.sk 2 rfl) (by decide) (by omega)) ?_
  refine dy 8 (fun a w hA hS hd => d_1 rfl l_2 (hq hd 17) (hS.sk 2 rfl) (by rw [((hS.sk 2 rfl)).1]; omega)) ?_
  refine dy 8 (fun a w hA hS hd => c_4 rfl ty_3 (hq hd 18) (hS.sk 2 rfl) (f_7 (by omega))) ?_
  trivial
 intro BL Bm AZ z e; clear AY g
 have Aa := AZ.add (hz e 8); clear AZ
 have Ab := Aa.add (hz e 10); clear Aa
 have V := Ab.add (hz e 19); clear Ab
 clear e
 refine s5 V (j_0 rfl (V.ev rfl) (V.ev rfl)) fun BM W => ?_; clear V BL
 refine s1 W (d_3 rfl (W.ev rfl) (W.ev rfl)) fun Ay E => ?_; clear W BM
 refine n1 ?_
 by_cases Ap : ((t.rows.getD (((t.rows.length : Int) - 1).toNat) (0, 0)).1) < M
 ·skip
  rw [decide_eq_true Ap] at E
  refine c_3 E rfl ?_
  refine b_8 ?_
  have Ac := E.as [] rfl; clear E
  refine a_5 ?_
  refine s1 Ac (a_0 rfl (evc _ _)) fun Bj Ad => ?_; clear Ac Ay
  refine n1 ?_
  refine c_9 ?_
  refine a_6 ?_
  refine a_9 Ad (.inl rfl) (a_4 Ad rfl (.tmp rfl)) ?_
  exact ⟨congrArg Value.bool (Eq.symm (by first | exact conv_n1 (by unfold tx; dsimp only; omega) | exact conv_n2 (by unfold tx; dsimp only; omega) | exact rconv_n (k := k) (by assumption) (by unfold tx; dsimp only; omega) (by unfold tx; dsimp only; have e3_ : (t.rows.getD ((k : Int) + 1).toNat (0, 0)).1 = (t.rows.getD (k + 1) (0, 0)).1 := (by rw [show ((k : Int) + 1).toNat = k + 1 from by omega]); omega))), z.ext⟩
 skip
 rw [decide_eq_false Ap] at E
 refine b_7 E rfl ?_
 refine d_0 ?_
 refine b_0 ?_
 refine b_8 ?_
 refine m2 ?_
 refine s1 E (a_0 rfl (evc _ _)) fun BN Ae => ?_; clear E Ay
 refine n1 ?_
 refine c_7 ?_
 have Af := Ae.as [(5, (Value.int .i64 0)), (3, (bptr D 0)), (2, (bptr A 0))] rfl; clear Ae
 refine h_3 (G := Nat) (fun (k : Nat) a_ w_ => Fr 62 [] [(5, (Value.int .i64 (k : Int))), (3, (bptr D 0)), (2, (bptr A 0))] a_ ∧ Sep NoB w w_ [(blk D 27 [(Value.int .i64 L), (Value.int .i64 M)]), (blk A 46 [(Value.int .i64 t.frm), (Value.int .i64 t.dst), vr, vb, (Value.int .i64 t.err)]), (sl vr 2 t.rows.length (pairs t.rows)), (sl vb 1 t.brk.length (ints t.brk))] ∧ (k ≤ t.rows.length) ∧ (∀ i, i < k → ¬ ((i : Int) ∈ t.brk ∧ tx t i < M ∧ L < tx t (i + 1)))) (fun k => t.rows.length - k) 0 ⟨Af.as _ rfl, z, by omega, (fun _ h => absurd h (Nat.not_lt_zero _))⟩ ?_
 clear Af z BN
 rintro k BO Bn ⟨p, C, hkk, hq_⟩
 refine b_8 ?_
 refine m2 ?_
 refine s1 p (a_1 rfl (p.ev rfl)) fun BP q => ?_; clear p BO
 refine s1 q (f_4 rfl (q.ev rfl) (evc _ _) (by omega) (by omega)) fun BQ r => ?_; clear q BP
 refine s1 r (a_3 rfl g_5 (r.ev rfl)) fun BR s => ?_; clear r BQ
 refine s1 s (a_2 rfl l_5 (s.ev rfl) (C.bk 1 rfl) rfl) fun BS u => ?_; clear s BR
 refine s1 u (d_6 rfl l_6 (u.ev rfl) (C.sk 2 rfl)) fun BT X => ?_; clear u BS
 refine s1 X (f_8 rfl (X.ev rfl) (X.ev rfl)) fun BU F => ?_; clear X BT
 refine n1 ?_
 by_cases Aq : ((k : Int) + 1) < (t.rows.length : Int)
 ·skip
  rw [decide_eq_true Aq] at F
  refine c_3 F rfl ?_
  refine d_0 ?_
  refine b_0 ?_
  refine b_8 ?_
  refine c_7 ?_
  refine b_8 ?_
  have Ag := F.as [(5, (Value.int .i64 (k : Int))), (3, (bptr D 0)), (2, (bptr A 0))] rfl; clear F
  have Y := Ag.as [(5, (Value.int .i64 (k : Int))), (3, (bptr D 0)), (2, (bptr A 0))] rfl; clear Ag
  by_cases AA : (k : Int) ∈ t.brk
  ·skip
   have Z := Y.as [(5, (Value.int .i64 (k : Int))), (3, (bptr D 0)), (2, (bptr A 0))] rfl; clear Y
   by_cases Ar : ((t.rows.getD k (0, 0)).1) < M
   ·skip
    have Ah := Z.as [(5, (Value.int .i64 (k : Int))), (3, (bptr D 0)), (2, (bptr A 0))] rfl; clear Z
    refine g_3 mixed Ah C 24 [[], [], [0, 1], [2], [3], [3, 4], [3], [3, 6], [3], [3, 7, 8], [3, 9], [3, 10], [3, 5, 11], [3, 12], [13], [14], [14, 15], [14], [14, 17], [14], [14, 19], [14, 18, 20], [14, 21], [14, 22]] [(Yd.val (Value.agg #[(Value.int .i64 t.frm), (Value.int .i64 t.dst), vr, vb, (Value.int .i64 t.err)])), (Yd.val (Value.int .i64 (k : Int))), (Yd.val (Value.bool true)), (Yd.val (Value.bool true)), (Yd.val (bptr D 1)), (Yd.val (Value.int .i64 M)), (Yd.val (bptr A 2)), (Yd.val vr), (Yd.val (Value.int .i64 (k : Int))), (Yd.val (eptr vr (k * 2))), (Yd.val (eptr vr (k * 2 + 0))), (Yd.val (Value.int .i64 ((t.rows.getD k (0, 0)).1))), (Yd.val (Value.bool true)), (Yd.val (Value.bool true)), (Yd.val (Value.bool true)), (Yd.val (bptr D 0)), (Yd.val (Value.int .i64 L)), (Yd.val (bptr A 2)), (Yd.val vr), (Yd.val (Value.int .i64 (k : Int))), (Yd.val (Value.int .i64 ((k : Int) + 1))), (Yd.val (eptr vr ((k + 1) * 2))), (Yd.val (eptr vr ((k + 1) * 2 + 0))), (Yd.val (Value.int .i64 ((t.rows.getD (k + 1) (0, 0)).1)))] (by decide +kernel) rfl rfl ?_ ?_
    ·skip
     refine dq (fun a w hA hS hd => c_5 rfl y_3 (hA.ev rfl) (hS.bk 1 rfl) (l := [(Value.int .i64 t.frm), (Value.int .i64 t.dst), vr, vb, (Value.int .i64 t.err)]) rfl rfl) ?_
     refine dq (fun a w hA hS hd => a_1 rfl (hA.ev rfl)) ?_
     refine ⟨fun a w hA hS hd => by have e0 := hx hd 0; have N := hx hd 1; exact b_1 rfl (dx (b_4 rfl en_54 (ev2 (a_7 e0) (a_7 N)) (broken_ok (k : Int) t _ _ _ (hS.sk 2 rfl) (hS.sk 3 rfl) (by omega) (by omega))) hS (fun _ => (by show Value.bool _ = _; simp only [decide_eq_true AA, decide_true, decide_false, Bool.not_true, Bool.not_false]))), ?_⟩
     refine dq (fun a w hA hS hd => a_1 rfl (hq hd 2)) ?_
     refine dy 3 (fun a w hA hS hd => a_3 rfl l_1 (hA.ev rfl)) ?_
     refine dy 3 (fun a w hA hS hd => a_2 rfl ty_3 (hq hd 4) (hS.bk 0 rfl) rfl) ?_
     refine dy 3 (fun a w hA hS hd => a_3 rfl g_5 (hA.ev rfl)) ?_
     refine dy 3 (fun a w hA hS hd => a_2 rfl l_5 (hq hd 6) (hS.bk 1 rfl) rfl) ?_
     refine dy 3 (fun a w hA hS hd => a_1 rfl (hA.ev rfl)) ?_
     refine dy 3 (fun a w hA hS hd => b_3 rfl l_6 n_3 (hq hd 7) (i := k) (hq hd 8) (hS.sk 2 rfl) (by decide) (by omega)) ?_
     refine dy 3 (fun a w hA hS hd => d_1 rfl l_2 (hq hd 9) (hS.sk 2 rfl) (by rw [((hS.sk 2 rfl)).1]; omega)) ?_
     refine dy 3 (fun a w hA hS hd => c_4 rfl ty_3 (hq hd 10) (hS.sk 2 rfl) (f_7 (by omega))) ?_
     refine ⟨fun a w hA hS hd => by have e3 := hx hd 3; have e5 := hx hd 5; have AO := hx hd 11; exact i_1 rfl rfl e3 (dv (j_0 rfl (a_7 e5) (a_7 AO)) hS (by show Value.bool _ = _; simp only [decide_eq_true Ar, decide_true, decide_false, Bool.not_true, Bool.not_false])), ?_⟩
     refine dq (fun a w hA hS hd => b_9 rfl (hq hd 3) (hq hd 12)) ?_
     refine dq (fun a w hA hS hd => a_1 rfl (hq hd 13)) ?_
     refine dy 14 (fun a w hA hS hd => a_3 rfl l_0 (hA.ev rfl)) ?_
     refine dy 14 (fun a w hA hS hd => a_2 rfl ty_3 (hq hd 15) (hS.bk 0 rfl) rfl) ?_
     refine dy 14 (fun a w hA hS hd => a_3 rfl g_5 (hA.ev rfl)) ?_
     refine dy 14 (fun a w hA hS hd => a_2 rfl l_5 (hq hd 17) (hS.bk 1 rfl) rfl) ?_
     refine dy 14 (fun a w hA hS hd => a_1 rfl (hA.ev rfl)) ?_
     refine dy 14 (fun a w hA hS hd => f_4 rfl (hq hd 19) (evc _ _) (by omega) (by omega)) ?_
     refine dy 14 (fun a w hA hS hd => b_3 rfl l_6 n_3 (hq hd 18) (i := k + 1) ((hq hd 20).trans (congrArg (Value.int .i64) (show ((k : Int) + 1 : Int) = ((k + 1 : Nat) : Int) by omega))) (hS.sk 2 rfl) (by decide) (by omega)) ?_
     refine dy 14 (fun a w hA hS hd => d_1 rfl l_2 (hq hd 21) (hS.sk 2 rfl) (by rw [((hS.sk 2 rfl)).1]; omega)) ?_
     refine dy 14 (fun a w hA hS hd => c_4 rfl ty_3 (hq hd 22) (hS.sk 2 rfl) (f_7 (by omega))) ?_
     trivial
    intro BV Bo Ai An f; clear Ah C
    have Aj := Ai.add (hz f 14); clear Ai
    have Ak := Aj.add (hz f 16); clear Aj
    have b := Ak.add (hz f 23); clear Ak
    clear f
    refine s5 b (f_8 rfl (b.ev rfl) (b.ev rfl)) fun BW c => ?_; clear b BV
    refine s1 c (b_9 rfl (c.ev rfl) (c.ev rfl)) fun Az B => ?_; clear c BW
    refine n1 ?_
    by_cases As : L < ((t.rows.getD (k + 1) (0, 0)).1)
    ·skip
     rw [decide_eq_true As] at B
     refine c_3 B rfl ?_
     refine b_8 ?_
     have Al := B.as [] rfl; clear B
     refine a_5 ?_
     refine s1 Al (a_0 rfl (evc _ _)) fun Bk Am => ?_; clear Al Az
     refine n1 ?_
     refine c_9 ?_
     refine c_6 ?_
     refine a_6 ?_
     refine a_6 ?_
     refine c_6 ?_
     refine a_6 ?_
     refine a_9 Am (.inl rfl) (a_4 Am rfl (.tmp rfl)) ?_
     exact ⟨congrArg Value.bool (Eq.symm (by first | exact conv_n1 (by unfold tx; dsimp only; omega) | exact conv_n2 (by unfold tx; dsimp only; omega) | exact rconv_n (k := k) (by assumption) (by unfold tx; dsimp only; omega) (by unfold tx; dsimp only; have e3_ : (t.rows.getD ((k : Int) + 1).toNat (0, 0)).1 = (t.rows.getD (k + 1) (0, 0)).1 := (by rw [show ((k : Int) + 1).toNat = k + 1 from by omega]); omega))), An.ext⟩
    skip
    rw [decide_eq_false As] at B
    refine b_7 B rfl ?_
    refine d_0 ?_
    refine h_0 ?_
    refine b_0 ?_
    refine a_5 ?_
    refine s1 B (a_1 rfl (B.ev rfl)) fun BX x => ?_; clear B Az
    refine s1 x (f_4 rfl (x.ev rfl) (evc _ _) (by omega) (by omega)) fun BY y => ?_; clear x BX
    refine s1 y (a_0 rfl (y.ev rfl)) fun Ba At => ?_; clear y BY
    refine e_9 ?_
    exact b_0 ⟨k + 1, ⟨At.as _ rfl, An, by omega, (fun i hi => by rcases Nat.lt_succ_iff_lt_or_eq.1 hi with h | h; exact hq_ i h; subst h; (refine fun e_ => ?_; unfold tx at e_; have e3_ : (t.rows.getD ((i : Int) + 1).toNat (0, 0)).1 = (t.rows.getD (i + 1) (0, 0)).1 := (by rw [show ((i : Int) + 1).toNat = i + 1 from by omega]); first | exact absurd e_.1 (by assumption) | omega))⟩, by omega⟩
   skip
   have AB := Z.as [(5, (Value.int .i64 (k : Int))), (3, (bptr D 0)), (2, (bptr A 0))] rfl; clear Z
   refine g_3 mixed AB C 24 [[], [], [0, 1], [2], [3], [3, 4], [3], [3, 6], [3], [3, 7, 8], [3, 9], [3, 10], [3, 5, 11], [3, 12], [13], [14], [14, 15], [14], [14, 17], [14], [14, 19], [14, 18, 20], [14, 21], [14, 22]] [(Yd.val (Value.agg #[(Value.int .i64 t.frm), (Value.int .i64 t.dst), vr, vb, (Value.int .i64 t.err)])), (Yd.val (Value.int .i64 (k : Int))), (Yd.val (Value.bool true)), (Yd.val (Value.bool true)), (Yd.val (bptr D 1)), (Yd.val (Value.int .i64 M)), (Yd.val (bptr A 2)), (Yd.val vr), (Yd.val (Value.int .i64 (k : Int))), (Yd.val (eptr vr (k * 2))), (Yd.val (eptr vr (k * 2 + 0))), (Yd.val (Value.int .i64 ((t.rows.getD k (0, 0)).1))), (Yd.val (Value.bool false)), (Yd.val (Value.bool false)), (Yd.val (Value.bool false)), (Yd.val undef), (Yd.val undef), (Yd.val undef), (Yd.val undef), (Yd.val undef), (Yd.val undef), (Yd.val undef), (Yd.val undef), (Yd.val undef)] (by decide +kernel) rfl rfl ?_ ?_
   ·skip
    refine dq (fun a w hA hS hd => c_5 rfl y_3 (hA.ev rfl) (hS.bk 1 rfl) (l := [(Value.int .i64 t.frm), (Value.int .i64 t.dst), vr, vb, (Value.int .i64 t.err)]) rfl rfl) ?_
    refine dq (fun a w hA hS hd => a_1 rfl (hA.ev rfl)) ?_
    refine ⟨fun a w hA hS hd => by have e0 := hx hd 0; have N := hx hd 1; exact b_1 rfl (dx (b_4 rfl en_54 (ev2 (a_7 e0) (a_7 N)) (broken_ok (k : Int) t _ _ _ (hS.sk 2 rfl) (hS.sk 3 rfl) (by omega) (by omega))) hS (fun _ => (by show Value.bool _ = _; simp only [decide_eq_true AA, decide_true, decide_false, Bool.not_true, Bool.not_false]))), ?_⟩
    refine dq (fun a w hA hS hd => a_1 rfl (hq hd 2)) ?_
    refine dy 3 (fun a w hA hS hd => a_3 rfl l_1 (hA.ev rfl)) ?_
    refine dy 3 (fun a w hA hS hd => a_2 rfl ty_3 (hq hd 4) (hS.bk 0 rfl) rfl) ?_
    refine dy 3 (fun a w hA hS hd => a_3 rfl g_5 (hA.ev rfl)) ?_
    refine dy 3 (fun a w hA hS hd => a_2 rfl l_5 (hq hd 6) (hS.bk 1 rfl) rfl) ?_
    refine dy 3 (fun a w hA hS hd => a_1 rfl (hA.ev rfl)) ?_
    refine dy 3 (fun a w hA hS hd => b_3 rfl l_6 n_3 (hq hd 7) (i := k) (hq hd 8) (hS.sk 2 rfl) (by decide) (by omega)) ?_
    refine dy 3 (fun a w hA hS hd => d_1 rfl l_2 (hq hd 9) (hS.sk 2 rfl) (by rw [((hS.sk 2 rfl)).1]; omega)) ?_
    refine dy 3 (fun a w hA hS hd => c_4 rfl ty_3 (hq hd 10) (hS.sk 2 rfl) (f_7 (by omega))) ?_
    refine ⟨fun a w hA hS hd => by have e3 := hx hd 3; have e5 := hx hd 5; have AO := hx hd 11; exact i_1 rfl rfl e3 (dv (j_0 rfl (a_7 e5) (a_7 AO)) hS (by show Value.bool _ = _; simp only [decide_eq_false Ar, decide_true, decide_false, Bool.not_true, Bool.not_false])), ?_⟩
    refine dq (fun a w hA hS hd => b_9 rfl (hq hd 3) (hq hd 12)) ?_
    refine dq (fun a w hA hS hd => a_1 rfl (hq hd 13)) ?_
    refine dn 14 ?_
    refine dn 14 ?_
    refine dn 14 ?_
    refine dn 14 ?_
    refine dn 14 ?_
    refine dn 14 ?_
    refine dn 14 ?_
    refine dn 14 ?_
    refine dn 14 ?_
    trivial
   intro A3 Bf AC Aw J; clear AB C
   have AD := AC.add (hz J 14); clear AC
   have AE := AD.add (hz J 16); clear AD
   have AF := AE.add (hz J 23); clear AE
   clear J
   refine s3 AF fun A4 O => ?_; clear AF A3
   refine s1 O (d_3 rfl (O.ev rfl) (evc _ _)) fun A5 H => ?_; clear O A4
   refine n1 ?_
   refine b_7 H rfl ?_
   refine d_0 ?_
   refine h_0 ?_
   refine b_0 ?_
   refine a_5 ?_
   refine s1 H (a_1 rfl (H.ev rfl)) fun A6 P => ?_; clear H A5
   refine s1 P (f_4 rfl (P.ev rfl) (evc _ _) (by omega) (by omega)) fun A7 Q => ?_; clear P A6
   refine s1 Q (a_0 rfl (Q.ev rfl)) fun Bb Au => ?_; clear Q A7
   refine e_9 ?_
   exact b_0 ⟨k + 1, ⟨Au.as _ rfl, Aw, by omega, (fun i hi => by rcases Nat.lt_succ_iff_lt_or_eq.1 hi with h | h; exact hq_ i h; subst h; (refine fun e_ => ?_; unfold tx at e_; have e3_ : (t.rows.getD ((i : Int) + 1).toNat (0, 0)).1 = (t.rows.getD (i + 1) (0, 0)).1 := (by rw [show ((i : Int) + 1).toNat = i + 1 from by omega]); first | exact absurd e_.1 (by assumption) | omega))⟩, by omega⟩
  skip
  have AG := Y.as [(5, (Value.int .i64 (k : Int))), (3, (bptr D 0)), (2, (bptr A 0))] rfl; clear Y
  refine g_3 mixed AG C 24 [[], [], [0, 1], [2], [3], [3, 4], [3], [3, 6], [3], [3, 7, 8], [3, 9], [3, 10], [3, 5, 11], [3, 12], [13], [14], [14, 15], [14], [14, 17], [14], [14, 19], [14, 18, 20], [14, 21], [14, 22]] [(Yd.val (Value.agg #[(Value.int .i64 t.frm), (Value.int .i64 t.dst), vr, vb, (Value.int .i64 t.err)])), (Yd.val (Value.int .i64 (k : Int))), (Yd.val (Value.bool false)), (Yd.val (Value.bool false)), (Yd.val undef), (Yd.val undef), (Yd.val undef), (Yd.val undef), (Yd.val undef), (Yd.val undef), (Yd.val undef), (Yd.val undef), (Yd.val undef), (Yd.val (Value.bool false)), (Yd.val (Value.bool false)), (Yd.val undef), (Yd.val undef), (Yd.val undef), (Yd.val undef), (Yd.val undef), (Yd.val undef), (Yd.val undef), (Yd.val undef), (Yd.val undef)] (by decide +kernel) rfl rfl ?_ ?_
  ·skip
   refine dq (fun a w hA hS hd => c_5 rfl y_3 (hA.ev rfl) (hS.bk 1 rfl) (l := [(Value.int .i64 t.frm), (Value.int .i64 t.dst), vr, vb, (Value.int .i64 t.err)]) rfl rfl) ?_
   refine dq (fun a w hA hS hd => a_1 rfl (hA.ev rfl)) ?_
   refine ⟨fun a w hA hS hd => by have e0 := hx hd 0; have N := hx hd 1; exact b_1 rfl (dx (b_4 rfl en_54 (ev2 (a_7 e0) (a_7 N)) (broken_ok (k : Int) t _ _ _ (hS.sk 2 rfl) (hS.sk 3 rfl) (by omega) (by omega))) hS (fun _ => (by show Value.bool _ = _; simp only [decide_eq_false AA, decide_true, decide_false, Bool.not_true, Bool.not_false]))), ?_⟩
   refine dq (fun a w hA hS hd => a_1 rfl (hq hd 2)) ?_
   refine dn 3 ?_
   refine dn 3 ?_
   refine dn 3 ?_
   refine dn 3 ?_
   refine dn 3 ?_
   refine dn 3 ?_
   refine dn 3 ?_
   refine dn 3 ?_
   refine dn 3 ?_
   refine dq (fun a w hA hS hd => d_3 rfl (hq hd 3) (evc _ _)) ?_
   refine dq (fun a w hA hS hd => a_1 rfl (hq hd 13)) ?_
   refine dn 14 ?_
   refine dn 14 ?_
   refine dn 14 ?_
   refine dn 14 ?_
   refine dn 14 ?_
   refine dn 14 ?_
   refine dn 14 ?_
   refine dn 14 ?_
   refine dn 14 ?_
   trivial
  intro A8 Bg AH Ax K; clear AG C
  have AI := AH.add (hz K 14); clear AH
  have AJ := AI.add (hz K 16); clear AI
  have AK := AJ.add (hz K 23); clear AJ
  clear K
  refine s3 AK fun A9 S => ?_; clear AK A8
  refine s1 S (d_3 rfl (S.ev rfl) (evc _ _)) fun BA I => ?_; clear S A9
  refine n1 ?_
  refine b_7 I rfl ?_
  refine d_0 ?_
  refine h_0 ?_
  refine b_0 ?_
  refine a_5 ?_
  refine s1 I (a_1 rfl (I.ev rfl)) fun BB T => ?_; clear I BA
  refine s1 T (f_4 rfl (T.ev rfl) (evc _ _) (by omega) (by omega)) fun BC U => ?_; clear T BB
  refine s1 U (a_0 rfl (U.ev rfl)) fun Bc Av => ?_; clear U BC
  refine e_9 ?_
  exact b_0 ⟨k + 1, ⟨Av.as _ rfl, Ax, by omega, (fun i hi => by rcases Nat.lt_succ_iff_lt_or_eq.1 hi with h | h; exact hq_ i h; subst h; (refine fun e_ => ?_; unfold tx at e_; have e3_ : (t.rows.getD ((i : Int) + 1).toNat (0, 0)).1 = (t.rows.getD (i + 1) (0, 0)).1 := (by rw [show ((i : Int) + 1).toNat = i + 1 from by omega]); first | exact absurd e_.1 (by assumption) | omega))⟩, by omega⟩
 skip
 rw [decide_eq_false Aq] at F
 refine b_7 F rfl ?_
 refine g_8 ?_
 refine b_6 ?_
 refine b_6 ?_
 refine f_5 ?_
 refine b_0 ?_
 refine b_8 ?_
 have AL := F.as [] rfl; clear F
 refine a_5 ?_
 refine s1 AL (a_0 rfl (evc _ _)) fun Bd AM => ?_; clear AL BU
 refine n1 ?_
 refine c_9 ?_
 refine a_9 AM (.inl rfl) (a_4 AM rfl (.tmp rfl)) ?_
 exact ⟨congrArg Value.bool (Eq.symm (rconv_y hV (by unfold tx; dsimp only; omega) (by unfold tx; dsimp only; omega) (fun i hi => hq_ i (by omega)))), C.ext⟩
end Go.Proofs.Ytohgladndklciaa

namespace Go.Proofs.Ytohgladndklciaa
open Go.RowKit Go.Shelf Go.Eng Go.Hard
theorem n_1 : fldK Try.prog 75 1 = some 1 := by kernel_rfl
theorem ze_75 : (Try.prog.info? 75).bind (·.zero) = some (Value.agg #[(Value.int .i64 0), (Value.int .i64 0)]) := by kernel_rfl
theorem en_82 : ∀ args w, (callFunc 82 args).run Try.prog w = .ok (.enter 82 args) w := enters_of Try.func82 (by kernel_rfl) rfl
theorem bd_27_  (w : World) : (Instr.build 27 #[]).run Try.prog w = .ok (.agg #[(Value.int .i64 0), (Value.int .i64 0)]) w := by kernel_rfl
theorem en_55 : ∀ args w, (callFunc 55 args).run Try.prog w = .ok (.enter 55 args) w := enters_of Try.func55 (by kernel_rfl) rfl
theorem fd_46_4 : fldK Try.prog 46 4 = some 4 := by kernel_rfl
theorem upF_bd {n d : Int} (hn : -100000000000 ≤ n ∧ n ≤ 100000000000) (hd : 0 < d ∧ d ≤ 100000) : -100000000001 ≤ upF n d ∧ upF n d ≤ 100000000001 := by
 have := downF_bd (n := -n) (d := d) (by omega) hd
 unfold upF; unfold w_8 at this; omega
theorem rmade_ok (t : TabD) (vr vb : Value) (w : World) (hr : SlAt w vr 2 t.rows.length (pairs t.rows)) (hb : SlAt w vb 1 t.brk.length (ints t.brk)) (hrl : t.rows.length ≤ 1000000) (hbl : t.brk.length ≤ 1000000) (n : Int) (hV : TabV n t) (x : Int) :
  Calls Try.prog 55 #[(Value.agg #[(Value.int .i64 t.frm), (Value.int .i64 t.dst), vr, vb, (Value.int .i64 t.err)]), (Value.int .i64 x)] w (Ret fun v w' => v = .tuple #[.agg #[.int .i64 (e_3 t x).1, .int .i64 (e_3 t x).2], .bool (r_8 t x).isSome] ∧ Ext NoB w w') := by
 refine a_8 Try.func55 rfl fun a0 AT => ?_
 replace AT : Fr 104 [] [(0, (Value.agg #[(Value.int .i64 t.frm), (Value.int .i64 t.dst), vr, vb, (Value.int .i64 t.err)])), (1, (Value.int .i64 x))] a0 := AT
 have CM : Sep NoB w w [(sl vr 2 t.rows.length (pairs t.rows)), (sl vb 1 t.brk.length (ints t.brk))] := f_1 ⟨rfl, hr, rfl, hb, trivial⟩
 refine m2 ?_
 refine s2 AT (f_0 CM rfl (AT.ev rfl) (cs := [(Value.int .i64 t.frm), (Value.int .i64 t.dst), vr, vb, (Value.int .i64 t.err)]) rfl) ?_
 rintro a1 _ w3 ⟨D, rfl, CN⟩ CK; clear AT CM a0
 refine s2 CK (e_4 CN rfl ze_27 (cs := [(Value.int .i64 0), (Value.int .i64 0)]) rfl) ?_
 rintro a6 _ w8 ⟨E, rfl, Bm⟩ CL; clear CK CN a1
 refine s1 CL (a_0 rfl (evc _ _)) fun Dd BX => ?_; clear CL a6
 refine n2 ?_
 refine m2 ?_
 refine s1 BX (a_0 rfl (evc _ _)) fun De BY => ?_; clear BX Dd
 refine n1 ?_
 refine c_7 ?_
 have BZ := BY.as [(6, (Value.int .i64 0)), (4, (bptr E 0)), (2, (bptr D 0)), (1, (Value.int .i64 x))] rfl; clear BY
 refine h_3 (G := Nat) (fun (k : Nat) a_ w_ => Fr 104 [] [(6, (Value.int .i64 (k : Int))), (4, (bptr E 0)), (2, (bptr D 0)), (1, (Value.int .i64 x))] a_ ∧ Sep NoB w w_ [(blk E 27 [(Value.int .i64 0), (Value.int .i64 0)]), (blk D 46 [(Value.int .i64 t.frm), (Value.int .i64 t.dst), vr, vb, (Value.int .i64 t.err)]), (sl vr 2 t.rows.length (pairs t.rows)), (sl vb 1 t.brk.length (ints t.brk))] ∧ (k ≤ t.rows.length) ∧ (∀ i, i < k → ¬ tx t i = x)) (fun k => t.rows.length - k) 0 ⟨BZ.as _ rfl, Bm, by omega, (fun _ h => absurd h (Nat.not_lt_zero _))⟩ ?_
 clear BZ Bm De
 rintro k Df FB ⟨AU, H, hkk, hrw⟩
 refine b_8 ?_
 refine m2 ?_
 refine s1 AU (a_1 rfl (AU.ev rfl)) fun Dg AV => ?_; clear AU Df
 refine s1 AV (a_3 rfl g_5 (AV.ev rfl)) fun Dh AW => ?_; clear AV Dg
 refine s1 AW (a_2 rfl l_5 (AW.ev rfl) (H.bk 1 rfl) rfl) fun Di AX => ?_; clear AW Dh
 refine s1 AX (d_6 rfl l_6 (AX.ev rfl) (H.sk 2 rfl)) fun Dj AI => ?_; clear AX Di
 refine s1 AI (f_8 rfl (AI.ev rfl) (AI.ev rfl)) fun CJ L => ?_; clear AI Dj
 refine n1 ?_
 by_cases Bq : (k : Int) < (t.rows.length : Int)
 ·skip
  rw [decide_eq_true Bq] at L
  refine c_3 L rfl ?_
  refine d_0 ?_
  refine b_0 ?_
  refine b_8 ?_
  refine c_7 ?_
  refine m2 ?_
  refine s1 L (a_3 rfl g_5 (L.ev rfl)) fun Dk AY => ?_; clear L CJ
  refine s1 AY (a_2 rfl l_5 (AY.ev rfl) (H.bk 1 rfl) rfl) fun Dl AZ => ?_; clear AY Dk
  refine s1 AZ (a_1 rfl (AZ.ev rfl)) fun Dm AJ => ?_; clear AZ Dl
  refine s1 AJ (b_3 rfl l_6 n_3 (AJ.ev rfl) (i := k) (AJ.ev rfl) (H.sk 2 rfl) (by decide) (by omega)) fun Dn Aa => ?_; clear AJ Dm
  refine s1 Aa (d_1 rfl l_2 (Aa.ev rfl) (H.sk 2 rfl) (by rw [((H.sk 2 rfl)).1]; omega)) fun Do Ab => ?_; clear Aa Dn
  refine s1 Ab (c_4 rfl ty_3 (Ab.ev rfl) (H.sk 2 rfl) (f_7 (by omega))) fun Dp Ac => ?_; clear Ab Do
  refine s1 Ac (a_1 rfl (Ac.ev rfl)) fun Dq AK => ?_; clear Ac Dp
  refine s1 AK (n_7 rfl (AK.ev rfl) (AK.ev rfl)) fun Dr M => ?_; clear AK Dq
  refine n1 ?_
  by_cases Br : ((t.rows.getD k (0, 0)).1) = x
  ·skip
   rw [decide_eq_true Br] at M
   refine c_3 M rfl ?_
   refine b_8 ?_
   have Ba := M.as [(6, (Value.int .i64 (k : Int))), (4, (bptr E 0)), (2, (bptr D 0))] rfl; clear M
   have Bb := Ba.as [(6, (Value.int .i64 (k : Int))), (4, (bptr E 0)), (2, (bptr D 0))] rfl; clear Ba
   refine g_3 mixed Bb H 12 [[], [0], [], [1, 2], [3], [4], [], [6], [], [7, 8], [9], [10]] [(Yd.val (bptr D 2)), (Yd.val vr), (Yd.val (Value.int .i64 (k : Int))), (Yd.val (eptr vr (k * 2))), (Yd.val (eptr vr (k * 2 + 1))), (Yd.val (Value.int .i64 ((t.rows.getD k (0, 0)).2))), (Yd.val (bptr D 2)), (Yd.val vr), (Yd.val (Value.int .i64 (k : Int))), (Yd.val (eptr vr (k * 2))), (Yd.val (eptr vr (k * 2 + 1))), (Yd.val (Value.int .i64 ((t.rows.getD k (0, 0)).2)))] (by decide +kernel) rfl rfl ?_ ?_
   ·skip
    refine dq (fun a w hA hS hd => a_3 rfl g_5 (hA.ev rfl)) ?_
    refine dq (fun a w hA hS hd => a_2 rfl l_5 (hq hd 0) (hS.bk 1 rfl) rfl) ?_
    refine dq (fun a w hA hS hd => a_1 rfl (hA.ev rfl)) ?_
    refine dq (fun a w hA hS hd => b_3 rfl l_6 n_3 (hq hd 1) (i := k) (hq hd 2) (hS.sk 2 rfl) (by decide) (by omega)) ?_
    refine dq (fun a w hA hS hd => d_1 rfl n_1 (hq hd 3) (hS.sk 2 rfl) (by rw [((hS.sk 2 rfl)).1]; omega)) ?_
    refine dq (fun a w hA hS hd => c_4 rfl ty_3 (hq hd 4) (hS.sk 2 rfl) (h_2 (by omega))) ?_
    refine dq (fun a w hA hS hd => a_3 rfl g_5 (hA.ev rfl)) ?_
    refine dq (fun a w hA hS hd => a_2 rfl l_5 (hq hd 6) (hS.bk 1 rfl) rfl) ?_
    refine dq (fun a w hA hS hd => a_1 rfl (hA.ev rfl)) ?_
    refine dq (fun a w hA hS hd => b_3 rfl l_6 n_3 (hq hd 7) (i := k) (hq hd 8) (hS.sk 2 rfl) (by decide) (by omega)) ?_
    refine dq (fun a w hA hS hd => d_1 rfl n_1 (hq hd 9) (hS.sk 2 rfl) (by rw [((hS.sk 2 rfl)).1]; omega)) ?_
    refine dq (fun a w hA hS hd => c_4 rfl ty_3 (hq hd 10) (hS.sk 2 rfl) (h_2 (by omega))) ?_
    trivial
   intro Ds FC Bc Bn Al; clear Bb H
   have Bd := Bc.add (hz Al 5); clear Bc
   have AL := Bd.add (hz Al 11); clear Bd
   clear Al
   refine s1 AL (e_5 rfl (pv2 (AL.ev rfl) (AL.ev rfl)) (m_6 _ _)) fun Dt AM => ?_; clear AL Ds
   refine s7 AM (c_2 Bn rfl j_5 (AM.ev rfl) (AM.ev rfl) (i := 0) rfl (vs := [(Value.int .i64 ((t.rows.getD k (0, 0)).2)), (Value.int .i64 ((t.rows.getD k (0, 0)).2))]) rfl rfl rfl (Nat.le_of_ble_eq_true rfl)) ?_
   intro _ Ee Bo Be; clear AM
   have Bp : Sep NoB w Ee [(blk E 27 [(Value.int .i64 ((t.rows.getD k (0, 0)).2)), (Value.int .i64 ((t.rows.getD k (0, 0)).2))]), (blk D 46 [(Value.int .i64 t.frm), (Value.int .i64 t.dst), vr, vb, (Value.int .i64 t.err)]), (sl vr 2 t.rows.length (pairs t.rows)), (sl vb 1 t.brk.length (ints t.brk))] := Bo; clear Bo Bn
   refine s1 Be (a_0 rfl (evc _ _)) fun Eq Bf => ?_; clear Be Dt
   refine n1 ?_
   refine c_9 ?_
   refine c_6 ?_
   refine a_6 ?_
   refine a_6 ?_
   refine c_6 ?_
   refine a_6 ?_
   refine a_9 Bf (.inl rfl) (d_2 Bf rfl (.cellA rfl j_5 (Bp.bk 0 rfl) (l := [(Value.int .i64 ((t.rows.getD k (0, 0)).2)), (Value.int .i64 ((t.rows.getD k (0, 0)).2))]) rfl rfl) (.tmp rfl)) ?_
   have hz := (made_row (k := k) (by omega) (fun i hi => hrw i (by omega)) (by assumption))
   exact ⟨by unfold e_3; rw [hz]; rfl, Bp.ext⟩
  skip
  rw [decide_eq_false Br] at M
  refine b_7 M rfl ?_
  refine d_0 ?_
  refine h_0 ?_
  refine b_0 ?_
  have Ad := M.as [(6, (Value.int .i64 (k : Int))), (4, (bptr E 0)), (2, (bptr D 0)), (1, (Value.int .i64 x))] rfl; clear M
  refine a_5 ?_
  refine s1 Ad (a_1 rfl (Ad.ev rfl)) fun Du Ae => ?_; clear Ad Dr
  refine s1 Ae (f_4 rfl (Ae.ev rfl) (evc _ _) (by omega) (by omega)) fun Dv Af => ?_; clear Ae Du
  refine s1 Af (a_0 rfl (Af.ev rfl)) fun Er C3 => ?_; clear Af Dv
  refine e_9 ?_
  exact b_0 ⟨k + 1, ⟨C3.as _ rfl, H, by omega, (fun i hi => by rcases Nat.lt_succ_iff_lt_or_eq.1 hi with h | h; exact hrw i h; subst h; assumption)⟩, by omega⟩
 skip
 rw [decide_eq_false Bq] at L
 refine b_7 L rfl ?_
 refine g_8 ?_
 refine b_6 ?_
 refine b_6 ?_
 refine f_5 ?_
 refine b_0 ?_
 refine b_8 ?_
 refine b_8 ?_
 have Bg := L.as [(4, (bptr E 0)), (2, (bptr D 0)), (1, (Value.int .i64 x))] rfl; clear L
 refine a_5 ?_
 refine s1 Bg (a_0 rfl (evc _ _)) fun Dw Bh => ?_; clear Bg CJ
 refine n1 ?_
 refine c_7 ?_
 have Bi := Bh.as [(7, (Value.int .i64 0)), (4, (bptr E 0)), (2, (bptr D 0)), (1, (Value.int .i64 x))] rfl; clear Bh
 refine h_3 (G := Nat) (fun (A : Nat) a_ w_ => Fr 104 [] [(7, (Value.int .i64 (A : Int))), (4, (bptr E 0)), (2, (bptr D 0)), (1, (Value.int .i64 x))] a_ ∧ Sep NoB w w_ [(blk E 27 [(Value.int .i64 0), (Value.int .i64 0)]), (blk D 46 [(Value.int .i64 t.frm), (Value.int .i64 t.dst), vr, vb, (Value.int .i64 t.err)]), (sl vr 2 t.rows.length (pairs t.rows)), (sl vb 1 t.brk.length (ints t.brk))] ∧ (A ≤ t.rows.length) ∧ (∀ i, i < A → m_0 t x i = false)) (fun A => t.rows.length - A) 0 ⟨Bi.as _ rfl, H, by omega, (fun _ h => absurd h (Nat.not_lt_zero _))⟩ ?_
 clear Bi H Dw
 rintro A Dx FD ⟨Ag, O, hkk1, hpc⟩
 refine b_8 ?_
 refine m2 ?_
 refine s1 Ag (a_1 rfl (Ag.ev rfl)) fun Dy Ah => ?_; clear Ag Dx
 refine s1 Ah (f_4 rfl (Ah.ev rfl) (evc _ _) (by omega) (by omega)) fun Dz Ai => ?_; clear Ah Dy
 refine s1 Ai (a_3 rfl g_5 (Ai.ev rfl)) fun D0 Aj => ?_; clear Ai Dz
 refine s1 Aj (a_2 rfl l_5 (Aj.ev rfl) (O.bk 1 rfl) rfl) fun D1 Ak => ?_; clear Aj D0
 refine s1 Ak (d_6 rfl l_6 (Ak.ev rfl) (O.sk 2 rfl)) fun D2 AN => ?_; clear Ak D1
 refine s1 AN (f_8 rfl (AN.ev rfl) (AN.ev rfl)) fun D3 N => ?_; clear AN D2
 refine n1 ?_
 by_cases Bs : ((A : Int) + 1) < (t.rows.length : Int)
 ·skip
  rw [decide_eq_true Bs] at N
  refine c_3 N rfl ?_
  refine d_0 ?_
  refine b_0 ?_
  refine b_8 ?_
  refine c_7 ?_
  refine b_8 ?_
  have Bj := N.as [(7, (Value.int .i64 (A : Int))), (4, (bptr E 0)), (2, (bptr D 0)), (1, (Value.int .i64 x))] rfl; clear N
  have Bk := Bj.as [(7, (Value.int .i64 (A : Int))), (4, (bptr E 0)), (2, (bptr D 0)), (1, (Value.int .i64 x))] rfl; clear Bj
  refine c_drawCD mixed Bk O 14 [(13, 11)] [[], [0], [], [1, 2], [3], [], [5], [], [7], [6, 8], [9], [], [], [4, 11]] [(fun (B : Nat → Value) (v_ : Value) (rs_ : List Res) => v_ = (bptr D 2) ∧ rs_ = []), (fun (B : Nat → Value) (v_ : Value) (rs_ : List Res) => v_ = vr ∧ rs_ = []), (fun (B : Nat → Value) (v_ : Value) (rs_ : List Res) => v_ = (Value.int .i64 (A : Int)) ∧ rs_ = []), (fun (B : Nat → Value) (v_ : Value) (rs_ : List Res) => v_ = (eptr vr (A * 2)) ∧ rs_ = []), (fun (B : Nat → Value) (v_ : Value) (rs_ : List Res) => v_ = (Value.agg #[(Value.int .i64 ((t.rows.getD A (0, 0)).1)), (Value.int .i64 ((t.rows.getD A (0, 0)).2))]) ∧ rs_ = []), (fun (B : Nat → Value) (v_ : Value) (rs_ : List Res) => v_ = (bptr D 2) ∧ rs_ = []), (fun (B : Nat → Value) (v_ : Value) (rs_ : List Res) => v_ = vr ∧ rs_ = []), (fun (B : Nat → Value) (v_ : Value) (rs_ : List Res) => v_ = (Value.int .i64 (A : Int)) ∧ rs_ = []), (fun (B : Nat → Value) (v_ : Value) (rs_ : List Res) => v_ = (Value.int .i64 ((A : Int) + 1)) ∧ rs_ = []), (fun (B : Nat → Value) (v_ : Value) (rs_ : List Res) => v_ = (eptr vr ((A + 1) * 2)) ∧ rs_ = []), (fun (B : Nat → Value) (v_ : Value) (rs_ : List Res) => v_ = (Value.agg #[(Value.int .i64 ((t.rows.getD (A + 1) (0, 0)).1)), (Value.int .i64 ((t.rows.getD (A + 1) (0, 0)).2))]) ∧ rs_ = []), (fun (B : Nat → Value) (v_ : Value) (rs_ : List Res) => ∃ (b11_ : Nat), v_ = (bptr b11_ 0) ∧ rs_ = [(blk b11_ 75 [(Value.int .i64 0), (Value.int .i64 0)])]), (fun (B : Nat → Value) (v_ : Value) (rs_ : List Res) => ∃ (b12_ : Nat), v_ = (bptr b12_ 0) ∧ rs_ = [(blk b12_ 75 [(Value.int .i64 0), (Value.int .i64 0)])]), (fun (B : Nat → Value) (v_ : Value) (rs_ : List Res) => ∃ (bf13_ : Nat), (B 11) = (bptr bf13_ 0) ∧ rs_ = [(blk bf13_ 75 [(Value.int .i64 ((t.rows.getD A (0, 0)).1)), (Value.int .i64 ((t.rows.getD A (0, 0)).2))])])] (by decide +kernel) (by decide +kernel) (by decide +kernel) (by decide +kernel) rfl rfl ⟨(fun _ _ _ _ _ h_ => h_), (fun _ _ _ _ _ h_ => h_), (fun _ _ _ _ _ h_ => h_), (fun _ _ _ _ _ h_ => h_), (fun _ _ _ _ _ h_ => h_), (fun _ _ _ _ _ h_ => h_), (fun _ _ _ _ _ h_ => h_), (fun _ _ _ _ _ h_ => h_), (fun _ _ _ _ _ h_ => h_), (fun _ _ _ _ _ h_ => h_), (fun _ _ _ _ _ h_ => h_), (fun _ _ _ _ _ h_ => h_), (fun _ _ _ _ _ h_ => h_), (fun _ _ _ _ he_ h_ => by dsimp only at h_ ⊢; rw [← he_ 11 (by decide)]; exact h_), trivial⟩ (by decide +kernel) ?_ ?_ ?_
  ·skip
   refine ⟨fun hj_ a w B hA hS hd => ?_, ?_⟩
   ·skip
    exact b_1 rfl (vv (a_3 rfl g_5 (hA.ev rfl)) (And.intro rfl rfl))
   refine ⟨fun hj_ a w B hA hS hd => ?_, ?_⟩
   ·skip
    obtain ⟨e0, Ed, B4, Es⟩ := hd 0 (by decide)
    obtain ⟨EK, EA⟩ := B4; subst EA
    rw [EK] at e0
    exact b_1 rfl (vv (a_2 rfl l_5 (a_7 (b_5 e0 rfl)) (hS.bk 1 rfl) rfl) (And.intro rfl rfl))
   refine ⟨fun hj_ a w B hA hS hd => ?_, ?_⟩
   ·skip
    exact b_1 rfl (vv (a_1 rfl (hA.ev rfl)) (And.intro rfl rfl))
   refine ⟨fun hj_ a w B hA hS hd => ?_, ?_⟩
   ·skip
    obtain ⟨e1, E2, EU, Et⟩ := hd 1 (by decide)
    obtain ⟨EL, EB⟩ := EU; subst EB
    rw [EL] at e1
    obtain ⟨e2, E3, EV, Eu⟩ := hd 2 (by decide)
    obtain ⟨EM, EC⟩ := EV; subst EC
    rw [EM] at e2
    exact b_1 rfl (vv (b_3 rfl l_6 n_3 (a_7 (b_5 e1 rfl)) (i := A) (a_7 (b_5 e2 rfl)) (hS.sk 2 rfl) (by decide) (by omega)) (And.intro rfl rfl))
   refine ⟨fun hj_ a w B hA hS hd => ?_, ?_⟩
   ·skip
    obtain ⟨e3, E4, EW, Ev⟩ := hd 3 (by decide)
    obtain ⟨EN, ED⟩ := EW; subst ED
    rw [EN] at e3
    exact b_1 rfl (vv (e_7 rfl n_3 (a_7 (b_5 e3 rfl)) (hS.sk 2 rfl) (g_9 (by omega)) rfl (by decide)) (And.intro rfl rfl))
   refine ⟨fun hj_ a w B hA hS hd => ?_, ?_⟩
   ·skip
    exact b_1 rfl (vv (a_3 rfl g_5 (hA.ev rfl)) (And.intro rfl rfl))
   refine ⟨fun hj_ a w B hA hS hd => ?_, ?_⟩
   ·skip
    obtain ⟨e5, E6, EY, Ex⟩ := hd 5 (by decide)
    obtain ⟨EP, EF⟩ := EY; subst EF
    rw [EP] at e5
    exact b_1 rfl (vv (a_2 rfl l_5 (a_7 (b_5 e5 rfl)) (hS.bk 1 rfl) rfl) (And.intro rfl rfl))
   refine ⟨fun hj_ a w B hA hS hd => ?_, ?_⟩
   ·skip
    exact b_1 rfl (vv (a_1 rfl (hA.ev rfl)) (And.intro rfl rfl))
   refine ⟨fun hj_ a w B hA hS hd => ?_, ?_⟩
   ·skip
    obtain ⟨e7, E8, Ea, Ez⟩ := hd 7 (by decide)
    obtain ⟨ER, EH⟩ := Ea; subst EH
    rw [ER] at e7
    exact b_1 rfl (vv (f_4 rfl (a_7 (b_5 e7 rfl)) (evc _ _) (by omega) (by omega)) (And.intro rfl rfl))
   refine ⟨fun hj_ a w B hA hS hd => ?_, ?_⟩
   ·skip
    obtain ⟨e6, E7, EZ, Ey⟩ := hd 6 (by decide)
    obtain ⟨EQ, EG⟩ := EZ; subst EG
    rw [EQ] at e6
    obtain ⟨e8, E9, Eb, E0⟩ := hd 8 (by decide)
    obtain ⟨ES, EI⟩ := Eb; subst EI
    rw [ES] at e8
    exact b_1 rfl (vv (b_3 rfl l_6 n_3 (a_7 (b_5 e6 rfl)) (i := A + 1) ((a_7 (b_5 e8 rfl)).trans (congrArg (Value.int .i64) (show ((A : Int) + 1 : Int) = ((A + 1 : Nat) : Int) by omega))) (hS.sk 2 rfl) (by decide) (by omega)) (And.intro rfl rfl))
   refine ⟨fun hj_ a w B hA hS hd => ?_, ?_⟩
   ·skip
    obtain ⟨e9, FA, Ec, E1⟩ := hd 9 (by decide)
    obtain ⟨ET, EJ⟩ := Ec; subst EJ
    rw [ET] at e9
    exact b_1 rfl (vv (e_7 rfl n_3 (a_7 (b_5 e9 rfl)) (hS.sk 2 rfl) (g_9 (by omega)) rfl (by decide)) (And.intro rfl rfl))
   refine ⟨fun hj_ a w B hA hS hd => ?_, ?_⟩
   ·skip
    exact b_1 rfl (valloc rfl ze_75 (cs := [(Value.int .i64 0), (Value.int .i64 0)]) rfl (fun b_ => ⟨b_, rfl, rfl⟩))
   refine ⟨fun hj_ a w B hA hS hd => ?_, ?_⟩
   ·skip
    exact b_1 rfl (valloc rfl ze_75 (cs := [(Value.int .i64 0), (Value.int .i64 0)]) rfl (fun b_ => ⟨b_, rfl, rfl⟩))
   refine ⟨fun hj_ => absurd hj_ (by decide), ?_⟩
   trivial
  ·skip
   refine ⟨fun o_ ho_ => ?_, ?_⟩
   ·skip
    obtain rfl := Option.some.inj ho_; clear ho_
    intro a w B Ed Lr hA CO B4 hd hL hS
    obtain ⟨b11_, B3, C4⟩ := B4; subst C4
    rw [B3] at CO
    obtain ⟨e4, E5, EX, Ew⟩ := hd 4 (by decide) (by decide)
    obtain ⟨EO, EE⟩ := EX; subst EE
    rw [EO] at e4
    exact b_1 rfl (q_8 (c_2 hS rfl n_3 (a_7 (b_5 CO rfl)) (a_7 (b_5 e4 rfl)) (i := 0) rfl (vs := [(Value.int .i64 ((t.rows.getD A (0, 0)).1)), (Value.int .i64 ((t.rows.getD A (0, 0)).2))]) rfl rfl rfl (Nat.le_of_ble_eq_true rfl)) fun v_ w_ h_ => ⟨_, ⟨_, B3, rfl⟩, h_⟩)
   trivial
  skip
  intro An Ef B rsf102 Bl hsl_ C hrq AQ; clear Bk O
  have hrq_11 := hrq (13, 11) (by decide)
  obtain ⟨C5, DP⟩ := C 0 (by decide) (by decide)
  obtain ⟨DF, Bt⟩ := DP
  obtain ⟨C6, DQ⟩ := C 1 (by decide) (by decide)
  obtain ⟨DG, Bu⟩ := DQ
  obtain ⟨C7, DR⟩ := C 2 (by decide) (by decide)
  obtain ⟨DH, Bv⟩ := DR
  obtain ⟨C8, DS⟩ := C 3 (by decide) (by decide)
  obtain ⟨DI, Bw⟩ := DS
  obtain ⟨C9, DT⟩ := C 4 (by decide) (by decide)
  obtain ⟨DJ, Bx⟩ := DT
  obtain ⟨DA, DU⟩ := C 5 (by decide) (by decide)
  obtain ⟨DK, By⟩ := DU
  obtain ⟨DB, DV⟩ := C 6 (by decide) (by decide)
  obtain ⟨DL, Bz⟩ := DV
  obtain ⟨DC, DW⟩ := C 7 (by decide) (by decide)
  obtain ⟨DM, B0⟩ := DW
  obtain ⟨DD, DX⟩ := C 8 (by decide) (by decide)
  obtain ⟨DN, B1⟩ := DX
  obtain ⟨DE, DY⟩ := C 9 (by decide) (by decide)
  obtain ⟨DO, B2⟩ := DY
  obtain ⟨AR, CG⟩ := C 10 (by decide) (by decide)
  obtain ⟨BS, BP⟩ := CG
  obtain ⟨AS, CH⟩ := C 12 (by decide) (by decide)
  obtain ⟨b12_, BT, BQ⟩ := CH
  obtain ⟨CF, CI⟩ := C 13 (by decide) (by decide)
  obtain ⟨bf13_, BU, BR⟩ := CI
  have BE : Sep NoB w Ef [(blk b12_ 75 [(Value.int .i64 0), (Value.int .i64 0)]), (blk bf13_ 75 [(Value.int .i64 ((t.rows.getD A (0, 0)).1)), (Value.int .i64 ((t.rows.getD A (0, 0)).2))]), (blk E 27 [(Value.int .i64 0), (Value.int .i64 0)]), (blk D 46 [(Value.int .i64 t.frm), (Value.int .i64 t.dst), vr, vb, (Value.int .i64 t.err)]), (sl vr 2 t.rows.length (pairs t.rows)), (sl vb 1 t.brk.length (ints t.brk))] := by rw [show catR rsf102 0 14 = ([(blk b12_ 75 [(Value.int .i64 0), (Value.int .i64 0)]), (blk bf13_ 75 [(Value.int .i64 ((t.rows.getD A (0, 0)).1)), (Value.int .i64 ((t.rows.getD A (0, 0)).2))])] : List Res) by (try simp only [catR, Bt, Bu, Bv, Bw, Bx, By, Bz, B0, B1, B2, BP, BQ, BR, hrq_11]); (try rfl)] at AQ; exact AQ
  rw [BS] at AR
  have Ao : Fr 104 [] [(58, (Value.agg #[(Value.int .i64 ((t.rows.getD (A + 1) (0, 0)).1)), (Value.int .i64 ((t.rows.getD (A + 1) (0, 0)).2))])), (7, (Value.int .i64 (A : Int))), (4, (bptr E 0)), (2, (bptr D 0)), (1, (Value.int .i64 x))] An := Bl.add (b_5 AR rfl); clear Bl
  rw [BT] at AS
  have Ap : Fr 104 [] [(9, (bptr b12_ 0)), (58, (Value.agg #[(Value.int .i64 ((t.rows.getD (A + 1) (0, 0)).1)), (Value.int .i64 ((t.rows.getD (A + 1) (0, 0)).2))])), (7, (Value.int .i64 (A : Int))), (4, (bptr E 0)), (2, (bptr D 0)), (1, (Value.int .i64 x))] An := Ao.add (b_5 AS rfl); clear Ao
  have hf_11 := hsl_ 11 (by decide); rw [BU] at hf_11
  have P : Fr 104 [] [(8, (bptr bf13_ 0)), (9, (bptr b12_ 0)), (58, (Value.agg #[(Value.int .i64 ((t.rows.getD (A + 1) (0, 0)).1)), (Value.int .i64 ((t.rows.getD (A + 1) (0, 0)).2))])), (7, (Value.int .i64 (A : Int))), (4, (bptr E 0)), (2, (bptr D 0)), (1, (Value.int .i64 x))] An := Ap.add (b_5 hf_11 rfl); clear Ap
  clear hsl_ hf_11
  clear C AQ C5 C6 C7 C8 C9 DA DB DC DD DE AR AS CF hrq hrq_11
  clear Bt
  clear DF
  clear Bu
  clear DG
  clear Bv
  clear DH
  clear Bw
  clear DI
  clear Bx
  clear DJ
  clear By
  clear DK
  clear Bz
  clear DL
  clear B0
  clear DM
  clear B1
  clear DN
  clear B2
  clear DO
  clear BP
  clear BS
  clear BQ
  clear BT
  clear BR
  clear BU
  refine s7 P (c_2 BE rfl n_3 (P.ev rfl) (P.ev rfl) (i := 0) rfl (vs := [(Value.int .i64 ((t.rows.getD (A + 1) (0, 0)).1)), (Value.int .i64 ((t.rows.getD (A + 1) (0, 0)).2))]) rfl rfl rfl (Nat.le_of_ble_eq_true rfl)) ?_
  intro _ Am BF Z; clear P
  have F : Sep NoB w Am [(blk b12_ 75 [(Value.int .i64 ((t.rows.getD (A + 1) (0, 0)).1)), (Value.int .i64 ((t.rows.getD (A + 1) (0, 0)).2))]), (blk bf13_ 75 [(Value.int .i64 ((t.rows.getD A (0, 0)).1)), (Value.int .i64 ((t.rows.getD A (0, 0)).2))]), (blk E 27 [(Value.int .i64 0), (Value.int .i64 0)]), (blk D 46 [(Value.int .i64 t.frm), (Value.int .i64 t.dst), vr, vb, (Value.int .i64 t.err)]), (sl vr 2 t.rows.length (pairs t.rows)), (sl vb 1 t.brk.length (ints t.brk))] := BF; clear BF BE
  refine n4 ?_
  refine s1 Z (a_1 rfl (Z.ev rfl)) fun CP b => ?_; clear Z An
  refine s1 b (a_3 rfl l_2 (b.ev rfl)) fun CQ c => ?_; clear b CP
  refine s1 c (a_2 rfl ty_3 (c.ev rfl) (F.bk 1 rfl) rfl) fun CR Q => ?_; clear c CQ
  refine s1 Q (j_0 rfl (Q.ev rfl) (Q.ev rfl)) fun CS d => ?_; clear Q CR
  refine s1 d (a_1 rfl (d.ev rfl)) fun BV J => ?_; clear d CS
  by_cases BM : ((t.rows.getD A (0, 0)).1) < x
  ·skip
   rw [decide_eq_true BM] at J
   refine s5 J (a_1 rfl (J.ev rfl)) fun CT e => ?_; clear J BV
   refine s5 e (a_3 rfl l_2 (e.ev rfl)) fun CU f => ?_; clear e CT
   refine s5 f (a_2 rfl ty_3 (f.ev rfl) (F.bk 0 rfl) rfl) fun CV R => ?_; clear f CU
   refine s5 R (f_8 rfl (R.ev rfl) (R.ev rfl)) fun CW S => ?_; clear R CV
   refine s1 S (b_9 rfl (S.ev rfl) (S.ev rfl)) fun CX g => ?_; clear S CW
   refine s1 g (a_1 rfl (g.ev rfl)) fun BW K => ?_; clear g CX
   by_cases BN : x < ((t.rows.getD (A + 1) (0, 0)).1)
   ·skip
    rw [decide_eq_true BN] at K
    have hpb := piece_bds (v := x) (k := A) hV (by omega) (by unfold tx; omega) (by unfold tx; omega); unfold pieceN pieceD tx ty at hpb; have hcn := hV.bnd A (by omega); have hcn1 := hV.bnd (A + 1) (by omega); unfold tx ty at hcn hcn1; have hdb := downF_bd hpb.1 hpb.2; have hub := upF_bd hpb.1 hpb.2
    refine s5 K (c_5 rfl y_3 (K.ev rfl) (F.bk 3 rfl) (l := [(Value.int .i64 t.frm), (Value.int .i64 t.dst), vr, vb, (Value.int .i64 t.err)]) rfl rfl) fun CY j => ?_; clear K BW
    refine s5 j (a_1 rfl (j.ev rfl)) fun CZ T => ?_; clear j CY
    refine s6 T (b_4 rfl en_54 (ev2 (T.ev rfl) (T.ev rfl)) (broken_ok (A : Int) t _ _ _ (F.sk 4 rfl) (F.sk 5 rfl) (by omega) (by omega))) ?_
    rintro Ca _ DZ ⟨rfl, BD⟩ m; have Y := F.step BD; clear BD T F CZ
    refine s5 m (f_6 rfl (m.ev rfl)) fun Cb U => ?_; clear m Ca
    refine s1 U (b_9 rfl (U.ev rfl) (U.ev rfl)) fun Cc I => ?_; clear U Cb
    refine n1 ?_
    by_cases BO : (A : Int) ∈ t.brk
    ·skip
     rw [decide_eq_true BO] at I
     refine b_7 I rfl ?_
     refine d_0 ?_
     refine h_0 ?_
     refine b_0 ?_
     have o := I.as [(7, (Value.int .i64 (A : Int))), (4, (bptr E 0)), (2, (bptr D 0)), (1, (Value.int .i64 x))] rfl; clear I
     refine a_5 ?_
     refine s1 o (a_1 rfl (o.ev rfl)) fun Cd p => ?_; clear o Cc
     refine s1 p (f_4 rfl (p.ev rfl) (evc _ _) (by omega) (by omega)) fun Ce q => ?_; clear p Cd
     refine s1 q (a_0 rfl (q.ev rfl)) fun Eh B9 => ?_; clear q Ce
     refine e_9 ?_
     have CC : Sep NoB w DZ [(blk E 27 [(Value.int .i64 0), (Value.int .i64 0)]), (blk D 46 [(Value.int .i64 t.frm), (Value.int .i64 t.dst), vr, vb, (Value.int .i64 t.err)]), (sl vr 2 t.rows.length (pairs t.rows)), (sl vb 1 t.brk.length (ints t.brk))] := Y.keep [2, 3, 4, 5] (by decide) _ rfl rfl; clear Y
     exact b_0 ⟨A + 1, ⟨B9.as _ rfl, CC, by omega, (fun i hi => by rcases Nat.lt_succ_iff_lt_or_eq.1 hi with h | h; exact hpc i h; subst h; first | exact m_1 (.inl (by assumption)) | exact m_1 (.inr (.inl (by assumption))) | exact m_1 (.inr (.inr (by assumption))))⟩, by omega⟩
    skip
    rw [decide_eq_false BO] at I
    refine c_3 I rfl ?_
    refine b_8 ?_
    have Aq := I.as [(8, (bptr bf13_ 0)), (9, (bptr b12_ 0)), (4, (bptr E 0)), (1, (Value.int .i64 x))] rfl; clear I
    have Ar := Aq.as [(8, (bptr bf13_ 0)), (9, (bptr b12_ 0)), (4, (bptr E 0)), (1, (Value.int .i64 x))] rfl; clear Aq
    refine g_3 mixed Ar Y 16 [[], [], [1], [0, 2], [], [4], [], [6], [5, 7], [3, 8], [], [10], [], [12], [11, 13], [9]] [(Yd.val (Value.int .i64 x)), (Yd.val (bptr bf13_ 0)), (Yd.val (Value.int .i64 ((t.rows.getD A (0, 0)).1))), (Yd.val (Value.int .i64 (x - ((t.rows.getD A (0, 0)).1)))), (Yd.val (bptr b12_ 1)), (Yd.val (Value.int .i64 ((t.rows.getD (A + 1) (0, 0)).2))), (Yd.val (bptr bf13_ 1)), (Yd.val (Value.int .i64 ((t.rows.getD A (0, 0)).2))), (Yd.val (Value.int .i64 (((t.rows.getD (A + 1) (0, 0)).2) - ((t.rows.getD A (0, 0)).2)))), (Yd.val (Value.int .i64 ((x - ((t.rows.getD A (0, 0)).1)) * (((t.rows.getD (A + 1) (0, 0)).2) - ((t.rows.getD A (0, 0)).2))))), (Yd.val (bptr b12_ 0)), (Yd.val (Value.int .i64 ((t.rows.getD (A + 1) (0, 0)).1))), (Yd.val (bptr bf13_ 0)), (Yd.val (Value.int .i64 ((t.rows.getD A (0, 0)).1))), (Yd.val (Value.int .i64 (((t.rows.getD (A + 1) (0, 0)).1) - ((t.rows.getD A (0, 0)).1)))), (Yd.val (Value.int .i64 ((x - ((t.rows.getD A (0, 0)).1)) * (((t.rows.getD (A + 1) (0, 0)).2) - ((t.rows.getD A (0, 0)).2)))))] (by decide +kernel) rfl rfl ?_ ?_
    ·skip
     refine dq (fun a w hA hS hd => a_1 rfl (hA.ev rfl)) ?_
     refine dq (fun a w hA hS hd => a_3 rfl l_2 (hA.ev rfl)) ?_
     refine dq (fun a w hA hS hd => a_2 rfl ty_3 (hq hd 1) (hS.bk 1 rfl) rfl) ?_
     refine dq (fun a w hA hS hd => h_9 rfl (hq hd 0) (hq hd 2) (by omega) (by omega)) ?_
     refine dq (fun a w hA hS hd => a_3 rfl n_1 (hA.ev rfl)) ?_
     refine dq (fun a w hA hS hd => a_2 rfl ty_3 (hq hd 4) (hS.bk 0 rfl) rfl) ?_
     refine dq (fun a w hA hS hd => a_3 rfl n_1 (hA.ev rfl)) ?_
     refine dq (fun a w hA hS hd => a_2 rfl ty_3 (hq hd 6) (hS.bk 1 rfl) rfl) ?_
     refine dq (fun a w hA hS hd => h_9 rfl (hq hd 5) (hq hd 7) (by omega) (by omega)) ?_
     refine dq (fun a w hA hS hd => op_mul rfl (hq hd 3) (hq hd 8) (by omega) (by omega)) ?_
     refine dq (fun a w hA hS hd => a_3 rfl l_2 (hA.ev rfl)) ?_
     refine dq (fun a w hA hS hd => a_2 rfl ty_3 (hq hd 10) (hS.bk 0 rfl) rfl) ?_
     refine dq (fun a w hA hS hd => a_3 rfl l_2 (hA.ev rfl)) ?_
     refine dq (fun a w hA hS hd => a_2 rfl ty_3 (hq hd 12) (hS.bk 1 rfl) rfl) ?_
     refine dq (fun a w hA hS hd => h_9 rfl (hq hd 11) (hq hd 13) (by omega) (by omega)) ?_
     refine dq (fun a w hA hS hd => a_0 rfl (hq hd 9)) ?_
     trivial
    intro Cf Eo As BG AO; clear Ar Y
    have At := As.add (hz AO 14); clear As
    have r := At.add (hz AO 15); clear At
    clear AO
    refine s1 r (a_0 rfl (r.ev rfl)) fun Ei Au => ?_; clear r Cf
    refine n2 ?_
    have Av := Au.as [(11, (Value.int .i64 (((t.rows.getD (A + 1) (0, 0)).1) - ((t.rows.getD A (0, 0)).1)))), (10, (Value.int .i64 ((x - ((t.rows.getD A (0, 0)).1)) * (((t.rows.getD (A + 1) (0, 0)).2) - ((t.rows.getD A (0, 0)).2))))), (8, (bptr bf13_ 0)), (4, (bptr E 0))] rfl; clear Au
    refine g_3 mixed Av BG 12 [[], [0], [], [], [2, 3], [1, 4], [], [6], [], [], [8, 9], [7, 10]] [(Yd.val (bptr bf13_ 1)), (Yd.val (Value.int .i64 ((t.rows.getD A (0, 0)).2))), (Yd.val (Value.int .i64 ((x - ((t.rows.getD A (0, 0)).1)) * (((t.rows.getD (A + 1) (0, 0)).2) - ((t.rows.getD A (0, 0)).2))))), (Yd.val (Value.int .i64 (((t.rows.getD (A + 1) (0, 0)).1) - ((t.rows.getD A (0, 0)).1)))), (Yd.val (Value.int .i64 (w_8 ((x - ((t.rows.getD A (0, 0)).1)) * (((t.rows.getD (A + 1) (0, 0)).2) - ((t.rows.getD A (0, 0)).2))) (((t.rows.getD (A + 1) (0, 0)).1) - ((t.rows.getD A (0, 0)).1))))), (Yd.val (Value.int .i64 (((t.rows.getD A (0, 0)).2) + (w_8 ((x - ((t.rows.getD A (0, 0)).1)) * (((t.rows.getD (A + 1) (0, 0)).2) - ((t.rows.getD A (0, 0)).2))) (((t.rows.getD (A + 1) (0, 0)).1) - ((t.rows.getD A (0, 0)).1)))))), (Yd.val (bptr bf13_ 1)), (Yd.val (Value.int .i64 ((t.rows.getD A (0, 0)).2))), (Yd.val (Value.int .i64 ((x - ((t.rows.getD A (0, 0)).1)) * (((t.rows.getD (A + 1) (0, 0)).2) - ((t.rows.getD A (0, 0)).2))))), (Yd.val (Value.int .i64 (((t.rows.getD (A + 1) (0, 0)).1) - ((t.rows.getD A (0, 0)).1)))), (Yd.val (Value.int .i64 (upF ((x - ((t.rows.getD A (0, 0)).1)) * (((t.rows.getD (A + 1) (0, 0)).2) - ((t.rows.getD A (0, 0)).2))) (((t.rows.getD (A + 1) (0, 0)).1) - ((t.rows.getD A (0, 0)).1))))), (Yd.val (Value.int .i64 (((t.rows.getD A (0, 0)).2) + (upF ((x - ((t.rows.getD A (0, 0)).1)) * (((t.rows.getD (A + 1) (0, 0)).2) - ((t.rows.getD A (0, 0)).2))) (((t.rows.getD (A + 1) (0, 0)).1) - ((t.rows.getD A (0, 0)).1))))))] (by decide +kernel) rfl rfl ?_ ?_
    ·skip
     refine dq (fun a w hA hS hd => a_3 rfl n_1 (hA.ev rfl)) ?_
     refine dq (fun a w hA hS hd => a_2 rfl ty_3 (hq hd 0) (hS.bk 1 rfl) rfl) ?_
     refine dq (fun a w hA hS hd => a_1 rfl (hA.ev rfl)) ?_
     refine dq (fun a w hA hS hd => a_1 rfl (hA.ev rfl)) ?_
     refine ⟨fun a w hA hS hd => by have e2 := hx hd 2; have e3 := hx hd 3; exact b_1 rfl (dx (b_4 rfl en_81 (ev2 (a_7 e2) (a_7 e3)) (rdown_ok _ _ _ (by omega) (by omega))) hS (fun _ => rfl)), ?_⟩
     refine dq (fun a w hA hS hd => f_4 rfl (hq hd 1) (hq hd 4) (by omega) (by omega)) ?_
     refine dq (fun a w hA hS hd => a_3 rfl n_1 (hA.ev rfl)) ?_
     refine dq (fun a w hA hS hd => a_2 rfl ty_3 (hq hd 6) (hS.bk 1 rfl) rfl) ?_
     refine dq (fun a w hA hS hd => a_1 rfl (hA.ev rfl)) ?_
     refine dq (fun a w hA hS hd => a_1 rfl (hA.ev rfl)) ?_
     refine ⟨fun a w hA hS hd => by have e8 := hx hd 8; have e9 := hx hd 9; exact b_1 rfl (dx (b_4 rfl en_82 (ev2 (a_7 e8) (a_7 e9)) (rup_ok _ _ _ (by omega) (by omega))) hS (fun _ => rfl)), ?_⟩
     refine dq (fun a w hA hS hd => f_4 rfl (hq hd 7) (hq hd 10) (by omega) (by omega)) ?_
     trivial
    intro Cg Ep Aw BH AP; clear Av BG
    have Ax := Aw.add (hz AP 5); clear Aw
    have V := Ax.add (hz AP 11); clear Ax
    clear AP
    refine s1 V (e_5 rfl (pv2 (V.ev rfl) (V.ev rfl)) (m_6 _ _)) fun Ch W => ?_; clear V Cg
    refine s7 W (c_2 BH rfl j_5 (W.ev rfl) (W.ev rfl) (i := 2) rfl (vs := [(Value.int .i64 (((t.rows.getD A (0, 0)).2) + (w_8 ((x - ((t.rows.getD A (0, 0)).1)) * (((t.rows.getD (A + 1) (0, 0)).2) - ((t.rows.getD A (0, 0)).2))) (((t.rows.getD (A + 1) (0, 0)).1) - ((t.rows.getD A (0, 0)).1))))), (Value.int .i64 (((t.rows.getD A (0, 0)).2) + (upF ((x - ((t.rows.getD A (0, 0)).1)) * (((t.rows.getD (A + 1) (0, 0)).2) - ((t.rows.getD A (0, 0)).2))) (((t.rows.getD (A + 1) (0, 0)).1) - ((t.rows.getD A (0, 0)).1)))))]) rfl rfl rfl (Nat.le_of_ble_eq_true rfl)) ?_
    intro _ Da BI Ay; clear W
    have BJ : Sep NoB w Da [(blk b12_ 75 [(Value.int .i64 ((t.rows.getD (A + 1) (0, 0)).1)), (Value.int .i64 ((t.rows.getD (A + 1) (0, 0)).2))]), (blk bf13_ 75 [(Value.int .i64 ((t.rows.getD A (0, 0)).1)), (Value.int .i64 ((t.rows.getD A (0, 0)).2))]), (blk E 27 [(Value.int .i64 (((t.rows.getD A (0, 0)).2) + (w_8 ((x - ((t.rows.getD A (0, 0)).1)) * (((t.rows.getD (A + 1) (0, 0)).2) - ((t.rows.getD A (0, 0)).2))) (((t.rows.getD (A + 1) (0, 0)).1) - ((t.rows.getD A (0, 0)).1))))), (Value.int .i64 (((t.rows.getD A (0, 0)).2) + (upF ((x - ((t.rows.getD A (0, 0)).1)) * (((t.rows.getD (A + 1) (0, 0)).2) - ((t.rows.getD A (0, 0)).2))) (((t.rows.getD (A + 1) (0, 0)).1) - ((t.rows.getD A (0, 0)).1)))))]), (blk D 46 [(Value.int .i64 t.frm), (Value.int .i64 t.dst), vr, vb, (Value.int .i64 t.err)]), (sl vr 2 t.rows.length (pairs t.rows)), (sl vb 1 t.brk.length (ints t.brk))] := BI; clear BI BH
    refine s1 Ay (a_0 rfl (evc _ _)) fun Ej Az => ?_; clear Ay Ch
    refine n1 ?_
    refine c_9 ?_
    refine c_6 ?_
    refine a_6 ?_
    refine a_6 ?_
    refine c_6 ?_
    refine a_6 ?_
    refine a_9 Az (.inl rfl) (d_2 Az rfl (.cellA rfl j_5 (BJ.bk 2 rfl) (l := [(Value.int .i64 (((t.rows.getD A (0, 0)).2) + (w_8 ((x - ((t.rows.getD A (0, 0)).1)) * (((t.rows.getD (A + 1) (0, 0)).2) - ((t.rows.getD A (0, 0)).2))) (((t.rows.getD (A + 1) (0, 0)).1) - ((t.rows.getD A (0, 0)).1))))), (Value.int .i64 (((t.rows.getD A (0, 0)).2) + (upF ((x - ((t.rows.getD A (0, 0)).1)) * (((t.rows.getD (A + 1) (0, 0)).2) - ((t.rows.getD A (0, 0)).2))) (((t.rows.getD (A + 1) (0, 0)).1) - ((t.rows.getD A (0, 0)).1)))))]) rfl rfl) (.tmp rfl)) ?_
    have hz := (made_piece (k := A) (fun i hi => hrw i (by omega)) (by omega) hpc (piece_y (by assumption) (by assumption) (by assumption)))
    exact ⟨by unfold e_3; rw [hz]; rfl, BJ.ext⟩
   skip
   rw [decide_eq_false BN] at K
   refine s3 K fun Ci A0 => ?_; clear K BW
   refine s3 A0 fun Cj A1 => ?_; clear A0 Ci
   refine s3 A1 fun Ck A2 => ?_; clear A1 Cj
   refine s3 A2 fun Cl s => ?_; clear A2 Ck
   refine s1 s (d_3 rfl (s.ev rfl) (evc _ _)) fun Cm u => ?_; clear s Cl
   refine n1 ?_
   refine b_7 u rfl ?_
   refine d_0 ?_
   refine h_0 ?_
   refine b_0 ?_
   have y := u.as [(7, (Value.int .i64 (A : Int))), (4, (bptr E 0)), (2, (bptr D 0)), (1, (Value.int .i64 x))] rfl; clear u
   refine a_5 ?_
   refine s1 y (a_1 rfl (y.ev rfl)) fun Cn z => ?_; clear y Cm
   refine s1 z (f_4 rfl (z.ev rfl) (evc _ _) (by omega) (by omega)) fun Co AA => ?_; clear z Cn
   refine s1 AA (a_0 rfl (AA.ev rfl)) fun Ek CA => ?_; clear AA Co
   refine e_9 ?_
   have CD : Sep NoB w Am [(blk E 27 [(Value.int .i64 0), (Value.int .i64 0)]), (blk D 46 [(Value.int .i64 t.frm), (Value.int .i64 t.dst), vr, vb, (Value.int .i64 t.err)]), (sl vr 2 t.rows.length (pairs t.rows)), (sl vb 1 t.brk.length (ints t.brk))] := F.keep [2, 3, 4, 5] (by decide) _ rfl rfl; clear F
   exact b_0 ⟨A + 1, ⟨CA.as _ rfl, CD, by omega, (fun i hi => by rcases Nat.lt_succ_iff_lt_or_eq.1 hi with h | h; exact hpc i h; subst h; first | exact m_1 (.inl (by assumption)) | exact m_1 (.inr (.inl (by assumption))) | exact m_1 (.inr (.inr (by assumption))))⟩, by omega⟩
  skip
  rw [decide_eq_false BM] at J
  refine s3 J fun Cp A3 => ?_; clear J BV
  refine s3 A3 fun Cq A4 => ?_; clear A3 Cp
  refine s3 A4 fun Cr A5 => ?_; clear A4 Cq
  refine s3 A5 fun Cs AB => ?_; clear A5 Cr
  refine s1 AB (d_3 rfl (AB.ev rfl) (evc _ _)) fun Ct AC => ?_; clear AB Cs
  refine s1 AC (a_1 rfl (AC.ev rfl)) fun Cu A6 => ?_; clear AC Ct
  refine s3 A6 fun Cv A7 => ?_; clear A6 Cu
  refine s3 A7 fun Cw A8 => ?_; clear A7 Cv
  refine s3 A8 fun Cx A9 => ?_; clear A8 Cw
  refine s3 A9 fun Cy AD => ?_; clear A9 Cx
  refine s1 AD (d_3 rfl (AD.ev rfl) (evc _ _)) fun Cz AE => ?_; clear AD Cy
  refine n1 ?_
  refine b_7 AE rfl ?_
  refine d_0 ?_
  refine h_0 ?_
  refine b_0 ?_
  have AF := AE.as [(7, (Value.int .i64 (A : Int))), (4, (bptr E 0)), (2, (bptr D 0)), (1, (Value.int .i64 x))] rfl; clear AE
  refine a_5 ?_
  refine s1 AF (a_1 rfl (AF.ev rfl)) fun C0 AG => ?_; clear AF Cz
  refine s1 AG (f_4 rfl (AG.ev rfl) (evc _ _) (by omega) (by omega)) fun C1 AH => ?_; clear AG C0
  refine s1 AH (a_0 rfl (AH.ev rfl)) fun El CB => ?_; clear AH C1
  refine e_9 ?_
  have CE : Sep NoB w Am [(blk E 27 [(Value.int .i64 0), (Value.int .i64 0)]), (blk D 46 [(Value.int .i64 t.frm), (Value.int .i64 t.dst), vr, vb, (Value.int .i64 t.err)]), (sl vr 2 t.rows.length (pairs t.rows)), (sl vb 1 t.brk.length (ints t.brk))] := F.keep [2, 3, 4, 5] (by decide) _ rfl rfl; clear F
  exact b_0 ⟨A + 1, ⟨CB.as _ rfl, CE, by omega, (fun i hi => by rcases Nat.lt_succ_iff_lt_or_eq.1 hi with h | h; exact hpc i h; subst h; first | exact m_1 (.inl (by assumption)) | exact m_1 (.inr (.inl (by assumption))) | exact m_1 (.inr (.inr (by assumption))))⟩, by omega⟩
 skip
 rw [decide_eq_false Bs] at N
 refine b_7 N rfl ?_
 refine g_8 ?_
 refine b_6 ?_
 refine b_6 ?_
 refine f_5 ?_
 refine b_0 ?_
 refine b_8 ?_
 have BA := N.as [(4, (bptr E 0))] rfl; clear N
 refine a_5 ?_
 refine s1 BA (e_5 rfl pv0 bd_27_) fun C2 X => ?_; clear BA D3
 refine s7 X (c_2 O rfl j_5 (X.ev rfl) (X.ev rfl) (i := 0) rfl (vs := [(Value.int .i64 0), (Value.int .i64 0)]) rfl rfl rfl (Nat.le_of_ble_eq_true rfl)) ?_
 intro _ Db BK BB; clear X
 have BL : Sep NoB w Db [(blk E 27 [(Value.int .i64 0), (Value.int .i64 0)]), (blk D 46 [(Value.int .i64 t.frm), (Value.int .i64 t.dst), vr, vb, (Value.int .i64 t.err)]), (sl vr 2 t.rows.length (pairs t.rows)), (sl vb 1 t.brk.length (ints t.brk))] := BK; clear BK O
 refine s1 BB (a_0 rfl (evc _ _)) fun Em BC => ?_; clear BB C2
 refine n1 ?_
 refine c_9 ?_
 refine a_9 BC (.inl rfl) (d_2 BC rfl (.cellA rfl j_5 (BL.bk 0 rfl) (l := [(Value.int .i64 0), (Value.int .i64 0)]) rfl rfl) (.tmp rfl)) ?_
 have hz := (made_no (fun i hi => hrw i (by omega)) (fun i hi => hpc i (by omega)))
 exact ⟨by unfold e_3; rw [hz]; rfl, BL.ext⟩
theorem rconvert_ok (A B : Int) (t : TabD) (vr vb : Value) (w : World) (hr : SlAt w vr 2 t.rows.length (pairs t.rows)) (hb : SlAt w vb 1 t.brk.length (ints t.brk)) (hrl : t.rows.length ≤ 1000000) (hbl : t.brk.length ≤ 1000000) (n : Int) (hV : TabV n t) :
  Calls Try.prog 24 #[(Value.agg #[(Value.int .i64 t.frm), (Value.int .i64 t.dst), vr, vb, (Value.int .i64 t.err)]), (Value.agg #[(Value.int .i64 A), (Value.int .i64 B)])] w (Ret fun v w' => v = .agg #[.int .i64 (f_3 t (A, B)).1, .int .i64 (f_3 t (A, B)).2] ∧ Ext NoB w w') := by
 refine a_8 Try.func24 rfl fun a0 S => ?_
 replace S : Fr 40 [] [(0, (Value.agg #[(Value.int .i64 t.frm), (Value.int .i64 t.dst), vr, vb, (Value.int .i64 t.err)])), (1, (Value.agg #[(Value.int .i64 A), (Value.int .i64 B)]))] a0 := S
 have BB := madeV_bd hV A; have BC := madeV_bd hV B; have her := hV.err
 have AT : Sep NoB w w [(sl vr 2 t.rows.length (pairs t.rows)), (sl vb 1 t.brk.length (ints t.brk))] := f_1 ⟨rfl, hr, rfl, hb, trivial⟩
 refine m2 ?_
 refine s2 S (f_0 AT rfl (S.ev rfl) (cs := [(Value.int .i64 t.frm), (Value.int .i64 t.dst), vr, vb, (Value.int .i64 t.err)]) rfl) ?_
 rintro a1 _ w3 ⟨b4, rfl, AU⟩ AD; clear S AT a0
 refine s2 AD (f_0 AU rfl (AD.ev rfl) (cs := [(Value.int .i64 A), (Value.int .i64 B)]) rfl) ?_
 rintro a6 _ w8 ⟨b9, rfl, AK⟩ AS; clear AD AU a1
 refine s2 AS (e_4 AK rfl ze_27 (cs := [(Value.int .i64 0), (Value.int .i64 0)]) rfl) ?_
 rintro Aa _ BD ⟨Q, rfl, D⟩ T; clear AS AK a6
 refine n4 ?_
 refine s1 T (c_5 rfl y_3 (T.ev rfl) (D.bk 2 rfl) (l := [(Value.int .i64 t.frm), (Value.int .i64 t.dst), vr, vb, (Value.int .i64 t.err)]) rfl rfl) fun Ab U => ?_; clear T Aa
 refine s1 U (a_3 rfl l_0 (U.ev rfl)) fun Ac V => ?_; clear U Ab
 refine s1 V (a_2 rfl ty_3 (V.ev rfl) (D.bk 1 rfl) rfl) fun Ad J => ?_; clear V Ac
 refine s2 J (b_4 rfl en_55 (ev2 (J.ev rfl) (J.ev rfl)) (rmade_ok t _ _ _ (D.sk 3 rfl) (D.sk 4 rfl) (by omega) (by omega) _ hV A)) ?_
 rintro Ae _ BE ⟨rfl, AI⟩ W; have AL := D.step AI; clear AI J D Ad
 refine s1 W (a_1 rfl (W.ev rfl)) fun Af X => ?_; clear W Ae
 refine s1 X (d_9 rfl (X.ev rfl) rfl) fun Ag Y => ?_; clear X Af
 refine s1 Y (d_9 rfl (Y.ev rfl) rfl) fun Ah AE => ?_; clear Y Ag
 refine s2 AE (e_4 AL rfl ze_27 (cs := [(Value.int .i64 0), (Value.int .i64 0)]) rfl) ?_
 rintro Ai _ BF ⟨R, rfl, AM⟩ K; clear AE AL Ah
 refine s7 K (c_2 AM rfl j_5 (K.ev rfl) (K.ev rfl) (i := 0) rfl (vs := [(Value.int .i64 ((e_3 t A).1)), (Value.int .i64 ((e_3 t A).2))]) rfl rfl rfl (Nat.le_of_ble_eq_true rfl)) ?_
 intro _ A6 AN Z; clear K
 have E : Sep NoB w A6 [(blk R 27 [(Value.int .i64 ((e_3 t A).1)), (Value.int .i64 ((e_3 t A).2))]), (blk Q 27 [(Value.int .i64 0), (Value.int .i64 0)]), (blk b9 27 [(Value.int .i64 A), (Value.int .i64 B)]), (blk b4 46 [(Value.int .i64 t.frm), (Value.int .i64 t.dst), vr, vb, (Value.int .i64 t.err)]), (sl vr 2 t.rows.length (pairs t.rows)), (sl vb 1 t.brk.length (ints t.brk))] := AN; clear AN AM
 refine s1 Z (a_0 rfl (Z.ev rfl)) fun Aj AF => ?_; clear Z Ai
 refine n2 ?_
 have a := AF.as [(5, (bptr R 0)), (4, (bptr Q 0)), (3, (bptr b9 0)), (2, (bptr b4 0))] rfl; clear AF
 refine a_5 ?_
 refine s1 a (c_5 rfl y_3 (a.ev rfl) (E.bk 3 rfl) (l := [(Value.int .i64 t.frm), (Value.int .i64 t.dst), vr, vb, (Value.int .i64 t.err)]) rfl rfl) fun Ak b => ?_; clear a Aj
 refine s1 b (a_3 rfl l_1 (b.ev rfl)) fun Al c => ?_; clear b Ak
 refine s1 c (a_2 rfl ty_3 (c.ev rfl) (E.bk 2 rfl) rfl) fun Am L => ?_; clear c Al
 refine s2 L (b_4 rfl en_55 (ev2 (L.ev rfl) (L.ev rfl)) (rmade_ok t _ _ _ (E.sk 4 rfl) (E.sk 5 rfl) (by omega) (by omega) _ hV B)) ?_
 rintro An _ BG ⟨rfl, AJ⟩ d; have AO := E.step AJ; clear AJ L E Am
 refine s1 d (a_1 rfl (d.ev rfl)) fun Ao e => ?_; clear d An
 refine s1 e (d_9 rfl (e.ev rfl) rfl) fun Ap f => ?_; clear e Ao
 refine s1 f (d_9 rfl (f.ev rfl) rfl) fun Aq AG => ?_; clear f Ap
 refine s2 AG (e_4 AO rfl ze_27 (cs := [(Value.int .i64 0), (Value.int .i64 0)]) rfl) ?_
 rintro Ar _ BH ⟨AC, rfl, AP⟩ M; clear AG AO Aq
 refine s7 M (c_2 AP rfl j_5 (M.ev rfl) (M.ev rfl) (i := 0) rfl (vs := [(Value.int .i64 ((e_3 t B).1)), (Value.int .i64 ((e_3 t B).2))]) rfl rfl rfl (Nat.le_of_ble_eq_true rfl)) ?_
 intro _ A7 AQ g; clear M
 have C : Sep NoB w A7 [(blk AC 27 [(Value.int .i64 ((e_3 t B).1)), (Value.int .i64 ((e_3 t B).2))]), (blk R 27 [(Value.int .i64 ((e_3 t A).1)), (Value.int .i64 ((e_3 t A).2))]), (blk Q 27 [(Value.int .i64 0), (Value.int .i64 0)]), (blk b9 27 [(Value.int .i64 A), (Value.int .i64 B)]), (blk b4 46 [(Value.int .i64 t.frm), (Value.int .i64 t.dst), vr, vb, (Value.int .i64 t.err)]), (sl vr 2 t.rows.length (pairs t.rows)), (sl vb 1 t.brk.length (ints t.brk))] := AQ; clear AQ AP
 refine s1 g (a_0 rfl (g.ev rfl)) fun As AH => ?_; clear g Ar
 refine n2 ?_
 have h := AH.as [(7, (bptr AC 0)), (5, (bptr R 0)), (4, (bptr Q 0)), (2, (bptr b4 0))] rfl; clear AH
 refine a_5 ?_
 refine s1 h (a_3 rfl l_0 (h.ev rfl)) fun At j => ?_; clear h As
 refine s1 j (a_2 rfl ty_3 (j.ev rfl) (C.bk 1 rfl) rfl) fun Au k => ?_; clear j At
 refine s1 k (a_3 rfl l_0 (k.ev rfl)) fun Av m => ?_; clear k Au
 refine s1 m (a_2 rfl ty_3 (m.ev rfl) (C.bk 0 rfl) rfl) fun Aw N => ?_; clear m Av
 refine s1 N (op_min rfl (N.ev rfl) (N.ev rfl)) fun Ax o => ?_; clear N Aw
 refine s1 o (a_3 rfl fd_46_4 (o.ev rfl)) fun Ay p => ?_; clear o Ax
 refine s1 p (a_2 rfl ty_3 (p.ev rfl) (C.bk 4 rfl) rfl) fun Az O => ?_; clear p Ay
 refine s1 O (h_9 rfl (O.ev rfl) (O.ev rfl) (by omega) (by omega)) fun A0 q => ?_; clear O Az
 refine s1 q (a_3 rfl l_1 (q.ev rfl)) fun A1 r => ?_; clear q A0
 refine s1 r (a_2 rfl ty_3 (r.ev rfl) (C.bk 1 rfl) rfl) fun A2 s => ?_; clear r A1
 refine s1 s (a_3 rfl l_1 (s.ev rfl)) fun A3 u => ?_; clear s A2
 refine s1 u (a_2 rfl ty_3 (u.ev rfl) (C.bk 0 rfl) rfl) fun A4 P => ?_; clear u A3
 refine s1 P (op_max rfl (P.ev rfl) (P.ev rfl)) fun A5 x => ?_; clear P A4
 refine s1 x (a_3 rfl fd_46_4 (x.ev rfl)) fun AV I => ?_; clear x A5
 refine s1 I (a_2 rfl ty_3 (I.ev rfl) (C.bk 4 rfl) rfl) fun AW F => ?_; clear I AV
 refine s1 F (f_4 rfl (F.ev rfl) (F.ev rfl) (by omega) (by omega)) fun AX G => ?_; clear F AW
 refine s1 G (e_5 rfl (pv2 (G.ev rfl) (G.ev rfl)) (m_6 _ _)) fun A9 H => ?_; clear G AX
 refine s7 H (c_2 C rfl j_5 (H.ev rfl) (H.ev rfl) (i := 2) rfl (vs := [(Value.int .i64 ((min ((e_3 t A).1) ((e_3 t B).1)) - t.err)), (Value.int .i64 ((max ((e_3 t A).2) ((e_3 t B).2)) + t.err))]) rfl rfl rfl (Nat.le_of_ble_eq_true rfl)) ?_
 intro _ AY z y; clear H
 have AA : Sep NoB w AY [(blk AC 27 [(Value.int .i64 ((e_3 t B).1)), (Value.int .i64 ((e_3 t B).2))]), (blk R 27 [(Value.int .i64 ((e_3 t A).1)), (Value.int .i64 ((e_3 t A).2))]), (blk Q 27 [(Value.int .i64 ((min ((e_3 t A).1) ((e_3 t B).1)) - t.err)), (Value.int .i64 ((max ((e_3 t A).2) ((e_3 t B).2)) + t.err))]), (blk b9 27 [(Value.int .i64 A), (Value.int .i64 B)]), (blk b4 46 [(Value.int .i64 t.frm), (Value.int .i64 t.dst), vr, vb, (Value.int .i64 t.err)]), (sl vr 2 t.rows.length (pairs t.rows)), (sl vb 1 t.brk.length (ints t.brk))] := z; clear z C
 refine n1 ?_
 refine c_9 ?_
 refine a_9 y (.inl rfl) (a_4 y rfl (.cellA rfl j_5 (AA.bk 2 rfl) (l := [(Value.int .i64 ((min ((e_3 t A).1) ((e_3 t B).1)) - t.err)), (Value.int .i64 ((max ((e_3 t A).2) ((e_3 t B).2)) + t.err))]) rfl rfl)) ?_
 exact ⟨rfl, AA.ext⟩
end Go.Proofs.Ytohgladndklciaa

namespace Go.Hard
section
variable {n : Int} {t : TabD} {k : Nat}
theorem tabB_iff : tabB n t = true ↔ inB t.frm 0 (n - 1) = true ∧ inB t.dst 0 (n - 1) = true ∧ t.frm ≠ t.dst ∧ inB t.err 0 1000 = true ∧ 2 ≤ (t.rows.length : Int) ∧ (∀ i, i < t.rows.length → rowB (t.rows.getD i (0, 0)) = true) ∧ (∀ i, i < t.rows.length - 1 → z_7 (aa_2 t) (t.rows.getD i (0, 0)) (t.rows.getD (i + 1) (0, 0)) = true) ∧ ∀ i, i < t.brk.length → brkB t i = true := by
  unfold tabB headB
  simp only [Bool.and_eq_true, Bool.not_eq_true', decide_eq_false_iff_not, decide_eq_true_eq, h_7, ne_eq, and_assoc]
theorem p_3 (h : inB t.frm 0 (n - 1) = false ∨ inB t.dst 0 (n - 1) = false ∨ t.frm = t.dst ∨ inB t.err 0 1000 = false ∨ (t.rows.length : Int) < 2) : tabB n t = false := by
  cases hb : tabB n t with
  | false => rfl
  | true =>
    have g := tabB_iff.1 hb
    rcases h with h | h | h | h | h
    · rw [h] at g; cases g.1
    · rw [h] at g; cases g.2.1
    · exact absurd h g.2.2.1
    · rw [h] at g; cases g.2.2.2.1
    · have := g.2.2.2.2.1; omega
theorem tab_row (hk : k < t.rows.length) (h : rowB (t.rows.getD k (0, 0)) = false) : tabB n t = false := by
  cases hb : tabB n t with
  | false => rfl
  | true => have g := (tabB_iff.1 hb).2.2.2.2.2.1 k hk; rw [h] at g; cases g
theorem u_4 (hk : k + 1 < t.rows.length) (h : z_7 (aa_2 t) (t.rows.getD k (0, 0)) (t.rows.getD (k + 1) (0, 0)) = false) : tabB n t = false := by
  cases hb : tabB n t with
  | false => rfl
  | true => have g := (tabB_iff.1 hb).2.2.2.2.2.2.1 k (by omega); rw [h] at g; cases g
theorem tab_brk (hk : k < t.brk.length) (h : brkB t k = false) : tabB n t = false := by
  cases hb : tabB n t with
  | false => rfl
  | true => have g := (tabB_iff.1 hb).2.2.2.2.2.2.2 k hk; rw [h] at g; cases g
theorem r_5 {r : Bool} {a b : Int × Int} (h : ¬ a.1 < b.1 ∨ b.2 = a.2 ∨ decide (a.2 < b.2) ≠ r) : z_7 r a b = false := by
  cases hb : z_7 r a b with
  | false => rfl
  | true =>
    unfold z_7 at hb
    simp only [Bool.and_eq_true, decide_eq_true_eq, Bool.not_eq_true', decide_eq_false_iff_not, beq_iff_eq] at hb
    rcases h with h | h | h
    · exact absurd hb.1.1 h
    · exact absurd h hb.1.2
    · exact absurd hb.2 h
theorem step_y {r : Bool} {a b : Int × Int} (h1 : a.1 < b.1) (h2 : ¬ b.2 = a.2) (h3 : decide (a.2 < b.2) = r) : z_7 r a b = true := by
  unfold z_7
  simp only [Bool.and_eq_true, decide_eq_true_eq, Bool.not_eq_true', decide_eq_false_iff_not, beq_iff_eq]
  exact ⟨⟨h1, h2⟩, h3⟩
theorem brk_y0 (h : inB (t.brk.getD 0 0) 0 ((t.rows.length : Int) - 2) = true) : brkB t 0 = true := by
  unfold brkB; rw [show ab_6 t 0 = -1 from rfl]; rw [j_8] at h ⊢; omega
theorem brk_y1 (h : inB (t.brk.getD (k + 1) 0) 0 ((t.rows.length : Int) - 2) = true) (h2 : t.brk.getD k 0 < t.brk.getD (k + 1) 0) : brkB t (k + 1) = true := by
  unfold brkB ab_6; rw [j_8] at h ⊢; dsimp only; omega
theorem brk_n {i : Nat} (hp : ∀ j, j < i → 0 ≤ t.brk.getD j 0) (h : inB (t.brk.getD i 0) 0 ((t.rows.length : Int) - 2) = false) : brkB t i = false := by
  cases hb : brkB t i with
  | false => rfl
  | true =>
    unfold brkB at hb
    rw [j_8] at hb
    have : inB (t.brk.getD i 0) 0 ((t.rows.length : Int) - 2) = true := by
      rw [j_8]
      cases i with
      | zero => rw [show ab_6 t 0 = -1 from rfl] at hb; omega
      | succ j => have := hp j (by omega); unfold ab_6 at hb; dsimp only at hb; omega
    rw [this] at h; cases h
theorem brk_n1 (h : ¬ t.brk.getD k 0 < t.brk.getD (k + 1) 0) : brkB t (k + 1) = false := by
  cases hb : brkB t (k + 1) with
  | false => rfl
  | true => unfold brkB ab_6 at hb; rw [j_8] at hb; dsimp only at hb; omega
end
end Go.Hard

namespace Go.Proofs.Ytohgladndklciaa
open Go.RowKit Go.Shelf Go.Eng Go.Hard
end Go.Proofs.Ytohgladndklciaa

namespace Go.Proofs.Ytohgladndklciaa
open Go.RowKit Go.Shelf Go.Eng Go.Hard
theorem x_0 : fldK Try.prog 46 0 = some 0 := by kernel_rfl
theorem r_6 : fldK Try.prog 46 1 = some 1 := by kernel_rfl
theorem un_4 : Try.prog.underlying 4 = some .bool := by kernel_rfl
theorem neq_n {r : Bool} {a b : Int × Int} (h : (decide (a.2 < b.2) == r) = false) : z_7 r a b = false := r_5 (.inr (.inr (fun e => by rw [e] at h; simp at h)))
theorem neq_y {r : Bool} {a b : Int × Int} (A : a.1 < b.1) (B : ¬ b.2 = a.2) (h : (decide (a.2 < b.2) == r) = true) : z_7 r a b = true := step_y A B (by simpa using h)
theorem back1 {k : Nat} (h : 0 < (k : Int)) : ∃ i, k = i + 1 := ⟨k - 1, by omega⟩
theorem pred1 (i : Nat) : ((((i + 1 : Nat) : Int)) - 1).toNat = i := by omega
set_option maxHeartbeats 4000000 in
theorem istable_ok (n : Int) (hn : 1 ≤ n ∧ n ≤ 4) (t : TabD) (vr vb : Value) (w : World) (hr : SlAt w vr 2 t.rows.length (pairs t.rows)) (hb : SlAt w vb 1 t.brk.length (ints t.brk)) (hrl : t.rows.length ≤ 1000000) (hbl : t.brk.length ≤ 1000000) :
  Calls Try.prog 51 #[(Value.int .i64 n), (Value.agg #[(Value.int .i64 t.frm), (Value.int .i64 t.dst), vr, vb, (Value.int .i64 t.err)])] w (Ret fun v w' => v = .bool (tabB n t) ∧ Ext NoB w w') := by
 refine a_8 Try.func51 rfl fun a0 BS => ?_
 replace BS : Fr 165 [] [(0, (Value.int .i64 n)), (1, (Value.agg #[(Value.int .i64 t.frm), (Value.int .i64 t.dst), vr, vb, (Value.int .i64 t.err)]))] a0 := BS
 have EX : Sep NoB w w [(sl vr 2 t.rows.length (pairs t.rows)), (sl vb 1 t.brk.length (ints t.brk))] := f_1 ⟨rfl, hr, rfl, hb, trivial⟩
 refine m2 ?_
 refine s2 BS (f_0 EX rfl (BS.ev rfl) (cs := [(Value.int .i64 t.frm), (Value.int .i64 t.dst), vr, vb, (Value.int .i64 t.err)]) rfl) ?_
 rintro a1 _ w3 ⟨B, rfl, L⟩ EW; clear BS EX a0
 refine s1 EW (a_0 rfl (evc _ _)) fun a6 EB => ?_; clear EW a1
 refine n2 ?_
 refine m2 ?_
 refine s1 EB (a_3 rfl x_0 (EB.ev rfl)) fun a8 EH => ?_; clear EB a6
 refine s1 EH (a_2 rfl ty_3 (EH.ev rfl) (L.bk 0 rfl) rfl) fun Gg BU => ?_; clear EH a8
 refine s1 BU (a_1 rfl (BU.ev rfl)) fun Gh BV => ?_; clear BU Gg
 refine s1 BV (h_9 rfl (BV.ev rfl) (evc _ _) (by omega) (by omega)) fun Gi AO => ?_; clear BV Gh
 refine s2 AO (b_4 rfl ab_1 (ev3 (AO.ev rfl) (evc _ _) (AO.ev rfl)) (ab_0 _ _ _ _)) ?_
 rintro Gj _ W_ ⟨rfl, hW_⟩ BW; have hW2_ := hW_.symm; subst hW2_; clear hW_ AO Gi
 refine s1 BW (f_6 rfl (BW.ev rfl)) fun Gk BX => ?_; clear BW Gj
 refine s1 BX (a_1 rfl (BX.ev rfl)) fun ES N => ?_; clear BX Gk
 rcases Bool.eq_false_or_eq_true ((inB t.frm 0 (n - 1))) with Br | Br
 ·skip
  rw [Br] at N
  refine s5 N (a_3 rfl r_6 (N.ev rfl)) fun Gl BY => ?_; clear N ES
  refine s5 BY (a_2 rfl ty_3 (BY.ev rfl) (L.bk 0 rfl) rfl) fun Gm BZ => ?_; clear BY Gl
  refine s5 BZ (a_1 rfl (BZ.ev rfl)) fun Gn Ba => ?_; clear BZ Gm
  refine s5 Ba (h_9 rfl (Ba.ev rfl) (evc _ _) (by omega) (by omega)) fun Go An => ?_; clear Ba Gn
  refine s6 An (b_4 rfl ab_1 (ev3 (An.ev rfl) (evc _ _) (An.ev rfl)) (ab_0 _ _ _ _)) ?_
  rintro Gp _ W_ ⟨rfl, hW_⟩ Bb; have hW2_ := hW_.symm; subst hW2_; clear hW_ An Go
  refine s5 Bb (f_6 rfl (Bb.ev rfl)) fun Gq Av => ?_; clear Bb Gp
  refine s1 Av (d_3 rfl (Av.ev rfl) (Av.ev rfl)) fun Gr Bc => ?_; clear Av Gq
  refine s1 Bc (a_1 rfl (Bc.ev rfl)) fun ET O => ?_; clear Bc Gr
  rcases Bool.eq_false_or_eq_true ((inB t.dst 0 (n - 1))) with Bs | Bs
  ·skip
   rw [Bs] at O
   refine s5 O (a_3 rfl x_0 (O.ev rfl)) fun Gs Bd => ?_; clear O ET
   refine s5 Bd (a_2 rfl ty_3 (Bd.ev rfl) (L.bk 0 rfl) rfl) fun Gt Be => ?_; clear Bd Gs
   refine s5 Be (a_3 rfl r_6 (Be.ev rfl)) fun Gu Bf => ?_; clear Be Gt
   refine s5 Bf (a_2 rfl ty_3 (Bf.ev rfl) (L.bk 0 rfl) rfl) fun Gv BF => ?_; clear Bf Gu
   refine s5 BF (n_7 rfl (BF.ev rfl) (BF.ev rfl)) fun Gw BJ => ?_; clear BF Gv
   refine s1 BJ (d_3 rfl (BJ.ev rfl) (BJ.ev rfl)) fun Gx Bg => ?_; clear BJ Gw
   refine s1 Bg (a_1 rfl (Bg.ev rfl)) fun EU P => ?_; clear Bg Gx
   by_cases EI : t.frm = t.dst
   ·skip
    rw [decide_eq_true EI] at P
    refine s3 P fun Gy D7 => ?_; clear P EU
    refine s3 D7 fun Gz D8 => ?_; clear D7 Gy
    refine s3 D8 fun G0 D9 => ?_; clear D8 Gz
    refine s3 D9 fun G1 Bh => ?_; clear D9 G0
    refine s1 Bh (b_9 rfl (Bh.ev rfl) (evc _ _)) fun G2 Bi => ?_; clear Bh G1
    refine s1 Bi (a_1 rfl (Bi.ev rfl)) fun G3 EA => ?_; clear Bi G2
    refine s3 EA fun G4 EC => ?_; clear EA G3
    refine s3 EC fun G5 ED => ?_; clear EC G4
    refine s3 ED fun G6 EE => ?_; clear ED G5
    refine s3 EE fun G7 Bj => ?_; clear EE G6
    refine s1 Bj (b_9 rfl (Bj.ev rfl) (evc _ _)) fun G8 Bk => ?_; clear Bj G7
    refine n1 ?_
    refine c_3 Bk rfl ?_
    refine b_8 ?_
    have EF := Bk.as [] rfl; clear Bk
    refine a_5 ?_
    refine s1 EF (a_0 rfl (evc _ _)) fun Hj EG => ?_; clear EF G8
    refine n1 ?_
    refine c_9 ?_
    refine a_6 ?_
    refine a_9 EG (.inl rfl) (a_4 EG rfl (.tmp rfl)) ?_
    exact ⟨congrArg Value.bool (Eq.symm (p_3 (by first | exact .inl (by assumption) | exact .inr (.inl (by assumption)) | exact .inr (.inr (.inl (by assumption))) | exact .inr (.inr (.inr (.inl (by assumption)))) | exact .inr (.inr (.inr (.inr (by omega))))))), L.ext⟩
   skip
   rw [decide_eq_false EI] at P
   refine s5 P (a_3 rfl fd_46_4 (P.ev rfl)) fun G9 Bl => ?_; clear P EU
   refine s5 Bl (a_2 rfl ty_3 (Bl.ev rfl) (L.bk 0 rfl) rfl) fun HA Bm => ?_; clear Bl G9
   refine s6 Bm (b_4 rfl ab_1 (ev3 (Bm.ev rfl) (evc _ _) (evc _ _)) (ab_0 _ _ _ _)) ?_
   rintro HB _ W_ ⟨rfl, hW_⟩ Bn; have hW2_ := hW_.symm; subst hW2_; clear hW_ Bm HA
   refine s5 Bn (f_6 rfl (Bn.ev rfl)) fun HC BL => ?_; clear Bn HB
   refine s1 BL (d_3 rfl (BL.ev rfl) (BL.ev rfl)) fun HD Bo => ?_; clear BL HC
   refine s1 Bo (a_1 rfl (Bo.ev rfl)) fun EV Q => ?_; clear Bo HD
   rcases Bool.eq_false_or_eq_true ((inB t.err 0 1000)) with Bt | Bt
   ·skip
    rw [Bt] at Q
    refine s5 Q (a_3 rfl g_5 (Q.ev rfl)) fun HE Bp => ?_; clear Q EV
    refine s5 Bp (a_2 rfl l_5 (Bp.ev rfl) (L.bk 0 rfl) rfl) fun HF Bq => ?_; clear Bp HE
    refine s5 Bq (d_6 rfl l_6 (Bq.ev rfl) (L.sk 1 rfl)) fun EY AF => ?_; clear Bq HF
    refine s5 AF (f_8 rfl (AF.ev rfl) (evc _ _)) fun EZ Y => ?_; clear AF EY
    refine s1 Y (d_3 rfl (Y.ev rfl) (Y.ev rfl)) fun Ea F => ?_; clear Y EZ
    refine n1 ?_
    by_cases Dq : (t.rows.length : Int) < 2
    ·skip
     rw [decide_eq_true Dq] at F
     refine c_3 F rfl ?_
     refine b_8 ?_
     have Bu := F.as [] rfl; clear F
     refine a_5 ?_
     refine s1 Bu (a_0 rfl (evc _ _)) fun HH Bv => ?_; clear Bu Ea
     refine n1 ?_
     refine c_9 ?_
     refine a_6 ?_
     refine a_9 Bv (.inl rfl) (a_4 Bv rfl (.tmp rfl)) ?_
     exact ⟨congrArg Value.bool (Eq.symm (p_3 (by first | exact .inl (by assumption) | exact .inr (.inl (by assumption)) | exact .inr (.inr (.inl (by assumption))) | exact .inr (.inr (.inr (.inl (by assumption)))) | exact .inr (.inr (.inr (.inr (by omega))))))), L.ext⟩
    skip
    rw [decide_eq_false Dq] at F
    refine b_7 F rfl ?_
    refine d_0 ?_
    refine b_0 ?_
    refine b_8 ?_
    have Bw := F.as [(3, (bptr B 0))] rfl; clear F
    have Bx := Bw.as [(3, (bptr B 0))] rfl; clear Bw
    refine g_3 mixed Bx L 10 [[], [0], [1], [2], [3], [], [5], [6], [7], [8]] [(Yd.val (bptr B 2)), (Yd.val vr), (Yd.val (eptr vr (1 * 2))), (Yd.val (eptr vr (1 * 2 + 1))), (Yd.val (Value.int .i64 ((t.rows.getD 1 (0, 0)).2))), (Yd.val (bptr B 2)), (Yd.val vr), (Yd.val (eptr vr (0 * 2))), (Yd.val (eptr vr (0 * 2 + 1))), (Yd.val (Value.int .i64 ((t.rows.getD 0 (0, 0)).2)))] (by decide +kernel) rfl rfl ?_ ?_
    ·skip
     refine dq (fun a w hA hS hd => a_3 rfl g_5 (hA.ev rfl)) ?_
     refine dq (fun a w hA hS hd => a_2 rfl l_5 (hq hd 0) (hS.bk 0 rfl) rfl) ?_
     refine dq (fun a w hA hS hd => b_3 rfl l_6 n_3 (hq hd 1) (i := 1) (show _ = Value.int .i64 ((1 : Nat) : Int) from (evc _ _)) (hS.sk 1 rfl) (by decide) (by omega)) ?_
     refine dq (fun a w hA hS hd => d_1 rfl n_1 (hq hd 2) (hS.sk 1 rfl) (by rw [((hS.sk 1 rfl)).1]; omega)) ?_
     refine dq (fun a w hA hS hd => c_4 rfl ty_3 (hq hd 3) (hS.sk 1 rfl) (h_2 (by omega))) ?_
     refine dq (fun a w hA hS hd => a_3 rfl g_5 (hA.ev rfl)) ?_
     refine dq (fun a w hA hS hd => a_2 rfl l_5 (hq hd 5) (hS.bk 0 rfl) rfl) ?_
     refine dq (fun a w hA hS hd => b_3 rfl l_6 n_3 (hq hd 6) (i := 0) (show _ = Value.int .i64 ((0 : Nat) : Int) from (evc _ _)) (hS.sk 1 rfl) (by decide) (by omega)) ?_
     refine dq (fun a w hA hS hd => d_1 rfl n_1 (hq hd 7) (hS.sk 1 rfl) (by rw [((hS.sk 1 rfl)).1]; omega)) ?_
     refine dq (fun a w hA hS hd => c_4 rfl ty_3 (hq hd 8) (hS.sk 1 rfl) (h_2 (by omega))) ?_
     trivial
    intro Eb HZ By Dn BM; clear Bx L
    have Bz := By.add (hz BM 4); clear By
    have Z := Bz.add (hz BM 9); clear Bz
    clear BM
    refine s1 Z (j_0 rfl (Z.ev rfl) (Z.ev rfl)) fun Ec AG => ?_; clear Z Eb
    refine s1 AG (a_0 rfl (AG.ev rfl)) fun Ed B0 => ?_; clear AG Ec
    refine n2 ?_
    refine m2 ?_
    refine s1 B0 (a_0 rfl (evc _ _)) fun Ee B1 => ?_; clear B0 Ed
    refine n1 ?_
    refine c_7 ?_
    have B2 := B1.as [(6, (Value.int .i64 0)), (5, (Value.bool (decide (((t.rows.getD 0 (0, 0)).2) < ((t.rows.getD 1 (0, 0)).2))))), (3, (bptr B 0))] rfl; clear B1
    refine h_3 (G := Nat) (fun (k : Nat) a_ w_ => Fr 165 [] [(6, (Value.int .i64 (k : Int))), (5, (Value.bool (decide (((t.rows.getD 0 (0, 0)).2) < ((t.rows.getD 1 (0, 0)).2))))), (3, (bptr B 0))] a_ ∧ Sep NoB w w_ [(blk B 46 [(Value.int .i64 t.frm), (Value.int .i64 t.dst), vr, vb, (Value.int .i64 t.err)]), (sl vr 2 t.rows.length (pairs t.rows)), (sl vb 1 t.brk.length (ints t.brk))] ∧ (k ≤ t.rows.length) ∧ (∀ i, i < k → rowB (t.rows.getD i (0, 0)) = true) ∧ (∀ i, i + 1 < k → z_7 (aa_2 t) (t.rows.getD i (0, 0)) (t.rows.getD (i + 1) (0, 0)) = true)) (fun k => t.rows.length - k) 0 ⟨B2.as _ rfl, Dn, by omega, (fun _ h => absurd h (Nat.not_lt_zero _)), (fun _ h => absurd h (Nat.not_lt_zero _))⟩ ?_
    clear B2 Dn Ee
    rintro k Ef Ha ⟨AH, A, hkk, hrw, hst⟩
    refine b_8 ?_
    refine m2 ?_
    refine s1 AH (a_1 rfl (AH.ev rfl)) fun Eg AI => ?_; clear AH Ef
    refine s1 AI (a_3 rfl g_5 (AI.ev rfl)) fun Eh AJ => ?_; clear AI Eg
    refine s1 AJ (a_2 rfl l_5 (AJ.ev rfl) (A.bk 0 rfl) rfl) fun Ei AK => ?_; clear AJ Eh
    refine s1 AK (d_6 rfl l_6 (AK.ev rfl) (A.sk 1 rfl)) fun Ej b => ?_; clear AK Ei
    refine s1 b (f_8 rfl (b.ev rfl) (b.ev rfl)) fun Dw D => ?_; clear b Ej
    refine n1 ?_
    by_cases Dr : (k : Int) < (t.rows.length : Int)
    ·skip
     rw [decide_eq_true Dr] at D
     refine c_3 D rfl ?_
     refine d_0 ?_
     refine b_0 ?_
     refine b_8 ?_
     refine c_7 ?_
     refine b_8 ?_
     refine m2 ?_
     refine s1 D (a_3 rfl g_5 (D.ev rfl)) fun Ek AL => ?_; clear D Dw
     refine s1 AL (a_2 rfl l_5 (AL.ev rfl) (A.bk 0 rfl) rfl) fun El AM => ?_; clear AL Ek
     refine s1 AM (a_1 rfl (AM.ev rfl)) fun Em c => ?_; clear AM El
     refine s1 c (b_3 rfl l_6 n_3 (c.ev rfl) (i := k) (c.ev rfl) (A.sk 1 rfl) (by decide) (by omega)) fun En AN => ?_; clear c Em
     refine s1 AN (d_1 rfl l_2 (AN.ev rfl) (A.sk 1 rfl) (by rw [((A.sk 1 rfl)).1]; omega)) fun Eo AP => ?_; clear AN En
     refine s1 AP (c_4 rfl ty_3 (AP.ev rfl) (A.sk 1 rfl) (f_7 (by omega))) fun Ep AQ => ?_; clear AP Eo
     refine s2 AQ (b_4 rfl ab_1 (ev3 (AQ.ev rfl) (evc _ _) (evc _ _)) (ab_0 _ _ _ _)) ?_
     rintro Er _ W_ ⟨rfl, hW_⟩ AR; have hW2_ := hW_.symm; subst hW2_; clear hW_ AQ Ep
     refine s1 AR (f_6 rfl (AR.ev rfl)) fun Es AS => ?_; clear AR Er
     refine s1 AS (a_1 rfl (AS.ev rfl)) fun Dx M => ?_; clear AS Es
     rcases Bool.eq_false_or_eq_true ((inB ((t.rows.getD k (0, 0)).1) 1 100000)) with BN | BN
     ·skip
      rw [BN] at M
      refine s5 M (a_3 rfl g_5 (M.ev rfl)) fun Et AT => ?_; clear M Dx
      refine s5 AT (a_2 rfl l_5 (AT.ev rfl) (A.bk 0 rfl) rfl) fun Eu AU => ?_; clear AT Et
      refine s5 AU (a_1 rfl (AU.ev rfl)) fun Ev d => ?_; clear AU Eu
      refine s5 d (b_3 rfl l_6 n_3 (d.ev rfl) (i := k) (d.ev rfl) (A.sk 1 rfl) (by decide) (by omega)) fun Ew AV => ?_; clear d Ev
      refine s5 AV (d_1 rfl n_1 (AV.ev rfl) (A.sk 1 rfl) (by rw [((A.sk 1 rfl)).1]; omega)) fun Ex AW => ?_; clear AV Ew
      refine s5 AW (c_4 rfl ty_3 (AW.ev rfl) (A.sk 1 rfl) (h_2 (by omega))) fun Ey AX => ?_; clear AW Ex
      refine s6 AX (b_4 rfl ab_1 (ev3 (AX.ev rfl) (evc _ _) (evc _ _)) (ab_0 _ _ _ _)) ?_
      rintro Ez _ W_ ⟨rfl, hW_⟩ AY; have hW2_ := hW_.symm; subst hW2_; clear hW_ AX Ey
      refine s5 AY (f_6 rfl (AY.ev rfl)) fun E0 e => ?_; clear AY Ez
      refine s1 e (d_3 rfl (e.ev rfl) (e.ev rfl)) fun E1 H => ?_; clear e E0
      refine n1 ?_
      rcases Bool.eq_false_or_eq_true ((inB ((t.rows.getD k (0, 0)).2) 1 100000)) with BO | BO
      ·skip
       rw [BO] at H
       refine b_7 H rfl ?_
       refine d_0 ?_
       refine b_0 ?_
       refine b_8 ?_
       have B3 := H.as [(6, (Value.int .i64 (k : Int))), (5, (Value.bool (decide (((t.rows.getD 0 (0, 0)).2) < ((t.rows.getD 1 (0, 0)).2))))), (3, (bptr B 0))] rfl; clear H
       have f := B3.as [(6, (Value.int .i64 (k : Int))), (5, (Value.bool (decide (((t.rows.getD 0 (0, 0)).2) < ((t.rows.getD 1 (0, 0)).2))))), (3, (bptr B 0))] rfl; clear B3
       by_cases AC : 0 < (k : Int)
       ·skip
        have g := f.as [(6, (Value.int .i64 (k : Int))), (5, (Value.bool (decide (((t.rows.getD 0 (0, 0)).2) < ((t.rows.getD 1 (0, 0)).2))))), (3, (bptr B 0))] rfl; clear f
        by_cases BP : ((t.rows.getD k (0, 0)).1) ≤ ((t.rows.getD (((k : Int) - 1).toNat) (0, 0)).1)
        ·skip
         have B4 := g.as [(6, (Value.int .i64 (k : Int))), (5, (Value.bool (decide (((t.rows.getD 0 (0, 0)).2) < ((t.rows.getD 1 (0, 0)).2))))), (3, (bptr B 0))] rfl; clear g
         refine g_3 mixed B4 A 49 [[], [0], [1], [2], [2, 3], [2], [2, 4, 5], [2, 6], [2, 7], [2], [2, 9], [2], [2, 11], [2, 10, 12], [2, 13], [2, 14], [2, 8, 15], [2, 16], [17], [17, 18], [17], [17, 19, 20], [17, 21], [17, 22], [17], [17, 24], [17], [17, 26], [17, 25, 27], [17, 28], [17, 29], [17, 23, 30], [2, 17, 31], [2, 32], [33], [33, 34], [33], [33, 35, 36], [33, 37], [33, 38], [33], [33, 40], [33], [33, 42], [33, 41, 43], [33, 44], [33, 45], [33, 39, 46], [33]] [(Yd.val (Value.int .i64 (k : Int))), (Yd.val (Value.bool true)), (Yd.val (Value.bool true)), (Yd.val (bptr B 2)), (Yd.val vr), (Yd.val (Value.int .i64 (k : Int))), (Yd.val (eptr vr (k * 2))), (Yd.val (eptr vr (k * 2 + 0))), (Yd.val (Value.int .i64 ((t.rows.getD k (0, 0)).1))), (Yd.val (bptr B 2)), (Yd.val vr), (Yd.val (Value.int .i64 (k : Int))), (Yd.val (Value.int .i64 ((k : Int) - 1))), (Yd.val (eptr vr (((k : Int) - 1).toNat * 2))), (Yd.val (eptr vr (((k : Int) - 1).toNat * 2 + 0))), (Yd.val (Value.int .i64 ((t.rows.getD (((k : Int) - 1).toNat) (0, 0)).1))), (Yd.val (Value.bool true)), (Yd.val (Value.bool true)), (Yd.val undef), (Yd.val undef), (Yd.val undef), (Yd.val undef), (Yd.val undef), (Yd.val undef), (Yd.val undef), (Yd.val undef), (Yd.val undef), (Yd.val undef), (Yd.val undef), (Yd.val undef), (Yd.val undef), (Yd.val undef), (Yd.val (Value.bool true)), (Yd.val (Value.bool true)), (Yd.val undef), (Yd.val undef), (Yd.val undef), (Yd.val undef), (Yd.val undef), (Yd.val undef), (Yd.val undef), (Yd.val undef), (Yd.val undef), (Yd.val undef), (Yd.val undef), (Yd.val undef), (Yd.val undef), (Yd.val undef), (Yd.val undef)] (by decide +kernel) rfl rfl ?_ ?_
         ·skip
          refine dq (fun a w hA hS hd => a_1 rfl (hA.ev rfl)) ?_
          refine ⟨fun a w hA hS hd => by have e0 := hx hd 0; exact b_1 rfl (dv (j_0 rfl (a_7 e0) (evc _ _)) hS (by show Value.bool _ = _; simp only [decide_eq_true AC, decide_true, decide_false, Bool.not_true, Bool.not_false])), ?_⟩
          refine dq (fun a w hA hS hd => a_1 rfl (hq hd 1)) ?_
          refine dy 2 (fun a w hA hS hd => a_3 rfl g_5 (hA.ev rfl)) ?_
          refine dy 2 (fun a w hA hS hd => a_2 rfl l_5 (hq hd 3) (hS.bk 0 rfl) rfl) ?_
          refine dy 2 (fun a w hA hS hd => a_1 rfl (hA.ev rfl)) ?_
          refine dy 2 (fun a w hA hS hd => b_3 rfl l_6 n_3 (hq hd 4) (i := k) (hq hd 5) (hS.sk 1 rfl) (by decide) (by omega)) ?_
          refine dy 2 (fun a w hA hS hd => d_1 rfl l_2 (hq hd 6) (hS.sk 1 rfl) (by rw [((hS.sk 1 rfl)).1]; omega)) ?_
          refine dy 2 (fun a w hA hS hd => c_4 rfl ty_3 (hq hd 7) (hS.sk 1 rfl) (f_7 (by omega))) ?_
          refine dy 2 (fun a w hA hS hd => a_3 rfl g_5 (hA.ev rfl)) ?_
          refine dy 2 (fun a w hA hS hd => a_2 rfl l_5 (hq hd 9) (hS.bk 0 rfl) rfl) ?_
          refine dy 2 (fun a w hA hS hd => a_1 rfl (hA.ev rfl)) ?_
          refine dy 2 (fun a w hA hS hd => h_9 rfl (hq hd 11) (evc _ _) (by omega) (by omega)) ?_
          refine dy 2 (fun a w hA hS hd => b_3 rfl l_6 n_3 (hq hd 10) (i := ((k : Int) - 1).toNat) ((hq hd 12).trans (h_1 (by omega))) (hS.sk 1 rfl) (by decide) (by omega)) ?_
          refine dy 2 (fun a w hA hS hd => d_1 rfl l_2 (hq hd 13) (hS.sk 1 rfl) (by rw [((hS.sk 1 rfl)).1]; omega)) ?_
          refine dy 2 (fun a w hA hS hd => c_4 rfl ty_3 (hq hd 14) (hS.sk 1 rfl) (f_7 (by omega))) ?_
          refine ⟨fun a w hA hS hd => by have e2 := hx hd 2; have e8 := hx hd 8; have BR := hx hd 15; exact i_1 rfl rfl e2 (dv (u_3 rfl (a_7 e8) (a_7 BR)) hS (by show Value.bool _ = _; simp only [decide_eq_true BP, decide_true, decide_false, Bool.not_true, Bool.not_false])), ?_⟩
          refine dy 2 (fun a w hA hS hd => a_1 rfl (hq hd 16)) ?_
          refine dn 17 ?_
          refine dn 17 ?_
          refine dn 17 ?_
          refine dn 17 ?_
          refine dn 17 ?_
          refine dn 17 ?_
          refine dn 17 ?_
          refine dn 17 ?_
          refine dn 17 ?_
          refine dn 17 ?_
          refine dn 17 ?_
          refine dn 17 ?_
          refine dn 17 ?_
          refine dn 17 ?_
          refine dy 2 (fun a w hA hS hd => b_9 rfl (hq hd 17) (evc _ _)) ?_
          refine dy 2 (fun a w hA hS hd => a_1 rfl (hq hd 32)) ?_
          refine dn 33 ?_
          refine dn 33 ?_
          refine dn 33 ?_
          refine dn 33 ?_
          refine dn 33 ?_
          refine dn 33 ?_
          refine dn 33 ?_
          refine dn 33 ?_
          refine dn 33 ?_
          refine dn 33 ?_
          refine dn 33 ?_
          refine dn 33 ?_
          refine dn 33 ?_
          refine dn 33 ?_
          refine dn 33 ?_
          trivial
         intro E2 Hb B5 EN R; clear B4 A
         have B6 := B5.add (hz R 2); clear B5
         have B7 := B6.add (hz R 33); clear B6
         have B8 := B7.add (hz R 47); clear B7
         have B9 := B8.add (hz R 48); clear B8
         clear R
         refine s3 B9 fun E3 AZ => ?_; clear B9 E2
         refine s5 AZ (b_9 rfl (AZ.ev rfl) (evc _ _)) fun E4 l => ?_; clear AZ E3
         refine s1 l (b_9 rfl (l.ev rfl) (l.ev rfl)) fun E5 Aa => ?_; clear l E4
         refine n1 ?_
         refine c_3 Aa rfl ?_
         refine b_8 ?_
         have CA := Aa.as [] rfl; clear Aa
         refine a_5 ?_
         refine s1 CA (a_0 rfl (evc _ _)) fun HI CB => ?_; clear CA E5
         refine n1 ?_
         refine c_9 ?_
         refine c_6 ?_
         refine a_6 ?_
         refine a_6 ?_
         refine c_6 ?_
         refine a_6 ?_
         refine a_9 CB (.inl rfl) (a_4 CB rfl (.tmp rfl)) ?_
         exact ⟨congrArg Value.bool (Eq.symm (by first | exact tab_row (k := k) (by omega) (by unfold rowB; rw [Bool.and_eq_false_iff]; first | exact .inl (by assumption) | exact .inr (by assumption)) | (obtain ⟨i, rfl⟩ := back1 (k := k) (by omega); simp only [pred1] at *; exact u_4 (k := i) (by omega) (by first | exact neq_n (by assumption) | exact r_5 (.inl (by omega)) | exact r_5 (.inr (.inl (by omega))))))), EN.ext⟩
        skip
        have m := g.as [(6, (Value.int .i64 (k : Int))), (5, (Value.bool (decide (((t.rows.getD 0 (0, 0)).2) < ((t.rows.getD 1 (0, 0)).2))))), (3, (bptr B 0))] rfl; clear g
        by_cases Ds : ((t.rows.getD k (0, 0)).2) = ((t.rows.getD (((k : Int) - 1).toNat) (0, 0)).2)
        ·skip
         have CC := m.as [(6, (Value.int .i64 (k : Int))), (5, (Value.bool (decide (((t.rows.getD 0 (0, 0)).2) < ((t.rows.getD 1 (0, 0)).2))))), (3, (bptr B 0))] rfl; clear m
         refine g_3 mixed CC A 49 [[], [0], [1], [2], [2, 3], [2], [2, 4, 5], [2, 6], [2, 7], [2], [2, 9], [2], [2, 11], [2, 10, 12], [2, 13], [2, 14], [2, 8, 15], [2, 16], [17], [17, 18], [17], [17, 19, 20], [17, 21], [17, 22], [17], [17, 24], [17], [17, 26], [17, 25, 27], [17, 28], [17, 29], [17, 23, 30], [2, 17, 31], [2, 32], [33], [33, 34], [33], [33, 35, 36], [33, 37], [33, 38], [33], [33, 40], [33], [33, 42], [33, 41, 43], [33, 44], [33, 45], [33, 39, 46], [33]] [(Yd.val (Value.int .i64 (k : Int))), (Yd.val (Value.bool true)), (Yd.val (Value.bool true)), (Yd.val (bptr B 2)), (Yd.val vr), (Yd.val (Value.int .i64 (k : Int))), (Yd.val (eptr vr (k * 2))), (Yd.val (eptr vr (k * 2 + 0))), (Yd.val (Value.int .i64 ((t.rows.getD k (0, 0)).1))), (Yd.val (bptr B 2)), (Yd.val vr), (Yd.val (Value.int .i64 (k : Int))), (Yd.val (Value.int .i64 ((k : Int) - 1))), (Yd.val (eptr vr (((k : Int) - 1).toNat * 2))), (Yd.val (eptr vr (((k : Int) - 1).toNat * 2 + 0))), (Yd.val (Value.int .i64 ((t.rows.getD (((k : Int) - 1).toNat) (0, 0)).1))), (Yd.val (Value.bool false)), (Yd.val (Value.bool false)), (Yd.val (bptr B 2)), (Yd.val vr), (Yd.val (Value.int .i64 (k : Int))), (Yd.val (eptr vr (k * 2))), (Yd.val (eptr vr (k * 2 + 1))), (Yd.val (Value.int .i64 ((t.rows.getD k (0, 0)).2))), (Yd.val (bptr B 2)), (Yd.val vr), (Yd.val (Value.int .i64 (k : Int))), (Yd.val (Value.int .i64 ((k : Int) - 1))), (Yd.val (eptr vr (((k : Int) - 1).toNat * 2))), (Yd.val (eptr vr (((k : Int) - 1).toNat * 2 + 1))), (Yd.val (Value.int .i64 ((t.rows.getD (((k : Int) - 1).toNat) (0, 0)).2))), (Yd.val (Value.bool true)), (Yd.val (Value.bool true)), (Yd.val (Value.bool true)), (Yd.val undef), (Yd.val undef), (Yd.val undef), (Yd.val undef), (Yd.val undef), (Yd.val undef), (Yd.val undef), (Yd.val undef), (Yd.val undef), (Yd.val undef), (Yd.val undef), (Yd.val undef), (Yd.val undef), (Yd.val undef), (Yd.val undef)] (by decide +kernel) rfl rfl ?_ ?_
         ·skip
          refine dq (fun a w hA hS hd => a_1 rfl (hA.ev rfl)) ?_
          refine ⟨fun a w hA hS hd => by have e0 := hx hd 0; exact b_1 rfl (dv (j_0 rfl (a_7 e0) (evc _ _)) hS (by show Value.bool _ = _; simp only [decide_eq_true AC, decide_true, decide_false, Bool.not_true, Bool.not_false])), ?_⟩
          refine dq (fun a w hA hS hd => a_1 rfl (hq hd 1)) ?_
          refine dy 2 (fun a w hA hS hd => a_3 rfl g_5 (hA.ev rfl)) ?_
          refine dy 2 (fun a w hA hS hd => a_2 rfl l_5 (hq hd 3) (hS.bk 0 rfl) rfl) ?_
          refine dy 2 (fun a w hA hS hd => a_1 rfl (hA.ev rfl)) ?_
          refine dy 2 (fun a w hA hS hd => b_3 rfl l_6 n_3 (hq hd 4) (i := k) (hq hd 5) (hS.sk 1 rfl) (by decide) (by omega)) ?_
          refine dy 2 (fun a w hA hS hd => d_1 rfl l_2 (hq hd 6) (hS.sk 1 rfl) (by rw [((hS.sk 1 rfl)).1]; omega)) ?_
          refine dy 2 (fun a w hA hS hd => c_4 rfl ty_3 (hq hd 7) (hS.sk 1 rfl) (f_7 (by omega))) ?_
          refine dy 2 (fun a w hA hS hd => a_3 rfl g_5 (hA.ev rfl)) ?_
          refine dy 2 (fun a w hA hS hd => a_2 rfl l_5 (hq hd 9) (hS.bk 0 rfl) rfl) ?_
          refine dy 2 (fun a w hA hS hd => a_1 rfl (hA.ev rfl)) ?_
          refine dy 2 (fun a w hA hS hd => h_9 rfl (hq hd 11) (evc _ _) (by omega) (by omega)) ?_
          refine dy 2 (fun a w hA hS hd => b_3 rfl l_6 n_3 (hq hd 10) (i := ((k : Int) - 1).toNat) ((hq hd 12).trans (h_1 (by omega))) (hS.sk 1 rfl) (by decide) (by omega)) ?_
          refine dy 2 (fun a w hA hS hd => d_1 rfl l_2 (hq hd 13) (hS.sk 1 rfl) (by rw [((hS.sk 1 rfl)).1]; omega)) ?_
          refine dy 2 (fun a w hA hS hd => c_4 rfl ty_3 (hq hd 14) (hS.sk 1 rfl) (f_7 (by omega))) ?_
          refine ⟨fun a w hA hS hd => by have e2 := hx hd 2; have e8 := hx hd 8; have BR := hx hd 15; exact i_1 rfl rfl e2 (dv (u_3 rfl (a_7 e8) (a_7 BR)) hS (by show Value.bool _ = _; simp only [decide_eq_false BP, decide_true, decide_false, Bool.not_true, Bool.not_false])), ?_⟩
          refine dy 2 (fun a w hA hS hd => a_1 rfl (hq hd 16)) ?_
          refine dy 17 (fun a w hA hS hd => a_3 rfl g_5 (hA.ev rfl)) ?_
          refine dy 17 (fun a w hA hS hd => a_2 rfl l_5 (hq hd 18) (hS.bk 0 rfl) rfl) ?_
          refine dy 17 (fun a w hA hS hd => a_1 rfl (hA.ev rfl)) ?_
          refine dy 17 (fun a w hA hS hd => b_3 rfl l_6 n_3 (hq hd 19) (i := k) (hq hd 20) (hS.sk 1 rfl) (by decide) (by omega)) ?_
          refine dy 17 (fun a w hA hS hd => d_1 rfl n_1 (hq hd 21) (hS.sk 1 rfl) (by rw [((hS.sk 1 rfl)).1]; omega)) ?_
          refine dy 17 (fun a w hA hS hd => c_4 rfl ty_3 (hq hd 22) (hS.sk 1 rfl) (h_2 (by omega))) ?_
          refine dy 17 (fun a w hA hS hd => a_3 rfl g_5 (hA.ev rfl)) ?_
          refine dy 17 (fun a w hA hS hd => a_2 rfl l_5 (hq hd 24) (hS.bk 0 rfl) rfl) ?_
          refine dy 17 (fun a w hA hS hd => a_1 rfl (hA.ev rfl)) ?_
          refine dy 17 (fun a w hA hS hd => h_9 rfl (hq hd 26) (evc _ _) (by omega) (by omega)) ?_
          refine dy 17 (fun a w hA hS hd => b_3 rfl l_6 n_3 (hq hd 25) (i := ((k : Int) - 1).toNat) ((hq hd 27).trans (h_1 (by omega))) (hS.sk 1 rfl) (by decide) (by omega)) ?_
          refine dy 17 (fun a w hA hS hd => d_1 rfl n_1 (hq hd 28) (hS.sk 1 rfl) (by rw [((hS.sk 1 rfl)).1]; omega)) ?_
          refine dy 17 (fun a w hA hS hd => c_4 rfl ty_3 (hq hd 29) (hS.sk 1 rfl) (h_2 (by omega))) ?_
          refine ⟨fun a w hA hS hd => by have D2 := hx hd 17; have D4 := hx hd 23; have D5 := hx hd 30; exact i_1 rfl rfl D2 (dv (n_7 rfl (a_7 D4) (a_7 D5)) hS (by show Value.bool _ = _; simp only [decide_eq_true Ds, decide_true, decide_false, Bool.not_true, Bool.not_false])), ?_⟩
          refine dy 2 (fun a w hA hS hd => d_3 rfl (hq hd 17) (hq hd 31)) ?_
          refine dy 2 (fun a w hA hS hd => a_1 rfl (hq hd 32)) ?_
          refine dn 33 ?_
          refine dn 33 ?_
          refine dn 33 ?_
          refine dn 33 ?_
          refine dn 33 ?_
          refine dn 33 ?_
          refine dn 33 ?_
          refine dn 33 ?_
          refine dn 33 ?_
          refine dn 33 ?_
          refine dn 33 ?_
          refine dn 33 ?_
          refine dn 33 ?_
          refine dn 33 ?_
          refine dn 33 ?_
          trivial
         intro E6 Hc CD EO S; clear CC A
         have CE := CD.add (hz S 2); clear CD
         have CF := CE.add (hz S 33); clear CE
         have CG := CF.add (hz S 47); clear CF
         have CH := CG.add (hz S 48); clear CG
         clear S
         refine s3 CH fun E7 Ab => ?_; clear CH E6
         refine s5 Ab (b_9 rfl (Ab.ev rfl) (evc _ _)) fun E8 o => ?_; clear Ab E7
         refine s1 o (b_9 rfl (o.ev rfl) (o.ev rfl)) fun E9 Ac => ?_; clear o E8
         refine n1 ?_
         refine c_3 Ac rfl ?_
         refine b_8 ?_
         have CI := Ac.as [] rfl; clear Ac
         refine a_5 ?_
         refine s1 CI (a_0 rfl (evc _ _)) fun HJ CJ => ?_; clear CI E9
         refine n1 ?_
         refine c_9 ?_
         refine c_6 ?_
         refine a_6 ?_
         refine a_6 ?_
         refine c_6 ?_
         refine a_6 ?_
         refine a_9 CJ (.inl rfl) (a_4 CJ rfl (.tmp rfl)) ?_
         exact ⟨congrArg Value.bool (Eq.symm (by first | exact tab_row (k := k) (by omega) (by unfold rowB; rw [Bool.and_eq_false_iff]; first | exact .inl (by assumption) | exact .inr (by assumption)) | (obtain ⟨i, rfl⟩ := back1 (k := k) (by omega); simp only [pred1] at *; exact u_4 (k := i) (by omega) (by first | exact neq_n (by assumption) | exact r_5 (.inl (by omega)) | exact r_5 (.inr (.inl (by omega))))))), EO.ext⟩
        skip
        have CK := m.as [(6, (Value.int .i64 (k : Int))), (5, (Value.bool (decide (((t.rows.getD 0 (0, 0)).2) < ((t.rows.getD 1 (0, 0)).2))))), (3, (bptr B 0))] rfl; clear m
        refine g_3 mixed CK A 49 [[], [0], [1], [2], [2, 3], [2], [2, 4, 5], [2, 6], [2, 7], [2], [2, 9], [2], [2, 11], [2, 10, 12], [2, 13], [2, 14], [2, 8, 15], [2, 16], [17], [17, 18], [17], [17, 19, 20], [17, 21], [17, 22], [17], [17, 24], [17], [17, 26], [17, 25, 27], [17, 28], [17, 29], [17, 23, 30], [2, 17, 31], [2, 32], [33], [33, 34], [33], [33, 35, 36], [33, 37], [33, 38], [33], [33, 40], [33], [33, 42], [33, 41, 43], [33, 44], [33, 45], [33, 39, 46], [33]] [(Yd.val (Value.int .i64 (k : Int))), (Yd.val (Value.bool true)), (Yd.val (Value.bool true)), (Yd.val (bptr B 2)), (Yd.val vr), (Yd.val (Value.int .i64 (k : Int))), (Yd.val (eptr vr (k * 2))), (Yd.val (eptr vr (k * 2 + 0))), (Yd.val (Value.int .i64 ((t.rows.getD k (0, 0)).1))), (Yd.val (bptr B 2)), (Yd.val vr), (Yd.val (Value.int .i64 (k : Int))), (Yd.val (Value.int .i64 ((k : Int) - 1))), (Yd.val (eptr vr (((k : Int) - 1).toNat * 2))), (Yd.val (eptr vr (((k : Int) - 1).toNat * 2 + 0))), (Yd.val (Value.int .i64 ((t.rows.getD (((k : Int) - 1).toNat) (0, 0)).1))), (Yd.val (Value.bool false)), (Yd.val (Value.bool false)), (Yd.val (bptr B 2)), (Yd.val vr), (Yd.val (Value.int .i64 (k : Int))), (Yd.val (eptr vr (k * 2))), (Yd.val (eptr vr (k * 2 + 1))), (Yd.val (Value.int .i64 ((t.rows.getD k (0, 0)).2))), (Yd.val (bptr B 2)), (Yd.val vr), (Yd.val (Value.int .i64 (k : Int))), (Yd.val (Value.int .i64 ((k : Int) - 1))), (Yd.val (eptr vr (((k : Int) - 1).toNat * 2))), (Yd.val (eptr vr (((k : Int) - 1).toNat * 2 + 1))), (Yd.val (Value.int .i64 ((t.rows.getD (((k : Int) - 1).toNat) (0, 0)).2))), (Yd.val (Value.bool false)), (Yd.val (Value.bool false)), (Yd.val (Value.bool false)), (Yd.val (bptr B 2)), (Yd.val vr), (Yd.val (Value.int .i64 (k : Int))), (Yd.val (eptr vr (k * 2))), (Yd.val (eptr vr (k * 2 + 1))), (Yd.val (Value.int .i64 ((t.rows.getD k (0, 0)).2))), (Yd.val (bptr B 2)), (Yd.val vr), (Yd.val (Value.int .i64 (k : Int))), (Yd.val (Value.int .i64 ((k : Int) - 1))), (Yd.val (eptr vr (((k : Int) - 1).toNat * 2))), (Yd.val (eptr vr (((k : Int) - 1).toNat * 2 + 1))), (Yd.val (Value.int .i64 ((t.rows.getD (((k : Int) - 1).toNat) (0, 0)).2))), (Yd.val (Value.bool (decide (((t.rows.getD (((k : Int) - 1).toNat) (0, 0)).2) < ((t.rows.getD k (0, 0)).2))))), (Yd.val (Value.bool (decide (((t.rows.getD 0 (0, 0)).2) < ((t.rows.getD 1 (0, 0)).2)))))] (by decide +kernel) rfl rfl ?_ ?_
        ·skip
         refine dq (fun a w hA hS hd => a_1 rfl (hA.ev rfl)) ?_
         refine ⟨fun a w hA hS hd => by have e0 := hx hd 0; exact b_1 rfl (dv (j_0 rfl (a_7 e0) (evc _ _)) hS (by show Value.bool _ = _; simp only [decide_eq_true AC, decide_true, decide_false, Bool.not_true, Bool.not_false])), ?_⟩
         refine dq (fun a w hA hS hd => a_1 rfl (hq hd 1)) ?_
         refine dy 2 (fun a w hA hS hd => a_3 rfl g_5 (hA.ev rfl)) ?_
         refine dy 2 (fun a w hA hS hd => a_2 rfl l_5 (hq hd 3) (hS.bk 0 rfl) rfl) ?_
         refine dy 2 (fun a w hA hS hd => a_1 rfl (hA.ev rfl)) ?_
         refine dy 2 (fun a w hA hS hd => b_3 rfl l_6 n_3 (hq hd 4) (i := k) (hq hd 5) (hS.sk 1 rfl) (by decide) (by omega)) ?_
         refine dy 2 (fun a w hA hS hd => d_1 rfl l_2 (hq hd 6) (hS.sk 1 rfl) (by rw [((hS.sk 1 rfl)).1]; omega)) ?_
         refine dy 2 (fun a w hA hS hd => c_4 rfl ty_3 (hq hd 7) (hS.sk 1 rfl) (f_7 (by omega))) ?_
         refine dy 2 (fun a w hA hS hd => a_3 rfl g_5 (hA.ev rfl)) ?_
         refine dy 2 (fun a w hA hS hd => a_2 rfl l_5 (hq hd 9) (hS.bk 0 rfl) rfl) ?_
         refine dy 2 (fun a w hA hS hd => a_1 rfl (hA.ev rfl)) ?_
         refine dy 2 (fun a w hA hS hd => h_9 rfl (hq hd 11) (evc _ _) (by omega) (by omega)) ?_
         refine dy 2 (fun a w hA hS hd => b_3 rfl l_6 n_3 (hq hd 10) (i := ((k : Int) - 1).toNat) ((hq hd 12).trans (h_1 (by omega))) (hS.sk 1 rfl) (by decide) (by omega)) ?_
         refine dy 2 (fun a w hA hS hd => d_1 rfl l_2 (hq hd 13) (hS.sk 1 rfl) (by rw [((hS.sk 1 rfl)).1]; omega)) ?_
         refine dy 2 (fun a w hA hS hd => c_4 rfl ty_3 (hq hd 14) (hS.sk 1 rfl) (f_7 (by omega))) ?_
         refine ⟨fun a w hA hS hd => by have e2 := hx hd 2; have e8 := hx hd 8; have BR := hx hd 15; exact i_1 rfl rfl e2 (dv (u_3 rfl (a_7 e8) (a_7 BR)) hS (by show Value.bool _ = _; simp only [decide_eq_false BP, decide_true, decide_false, Bool.not_true, Bool.not_false])), ?_⟩
         refine dy 2 (fun a w hA hS hd => a_1 rfl (hq hd 16)) ?_
         refine dy 17 (fun a w hA hS hd => a_3 rfl g_5 (hA.ev rfl)) ?_
         refine dy 17 (fun a w hA hS hd => a_2 rfl l_5 (hq hd 18) (hS.bk 0 rfl) rfl) ?_
         refine dy 17 (fun a w hA hS hd => a_1 rfl (hA.ev rfl)) ?_
         refine dy 17 (fun a w hA hS hd => b_3 rfl l_6 n_3 (hq hd 19) (i := k) (hq hd 20) (hS.sk 1 rfl) (by decide) (by omega)) ?_
         refine dy 17 (fun a w hA hS hd => d_1 rfl n_1 (hq hd 21) (hS.sk 1 rfl) (by rw [((hS.sk 1 rfl)).1]; omega)) ?_
         refine dy 17 (fun a w hA hS hd => c_4 rfl ty_3 (hq hd 22) (hS.sk 1 rfl) (h_2 (by omega))) ?_
         refine dy 17 (fun a w hA hS hd => a_3 rfl g_5 (hA.ev rfl)) ?_
         refine dy 17 (fun a w hA hS hd => a_2 rfl l_5 (hq hd 24) (hS.bk 0 rfl) rfl) ?_
         refine dy 17 (fun a w hA hS hd => a_1 rfl (hA.ev rfl)) ?_
         refine dy 17 (fun a w hA hS hd => h_9 rfl (hq hd 26) (evc _ _) (by omega) (by omega)) ?_
         refine dy 17 (fun a w hA hS hd => b_3 rfl l_6 n_3 (hq hd 25) (i := ((k : Int) - 1).toNat) ((hq hd 27).trans (h_1 (by omega))) (hS.sk 1 rfl) (by decide) (by omega)) ?_
         refine dy 17 (fun a w hA hS hd => d_1 rfl n_1 (hq hd 28) (hS.sk 1 rfl) (by rw [((hS.sk 1 rfl)).1]; omega)) ?_
         refine dy 17 (fun a w hA hS hd => c_4 rfl ty_3 (hq hd 29) (hS.sk 1 rfl) (h_2 (by omega))) ?_
         refine ⟨fun a w hA hS hd => by have D2 := hx hd 17; have D4 := hx hd 23; have D5 := hx hd 30; exact i_1 rfl rfl D2 (dv (n_7 rfl (a_7 D4) (a_7 D5)) hS (by show Value.bool _ = _; simp only [decide_eq_false Ds, decide_true, decide_false, Bool.not_true, Bool.not_false])), ?_⟩
         refine dy 2 (fun a w hA hS hd => d_3 rfl (hq hd 17) (hq hd 31)) ?_
         refine dy 2 (fun a w hA hS hd => a_1 rfl (hq hd 32)) ?_
         refine dy 33 (fun a w hA hS hd => a_3 rfl g_5 (hA.ev rfl)) ?_
         refine dy 33 (fun a w hA hS hd => a_2 rfl l_5 (hq hd 34) (hS.bk 0 rfl) rfl) ?_
         refine dy 33 (fun a w hA hS hd => a_1 rfl (hA.ev rfl)) ?_
         refine dy 33 (fun a w hA hS hd => b_3 rfl l_6 n_3 (hq hd 35) (i := k) (hq hd 36) (hS.sk 1 rfl) (by decide) (by omega)) ?_
         refine dy 33 (fun a w hA hS hd => d_1 rfl n_1 (hq hd 37) (hS.sk 1 rfl) (by rw [((hS.sk 1 rfl)).1]; omega)) ?_
         refine dy 33 (fun a w hA hS hd => c_4 rfl ty_3 (hq hd 38) (hS.sk 1 rfl) (h_2 (by omega))) ?_
         refine dy 33 (fun a w hA hS hd => a_3 rfl g_5 (hA.ev rfl)) ?_
         refine dy 33 (fun a w hA hS hd => a_2 rfl l_5 (hq hd 40) (hS.bk 0 rfl) rfl) ?_
         refine dy 33 (fun a w hA hS hd => a_1 rfl (hA.ev rfl)) ?_
         refine dy 33 (fun a w hA hS hd => h_9 rfl (hq hd 42) (evc _ _) (by omega) (by omega)) ?_
         refine dy 33 (fun a w hA hS hd => b_3 rfl l_6 n_3 (hq hd 41) (i := ((k : Int) - 1).toNat) ((hq hd 43).trans (h_1 (by omega))) (hS.sk 1 rfl) (by decide) (by omega)) ?_
         refine dy 33 (fun a w hA hS hd => d_1 rfl n_1 (hq hd 44) (hS.sk 1 rfl) (by rw [((hS.sk 1 rfl)).1]; omega)) ?_
         refine dy 33 (fun a w hA hS hd => c_4 rfl ty_3 (hq hd 45) (hS.sk 1 rfl) (h_2 (by omega))) ?_
         refine dy 33 (fun a w hA hS hd => j_0 rfl (hq hd 39) (hq hd 46)) ?_
         refine dy 33 (fun a w hA hS hd => a_1 rfl (hA.ev rfl)) ?_
         trivial
        intro FA Hd CL Do T; clear CK A
        have CM := CL.add (hz T 2); clear CL
        have CN := CM.add (hz T 33); clear CM
        have CO := CN.add (hz T 47); clear CN
        have p := CO.add (hz T 48); clear CO
        clear T
        refine s5 p (op_neqB un_4 rfl (p.ev rfl) (p.ev rfl)) fun FB q => ?_; clear p FA
        refine s5 q (d_3 rfl (q.ev rfl) (q.ev rfl)) fun FC r => ?_; clear q FB
        refine s1 r (b_9 rfl (r.ev rfl) (r.ev rfl)) fun Dy I => ?_; clear r FC
        refine n1 ?_
        rcases Bool.eq_false_or_eq_true ((decide (((t.rows.getD (((k : Int) - 1).toNat) (0, 0)).2) < ((t.rows.getD k (0, 0)).2))) == (decide (((t.rows.getD 0 (0, 0)).2) < ((t.rows.getD 1 (0, 0)).2)))) with BQ | BQ
        ·skip
         rw [BQ] at I
         refine b_7 I rfl ?_
         refine d_0 ?_
         refine h_0 ?_
         refine b_0 ?_
         have Ad := I.as [(6, (Value.int .i64 (k : Int))), (5, (Value.bool (decide (((t.rows.getD 0 (0, 0)).2) < ((t.rows.getD 1 (0, 0)).2))))), (3, (bptr B 0))] rfl; clear I
         refine a_5 ?_
         refine s1 Ad (a_1 rfl (Ad.ev rfl)) fun FD Ae => ?_; clear Ad Dy
         refine s1 Ae (f_4 rfl (Ae.ev rfl) (evc _ _) (by omega) (by omega)) fun FE Af => ?_; clear Ae FD
         refine s1 Af (a_0 rfl (Af.ev rfl)) fun HK EJ => ?_; clear Af FE
         refine e_9 ?_
         exact b_0 ⟨k + 1, ⟨EJ.as _ rfl, Do, by omega, (fun i hi => by rcases Nat.lt_succ_iff_lt_or_eq.1 hi with h | h; exact hrw i h; subst h; (unfold rowB; rw [Bool.and_eq_true]; exact ⟨by assumption, by assumption⟩)), (fun i hi => by rcases Nat.lt_succ_iff_lt_or_eq.1 hi with h | h; exact hst i h; subst h; first | (exfalso; omega) | (simp only [pred1] at *; exact neq_y (by omega) (by omega) (by assumption)))⟩, by omega⟩
        skip
        rw [BQ] at I
        refine c_3 I rfl ?_
        refine b_8 ?_
        have CP := I.as [] rfl; clear I
        refine a_5 ?_
        refine s1 CP (a_0 rfl (evc _ _)) fun HL CQ => ?_; clear CP Dy
        refine n1 ?_
        refine c_9 ?_
        refine c_6 ?_
        refine a_6 ?_
        refine a_6 ?_
        refine c_6 ?_
        refine a_6 ?_
        refine a_9 CQ (.inl rfl) (a_4 CQ rfl (.tmp rfl)) ?_
        exact ⟨congrArg Value.bool (Eq.symm (by first | exact tab_row (k := k) (by omega) (by unfold rowB; rw [Bool.and_eq_false_iff]; first | exact .inl (by assumption) | exact .inr (by assumption)) | (obtain ⟨i, rfl⟩ := back1 (k := k) (by omega); simp only [pred1] at *; exact u_4 (k := i) (by omega) (by first | exact neq_n (by assumption) | exact r_5 (.inl (by omega)) | exact r_5 (.inr (.inl (by omega))))))), Do.ext⟩
       skip
       have CR := f.as [(6, (Value.int .i64 (k : Int))), (5, (Value.bool (decide (((t.rows.getD 0 (0, 0)).2) < ((t.rows.getD 1 (0, 0)).2))))), (3, (bptr B 0))] rfl; clear f
       refine g_3 mixed CR A 49 [[], [0], [1], [2], [2, 3], [2], [2, 4, 5], [2, 6], [2, 7], [2], [2, 9], [2], [2, 11], [2, 10, 12], [2, 13], [2, 14], [2, 8, 15], [2, 16], [17], [17, 18], [17], [17, 19, 20], [17, 21], [17, 22], [17], [17, 24], [17], [17, 26], [17, 25, 27], [17, 28], [17, 29], [17, 23, 30], [2, 17, 31], [2, 32], [33], [33, 34], [33], [33, 35, 36], [33, 37], [33, 38], [33], [33, 40], [33], [33, 42], [33, 41, 43], [33, 44], [33, 45], [33, 39, 46], [33]] [(Yd.val (Value.int .i64 (k : Int))), (Yd.val (Value.bool false)), (Yd.val (Value.bool false)), (Yd.val undef), (Yd.val undef), (Yd.val undef), (Yd.val undef), (Yd.val undef), (Yd.val undef), (Yd.val undef), (Yd.val undef), (Yd.val undef), (Yd.val undef), (Yd.val undef), (Yd.val undef), (Yd.val undef), (Yd.val undef), (Yd.val undef), (Yd.val undef), (Yd.val undef), (Yd.val undef), (Yd.val undef), (Yd.val undef), (Yd.val undef), (Yd.val undef), (Yd.val undef), (Yd.val undef), (Yd.val undef), (Yd.val undef), (Yd.val undef), (Yd.val undef), (Yd.val undef), (Yd.val undef), (Yd.val undef), (Yd.val undef), (Yd.val undef), (Yd.val undef), (Yd.val undef), (Yd.val undef), (Yd.val undef), (Yd.val undef), (Yd.val undef), (Yd.val undef), (Yd.val undef), (Yd.val undef), (Yd.val undef), (Yd.val undef), (Yd.val undef), (Yd.val undef)] (by decide +kernel) rfl rfl ?_ ?_
       ·skip
        refine dq (fun a w hA hS hd => a_1 rfl (hA.ev rfl)) ?_
        refine ⟨fun a w hA hS hd => by have e0 := hx hd 0; exact b_1 rfl (dv (j_0 rfl (a_7 e0) (evc _ _)) hS (by show Value.bool _ = _; simp only [decide_eq_false AC, decide_true, decide_false, Bool.not_true, Bool.not_false])), ?_⟩
        refine dq (fun a w hA hS hd => a_1 rfl (hq hd 1)) ?_
        refine dn 2 ?_
        refine dn 2 ?_
        refine dn 2 ?_
        refine dn 2 ?_
        refine dn 2 ?_
        refine dn 2 ?_
        refine dn 2 ?_
        refine dn 2 ?_
        refine dn 2 ?_
        refine dn 2 ?_
        refine dn 2 ?_
        refine dn 2 ?_
        refine dn 2 ?_
        refine dn 2 ?_
        refine dn 2 ?_
        refine du 17 ?_
        refine du 17 ?_
        refine du 17 ?_
        refine du 17 ?_
        refine du 17 ?_
        refine du 17 ?_
        refine du 17 ?_
        refine du 17 ?_
        refine du 17 ?_
        refine du 17 ?_
        refine du 17 ?_
        refine du 17 ?_
        refine du 17 ?_
        refine du 17 ?_
        refine dn 2 ?_
        refine dn 2 ?_
        refine du 33 ?_
        refine du 33 ?_
        refine du 33 ?_
        refine du 33 ?_
        refine du 33 ?_
        refine du 33 ?_
        refine du 33 ?_
        refine du 33 ?_
        refine du 33 ?_
        refine du 33 ?_
        refine du 33 ?_
        refine du 33 ?_
        refine du 33 ?_
        refine du 33 ?_
        refine du 33 ?_
        trivial
       intro FF He CS EP U; clear CR A
       have CT := CS.add (hz U 2); clear CS
       have CU := CT.add (hz U 33); clear CT
       have CV := CU.add (hz U 47); clear CU
       have CW := CV.add (hz U 48); clear CV
       clear U
       refine s4 CW fun FG CX => ?_; clear CW FF
       refine s3 CX fun FH Ag => ?_; clear CX FG
       refine s1 Ag (d_3 rfl (Ag.ev rfl) (evc _ _)) fun FI Ah => ?_; clear Ag FH
       refine n1 ?_
       refine b_7 Ah rfl ?_
       refine d_0 ?_
       refine h_0 ?_
       refine b_0 ?_
       have Ai := Ah.as [(6, (Value.int .i64 (k : Int))), (5, (Value.bool (decide (((t.rows.getD 0 (0, 0)).2) < ((t.rows.getD 1 (0, 0)).2))))), (3, (bptr B 0))] rfl; clear Ah
       refine a_5 ?_
       refine s1 Ai (a_1 rfl (Ai.ev rfl)) fun FJ Aj => ?_; clear Ai FI
       refine s1 Aj (f_4 rfl (Aj.ev rfl) (evc _ _) (by omega) (by omega)) fun FK Ak => ?_; clear Aj FJ
       refine s1 Ak (a_0 rfl (Ak.ev rfl)) fun HM EK => ?_; clear Ak FK
       refine e_9 ?_
       exact b_0 ⟨k + 1, ⟨EK.as _ rfl, EP, by omega, (fun i hi => by rcases Nat.lt_succ_iff_lt_or_eq.1 hi with h | h; exact hrw i h; subst h; (unfold rowB; rw [Bool.and_eq_true]; exact ⟨by assumption, by assumption⟩)), (fun i hi => by rcases Nat.lt_succ_iff_lt_or_eq.1 hi with h | h; exact hst i h; subst h; first | (exfalso; omega) | (simp only [pred1] at *; exact neq_y (by omega) (by omega) (by assumption)))⟩, by omega⟩
      skip
      rw [BO] at H
      refine c_3 H rfl ?_
      refine b_8 ?_
      have CY := H.as [] rfl; clear H
      refine a_5 ?_
      refine s1 CY (a_0 rfl (evc _ _)) fun HN CZ => ?_; clear CY E1
      refine n1 ?_
      refine c_9 ?_
      refine a_6 ?_
      refine c_6 ?_
      refine a_6 ?_
      refine a_6 ?_
      refine c_6 ?_
      refine a_6 ?_
      refine a_9 CZ (.inl rfl) (a_4 CZ rfl (.tmp rfl)) ?_
      exact ⟨congrArg Value.bool (Eq.symm (by first | exact tab_row (k := k) (by omega) (by unfold rowB; rw [Bool.and_eq_false_iff]; first | exact .inl (by assumption) | exact .inr (by assumption)) | (obtain ⟨i, rfl⟩ := back1 (k := k) (by omega); simp only [pred1] at *; exact u_4 (k := i) (by omega) (by first | exact neq_n (by assumption) | exact r_5 (.inl (by omega)) | exact r_5 (.inr (.inl (by omega))))))), A.ext⟩
     skip
     rw [BN] at M
     refine s3 M fun FL Ca => ?_; clear M Dx
     refine s3 Ca fun FM Cb => ?_; clear Ca FL
     refine s3 Cb fun FN Cc => ?_; clear Cb FM
     refine s3 Cc fun FO Cd => ?_; clear Cc FN
     refine s3 Cd fun FP Ce => ?_; clear Cd FO
     refine s3 Ce fun FQ Cf => ?_; clear Ce FP
     refine s3 Cf fun FSa Cg => ?_; clear Cf FQ
     refine s3 Cg fun FT Al => ?_; clear Cg FSa
     refine s1 Al (b_9 rfl (Al.ev rfl) (evc _ _)) fun FU Am => ?_; clear Al FT
     refine n1 ?_
     refine c_3 Am rfl ?_
     refine b_8 ?_
     have Ch := Am.as [] rfl; clear Am
     refine a_5 ?_
     refine s1 Ch (a_0 rfl (evc _ _)) fun HO Ci => ?_; clear Ch FU
     refine n1 ?_
     refine c_9 ?_
     refine a_6 ?_
     refine c_6 ?_
     refine a_6 ?_
     refine a_6 ?_
     refine c_6 ?_
     refine a_6 ?_
     refine a_9 Ci (.inl rfl) (a_4 Ci rfl (.tmp rfl)) ?_
     exact ⟨congrArg Value.bool (Eq.symm (by first | exact tab_row (k := k) (by omega) (by unfold rowB; rw [Bool.and_eq_false_iff]; first | exact .inl (by assumption) | exact .inr (by assumption)) | (obtain ⟨i, rfl⟩ := back1 (k := k) (by omega); simp only [pred1] at *; exact u_4 (k := i) (by omega) (by first | exact neq_n (by assumption) | exact r_5 (.inl (by omega)) | exact r_5 (.inr (.inl (by omega))))))), A.ext⟩
    skip
    rw [decide_eq_false Dr] at D
    refine b_7 D rfl ?_
    refine g_8 ?_
    refine b_6 ?_
    refine b_6 ?_
    refine f_5 ?_
    refine b_0 ?_
    refine b_8 ?_
    refine b_8 ?_
    have Cj := D.as [(3, (bptr B 0))] rfl; clear D
    refine a_5 ?_
    refine s1 Cj (a_0 rfl (evc _ _)) fun FV Ck => ?_; clear Cj Dw
    refine n1 ?_
    refine c_7 ?_
    have Cl := Ck.as [(7, (Value.int .i64 0)), (3, (bptr B 0))] rfl; clear Ck
    refine h_3 (G := Nat) (fun (C : Nat) a_ w_ => Fr 165 [] [(7, (Value.int .i64 (C : Int))), (3, (bptr B 0))] a_ ∧ Sep NoB w w_ [(blk B 46 [(Value.int .i64 t.frm), (Value.int .i64 t.dst), vr, vb, (Value.int .i64 t.err)]), (sl vr 2 t.rows.length (pairs t.rows)), (sl vb 1 t.brk.length (ints t.brk))] ∧ (C ≤ t.brk.length) ∧ (∀ i, i < C → 0 ≤ t.brk.getD i 0) ∧ (∀ i, i < C → brkB t i = true)) (fun C => t.brk.length - C) 0 ⟨Cl.as _ rfl, A, by omega, (fun _ h => absurd h (Nat.not_lt_zero _)), (fun _ h => absurd h (Nat.not_lt_zero _))⟩ ?_
    clear Cl A FV
    rintro C FW Hf ⟨Ao, E, hkk1, hbk0, hbk⟩
    refine b_8 ?_
    refine m2 ?_
    refine s1 Ao (a_1 rfl (Ao.ev rfl)) fun FX Ap => ?_; clear Ao FW
    refine s1 Ap (a_3 rfl u_9 (Ap.ev rfl)) fun FY Aq => ?_; clear Ap FX
    refine s1 Aq (a_2 rfl aa_6 (Aq.ev rfl) (E.bk 0 rfl) rfl) fun FZ Ar => ?_; clear Aq FY
    refine s1 Ar (d_6 rfl p_4 (Ar.ev rfl) (E.sk 2 rfl)) fun Fa s => ?_; clear Ar FZ
    refine s1 s (f_8 rfl (s.ev rfl) (s.ev rfl)) fun Fb J => ?_; clear s Fa
    refine n1 ?_
    by_cases Dt : (C : Int) < (t.brk.length : Int)
    ·skip
     rw [decide_eq_true Dt] at J
     refine c_3 J rfl ?_
     refine d_0 ?_
     refine b_0 ?_
     refine b_8 ?_
     refine c_7 ?_
     refine b_8 ?_
     have u := J.as [(7, (Value.int .i64 (C : Int))), (3, (bptr B 0))] rfl; clear J
     rcases Bool.eq_false_or_eq_true ((inB (t.brk.getD C 0) 0 ((t.rows.length : Int) - 2))) with AD | AD
     ·skip
      have x := u.as [(7, (Value.int .i64 (C : Int))), (3, (bptr B 0))] rfl; clear u
      by_cases Du : 0 < (C : Int)
      ·skip
       have Cm := x.as [(7, (Value.int .i64 (C : Int))), (3, (bptr B 0))] rfl; clear x
       refine g_3 mixed Cm E 26 [[], [0], [], [1, 2], [3], [], [5], [6], [7], [4, 8], [9], [10], [11], [11, 12], [11, 13], [14], [14, 15], [14], [14, 16, 17], [14, 18], [14], [14, 20], [14], [14, 22], [14, 21, 23], [14, 24]] [(Yd.val (bptr B 3)), (Yd.val vb), (Yd.val (Value.int .i64 (C : Int))), (Yd.val (eptr vb (C * 1))), (Yd.val (Value.int .i64 (t.brk.getD C 0))), (Yd.val (bptr B 2)), (Yd.val vr), (Yd.val (Value.int .i64 (t.rows.length : Int))), (Yd.val (Value.int .i64 ((t.rows.length : Int) - 2))), (Yd.val (Value.bool true)), (Yd.val (Value.bool (!true))), (Yd.val (Value.bool (!true))), (Yd.val (Value.int .i64 (C : Int))), (Yd.val (Value.bool true)), (Yd.val (Value.bool true)), (Yd.val (bptr B 3)), (Yd.val vb), (Yd.val (Value.int .i64 (C : Int))), (Yd.val (eptr vb (C * 1))), (Yd.val (Value.int .i64 (t.brk.getD C 0))), (Yd.val (bptr B 3)), (Yd.val vb), (Yd.val (Value.int .i64 (C : Int))), (Yd.val (Value.int .i64 ((C : Int) - 1))), (Yd.val (eptr vb (((C : Int) - 1).toNat * 1))), (Yd.val (Value.int .i64 (t.brk.getD (((C : Int) - 1).toNat) 0)))] (by decide +kernel) rfl rfl ?_ ?_
       ·skip
        refine dq (fun a w hA hS hd => a_3 rfl u_9 (hA.ev rfl)) ?_
        refine dq (fun a w hA hS hd => a_2 rfl aa_6 (hq hd 0) (hS.bk 0 rfl) rfl) ?_
        refine dq (fun a w hA hS hd => a_1 rfl (hA.ev rfl)) ?_
        refine dq (fun a w hA hS hd => b_3 rfl p_4 ty_3 (hq hd 1) (i := C) (hq hd 2) (hS.sk 2 rfl) (by decide) (by omega)) ?_
        refine dq (fun a w hA hS hd => c_4 rfl ty_3 (hq hd 3) (hS.sk 2 rfl) (ints_at (by omega))) ?_
        refine dq (fun a w hA hS hd => a_3 rfl g_5 (hA.ev rfl)) ?_
        refine dq (fun a w hA hS hd => a_2 rfl l_5 (hq hd 5) (hS.bk 0 rfl) rfl) ?_
        refine dq (fun a w hA hS hd => d_6 rfl l_6 (hq hd 6) (hS.sk 1 rfl)) ?_
        refine dq (fun a w hA hS hd => h_9 rfl (hq hd 7) (evc _ _) (by omega) (by omega)) ?_
        refine ⟨fun a w hA hS hd => by have e4 := hx hd 4; have e8 := hx hd 8; exact b_1 rfl (dv (b_4 rfl ab_1 (ev3 (a_7 e4) (evc _ _) (a_7 e8)) (ab_0 _ _ _ _)) hS (by show Value.bool _ = _; simp only [AD, decide_true, decide_false, Bool.not_true, Bool.not_false])), ?_⟩
        refine dq (fun a w hA hS hd => f_6 rfl (hq hd 9)) ?_
        refine dq (fun a w hA hS hd => a_1 rfl (hq hd 10)) ?_
        refine dy 11 (fun a w hA hS hd => a_1 rfl (hA.ev rfl)) ?_
        refine ⟨fun a w hA hS hd => by have D0 := hx hd 11; have D1 := hx hd 12; exact i_1 rfl rfl D0 (dv (j_0 rfl (a_7 D1) (evc _ _)) hS (by show Value.bool _ = _; simp only [decide_eq_true Du, decide_true, decide_false, Bool.not_true, Bool.not_false])), ?_⟩
        refine dy 11 (fun a w hA hS hd => a_1 rfl (hq hd 13)) ?_
        refine dy 14 (fun a w hA hS hd => a_3 rfl u_9 (hA.ev rfl)) ?_
        refine dy 14 (fun a w hA hS hd => a_2 rfl aa_6 (hq hd 15) (hS.bk 0 rfl) rfl) ?_
        refine dy 14 (fun a w hA hS hd => a_1 rfl (hA.ev rfl)) ?_
        refine dy 14 (fun a w hA hS hd => b_3 rfl p_4 ty_3 (hq hd 16) (i := C) (hq hd 17) (hS.sk 2 rfl) (by decide) (by omega)) ?_
        refine dy 14 (fun a w hA hS hd => c_4 rfl ty_3 (hq hd 18) (hS.sk 2 rfl) (ints_at (by omega))) ?_
        refine dy 14 (fun a w hA hS hd => a_3 rfl u_9 (hA.ev rfl)) ?_
        refine dy 14 (fun a w hA hS hd => a_2 rfl aa_6 (hq hd 20) (hS.bk 0 rfl) rfl) ?_
        refine dy 14 (fun a w hA hS hd => a_1 rfl (hA.ev rfl)) ?_
        refine dy 14 (fun a w hA hS hd => h_9 rfl (hq hd 22) (evc _ _) (by omega) (by omega)) ?_
        refine dy 14 (fun a w hA hS hd => b_3 rfl p_4 ty_3 (hq hd 21) (i := ((C : Int) - 1).toNat) ((hq hd 23).trans (h_1 (by omega))) (hS.sk 2 rfl) (by decide) (by omega)) ?_
        refine dy 14 (fun a w hA hS hd => c_4 rfl ty_3 (hq hd 24) (hS.sk 2 rfl) (ints_at (by omega))) ?_
        trivial
       intro Fc Hg Cn Dp V; clear Cm E
       have Co := Cn.add (hz V 11); clear Cn
       have Cp := Co.add (hz V 14); clear Co
       have Cq := Cp.add (hz V 19); clear Cp
       have y := Cq.add (hz V 25); clear Cq
       clear V
       refine s5 y (u_3 rfl (y.ev rfl) (y.ev rfl)) fun Fd z => ?_; clear y Fc
       refine s5 z (b_9 rfl (z.ev rfl) (z.ev rfl)) fun Fe AA => ?_; clear z Fd
       refine s1 AA (d_3 rfl (AA.ev rfl) (AA.ev rfl)) fun Dz K => ?_; clear AA Fe
       refine n1 ?_
       by_cases Dv : (t.brk.getD C 0) ≤ (t.brk.getD (((C : Int) - 1).toNat) 0)
       ·skip
        rw [decide_eq_true Dv] at K
        refine c_3 K rfl ?_
        refine b_8 ?_
        have Cr := K.as [] rfl; clear K
        refine a_5 ?_
        refine s1 Cr (a_0 rfl (evc _ _)) fun HP Cs => ?_; clear Cr Dz
        refine n1 ?_
        refine c_9 ?_
        refine c_6 ?_
        refine a_6 ?_
        refine a_6 ?_
        refine c_6 ?_
        refine a_6 ?_
        refine a_9 Cs (.inl rfl) (a_4 Cs rfl (.tmp rfl)) ?_
        exact ⟨congrArg Value.bool (Eq.symm (by first | exact tab_brk (k := C) (by omega) (brk_n (fun j hj => hbk0 j hj) (by assumption)) | (obtain ⟨j, rfl⟩ := back1 (k := C) (by omega); simp only [pred1] at *; exact tab_brk (k := j + 1) (by omega) (brk_n1 (by omega))))), Dp.ext⟩
       skip
       rw [decide_eq_false Dv] at K
       refine b_7 K rfl ?_
       refine d_0 ?_
       refine h_0 ?_
       refine b_0 ?_
       have As := K.as [(7, (Value.int .i64 (C : Int))), (3, (bptr B 0))] rfl; clear K
       refine a_5 ?_
       refine s1 As (a_1 rfl (As.ev rfl)) fun Ff At => ?_; clear As Dz
       refine s1 At (f_4 rfl (At.ev rfl) (evc _ _) (by omega) (by omega)) fun Fg Au => ?_; clear At Ff
       refine s1 Au (a_0 rfl (Au.ev rfl)) fun HQ EL => ?_; clear Au Fg
       refine e_9 ?_
       exact b_0 ⟨C + 1, ⟨EL.as _ rfl, Dp, by omega, (fun i hi => by rcases Nat.lt_succ_iff_lt_or_eq.1 hi with h | h; exact hbk0 i h; subst h; (have hz_ := j_8.1 (by assumption : inB (t.brk.getD i 0) 0 ((t.rows.length : Int) - 2) = true); omega)), (fun i hi => by rcases Nat.lt_succ_iff_lt_or_eq.1 hi with h | h; exact hbk i h; subst h; (cases i with | zero => exact brk_y0 (by assumption) | succ j => have e5_ : ((((j + 1 : Nat) : Int)) - 1).toNat = j := (by omega); have e6_ : t.brk.getD (((j + 1 : Nat) : Int) - 1).toNat 0 = t.brk.getD j 0 := (by rw [e5_]); exact brk_y1 (by assumption) (by omega)))⟩, by omega⟩
      skip
      have Ct := x.as [(7, (Value.int .i64 (C : Int))), (3, (bptr B 0))] rfl; clear x
      refine g_3 mixed Ct E 26 [[], [0], [], [1, 2], [3], [], [5], [6], [7], [4, 8], [9], [10], [11], [11, 12], [11, 13], [14], [14, 15], [14], [14, 16, 17], [14, 18], [14], [14, 20], [14], [14, 22], [14, 21, 23], [14, 24]] [(Yd.val (bptr B 3)), (Yd.val vb), (Yd.val (Value.int .i64 (C : Int))), (Yd.val (eptr vb (C * 1))), (Yd.val (Value.int .i64 (t.brk.getD C 0))), (Yd.val (bptr B 2)), (Yd.val vr), (Yd.val (Value.int .i64 (t.rows.length : Int))), (Yd.val (Value.int .i64 ((t.rows.length : Int) - 2))), (Yd.val (Value.bool true)), (Yd.val (Value.bool (!true))), (Yd.val (Value.bool (!true))), (Yd.val (Value.int .i64 (C : Int))), (Yd.val (Value.bool false)), (Yd.val (Value.bool false)), (Yd.val undef), (Yd.val undef), (Yd.val undef), (Yd.val undef), (Yd.val undef), (Yd.val undef), (Yd.val undef), (Yd.val undef), (Yd.val undef), (Yd.val undef), (Yd.val undef)] (by decide +kernel) rfl rfl ?_ ?_
      ·skip
       refine dq (fun a w hA hS hd => a_3 rfl u_9 (hA.ev rfl)) ?_
       refine dq (fun a w hA hS hd => a_2 rfl aa_6 (hq hd 0) (hS.bk 0 rfl) rfl) ?_
       refine dq (fun a w hA hS hd => a_1 rfl (hA.ev rfl)) ?_
       refine dq (fun a w hA hS hd => b_3 rfl p_4 ty_3 (hq hd 1) (i := C) (hq hd 2) (hS.sk 2 rfl) (by decide) (by omega)) ?_
       refine dq (fun a w hA hS hd => c_4 rfl ty_3 (hq hd 3) (hS.sk 2 rfl) (ints_at (by omega))) ?_
       refine dq (fun a w hA hS hd => a_3 rfl g_5 (hA.ev rfl)) ?_
       refine dq (fun a w hA hS hd => a_2 rfl l_5 (hq hd 5) (hS.bk 0 rfl) rfl) ?_
       refine dq (fun a w hA hS hd => d_6 rfl l_6 (hq hd 6) (hS.sk 1 rfl)) ?_
       refine dq (fun a w hA hS hd => h_9 rfl (hq hd 7) (evc _ _) (by omega) (by omega)) ?_
       refine ⟨fun a w hA hS hd => by have e4 := hx hd 4; have e8 := hx hd 8; exact b_1 rfl (dv (b_4 rfl ab_1 (ev3 (a_7 e4) (evc _ _) (a_7 e8)) (ab_0 _ _ _ _)) hS (by show Value.bool _ = _; simp only [AD, decide_true, decide_false, Bool.not_true, Bool.not_false])), ?_⟩
       refine dq (fun a w hA hS hd => f_6 rfl (hq hd 9)) ?_
       refine dq (fun a w hA hS hd => a_1 rfl (hq hd 10)) ?_
       refine dy 11 (fun a w hA hS hd => a_1 rfl (hA.ev rfl)) ?_
       refine ⟨fun a w hA hS hd => by have D0 := hx hd 11; have D1 := hx hd 12; exact i_1 rfl rfl D0 (dv (j_0 rfl (a_7 D1) (evc _ _)) hS (by show Value.bool _ = _; simp only [decide_eq_false Du, decide_true, decide_false, Bool.not_true, Bool.not_false])), ?_⟩
       refine dy 11 (fun a w hA hS hd => a_1 rfl (hq hd 13)) ?_
       refine dn 14 ?_
       refine dn 14 ?_
       refine dn 14 ?_
       refine dn 14 ?_
       refine dn 14 ?_
       refine dn 14 ?_
       refine dn 14 ?_
       refine dn 14 ?_
       refine dn 14 ?_
       refine dn 14 ?_
       refine dn 14 ?_
       trivial
      intro Fh Hh Cu EQ W; clear Ct E
      have Cv := Cu.add (hz W 11); clear Cu
      have Cw := Cv.add (hz W 14); clear Cv
      have Cx := Cw.add (hz W 19); clear Cw
      have Cy := Cx.add (hz W 25); clear Cx
      clear W
      refine s3 Cy fun Fi Aw => ?_; clear Cy Fh
      refine s5 Aw (d_3 rfl (Aw.ev rfl) (evc _ _)) fun Fj AB => ?_; clear Aw Fi
      refine s1 AB (d_3 rfl (AB.ev rfl) (AB.ev rfl)) fun Fk Ax => ?_; clear AB Fj
      refine n1 ?_
      refine b_7 Ax rfl ?_
      refine d_0 ?_
      refine h_0 ?_
      refine b_0 ?_
      have Ay := Ax.as [(7, (Value.int .i64 (C : Int))), (3, (bptr B 0))] rfl; clear Ax
      refine a_5 ?_
      refine s1 Ay (a_1 rfl (Ay.ev rfl)) fun Fl Az => ?_; clear Ay Fk
      refine s1 Az (f_4 rfl (Az.ev rfl) (evc _ _) (by omega) (by omega)) fun Fm A0 => ?_; clear Az Fl
      refine s1 A0 (a_0 rfl (A0.ev rfl)) fun HR EM => ?_; clear A0 Fm
      refine e_9 ?_
      exact b_0 ⟨C + 1, ⟨EM.as _ rfl, EQ, by omega, (fun i hi => by rcases Nat.lt_succ_iff_lt_or_eq.1 hi with h | h; exact hbk0 i h; subst h; (have hz_ := j_8.1 (by assumption : inB (t.brk.getD i 0) 0 ((t.rows.length : Int) - 2) = true); omega)), (fun i hi => by rcases Nat.lt_succ_iff_lt_or_eq.1 hi with h | h; exact hbk i h; subst h; (cases i with | zero => exact brk_y0 (by assumption) | succ j => have e5_ : ((((j + 1 : Nat) : Int)) - 1).toNat = j := (by omega); have e6_ : t.brk.getD (((j + 1 : Nat) : Int) - 1).toNat 0 = t.brk.getD j 0 := (by rw [e5_]); exact brk_y1 (by assumption) (by omega)))⟩, by omega⟩
     skip
     have Cz := u.as [(7, (Value.int .i64 (C : Int))), (3, (bptr B 0))] rfl; clear u
     refine g_3 mixed Cz E 26 [[], [0], [], [1, 2], [3], [], [5], [6], [7], [4, 8], [9], [10], [11], [11, 12], [11, 13], [14], [14, 15], [14], [14, 16, 17], [14, 18], [14], [14, 20], [14], [14, 22], [14, 21, 23], [14, 24]] [(Yd.val (bptr B 3)), (Yd.val vb), (Yd.val (Value.int .i64 (C : Int))), (Yd.val (eptr vb (C * 1))), (Yd.val (Value.int .i64 (t.brk.getD C 0))), (Yd.val (bptr B 2)), (Yd.val vr), (Yd.val (Value.int .i64 (t.rows.length : Int))), (Yd.val (Value.int .i64 ((t.rows.length : Int) - 2))), (Yd.val (Value.bool false)), (Yd.val (Value.bool (!false))), (Yd.val (Value.bool (!false))), (Yd.val undef), (Yd.val undef), (Yd.val undef), (Yd.val undef), (Yd.val undef), (Yd.val undef), (Yd.val undef), (Yd.val undef), (Yd.val undef), (Yd.val undef), (Yd.val undef), (Yd.val undef), (Yd.val undef), (Yd.val undef)] (by decide +kernel) rfl rfl ?_ ?_
     ·skip
      refine dq (fun a w hA hS hd => a_3 rfl u_9 (hA.ev rfl)) ?_
      refine dq (fun a w hA hS hd => a_2 rfl aa_6 (hq hd 0) (hS.bk 0 rfl) rfl) ?_
      refine dq (fun a w hA hS hd => a_1 rfl (hA.ev rfl)) ?_
      refine dq (fun a w hA hS hd => b_3 rfl p_4 ty_3 (hq hd 1) (i := C) (hq hd 2) (hS.sk 2 rfl) (by decide) (by omega)) ?_
      refine dq (fun a w hA hS hd => c_4 rfl ty_3 (hq hd 3) (hS.sk 2 rfl) (ints_at (by omega))) ?_
      refine dq (fun a w hA hS hd => a_3 rfl g_5 (hA.ev rfl)) ?_
      refine dq (fun a w hA hS hd => a_2 rfl l_5 (hq hd 5) (hS.bk 0 rfl) rfl) ?_
      refine dq (fun a w hA hS hd => d_6 rfl l_6 (hq hd 6) (hS.sk 1 rfl)) ?_
      refine dq (fun a w hA hS hd => h_9 rfl (hq hd 7) (evc _ _) (by omega) (by omega)) ?_
      refine ⟨fun a w hA hS hd => by have e4 := hx hd 4; have e8 := hx hd 8; exact b_1 rfl (dv (b_4 rfl ab_1 (ev3 (a_7 e4) (evc _ _) (a_7 e8)) (ab_0 _ _ _ _)) hS (by show Value.bool _ = _; simp only [AD, decide_true, decide_false, Bool.not_true, Bool.not_false])), ?_⟩
      refine dq (fun a w hA hS hd => f_6 rfl (hq hd 9)) ?_
      refine dq (fun a w hA hS hd => a_1 rfl (hq hd 10)) ?_
      refine dn 11 ?_
      refine dn 11 ?_
      refine dn 11 ?_
      refine du 14 ?_
      refine du 14 ?_
      refine du 14 ?_
      refine du 14 ?_
      refine du 14 ?_
      refine du 14 ?_
      refine du 14 ?_
      refine du 14 ?_
      refine du 14 ?_
      refine du 14 ?_
      refine du 14 ?_
      trivial
     intro Fn Hi C0 ER X; clear Cz E
     have C1 := C0.add (hz X 11); clear C0
     have C2 := C1.add (hz X 14); clear C1
     have C3 := C2.add (hz X 19); clear C2
     have C4 := C3.add (hz X 25); clear C3
     clear X
     refine s4 C4 fun Fo C5 => ?_; clear C4 Fn
     refine s3 C5 fun Fp A1 => ?_; clear C5 Fo
     refine s1 A1 (b_9 rfl (A1.ev rfl) (evc _ _)) fun Fq A2 => ?_; clear A1 Fp
     refine n1 ?_
     refine c_3 A2 rfl ?_
     refine b_8 ?_
     have C6 := A2.as [] rfl; clear A2
     refine a_5 ?_
     refine s1 C6 (a_0 rfl (evc _ _)) fun HS C7 => ?_; clear C6 Fq
     refine n1 ?_
     refine c_9 ?_
     refine c_6 ?_
     refine a_6 ?_
     refine a_6 ?_
     refine c_6 ?_
     refine a_6 ?_
     refine a_9 C7 (.inl rfl) (a_4 C7 rfl (.tmp rfl)) ?_
     exact ⟨congrArg Value.bool (Eq.symm (by first | exact tab_brk (k := C) (by omega) (brk_n (fun j hj => hbk0 j hj) (by assumption)) | (obtain ⟨j, rfl⟩ := back1 (k := C) (by omega); simp only [pred1] at *; exact tab_brk (k := j + 1) (by omega) (brk_n1 (by omega))))), ER.ext⟩
    skip
    rw [decide_eq_false Dt] at J
    refine b_7 J rfl ?_
    refine g_8 ?_
    refine b_6 ?_
    refine b_6 ?_
    refine f_5 ?_
    refine b_0 ?_
    refine b_8 ?_
    have C8 := J.as [] rfl; clear J
    refine a_5 ?_
    refine s1 C8 (a_0 rfl (evc _ _)) fun HT C9 => ?_; clear C8 Fb
    refine n1 ?_
    refine c_9 ?_
    refine a_9 C9 (.inl rfl) (a_4 C9 rfl (.tmp rfl)) ?_
    exact ⟨congrArg Value.bool (Eq.symm (tabB_iff.2 ⟨by assumption, by assumption, by assumption, by assumption, by omega, fun i hi => hrw i (by omega), fun i hi => hst i (by omega), fun i hi => hbk i (by omega)⟩)), E.ext⟩
   skip
   rw [Bt] at Q
   refine s3 Q fun Fs DA => ?_; clear Q EV
   refine s3 DA fun Ft DB => ?_; clear DA Fs
   refine s3 DB fun Fu DC => ?_; clear DB Ft
   refine s3 DC fun Fv A3 => ?_; clear DC Fu
   refine s1 A3 (b_9 rfl (A3.ev rfl) (evc _ _)) fun Fw A4 => ?_; clear A3 Fv
   refine n1 ?_
   refine c_3 A4 rfl ?_
   refine b_8 ?_
   have DD := A4.as [] rfl; clear A4
   refine a_5 ?_
   refine s1 DD (a_0 rfl (evc _ _)) fun HU DE => ?_; clear DD Fw
   refine n1 ?_
   refine c_9 ?_
   refine a_6 ?_
   refine a_9 DE (.inl rfl) (a_4 DE rfl (.tmp rfl)) ?_
   exact ⟨congrArg Value.bool (Eq.symm (p_3 (by first | exact .inl (by assumption) | exact .inr (.inl (by assumption)) | exact .inr (.inr (.inl (by assumption))) | exact .inr (.inr (.inr (.inl (by assumption)))) | exact .inr (.inr (.inr (.inr (by omega))))))), L.ext⟩
  skip
  rw [Bs] at O
  refine s3 O fun Fx DF => ?_; clear O ET
  refine s3 DF fun Fy DG => ?_; clear DF Fx
  refine s3 DG fun Fz DH => ?_; clear DG Fy
  refine s3 DH fun F0 DI => ?_; clear DH Fz
  refine s3 DI fun F1 A5 => ?_; clear DI F0
  refine s1 A5 (b_9 rfl (A5.ev rfl) (evc _ _)) fun F2 A6 => ?_; clear A5 F1
  refine s1 A6 (a_1 rfl (A6.ev rfl)) fun F3 DJ => ?_; clear A6 F2
  refine s3 DJ fun F4 DK => ?_; clear DJ F3
  refine s3 DK fun F5 DL => ?_; clear DK F4
  refine s3 DL fun F6 DM => ?_; clear DL F5
  refine s3 DM fun F7 A7 => ?_; clear DM F6
  refine s1 A7 (b_9 rfl (A7.ev rfl) (evc _ _)) fun F8 A8 => ?_; clear A7 F7
  refine s1 A8 (a_1 rfl (A8.ev rfl)) fun F9 DN => ?_; clear A8 F8
  refine s3 DN fun GA DO => ?_; clear DN F9
  refine s3 DO fun GB DP => ?_; clear DO GA
  refine s3 DP fun GC DQ => ?_; clear DP GB
  refine s3 DQ fun GD A9 => ?_; clear DQ GC
  refine s1 A9 (b_9 rfl (A9.ev rfl) (evc _ _)) fun GE BA => ?_; clear A9 GD
  refine n1 ?_
  refine c_3 BA rfl ?_
  refine b_8 ?_
  have DR := BA.as [] rfl; clear BA
  refine a_5 ?_
  refine s1 DR (a_0 rfl (evc _ _)) fun HV DS => ?_; clear DR GE
  refine n1 ?_
  refine c_9 ?_
  refine a_6 ?_
  refine a_9 DS (.inl rfl) (a_4 DS rfl (.tmp rfl)) ?_
  exact ⟨congrArg Value.bool (Eq.symm (p_3 (by first | exact .inl (by assumption) | exact .inr (.inl (by assumption)) | exact .inr (.inr (.inl (by assumption))) | exact .inr (.inr (.inr (.inl (by assumption)))) | exact .inr (.inr (.inr (.inr (by omega))))))), L.ext⟩
 skip
 rw [Br] at N
 refine s3 N fun GF DT => ?_; clear N ES
 refine s3 DT fun GG DU => ?_; clear DT GF
 refine s3 DU fun GH DV => ?_; clear DU GG
 refine s3 DV fun GI DW => ?_; clear DV GH
 refine s3 DW fun GJ DX => ?_; clear DW GI
 refine s3 DX fun GK BB => ?_; clear DX GJ
 refine s1 BB (b_9 rfl (BB.ev rfl) (evc _ _)) fun GL BC => ?_; clear BB GK
 refine s1 BC (a_1 rfl (BC.ev rfl)) fun GM DY => ?_; clear BC GL
 refine s3 DY fun GN DZ => ?_; clear DY GM
 refine s3 DZ fun GO Da => ?_; clear DZ GN
 refine s3 Da fun GP Db => ?_; clear Da GO
 refine s3 Db fun GQ Dc => ?_; clear Db GP
 refine s3 Dc fun GR BD => ?_; clear Dc GQ
 refine s1 BD (b_9 rfl (BD.ev rfl) (evc _ _)) fun GS BE => ?_; clear BD GR
 refine s1 BE (a_1 rfl (BE.ev rfl)) fun GT Dd => ?_; clear BE GS
 refine s3 Dd fun GU De => ?_; clear Dd GT
 refine s3 De fun GV Df => ?_; clear De GU
 refine s3 Df fun GW Dg => ?_; clear Df GV
 refine s3 Dg fun GX BG => ?_; clear Dg GW
 refine s1 BG (b_9 rfl (BG.ev rfl) (evc _ _)) fun GY BH => ?_; clear BG GX
 refine s1 BH (a_1 rfl (BH.ev rfl)) fun GZ Dh => ?_; clear BH GY
 refine s3 Dh fun Ga Di => ?_; clear Dh GZ
 refine s3 Di fun Gb Dj => ?_; clear Di Ga
 refine s3 Dj fun Gc Dk => ?_; clear Dj Gb
 refine s3 Dk fun Gd BI => ?_; clear Dk Gc
 refine s1 BI (b_9 rfl (BI.ev rfl) (evc _ _)) fun Ge BK => ?_; clear BI Gd
 refine n1 ?_
 refine c_3 BK rfl ?_
 refine b_8 ?_
 have Dl := BK.as [] rfl; clear BK
 refine a_5 ?_
 refine s1 Dl (a_0 rfl (evc _ _)) fun HW Dm => ?_; clear Dl Ge
 refine n1 ?_
 refine c_9 ?_
 refine a_6 ?_
 refine a_9 Dm (.inl rfl) (a_4 Dm rfl (.tmp rfl)) ?_
 exact ⟨congrArg Value.bool (Eq.symm (p_3 (by first | exact .inl (by assumption) | exact .inr (.inl (by assumption)) | exact .inr (.inr (.inl (by assumption))) | exact .inr (.inr (.inr (.inl (by assumption)))) | exact .inr (.inr (.inr (.inr (by omega))))))), L.ext⟩
end Go.Proofs.Ytohgladndklciaa

namespace Go.Hard
open Go.RowKit Go.Eng
theorem p_9 (xs : List (Int × Int)) : ((pairs xs).drop (1 * 2)).take ((xs.length - 1) * 2) = pairs (xs.drop 1) := by
  cases xs with
  | nil => rfl
  | cons x xs =>
    show ((pairs (x :: xs)).drop 2).take ((xs.length + 1 - 1) * 2) = pairs xs
    have : (pairs (x :: xs)).drop 2 = pairs xs := rfl
    rw [this, Nat.add_sub_cancel, List.take_of_length_le (by rw [b_2]; exact Nat.le_refl _)]
theorem drop_getD {xs : List (Int × Int)} {i : Nat} : (xs.drop 1).getD i (0, 0) = xs.getD (i + 1) (0, 0) := by
  simp [List.getD, Nat.add_comm]
theorem dropP_all {xs : List (Int × Int)} {i : Nat} (h : i < xs.length - 1) : ((pairs (xs.drop 1)).drop (i * 2)).take 2 = [.int .i64 (xs.getD (i + 1) (0, 0)).1, .int .i64 (xs.getD (i + 1) (0, 0)).2] := by
  rw [g_9 (by rw [List.length_drop]; exact h), drop_getD]
def n_6 (t : TabD) (k : Nat) : List Nat := (List.range k).filter fun i => !decide ((i : Int) ∈ t.brk)
def d_4 (t : TabD) : List Nat := n_6 t (t.rows.length - 1)
theorem good_no {t : TabD} {k : Nat} (h : (k : Int) ∈ t.brk) : n_6 t (k + 1) = n_6 t k := by
  unfold n_6; rw [List.range_succ, List.filter_append]; simp [h]
theorem good_yes {t : TabD} {k : Nat} (h : ¬ (k : Int) ∈ t.brk) : n_6 t (k + 1) = n_6 t k ++ [k] := by
  unfold n_6; rw [List.range_succ, List.filter_append]; simp [h]
theorem good_pre {t : TabD} {k m : Nat} (h : k ≤ m) : n_6 t k <+: n_6 t m := by
  obtain ⟨d, rfl⟩ := Nat.exists_eq_add_of_le h
  unfold n_6
  rw [List.range_add, List.filter_append]
  exact List.prefix_append _ _
theorem good_at {t : TabD} {k m : Nat} (hk : k < m) (h : ¬ (k : Int) ∈ t.brk) : (n_6 t k).length < (n_6 t m).length ∧ (n_6 t m).getD (n_6 t k).length 0 = k := by
  obtain ⟨r, e⟩ := good_pre (t := t) (show k + 1 ≤ m by omega)
  rw [good_yes h] at e
  rw [← e]
  constructor
  · simp only [List.length_append, List.length_singleton]; omega
  · simp [List.getD]
theorem good_mem {t : TabD} {m q : Nat} (h : q < (n_6 t m).length) : (n_6 t m).getD q 0 < m ∧ ¬ (((n_6 t m).getD q 0 : Nat) : Int) ∈ t.brk := by
  have hm : (n_6 t m).getD q 0 ∈ n_6 t m := by
    simp only [List.getD, List.getElem?_eq_getElem h, Option.getD_some]; exact List.getElem_mem h
  generalize (n_6 t m).getD q 0 = i at hm
  unfold n_6 at hm
  rw [List.mem_filter, List.mem_range] at hm
  exact ⟨hm.1, by simpa using hm.2⟩
theorem good_sorted (t : TabD) (m : Nat) : (n_6 t m).Pairwise (· < ·) := by
  unfold n_6
  exact List.Pairwise.filter _ List.pairwise_lt_range
theorem good_before {t : TabD} {m q i : Nat} (hq : q < (n_6 t m).length) (hi : i < (n_6 t m).getD q 0) (hb : ¬ (i : Int) ∈ t.brk) : ∃ j, j < q ∧ (n_6 t m).getD j 0 = i := by
  have him : i ∈ n_6 t m := by
    unfold n_6
    have := (good_mem hq).1
    rw [List.mem_filter, List.mem_range]
    exact ⟨by omega, by simpa using hb⟩
  obtain ⟨j, hj, e⟩ := List.getElem_of_mem him
  refine ⟨j, ?_, by simp only [List.getD, List.getElem?_eq_getElem hj, Option.getD_some]; exact e⟩
  rcases Nat.lt_or_ge j q with h | h
  · exact h
  · exfalso
    rcases Nat.lt_or_ge q j with h2 | h2
    · have := List.pairwise_iff_getElem.1 (good_sorted t m) q j hq hj h2
      simp only [List.getD, List.getElem?_eq_getElem hq, Option.getD_some] at hi
      omega
    · obtain rfl : q = j := by omega
      simp only [List.getD, List.getElem?_eq_getElem hq, Option.getD_some] at hi
      omega
theorem made_good {t : TabD} {v : Int} {q : Nat} (hn : ∀ i, i < t.rows.length → ¬ tx t i = v) (hq : q < (d_4 t).length) (h : ∀ j, j < q → m_0 t v ((d_4 t).getD j 0) = false) (e : m_0 t v ((d_4 t).getD q 0) = true) : r_8 t v = some (pieceR t v ((d_4 t).getD q 0)) := by
  have hg := good_mem hq
  refine made_piece hn (by have := hg.1; unfold d_4; omega) (fun i hi => ?_) e
  by_cases hb : (i : Int) ∈ t.brk
  · exact m_1 (.inr (.inr hb))
  · obtain ⟨j, hj, rfl⟩ := good_before hq hi hb
    exact h j hj
theorem made_goodno {t : TabD} {v : Int} (hn : ∀ i, i < t.rows.length → ¬ tx t i = v) (h : ∀ j, j < (d_4 t).length → m_0 t v ((d_4 t).getD j 0) = false) : r_8 t v = none := by
  refine made_no hn fun i hi => ?_
  by_cases hb : (i : Int) ∈ t.brk
  · exact m_1 (.inr (.inr hb))
  · have := good_at (t := t) (show i < t.rows.length - 1 by omega) hb
    have h2 := h _ this.1
    rw [show (d_4 t).getD (n_6 t i).length 0 = i from this.2] at h2
    exact h2
theorem good_piece {t : TabD} {v : Int} {q : Nat} (hq : q < (d_4 t).length) (h1 : tx t ((d_4 t).getD q 0) < v) (h2 : v < tx t ((d_4 t).getD q 0 + 1)) : m_0 t v ((d_4 t).getD q 0) = true := piece_y h1 h2 (good_mem hq).2
end Go.Hard

namespace Go.Proofs.Ytohgladndklciaa
open Go.RowKit Go.Shelf Go.Eng Go.Hard
theorem y_6 : (Try.prog.info? 107).bind (·.zero) = some (Value.agg #[(Value.int .i64 0), (Value.int .i64 0)]) := by kernel_rfl
theorem en_122 : ∀ args w, (callFunc 122 args).run Try.prog w = .ok (.enter 122 args) w := enters_of Try.func122 (by kernel_rfl) rfl
theorem pieces_it (C : Nat) (t : TabD) (vr vb : Value) (hln : 2 ≤ t.rows.length) (hrl : t.rows.length ≤ 1000000) (hbl : t.brk.length ≤ 1000000) :
  IterG Try.prog 121 #[bptr C 0] nilR [rob C 106 [.int .i64 t.frm, .int .i64 t.dst, vr, vb, .int .i64 t.err], sl vr 2 t.rows.length (pairs t.rows), sl vb 1 t.brk.length (ints t.brk)] (d_4 t).length (fun q => #[.agg #[.int .i64 (t.rows.getD ((d_4 t).getD q 0) (0, 0)).1, .int .i64 (t.rows.getD ((d_4 t).getD q 0) (0, 0)).2], .agg #[.int .i64 (t.rows.getD ((d_4 t).getD q 0 + 1) (0, 0)).1, .int .i64 (t.rows.getD ((d_4 t).getD q 0 + 1) (0, 0)).2]]) := by
 intro l J Jx W hJ hJx hD hDx h0 hy
 refine a_8 Try.func121 rfl fun a0 R => ?_
 replace R : Fr 31 [] [(0, (Value.func (.yield l) #[] #[])), (1, (bptr C 0))] a0 := R
 have T : Sep nilR.S W W [nilR, (rob C 106 [(Value.int .i64 t.frm), (Value.int .i64 t.dst), vr, vb, (Value.int .i64 t.err)]), (sl vr 2 t.rows.length (pairs t.rows)), (sl vb 1 t.brk.length (ints t.brk))] := (hD _ _ _ h0).2
 refine m2 ?_
 refine s1 R (a_3 rfl j_3 (R.ev rfl)) fun a2 p => ?_; clear R a0
 refine s1 p (a_2 rfl n_9 (p.ev rfl) (T.rk 1 rfl) rfl) fun a4 z => ?_; clear p a2
 refine s1 z (op_sliceLo rfl k_4 i_6 (z.ev rfl) (l := 1) (show _ = Value.int .i64 ((1 : Nat) : Int) from (evc _ _)) (T.sk 2 rfl) (by omega)) fun a6 AF => ?_; clear z a4
 refine s1 AF (d_6 rfl k_4 (AF.ev rfl) (SlAt.say (n' := (t.rows.length - 1)) (cs' := (pairs (t.rows.drop 1))) (SlAt.cut (T.sk 2 rfl) (by omega) (Nat.le_refl _)) rfl (p_9 _))) fun a8 AS => ?_; clear AF a6
 refine s1 AS (a_1 rfl (evc _ _)) fun Ae j => ?_; clear AS a8
 refine n1 ?_
 refine c_7 ?_
 have n := j.as [(9, (Value.int .i64 0)), (8, (Value.int .i64 (((t.rows.length - 1) : Nat) : Int))), (7, (slcut vr 1 t.rows.length 2)), (0, (Value.func (.yield l) #[] #[])), (1, (bptr C 0))] rfl; clear j
 refine h_3 (G := Nat) (fun (k : Nat) a_ w_ => Fr 31 [] [(9, (Value.int .i64 (k : Int))), (8, (Value.int .i64 (((t.rows.length - 1) : Nat) : Int))), (7, (slcut vr 1 t.rows.length 2)), (0, (Value.func (.yield l) #[] #[])), (1, (bptr C 0))] a_ ∧ True ∧ (k ≤ t.rows.length - 1) ∧ (J (n_6 t k).length nilR w_)) (fun k => t.rows.length - k) 0 ⟨n.as _ rfl, trivial, by omega, (hJ _ _ _ _ _ h0 (Sep.keep T [0] (by decide) _ rfl rfl) rfl)⟩ ?_
 clear n T Ae
 rintro k Af AP ⟨K, Aa, hk, hj⟩
 clear Aa
 have I : Sep nilR.S AP AP [nilR, (rob C 106 [(Value.int .i64 t.frm), (Value.int .i64 t.dst), vr, vb, (Value.int .i64 t.err)]), (sl vr 2 t.rows.length (pairs t.rows)), (sl vb 1 t.brk.length (ints t.brk))] := (hD _ _ _ hj).2
 refine m2 ?_
 refine s1 K (f_8 rfl (K.ev rfl) (K.ev rfl)) fun Ag B => ?_; clear K Af
 refine n2 ?_
 by_cases AM : (k : Int) < (((t.rows.length - 1) : Nat) : Int)
 ·skip
  rw [decide_eq_true AM] at B
  refine c_3 B rfl ?_
  refine d_0 ?_
  refine b_0 ?_
  refine b_8 ?_
  refine c_7 ?_
  refine m2 ?_
  refine s1 B (a_1 rfl (B.ev rfl)) fun Ah L => ?_; clear B Ag
  refine s1 L (b_3 rfl k_4 i_6 (L.ev rfl) (i := k) (L.ev rfl) (SlAt.say (n' := (t.rows.length - 1)) (cs' := (pairs (t.rows.drop 1))) (SlAt.cut (I.sk 2 rfl) (by omega) (Nat.le_refl _)) rfl (p_9 _)) (by decide) (by omega)) fun Ai U => ?_; clear L Ah
  refine s1 U (e_7 rfl i_6 (U.ev rfl) (SlAt.say (n' := (t.rows.length - 1)) (cs' := (pairs (t.rows.drop 1))) (SlAt.cut (I.sk 2 rfl) (by omega) (Nat.le_refl _)) rfl (p_9 _)) (dropP_all (by omega)) rfl (by decide)) fun Aj o => ?_; clear U Ai
  refine s2 o (e_4 I rfl y_6 (cs := [(Value.int .i64 0), (Value.int .i64 0)]) rfl) ?_
  rintro Ak _ A9 ⟨g, rfl, AJ⟩ V; clear o I Aj
  refine s1 V (a_0 rfl (V.ev rfl)) fun A4 M => ?_; clear V Ak
  refine s7 M (c_2 AJ rfl i_6 (M.ev rfl) (M.ev rfl) (i := 0) rfl (vs := [(Value.int .i64 ((t.rows.getD (k + 1) (0, 0)).1)), (Value.int .i64 ((t.rows.getD (k + 1) (0, 0)).2))]) rfl rfl rfl (Nat.le_of_ble_eq_true rfl)) ?_
  intro _ Az AK r; clear M
  have Q : Sep nilR.S AP Az [(blk g 107 [(Value.int .i64 ((t.rows.getD (k + 1) (0, 0)).1)), (Value.int .i64 ((t.rows.getD (k + 1) (0, 0)).2))]), nilR, (rob C 106 [(Value.int .i64 t.frm), (Value.int .i64 t.dst), vr, vb, (Value.int .i64 t.err)]), (sl vr 2 t.rows.length (pairs t.rows)), (sl vb 1 t.brk.length (ints t.brk))] := AK; clear AK AJ
  refine n2 ?_
  have N := r.as [(3, (Value.int .i64 (k : Int))), (4, (bptr g 0)), (9, (Value.int .i64 (k : Int))), (8, (Value.int .i64 (((t.rows.length - 1) : Nat) : Int))), (7, (slcut vr 1 t.rows.length 2)), (0, (Value.func (.yield l) #[] #[])), (1, (bptr C 0))] rfl; clear r
  by_cases AN : (k : Int) ∈ t.brk
  ·skip
   have s := N.as [(3, (Value.int .i64 (k : Int))), (4, (bptr g 0)), (9, (Value.int .i64 (k : Int))), (8, (Value.int .i64 (((t.rows.length - 1) : Nat) : Int))), (7, (slcut vr 1 t.rows.length 2)), (0, (Value.func (.yield l) #[] #[])), (1, (bptr C 0))] rfl; clear N
   refine g_3 mixed s Q 13 [[], [0], [], [1, 2], [3], [4], [5], [5], [5, 7], [5], [5, 8, 9], [5, 10], [5]] [(Yd.val (bptr C 3)), (Yd.val vb), (Yd.val (Value.int .i64 (k : Int))), (Yd.val (Value.bool true)), (Yd.val (Value.bool (!true))), (Yd.val (Value.bool (!true))), (Yd.val undef), (Yd.val undef), (Yd.val undef), (Yd.val undef), (Yd.val undef), (Yd.val undef), (Yd.val undef)] (by decide +kernel) rfl rfl ?_ ?_
   ·skip
    refine ⟨fun a w hA hS hd => ?_, ?_⟩
    ·skip
     exact b_1 rfl (dv (a_3 rfl fd_106_3 (hA.ev rfl)) hS rfl)
    refine ⟨fun a w hA hS hd => ?_, ?_⟩
    ·skip
     have e0 := f_2 (hd 0 (by decide)) rfl (fun _ h => h)
     exact b_1 rfl (dv (a_2 rfl aa_6 (a_7 e0) (hS.rk 2 rfl) rfl) hS rfl)
    refine ⟨fun a w hA hS hd => ?_, ?_⟩
    ·skip
     exact b_1 rfl (dv (a_1 rfl (hA.ev rfl)) hS rfl)
    refine ⟨fun a w hA hS hd => ?_, ?_⟩
    ·skip
     have e1 := f_2 (hd 1 (by decide)) rfl (fun _ h => h)
     have e2 := f_2 (hd 2 (by decide)) rfl (fun _ h => h)
     exact b_1 rfl (dx (b_4 rfl en_122 (ev2 (a_7 e1) (a_7 e2)) (contains_ok t.brk (k : Int) _ _ (hS.sk 4 rfl) (by omega))) hS (fun _ => (by show Value.bool _ = _; simp [AN])))
    refine ⟨fun a w hA hS hd => ?_, ?_⟩
    ·skip
     have e3 := f_2 (hd 3 (by decide)) rfl (fun _ h => h)
     exact b_1 rfl (dv (f_6 rfl (a_7 e3)) hS rfl)
    refine ⟨fun a w hA hS hd => ?_, ?_⟩
    ·skip
     have e4 := f_2 (hd 4 (by decide)) rfl (fun _ h => h)
     exact b_1 rfl (dv (a_1 rfl (a_7 e4)) hS rfl)
    refine ⟨fun a w hA hS hd => ?_, ?_⟩
    ·skip
     have A := f_2 (hd 5 (by decide)) rfl (fun _ h => h)
     exact opG_no rfl rfl A rfl (dskip hS rfl)
    refine ⟨fun a w hA hS hd => ?_, ?_⟩
    ·skip
     have A := f_2 (hd 5 (by decide)) rfl (fun _ h => h)
     exact opG_no rfl rfl A rfl (dskip hS rfl)
    refine ⟨fun a w hA hS hd => ?_, ?_⟩
    ·skip
     have A := f_2 (hd 5 (by decide)) rfl (fun _ h => h)
     have e7 := f_2 (hd 7 (by decide)) rfl (fun _ h => h)
     exact opG_no rfl rfl A rfl (dskip hS rfl)
    refine ⟨fun a w hA hS hd => ?_, ?_⟩
    ·skip
     have A := f_2 (hd 5 (by decide)) rfl (fun _ h => h)
     exact opG_no rfl rfl A rfl (dskip hS rfl)
    refine ⟨fun a w hA hS hd => ?_, ?_⟩
    ·skip
     have A := f_2 (hd 5 (by decide)) rfl (fun _ h => h)
     have e8 := f_2 (hd 8 (by decide)) rfl (fun _ h => h)
     have e9 := f_2 (hd 9 (by decide)) rfl (fun _ h => h)
     exact opG_no rfl rfl A rfl (dskip hS rfl)
    refine ⟨fun a w hA hS hd => ?_, ?_⟩
    ·skip
     have A := f_2 (hd 5 (by decide)) rfl (fun _ h => h)
     have AR := f_2 (hd 10 (by decide)) rfl (fun _ h => h)
     exact opG_no rfl rfl A rfl (dskip hS rfl)
    refine ⟨fun a w hA hS hd => ?_, ?_⟩
    ·skip
     have A := f_2 (hd 5 (by decide)) rfl (fun _ h => h)
     exact opG_no rfl rfl A rfl (dskip hS rfl)
    trivial
   intro Al BA u Ab F; clear s Q
   have v := u.add (hz F 5); clear u
   have x := v.add (hz F 6); clear v
   have y := x.add (hz F 11); clear x
   have AA := y.add (hz F 12); clear y
   clear F
   refine s3 AA fun Am AB => ?_; clear AA Al
   refine s3 AB fun An X => ?_; clear AB Am
   refine s1 X (d_3 rfl (X.ev rfl) (evc _ _)) fun Ao Y => ?_; clear X An
   refine n1 ?_
   refine b_7 Y rfl ?_
   refine d_0 ?_
   refine h_0 ?_
   refine b_0 ?_
   have Z := Y.as [(9, (Value.int .i64 (k : Int))), (8, (Value.int .i64 (((t.rows.length - 1) : Nat) : Int))), (7, (slcut vr 1 t.rows.length 2)), (0, (Value.func (.yield l) #[] #[])), (1, (bptr C 0))] rfl; clear Y
   refine a_5 ?_
   refine s1 Z (f_4 rfl (Z.ev rfl) (evc _ _) (by omega) (by omega)) fun Ap b => ?_; clear Z Ao
   refine s1 b (a_1 rfl (b.ev rfl)) fun A5 AY => ?_; clear b Ap
   refine e_9 ?_
   exact b_0 ⟨k + 1, ⟨AY.as _ rfl, trivial, by omega, (by rw [good_no (by assumption)]; exact (hJ _ _ _ _ _ hj (Sep.keep Ab [1] (by decide) _ rfl rfl) rfl))⟩, by omega⟩
  skip
  have AC := N.as [(3, (Value.int .i64 (k : Int))), (4, (bptr g 0)), (9, (Value.int .i64 (k : Int))), (8, (Value.int .i64 (((t.rows.length - 1) : Nat) : Int))), (7, (slcut vr 1 t.rows.length 2)), (0, (Value.func (.yield l) #[] #[])), (1, (bptr C 0))] rfl; clear N
  refine g_3 mixed AC Q 13 [[], [0], [], [1, 2], [3], [4], [5], [5], [5, 7], [5], [5, 8, 9], [5, 10], [5]] [(Yd.val (bptr C 3)), (Yd.val vb), (Yd.val (Value.int .i64 (k : Int))), (Yd.val (Value.bool false)), (Yd.val (Value.bool (!false))), (Yd.val (Value.bool (!false))), (Yd.val (Value.func (.yield l) #[] #[])), (Yd.val (bptr C 2)), (Yd.val vr), (Yd.val (Value.int .i64 (k : Int))), (Yd.val (eptr vr (k * 2))), (Yd.val (Value.agg #[(Value.int .i64 ((t.rows.getD k (0, 0)).1)), (Value.int .i64 ((t.rows.getD k (0, 0)).2))])), (Yd.val (Value.agg #[(Value.int .i64 ((t.rows.getD (k + 1) (0, 0)).1)), (Value.int .i64 ((t.rows.getD (k + 1) (0, 0)).2))]))] (by decide +kernel) rfl rfl ?_ ?_
  ·skip
   refine ⟨fun a w hA hS hd => ?_, ?_⟩
   ·skip
    exact b_1 rfl (dv (a_3 rfl fd_106_3 (hA.ev rfl)) hS rfl)
   refine ⟨fun a w hA hS hd => ?_, ?_⟩
   ·skip
    have e0 := f_2 (hd 0 (by decide)) rfl (fun _ h => h)
    exact b_1 rfl (dv (a_2 rfl aa_6 (a_7 e0) (hS.rk 2 rfl) rfl) hS rfl)
   refine ⟨fun a w hA hS hd => ?_, ?_⟩
   ·skip
    exact b_1 rfl (dv (a_1 rfl (hA.ev rfl)) hS rfl)
   refine ⟨fun a w hA hS hd => ?_, ?_⟩
   ·skip
    have e1 := f_2 (hd 1 (by decide)) rfl (fun _ h => h)
    have e2 := f_2 (hd 2 (by decide)) rfl (fun _ h => h)
    exact b_1 rfl (dx (b_4 rfl en_122 (ev2 (a_7 e1) (a_7 e2)) (contains_ok t.brk (k : Int) _ _ (hS.sk 4 rfl) (by omega))) hS (fun _ => (by show Value.bool _ = _; simp [AN])))
   refine ⟨fun a w hA hS hd => ?_, ?_⟩
   ·skip
    have e3 := f_2 (hd 3 (by decide)) rfl (fun _ h => h)
    exact b_1 rfl (dv (f_6 rfl (a_7 e3)) hS rfl)
   refine ⟨fun a w hA hS hd => ?_, ?_⟩
   ·skip
    have e4 := f_2 (hd 4 (by decide)) rfl (fun _ h => h)
    exact b_1 rfl (dv (a_1 rfl (a_7 e4)) hS rfl)
   refine ⟨fun a w hA hS hd => ?_, ?_⟩
   ·skip
    have A := f_2 (hd 5 (by decide)) rfl (fun _ h => h)
    exact i_1 rfl rfl A (dv (a_1 rfl (hA.ev rfl)) hS rfl)
   refine ⟨fun a w hA hS hd => ?_, ?_⟩
   ·skip
    have A := f_2 (hd 5 (by decide)) rfl (fun _ h => h)
    exact i_1 rfl rfl A (dv (a_3 rfl j_3 (hA.ev rfl)) hS rfl)
   refine ⟨fun a w hA hS hd => ?_, ?_⟩
   ·skip
    have A := f_2 (hd 5 (by decide)) rfl (fun _ h => h)
    have e7 := f_2 (hd 7 (by decide)) rfl (fun _ h => h)
    exact i_1 rfl rfl A (dv (a_2 rfl n_9 (a_7 e7) (hS.rk 2 rfl) rfl) hS rfl)
   refine ⟨fun a w hA hS hd => ?_, ?_⟩
   ·skip
    have A := f_2 (hd 5 (by decide)) rfl (fun _ h => h)
    exact i_1 rfl rfl A (dv (a_1 rfl (hA.ev rfl)) hS rfl)
   refine ⟨fun a w hA hS hd => ?_, ?_⟩
   ·skip
    have A := f_2 (hd 5 (by decide)) rfl (fun _ h => h)
    have e8 := f_2 (hd 8 (by decide)) rfl (fun _ h => h)
    have e9 := f_2 (hd 9 (by decide)) rfl (fun _ h => h)
    exact i_1 rfl rfl A (dv (b_3 rfl k_4 i_6 (a_7 e8) (i := k) (a_7 e9) (hS.sk 3 rfl) (by decide) (by omega)) hS rfl)
   refine ⟨fun a w hA hS hd => ?_, ?_⟩
   ·skip
    have A := f_2 (hd 5 (by decide)) rfl (fun _ h => h)
    have AR := f_2 (hd 10 (by decide)) rfl (fun _ h => h)
    exact i_1 rfl rfl A (dv (e_7 rfl i_6 (a_7 AR) (hS.sk 3 rfl) (g_9 (by omega)) rfl (by decide)) hS rfl)
   refine ⟨fun a w hA hS hd => ?_, ?_⟩
   ·skip
    have A := f_2 (hd 5 (by decide)) rfl (fun _ h => h)
    exact i_1 rfl rfl A (dv (c_5 rfl i_6 (hA.ev rfl) (hS.bk 0 rfl) (l := [(Value.int .i64 ((t.rows.getD (k + 1) (0, 0)).1)), (Value.int .i64 ((t.rows.getD (k + 1) (0, 0)).2))]) rfl rfl) hS rfl)
   trivial
  intro Aq BB AD AL H; clear AC Q
  have AE := AD.add (hz H 5); clear AD
  have AG := AE.add (hz H 6); clear AE
  have AH := AG.add (hz H 11); clear AG
  have E := AH.add (hz H 12); clear AH
  clear H
  have AO := good_at (t := t) (m := t.rows.length - 1) (k := k) (by omega) (by assumption)
  refine s6 E (op_yield rfl (E.ev rfl) (ev2 (E.ev rfl) (E.ev rfl)) (by have hz := hy (n_6 t k).length AO.1 _ _ (hJ _ _ _ _ _ hj (Sep.keep AL [1] (by decide) _ rfl rfl) rfl); dsimp only at hz; rw [show (d_4 t).getD (n_6 t k).length 0 = k from AO.2] at hz; exact hz)) ?_
  rintro AQ A8 BC Ac D; clear E AL Aq
  rcases Ac with ⟨rfl, f⟩ | ⟨rfl, f⟩
  ·skip
   refine s5 D (f_6 rfl (D.ev rfl)) fun Ar O => ?_; clear D AQ
   refine s1 O (b_9 rfl (O.ev rfl) (O.ev rfl)) fun As c => ?_; clear O Ar
   refine n1 ?_
   refine b_7 c rfl ?_
   refine d_0 ?_
   refine h_0 ?_
   refine b_0 ?_
   have d := c.as [(9, (Value.int .i64 (k : Int))), (8, (Value.int .i64 (((t.rows.length - 1) : Nat) : Int))), (7, (slcut vr 1 t.rows.length 2)), (0, (Value.func (.yield l) #[] #[])), (1, (bptr C 0))] rfl; clear c
   refine a_5 ?_
   refine s1 d (f_4 rfl (d.ev rfl) (evc _ _) (by omega) (by omega)) fun At e => ?_; clear d As
   refine s1 e (a_1 rfl (e.ev rfl)) fun A6 AZ => ?_; clear e At
   refine e_9 ?_
   exact b_0 ⟨k + 1, ⟨AZ.as _ rfl, trivial, by omega, (by rw [good_yes (by assumption), List.length_append, List.length_singleton]; exact f)⟩, by omega⟩
  skip
  refine s5 D (f_6 rfl (D.ev rfl)) fun Au P => ?_; clear D AQ
  refine s1 P (b_9 rfl (P.ev rfl) (P.ev rfl)) fun A7 AI => ?_; clear P Au
  refine n1 ?_
  refine c_3 AI rfl ?_
  refine c_9 ?_
  refine c_6 ?_
  refine a_6 ?_
  refine a_6 ?_
  refine c_6 ?_
  refine a_9 AI (.inl rfl) (run_results0 rfl _) ?_
  exact .inr ⟨_, f⟩
 skip
 rw [decide_eq_false AM] at B
 refine b_7 B rfl ?_
 refine g_8 ?_
 refine b_6 ?_
 refine b_6 ?_
 refine f_5 ?_
 refine a_9 B (.inr rfl) (run_results0 rfl _) ?_
 exact .inl (by have hz := (hJ _ _ _ _ _ hj (Sep.keep I [0] (by decide) _ rfl rfl) rfl); rw [show k = t.rows.length - 1 by omega] at hz; exact hz)
theorem pieces_ok (t : TabD) (vr vb : Value) (w : World) (h1_ : vr.oneCell' = true) (h2_ : vb.oneCell' = true) :
  Calls Try.prog 116 #[(Value.agg #[(Value.int .i64 t.frm), (Value.int .i64 t.dst), vr, vb, (Value.int .i64 t.err)])] w (Ret fun v w' => ∃ H, v = .func (.func 121) #[] #[bptr H 0] ∧ Sep NoB w w' [blk H 106 [.int .i64 t.frm, .int .i64 t.dst, vr, vb, .int .i64 t.err]]) := by
 refine a_8 Try.func116 rfl fun G A => ?_
 replace A : Fr 4 [] [(0, (Value.agg #[(Value.int .i64 t.frm), (Value.int .i64 t.dst), vr, vb, (Value.int .i64 t.err)]))] G := A
 have F : Sep NoB w w [] := Sep.start _ _
 refine m2 ?_
 refine s2 A (f_0 F rfl (A.ev rfl) (cs := [(Value.int .i64 t.frm), (Value.int .i64 t.dst), vr, vb, (Value.int .i64 t.err)]) rfl) ?_
 rintro J _ O ⟨N, rfl, I⟩ E; clear A F G
 refine s1 E (a_0 rfl (evc _ _)) fun K C => ?_; clear E J
 refine n4 ?_
 refine s1 C (h_5 rfl ev0 (ev1 (C.ev rfl))) fun L D => ?_; clear C K
 refine s1 D (a_0 rfl (D.ev rfl)) fun M B => ?_; clear D L
 refine n1 ?_
 refine c_9 ?_
 refine a_9 B (.inl rfl) (a_4 B rfl (.tmp rfl)) ?_
 exact ⟨_, rfl, I⟩
end Go.Proofs.Ytohgladndklciaa
