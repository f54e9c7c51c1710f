/-
  Walks through the functions of the seat, printed by a program of ours (gowalk), a theorem a function: what the call returns and what it leaves in memory.
-/
import Derived.Test.YtohgladndklciaaBd
import Derived.Test.YtohgladndklciaaEnga
set_option linter.unusedSimpArgs false
set_option linter.unusedVariables false
namespace Go.Proofs.Ytohgladndklciaa
open Go.RowKit Go.Shelf Go.Eng Go.Hard
theorem leave_zero (b : h_0) (vt vm : Value) (lr lb lk : Nat → Value) (hth : o_0 b) (hb : l_3 b) (bx bm : Nat) (es : Array MapEntry) (ck : Nat) (hMO : p_3 bm es ck (bN b.tabs b.tabs.length)) (l : List (Int × Int)) (hl : t_6 b l) (xr : Value) (bb br B bs : Nat) (s : List Int) (xl xk vb : Value) (best : List Int) (w : World) (X : Nat → Prop) (hsl : s.length ≤ 1000) (hJ : Sep X w w [(row xl 3 1 s.length (ints s)), (blk bb 44 [vb]), (row vb 3 1 best.length (ints best)), (rob bs 134 [(Value.func (.func 73) #[] #[(bptr br 0), (bptr bb 0), (bptr B 0), (bptr bs 0)])]), (rob br 53 [xr]), (rob B 116 [(bptr bx 0)]), (rob bx 146 [(Value.int .i64 b.scales), vt, vm, (Value.map (some bm))]), (mapX false bm es ck es.size 106 5 (bN b.tabs b.tabs.length) (bC lr lb b.tabs b.tabs.length)), (c_9 false vt lr lb b.tabs), (d_2 false vm lk b.macs), (sl xr 2 l.length (pairs l)), (sl xk 2 ((d_6 l s l.length).length) (pairs (d_6 l s l.length)))]) :
  Calls Try.prog 73 #[xl, xk, (Value.int .i64 (l.length : Int)), (Value.int .i64 0), (bptr br 0), (bptr bb 0), (bptr B 0), (bptr bs 0)] w (Ret fun v w' => v = .bool (i_2 l.length (okS b l) 0 s l.length) ∧ ∃ vb' best', ((i_2 l.length (okS b l) 0 s l.length) = true → (m_8 l.length 0 s l.length).find? (okS b l) = some best') ∧ Sep X w w' [(row xl 3 1 s.length (ints s)), (blk bb 44 [vb']), (row vb' 3 1 best'.length (ints best')), (rob bs 134 [(Value.func (.func 73) #[] #[(bptr br 0), (bptr bb 0), (bptr B 0), (bptr bs 0)])]), (rob br 53 [xr]), (rob B 116 [(bptr bx 0)]), (rob bx 146 [(Value.int .i64 b.scales), vt, vm, (Value.map (some bm))]), (mapX false bm es ck es.size 106 5 (bN b.tabs b.tabs.length) (bC lr lb b.tabs b.tabs.length)), (c_9 false vt lr lb b.tabs), (d_2 false vm lk b.macs), (sl xr 2 l.length (pairs l)), (sl xk 2 ((d_6 l s l.length).length) (pairs (d_6 l s l.length)))]) := by
 refine a_8 Try.func73 rfl fun u W => ?_
 replace W : Fr 69 [] [(0, xl), (1, xk), (2, (Value.int .i64 (l.length : Int))), (3, (Value.int .i64 0)), (4, (bptr br 0)), (5, (bptr bb 0)), (6, (bptr B 0)), (7, (bptr bs 0))] u := W
 have hll := hl.len; have hkl := kep_len l s l.length
 have I : Sep X w w [(row xl 3 1 s.length (ints s)), (blk bb 44 [vb]), (row vb 3 1 best.length (ints best)), (rob bs 134 [(Value.func (.func 73) #[] #[(bptr br 0), (bptr bb 0), (bptr B 0), (bptr bs 0)])]), (rob br 53 [xr]), (rob B 116 [(bptr bx 0)]), (rob bx 146 [(Value.int .i64 b.scales), vt, vm, (Value.map (some bm))]), (mapX false bm es ck es.size 106 5 (bN b.tabs b.tabs.length) (bC lr lb b.tabs b.tabs.length)), (c_9 false vt lr lb b.tabs), (d_2 false vm lk b.macs), (sl xr 2 l.length (pairs l)), (sl xk 2 ((d_6 l s l.length).length) (pairs (d_6 l s l.length)))] := hJ
 refine m2 ?_
 refine s1 W (a_1 rfl (evc _ _)) fun a1 a => ?_; clear W u
 refine n2 ?_
 refine m2 ?_
 refine s1 a (a_0 rfl (a.ev rfl)) fun a3 c => ?_; clear a a1
 refine s1 c (a_3 rfl ab_7 (c.ev rfl) (I.rk 4 rfl) rfl) fun a5 f => ?_; clear c a3
 refine s1 f (c_0 rfl p_0 (f.ev rfl) (I.sk 10 rfl)) fun a7 Y => ?_; clear f a5
 refine s1 Y (j_8 rfl (Y.ev rfl) (Y.ev rfl)) fun a9 C => ?_; clear Y a7
 have t : (l.length : Int) = (l.length : Int) := rfl
 rw [decide_eq_true t] at C
 refine n1 ?_
 refine c_6 C rfl ?_
 refine b_7 ?_
 have J := C.as [(0, xl), (1, xk), (3, (Value.int .i64 0)), (5, (bptr bb 0)), (6, (bptr B 0))] rfl; clear C
 refine a_5 ?_
 refine s1 J (a_0 rfl (J.ev rfl)) fun x K => ?_; clear J a9
 refine s2 K (a_6 rfl en_74 (ev1 (K.ev rfl)) (clone_int s _ _ (SlAt.d_4 (I.d_7 0 rfl)) (by omega))) ?_
 rintro y q AV ⟨j, hO19⟩ D; have H := I.h_7 j hO19; clear j hO19 K I x
 refine s7 D (c_5 H rfl aa_8 (D.ev rfl) (D.ev rfl) (i := 2) rfl (vs := [q]) (t_2 (SlAt.isSl (SlAt.d_4 (H.d_7 0 rfl)))) rfl (j_3 (SlAt.one (SlAt.d_4 (H.d_7 0 rfl))) x_2) (Nat.le_of_ble_eq_true rfl)) ?_
 intro _ AM m L; clear D
 have A : Sep X w AM [(row q 3 1 s.length (ints s)), (row xl 3 1 s.length (ints s)), (blk bb 44 [q]), (row vb 3 1 best.length (ints best)), (rob bs 134 [(Value.func (.func 73) #[] #[(bptr br 0), (bptr bb 0), (bptr B 0), (bptr bs 0)])]), (rob br 53 [xr]), (rob B 116 [(bptr bx 0)]), (rob bx 146 [(Value.int .i64 b.scales), vt, vm, (Value.map (some bm))]), (mapX false bm es ck es.size 106 5 (bN b.tabs b.tabs.length) (bC lr lb b.tabs b.tabs.length)), (c_9 false vt lr lb b.tabs), (d_2 false vm lk b.macs), (sl xr 2 l.length (pairs l)), (sl xk 2 ((d_6 l s l.length).length) (pairs (d_6 l s l.length)))] := m; clear m H
 refine n4 ?_
 refine s1 L (a_3 rfl ty_116 (L.ev rfl) (A.rk 6 rfl) rfl) fun z M => ?_; clear L y
 refine s1 M (a_0 rfl (M.ev rfl)) fun AA E => ?_; clear M z
 refine s2 E (a_6 rfl en_57 (ev2 (E.ev rfl) (E.ev rfl)) (spansb_ok b vt vm lr lb lk _ (b_6 (A.ok 9 _ rfl)) (b_8 (A.ok 10 _ rfl)) hth bx bm _ _ hMO (A.rk 7 rfl) (A.ok 8 _ rfl) hb (d_6 l s l.length) _ (A.sk 12 rfl) (kep_read hl (Nat.le_refl _)))) ?_
 rintro AB _ AW ⟨Z, AS, rfl, htk35, k⟩ N; have n := A.step k; clear k E A AA
 refine s1 N (a_0 rfl (N.ev rfl)) fun AC O => ?_; clear N AB
 refine s1 O (c_3 rfl (O.ev rfl) rfl) fun AD P => ?_; clear O AC
 refine s1 P (c_3 rfl (P.ev rfl) rfl) fun AE d => ?_; clear P AD
 refine s2 d (e_4 n rfl ze_120 (cs := [(Value.int .i64 0), (Value.int .i64 0), (Value.int .i64 0), (Value.int .i64 0), (Value.int .i64 0), (Value.int .i64 0), (Value.int .i64 0), (Value.int .i64 0)]) rfl) ?_
 rintro AF _ AX ⟨AU, rfl, o⟩ F; clear d n AE
 refine s7 F (c_5 o rfl l_4 (F.ev rfl) (F.ev rfl) (i := 0) rfl (vs := (pairs Z)) rfl (show (pairs Z).length = 8 from by simp only [b_1, List.length_set]; omega) (l_1 _) (by decide)) ?_
 intro _ AY p Q; have r := p.n_4 (i := 0) rfl (cs' := (pairs Z)) (k_0 _ _ (Eq.symm (show (pairs Z).length = 8 from by simp only [b_1, List.length_set]; omega))); clear p F o
 refine s1 Q (a_1 rfl (Q.ev rfl)) fun AG e => ?_; clear Q AF
 refine n2 ?_
 have R := e.as [(14, (Value.bool ((i_7 b (d_6 l s l.length)).isSome))), (3, (Value.int .i64 0))] rfl; clear e
 refine a_5 ?_
 refine s1 R (a_0 rfl (R.ev rfl)) fun AH S => ?_; clear R AG
 refine s1 S (j_8 rfl (S.ev rfl) (evc _ _)) fun AI T => ?_; clear S AH
 refine s1 T (a_0 rfl (T.ev rfl)) fun AJ U => ?_; clear T AI
 refine s5 U (a_0 rfl (U.ev rfl)) fun AK G => ?_; clear U AJ
 refine s1 G (b_3 rfl (G.ev rfl) (G.ev rfl)) fun AL V => ?_; clear G AK
 refine s1 V (a_1 rfl (V.ev rfl)) fun AT g => ?_; clear V AL
 refine n1 ?_
 refine c_8 ?_
 refine a_7 ?_
 refine a_9 g (.inl rfl) (a_2 g rfl (.tmp rfl)) ?_
 rw [lv_0]
 exact ⟨rfl, _, s, fun h => lv_f0 h, r.keep [2, 3, 1, 5, 6, 7, 8, 9, 10, 11, 12, 13] (by decide) _ rfl rfl⟩
theorem leave_keep (b : h_0) (vt vm : Value) (lr lb lk : Nat → Value) (hth : o_0 b) (hb : l_3 b) (bx bm : Nat) (es : Array MapEntry) (ck : Nat) (hMO : p_3 bm es ck (bN b.tabs b.tabs.length)) (l : List (Int × Int)) (hl : t_6 b l) (xr : Value) (bb br E bs : Nat) (d : Nat) (ih : ∀ (m : Nat) (q : Nat) (s : List Int) (xl xk vb : Value) (best : List Int) (w : World) (X : Nat → Prop) (_ : m ≤ d) (_ : q + d = l.length) (_ : s_1 s q) (_ : s.length + m ≤ 1000) (_ : Sep X w w [(row xl 3 1 s.length (ints s)), (blk bb 44 [vb]), (row vb 3 1 best.length (ints best)), (rob bs 134 [(Value.func (.func 73) #[] #[(bptr br 0), (bptr bb 0), (bptr E 0), (bptr bs 0)])]), (rob br 53 [xr]), (rob E 116 [(bptr bx 0)]), (rob bx 146 [(Value.int .i64 b.scales), vt, vm, (Value.map (some bm))]), (mapX false bm es ck es.size 106 5 (bN b.tabs b.tabs.length) (bC lr lb b.tabs b.tabs.length)), (c_9 false vt lr lb b.tabs), (d_2 false vm lk b.macs), (sl xr 2 l.length (pairs l)), (sl xk 2 ((d_6 l s q).length) (pairs (d_6 l s q)))]), Calls Try.prog 73 #[xl, xk, .int .i64 (q : Int), .int .i64 (m : Int), bptr br 0, bptr bb 0, bptr E 0, bptr bs 0] w (Ret fun v w' => v = .bool (i_2 l.length (okS b l) m s q) ∧ ∃ vb' best', ((i_2 l.length (okS b l) m s q) = true → (m_8 l.length m s q).find? (okS b l) = some best') ∧ Sep X w w' [(row xl 3 1 s.length (ints s)), (blk bb 44 [vb']), (row vb' 3 1 best'.length (ints best')), (rob bs 134 [(Value.func (.func 73) #[] #[(bptr br 0), (bptr bb 0), (bptr E 0), (bptr bs 0)])]), (rob br 53 [xr]), (rob E 116 [(bptr bx 0)]), (rob bx 146 [(Value.int .i64 b.scales), vt, vm, (Value.map (some bm))]), (mapX false bm es ck es.size 106 5 (bN b.tabs b.tabs.length) (bC lr lb b.tabs b.tabs.length)), (c_9 false vt lr lb b.tabs), (d_2 false vm lk b.macs), (sl xr 2 l.length (pairs l)), (sl xk 2 ((d_6 l s q).length) (pairs (d_6 l s q)))])) (q : Nat) (s : List Int) (xl xk vb : Value) (best : List Int) (w : World) (X : Nat → Prop) (hm : 0 ≤ d + 1) (hqd : q + (d + 1) = l.length) (hs : s_1 s q) (hsl : s.length + 0 ≤ 1000) (hJ : Sep X w w [(row xl 3 1 s.length (ints s)), (blk bb 44 [vb]), (row vb 3 1 best.length (ints best)), (rob bs 134 [(Value.func (.func 73) #[] #[(bptr br 0), (bptr bb 0), (bptr E 0), (bptr bs 0)])]), (rob br 53 [xr]), (rob E 116 [(bptr bx 0)]), (rob bx 146 [(Value.int .i64 b.scales), vt, vm, (Value.map (some bm))]), (mapX false bm es ck es.size 106 5 (bN b.tabs b.tabs.length) (bC lr lb b.tabs b.tabs.length)), (c_9 false vt lr lb b.tabs), (d_2 false vm lk b.macs), (sl xr 2 l.length (pairs l)), (sl xk 2 ((d_6 l s q).length) (pairs (d_6 l s q)))]) :
  Calls Try.prog 73 #[xl, xk, (Value.int .i64 (q : Int)), (Value.int .i64 0), (bptr br 0), (bptr bb 0), (bptr E 0), (bptr bs 0)] w (Ret fun v w' => v = .bool (i_2 l.length (okS b l) 0 s q) ∧ ∃ vb' best', ((i_2 l.length (okS b l) 0 s q) = true → (m_8 l.length 0 s q).find? (okS b l) = some best') ∧ Sep X w w' [(row xl 3 1 s.length (ints s)), (blk bb 44 [vb']), (row vb' 3 1 best'.length (ints best')), (rob bs 134 [(Value.func (.func 73) #[] #[(bptr br 0), (bptr bb 0), (bptr E 0), (bptr bs 0)])]), (rob br 53 [xr]), (rob E 116 [(bptr bx 0)]), (rob bx 146 [(Value.int .i64 b.scales), vt, vm, (Value.map (some bm))]), (mapX false bm es ck es.size 106 5 (bN b.tabs b.tabs.length) (bC lr lb b.tabs b.tabs.length)), (c_9 false vt lr lb b.tabs), (d_2 false vm lk b.macs), (sl xr 2 l.length (pairs l)), (sl xk 2 ((d_6 l s q).length) (pairs (d_6 l s q)))]) := by
 refine a_8 Try.func73 rfl fun a0 O => ?_
 replace O : Fr 69 [] [(0, xl), (1, xk), (2, (Value.int .i64 (q : Int))), (3, (Value.int .i64 0)), (4, (bptr br 0)), (5, (bptr bb 0)), (6, (bptr E 0)), (7, (bptr bs 0))] a0 := O
 have hll := hl.len; have hkl := kep_len l s q
 have Q : Sep X w w [(row xl 3 1 s.length (ints s)), (blk bb 44 [vb]), (row vb 3 1 best.length (ints best)), (rob bs 134 [(Value.func (.func 73) #[] #[(bptr br 0), (bptr bb 0), (bptr E 0), (bptr bs 0)])]), (rob br 53 [xr]), (rob E 116 [(bptr bx 0)]), (rob bx 146 [(Value.int .i64 b.scales), vt, vm, (Value.map (some bm))]), (mapX false bm es ck es.size 106 5 (bN b.tabs b.tabs.length) (bC lr lb b.tabs b.tabs.length)), (c_9 false vt lr lb b.tabs), (d_2 false vm lk b.macs), (sl xr 2 l.length (pairs l)), (sl xk 2 ((d_6 l s q).length) (pairs (d_6 l s q)))] := hJ
 refine m2 ?_
 refine s1 O (a_1 rfl (evc _ _)) fun a1 Y => ?_; clear O a0
 refine n2 ?_
 refine m2 ?_
 refine s1 Y (a_0 rfl (Y.ev rfl)) fun a3 p => ?_; clear Y a1
 refine s1 p (a_3 rfl ab_7 (p.ev rfl) (Q.rk 4 rfl) rfl) fun a5 AA => ?_; clear p a3
 refine s1 AA (c_0 rfl p_0 (AA.ev rfl) (Q.sk 10 rfl)) fun a7 P => ?_; clear AA a5
 refine s1 P (j_8 rfl (P.ev rfl) (P.ev rfl)) fun a9 H => ?_; clear P a7
 have AM : ¬ ((q : Int) = (l.length : Int)) := (by omega)
 rw [decide_eq_false AM] at H
 refine n1 ?_
 refine b_5 H rfl ?_
 refine d_1 ?_
 refine b_0 ?_
 refine b_7 ?_
 refine b_7 ?_
 have U := H.as [(0, xl), (1, xk), (2, (Value.int .i64 (q : Int))), (3, (Value.int .i64 0)), (4, (bptr br 0)), (7, (bptr bs 0))] rfl; clear H
 have V := U.as [(0, xl), (1, xk), (2, (Value.int .i64 (q : Int))), (3, (Value.int .i64 0)), (4, (bptr br 0)), (7, (bptr bs 0))] rfl; clear U
 refine g_6 mixed V Q 13 [[], [0], [1], [2], [2], [2], [2, 5], [2, 4, 6], [2], [2], [2, 9], [2], [2, 11]] [(Yd.val (Value.int .i64 0)), (Yd.val (Value.bool false)), (Yd.val (Value.bool false)), (Yd.val undef), (Yd.val undef), (Yd.val undef), (Yd.val undef), (Yd.val undef), (Yd.val undef), (Yd.val undef), (Yd.val undef), (Yd.val undef), (Yd.val undef)] (by decide +kernel) rfl rfl ?_ ?_
 ·skip
  refine dq (fun a w hA hS hd => a_0 rfl (hA.ev rfl)) ?_
  refine dq (fun a w hA hS hd => g_9 rfl (hq hd 0) (evc _ _)) ?_
  refine dq (fun a w hA hS hd => a_0 rfl (hq hd 1)) ?_
  refine dn 2 ?_
  refine dn 2 ?_
  refine dn 2 ?_
  refine dn 2 ?_
  refine dn 2 ?_
  refine dn 2 ?_
  refine dn 2 ?_
  refine dn 2 ?_
  refine dn 2 ?_
  refine dn 2 ?_
  trivial
 intro AT As W AB G; clear V Q
 have Z := W.add (hz G 2); clear W
 have c := Z.add (hz G 3); clear Z
 have e := c.add (hz G 7); clear c
 have f := e.add (hz G 8); clear e
 have g := f.add (hz G 10); clear f
 have j := g.add (hz G 12); clear g
 clear G
 refine s3 j fun AU J => ?_; clear j AT
 refine s1 J (c_2 rfl (J.ev rfl) (evc _ _)) fun An K => ?_; clear J AU
 refine n1 ?_
 refine b_5 K rfl ?_
 refine d_1 ?_
 refine b_0 ?_
 refine b_7 ?_
 have k := K.as [(0, xl), (1, xk), (2, (Value.int .i64 (q : Int))), (3, (Value.int .i64 0)), (4, (bptr br 0)), (7, (bptr bs 0))] rfl; clear K
 have n := k.as [(0, xl), (1, xk), (2, (Value.int .i64 (q : Int))), (3, (Value.int .i64 0)), (4, (bptr br 0)), (7, (bptr bs 0))] rfl; clear k
 refine c_drawC mixed n AB 20 16 10 (by decide) (by decide) (by decide) rfl [[], [0], [], [1, 2], [], [3, 4], [5], [6], [6], [6], [6, 9], [6], [6], [6, 11, 12], [6, 13], [6, 14], [6, 10, 15], [6], [6, 17], [6]] [(yw xr), (yw (Value.int .i64 (l.length : Int))), (yw (Value.int .i64 (q : Int))), (yw (Value.int .i64 ((l.length : Int) - (q : Int)))), (yw (Value.int .i64 0)), (yw (Value.bool true)), (yw (Value.bool true)), (yw (Value.func (.func 73) #[] #[(bptr br 0), (bptr bb 0), (bptr E 0), (bptr bs 0)])), (yw xl), (yw xk), (fun (C : Nat → Value) (v_ : Value) (rs_ : List Res) => True ∧ rs_ = [(row v_ 98 2 ((d_6 l s q).length) (pairs (d_6 l s q)))]), (yw xr), (yw (Value.int .i64 (q : Int))), (yw (eptr xr (q * 2))), (yw (Value.agg #[(Value.int .i64 ((l.getD q (0, 0)).1)), (Value.int .i64 ((l.getD q (0, 0)).2))])), (fun (C : Nat → Value) (v_ : Value) (rs_ : List Res) => True ∧ rs_ = [(row v_ 98 2 1 [(Value.int .i64 ((l.getD q (0, 0)).1)), (Value.int .i64 ((l.getD q (0, 0)).2))])]), (fun (C : Nat → Value) (v_ : Value) (rs_ : List Res) => True ∧ rs_ = [(row v_ 98 2 (((d_6 l s q) ++ [((l.getD q (0, 0)).1, (l.getD q (0, 0)).2)]).length) (pairs ((d_6 l s q) ++ [((l.getD q (0, 0)).1, (l.getD q (0, 0)).2)])))]), (yw (Value.int .i64 (q : Int))), (yw (Value.int .i64 ((q : Int) + 1))), (yw (Value.int .i64 0))] (by decide +kernel) (by decide +kernel) rfl rfl ⟨dw, dw, dw, dw, dw, dw, dw, dw, dw, dw, (fun _ _ _ _ _ h_ => h_), dw, dw, dw, dw, (fun _ _ _ _ _ h_ => h_), (fun _ _ _ _ _ h_ => h_), dw, dw, dw, trivial⟩ (by decide +kernel) (by decide +kernel) ?_ ?_ ?_
 ·skip
  refine ⟨fun hj_ a w C hA hS hd => gv1 (a_3 rfl ab_7 (hA.ev rfl) (hS.rk 4 rfl) rfl), ?_⟩
  refine ⟨fun hj_ a w C hA hS hd => gv1 (c_0 rfl p_0 (gu hd 0) (hS.sk 10 rfl)), ?_⟩
  refine ⟨fun hj_ a w C hA hS hd => gv1 (a_0 rfl (hA.ev rfl)), ?_⟩
  refine ⟨fun hj_ a w C hA hS hd => gv1 (g_1 rfl (gu hd 1) (gu hd 2) (by omega) (by omega)), ?_⟩
  refine ⟨fun hj_ a w C hA hS hd => gv1 (a_0 rfl (hA.ev rfl)), ?_⟩
  refine ⟨fun hj_ a w C hA hS hd => gv2 (g_9 rfl (gu hd 3) (gu hd 4)) (And.intro (by show Value.bool _ = _; simp only [decide_eq_true (show 0 < ((l.length : Int) - (q : Int)) from (by omega)), decide_true, decide_false, Bool.not_true, Bool.not_false]) rfl), ?_⟩
  refine ⟨fun hj_ a w C hA hS hd => gv1 (a_0 rfl (gu hd 5)), ?_⟩
  refine ⟨fun hj_ a w C hA hS hd => gy1 hd 6 (a_3 rfl ty_134 (hA.ev rfl) (hS.rk 3 rfl) rfl), ?_⟩
  refine ⟨fun hj_ a w C hA hS hd => gy1 hd 6 (a_0 rfl (hA.ev rfl)), ?_⟩
  refine ⟨fun hj_ a w C hA hS hd => gy1 hd 6 (a_0 rfl (hA.ev rfl)), ?_⟩
  refine ⟨fun hj_ a w C hA hS hd => f_1 rfl rfl (gut hd 6 (by decide) rfl (fun _ h => And.left h)) (vn (a_6 rfl en_75 (ev1 (gu hd 9)) (clone_read (d_6 l s q) _ _ (hS.sk 11 rfl) (by omega))) (fun v w' h => ⟨_, And.intro trivial rfl, (Sep.start NoB _).h_7 h.1 h.2, rfl⟩)), ?_⟩
  refine ⟨fun hj_ a w C hA hS hd => gy1 hd 6 (a_3 rfl ab_7 (hA.ev rfl) (hS.rk 4 rfl) rfl), ?_⟩
  refine ⟨fun hj_ a w C hA hS hd => gy1 hd 6 (a_0 rfl (hA.ev rfl)), ?_⟩
  refine ⟨fun hj_ a w C hA hS hd => gy1 hd 6 (b_2 rfl p_0 z_2 (gu hd 11) (i := q) (gu hd 12) (hS.sk 10 rfl) (by decide) (by omega)), ?_⟩
  refine ⟨fun hj_ a w C hA hS hd => gy1 hd 6 (f_2 rfl z_2 (gu hd 13) (hS.sk 10 rfl) (i_3 (by omega)) rfl (by decide)), ?_⟩
  refine ⟨fun hj_ a w C hA hS hd => f_1 rfl rfl (gut hd 6 (by decide) rfl (fun _ h => And.left h)) (vblt rfl (pv1 (gu hd 14)) p_0 z_2 ze_98 (by decide) (cs := [(Value.int .i64 ((l.getD q (0, 0)).1)), (Value.int .i64 ((l.getD q (0, 0)).2))]) (r_0 _ _) rfl (by decide) (fun _ => And.intro trivial rfl)), ?_⟩
  refine ⟨fun hj_ => absurd rfl hj_, ?_⟩
  refine ⟨fun hj_ a w C hA hS hd => gy1 hd 6 (a_0 rfl (hA.ev rfl)), ?_⟩
  refine ⟨fun hj_ a w C hA hS hd => gy1 hd 6 (f_6 rfl (gu hd 17) (evc _ _) (by omega) (by omega)), ?_⟩
  refine ⟨fun hj_ a w C hA hS hd => gy1 hd 6 (a_0 rfl (hA.ev rfl)), ?_⟩
  trivial
 ·skip
  intro a w C Aq Lr hA Aa Ac hd hS
  obtain ⟨Ak, AP⟩ := Ac; subst AP
  obtain ⟨e6, Ar, Ad, Ap⟩ := hd 6 (by decide) (by decide)
  obtain ⟨Ab, AZ⟩ := Ad; subst AZ
  rw [Ab] at e6
  obtain ⟨AX, Am, AR, AO⟩ := hd 15 (by decide) (by decide)
  obtain ⟨Al, AQ⟩ := AR; subst AQ
  have hp15_0 := AO _ (List.mem_of_getElem? (i := 0) rfl)
  exact f_1 rfl rfl (i_1 e6 rfl) (n_2 (l_0 hS rfl p_0 el_98 (b_9 (i_1 Aa rfl)) (b_9 (i_1 AX rfl)) (i := 0) rfl (SlAt.d_4 hp15_0) rfl (by simp only [maxLen]; omega) (by omega)) fun v_ w_ h_ => ⟨_, And.intro trivial rfl, h_.g_7 (i := 0) rfl (n' := ((d_6 l s q) ++ [((l.getD q (0, 0)).1, (l.getD q (0, 0)).2)]).length) (xs' := (pairs ((d_6 l s q) ++ [((l.getD q (0, 0)).1, (l.getD q (0, 0)).2)]))) (by simp) (by simp [pairs])⟩)
 skip
 intro AK Ae C rsf38 o D hrq M; clear n AB
 obtain ⟨AF, AI⟩ := D 15 (by decide) (by decide)
 obtain ⟨AG, R⟩ := AI
 obtain ⟨T, AJ⟩ := D 16 (by decide) (by decide)
 obtain ⟨AH, S⟩ := AJ
 have AC : Sep X w Ae [(row (C 15) 98 2 1 [(Value.int .i64 ((l.getD q (0, 0)).1)), (Value.int .i64 ((l.getD q (0, 0)).2))]), (row (C 16) 98 2 (((d_6 l s q) ++ [((l.getD q (0, 0)).1, (l.getD q (0, 0)).2)]).length) (pairs ((d_6 l s q) ++ [((l.getD q (0, 0)).1, (l.getD q (0, 0)).2)]))), (row xl 3 1 s.length (ints s)), (blk bb 44 [vb]), (row vb 3 1 best.length (ints best)), (rob bs 134 [(Value.func (.func 73) #[] #[(bptr br 0), (bptr bb 0), (bptr E 0), (bptr bs 0)])]), (rob br 53 [xr]), (rob E 116 [(bptr bx 0)]), (rob bx 146 [(Value.int .i64 b.scales), vt, vm, (Value.map (some bm))]), (mapX false bm es ck es.size 106 5 (bN b.tabs b.tabs.length) (bC lr lb b.tabs b.tabs.length)), (c_9 false vt lr lb b.tabs), (d_2 false vm lk b.macs), (sl xr 2 l.length (pairs l)), (sl xk 2 ((d_6 l s q).length) (pairs (d_6 l s q)))] := by rw [show catR rsf38 0 20 = ([(row (C 15) 98 2 1 [(Value.int .i64 ((l.getD q (0, 0)).1)), (Value.int .i64 ((l.getD q (0, 0)).2))]), (row (C 16) 98 2 (((d_6 l s q) ++ [((l.getD q (0, 0)).1, (l.getD q (0, 0)).2)]).length) (pairs ((d_6 l s q) ++ [((l.getD q (0, 0)).1, (l.getD q (0, 0)).2)])))] : List Res) by (try simp only [catR, gr (D 0 (by decide) (by decide)), gr (D 1 (by decide) (by decide)), gr (D 2 (by decide) (by decide)), gr (D 3 (by decide) (by decide)), gr (D 4 (by decide) (by decide)), gr (D 5 (by decide) (by decide)), gr (D 6 (by decide) (by decide)), gr (D 7 (by decide) (by decide)), gr (D 8 (by decide) (by decide)), gr (D 9 (by decide) (by decide)), gr (D 11 (by decide) (by decide)), gr (D 12 (by decide) (by decide)), gr (D 13 (by decide) (by decide)), gr (D 14 (by decide) (by decide)), R, S, gr (D 17 (by decide) (by decide)), gr (D 18 (by decide) (by decide)), gr (D 19 (by decide) (by decide)), hrq]); (try rfl)] at M; exact M
 have r := o.add (gs (D 6 (by decide) (by decide))); clear o
 have t := r.add (gs (D 7 (by decide) (by decide))); clear r
 have u := t.add (gs (D 8 (by decide) (by decide))); clear t
 have x : Fr 69 [] [(63, (C 16)), (55, xl), (54, (Value.func (.func 73) #[] #[(bptr br 0), (bptr bb 0), (bptr E 0), (bptr bs 0)])), (53, (Value.bool true)), (0, xl), (1, xk), (2, (Value.int .i64 (q : Int))), (3, (Value.int .i64 0)), (4, (bptr br 0)), (7, (bptr bs 0))] AK := u.add (i_1 T rfl); clear u
 have y := x.add (gs (D 18 (by decide) (by decide))); clear x
 have F := y.add (gs (D 19 (by decide) (by decide))); clear y
 clear D M AF T hrq
 clear R
 clear AG
 clear S
 clear AH
 have AD := sep_row_sl (AC.g_7 (i := 1) rfl (n' := (d_6 l s (q + 1)).length) (xs' := pairs (d_6 l s (q + 1))) (by rw [kep_in hs]) (by rw [kep_in hs])) (i := 1) rfl; clear AC
 have N := AD.gkp (gpc 2 (gpc 3 (gpc 4 (gpc 5 (gpc 6 (gpc 7 (gpc 8 (gpc 9 (gpc 10 (gpc 11 (gpc 12 (gpc 1 (gpc 0 (gpc 13 gpn)))))))))))))); clear AD
 refine s6 F (i_5 rfl (F.ev rfl) en_73 (ev4 (F.ev rfl) (F.ev rfl) (F.ev rfl) (F.ev rfl)) (by have hz := ih 0 (q + 1) s _ _ _ _ _ (ownX [(row xl 3 1 s.length (ints s)), (blk bb 44 [vb]), (row vb 3 1 best.length (ints best)), (rob bs 134 [(Value.func (.func 73) #[] #[(bptr br 0), (bptr bb 0), (bptr E 0), (bptr bs 0)])]), (rob br 53 [xr]), (rob E 116 [(bptr bx 0)]), (rob bx 146 [(Value.int .i64 b.scales), vt, vm, (Value.map (some bm))]), (mapX false bm es ck es.size 106 5 (bN b.tabs b.tabs.length) (bC lr lb b.tabs b.tabs.length)), (c_9 false vt lr lb b.tabs), (d_2 false vm lk b.macs), (sl xr 2 l.length (pairs l)), (sl (C 16) 2 ((d_6 l s (q + 1)).length) (pairs (d_6 l s (q + 1))))]) (by omega) (by omega) hs.more (by omega) (Sep.enterG (A := [(row xl 3 1 s.length (ints s)), (blk bb 44 [vb]), (row vb 3 1 best.length (ints best)), (rob bs 134 [(Value.func (.func 73) #[] #[(bptr br 0), (bptr bb 0), (bptr E 0), (bptr bs 0)])]), (rob br 53 [xr]), (rob E 116 [(bptr bx 0)]), (rob bx 146 [(Value.int .i64 b.scales), vt, vm, (Value.map (some bm))]), (mapX false bm es ck es.size 106 5 (bN b.tabs b.tabs.length) (bC lr lb b.tabs b.tabs.length)), (c_9 false vt lr lb b.tabs), (d_2 false vm lk b.macs), (sl xr 2 l.length (pairs l)), (sl (C 16) 2 ((d_6 l s (q + 1)).length) (pairs (d_6 l s (q + 1))))]) (B := [(row (C 15) 98 2 1 [(Value.int .i64 ((l.getD q (0, 0)).1)), (Value.int .i64 ((l.getD q (0, 0)).2))]), (sl xk 2 ((d_6 l s q).length) (pairs (d_6 l s q)))]) N); exact hz)) ?_
 rintro AV _ Af ⟨rfl, vb52, best53, AN, AE⟩ I; clear F AK
 have AL : Sep X w Af [(row xl 3 1 s.length (ints s)), (blk bb 44 [vb52]), (row vb52 3 1 best53.length (ints best53)), (rob bs 134 [(Value.func (.func 73) #[] #[(bptr br 0), (bptr bb 0), (bptr E 0), (bptr bs 0)])]), (rob br 53 [xr]), (rob E 116 [(bptr bx 0)]), (rob bx 146 [(Value.int .i64 b.scales), vt, vm, (Value.map (some bm))]), (mapX false bm es ck es.size 106 5 (bN b.tabs b.tabs.length) (bC lr lb b.tabs b.tabs.length)), (c_9 false vt lr lb b.tabs), (d_2 false vm lk b.macs), (sl xr 2 l.length (pairs l)), (sl (C 16) 2 ((d_6 l s (q + 1)).length) (pairs (d_6 l s (q + 1)))), (row (C 15) 98 2 1 [(Value.int .i64 ((l.getD q (0, 0)).1)), (Value.int .i64 ((l.getD q (0, 0)).2))]), (sl xk 2 ((d_6 l s q).length) (pairs (d_6 l s q)))] := Sep.callG (A := [(row xl 3 1 s.length (ints s)), (blk bb 44 [vb]), (row vb 3 1 best.length (ints best)), (rob bs 134 [(Value.func (.func 73) #[] #[(bptr br 0), (bptr bb 0), (bptr E 0), (bptr bs 0)])]), (rob br 53 [xr]), (rob E 116 [(bptr bx 0)]), (rob bx 146 [(Value.int .i64 b.scales), vt, vm, (Value.map (some bm))]), (mapX false bm es ck es.size 106 5 (bN b.tabs b.tabs.length) (bC lr lb b.tabs b.tabs.length)), (c_9 false vt lr lb b.tabs), (d_2 false vm lk b.macs), (sl xr 2 l.length (pairs l)), (sl (C 16) 2 ((d_6 l s (q + 1)).length) (pairs (d_6 l s (q + 1))))]) (B := [(row (C 15) 98 2 1 [(Value.int .i64 ((l.getD q (0, 0)).1)), (Value.int .i64 ((l.getD q (0, 0)).2))]), (sl xk 2 ((d_6 l s q).length) (pairs (d_6 l s q)))]) N AE (u_2 ⟨.inl rfl, .inl rfl, .inl rfl, .inr ⟨3, rfl⟩, .inr ⟨4, rfl⟩, .inr ⟨5, rfl⟩, .inr ⟨6, rfl⟩, .inr ⟨7, rfl⟩, .inr ⟨8, rfl⟩, .inr ⟨9, rfl⟩, .inr ⟨10, rfl⟩, .inr ⟨11, rfl⟩, trivial⟩); clear AE N
 refine s1 I (b_3 rfl (I.ev rfl) (I.ev rfl)) fun AW L => ?_; clear I AV
 refine s1 L (a_1 rfl (L.ev rfl)) fun Ao z => ?_; clear L AW
 refine n1 ?_
 refine c_8 ?_
 refine a_9 z (.inl rfl) (a_2 z rfl (.tmp rfl)) ?_
 have hh : (i_2 l.length (okS b l) 0 s q) = (i_2 l.length (okS b l) 0 s (q + 1)) := lv_0.trans lv_0.symm
 rw [hh]
 exact ⟨rfl, _, _, fun h => AN h, AL.keep [0, 1, 2, 3, 4, 5, 6, 7, 8, 9, 10, 13] (by decide) _ rfl rfl⟩
theorem leave_more (b : h_0) (vt vm : Value) (lr lb lk : Nat → Value) (hth : o_0 b) (hb : l_3 b) (bx bm : Nat) (es : Array MapEntry) (ck : Nat) (hMO : p_3 bm es ck (bN b.tabs b.tabs.length)) (l : List (Int × Int)) (hl : t_6 b l) (xr : Value) (bb br F bs : Nat) (d : Nat) (ih : ∀ (m : Nat) (q : Nat) (s : List Int) (xl xk vb : Value) (best : List Int) (w : World) (X : Nat → Prop) (_ : m ≤ d) (_ : q + d = l.length) (_ : s_1 s q) (_ : s.length + m ≤ 1000) (_ : Sep X w w [(row xl 3 1 s.length (ints s)), (blk bb 44 [vb]), (row vb 3 1 best.length (ints best)), (rob bs 134 [(Value.func (.func 73) #[] #[(bptr br 0), (bptr bb 0), (bptr F 0), (bptr bs 0)])]), (rob br 53 [xr]), (rob F 116 [(bptr bx 0)]), (rob bx 146 [(Value.int .i64 b.scales), vt, vm, (Value.map (some bm))]), (mapX false bm es ck es.size 106 5 (bN b.tabs b.tabs.length) (bC lr lb b.tabs b.tabs.length)), (c_9 false vt lr lb b.tabs), (d_2 false vm lk b.macs), (sl xr 2 l.length (pairs l)), (sl xk 2 ((d_6 l s q).length) (pairs (d_6 l s q)))]), Calls Try.prog 73 #[xl, xk, .int .i64 (q : Int), .int .i64 (m : Int), bptr br 0, bptr bb 0, bptr F 0, bptr bs 0] w (Ret fun v w' => v = .bool (i_2 l.length (okS b l) m s q) ∧ ∃ vb' best', ((i_2 l.length (okS b l) m s q) = true → (m_8 l.length m s q).find? (okS b l) = some best') ∧ Sep X w w' [(row xl 3 1 s.length (ints s)), (blk bb 44 [vb']), (row vb' 3 1 best'.length (ints best')), (rob bs 134 [(Value.func (.func 73) #[] #[(bptr br 0), (bptr bb 0), (bptr F 0), (bptr bs 0)])]), (rob br 53 [xr]), (rob F 116 [(bptr bx 0)]), (rob bx 146 [(Value.int .i64 b.scales), vt, vm, (Value.map (some bm))]), (mapX false bm es ck es.size 106 5 (bN b.tabs b.tabs.length) (bC lr lb b.tabs b.tabs.length)), (c_9 false vt lr lb b.tabs), (d_2 false vm lk b.macs), (sl xr 2 l.length (pairs l)), (sl xk 2 ((d_6 l s q).length) (pairs (d_6 l s q)))])) (m : Nat) (q : Nat) (s : List Int) (xl xk vb : Value) (best : List Int) (w : World) (X : Nat → Prop) (hm : (m + 1) ≤ d + 1) (hqd : q + (d + 1) = l.length) (hs : s_1 s q) (hsl : s.length + (m + 1) ≤ 1000) (hJ : Sep X w w [(row xl 3 1 s.length (ints s)), (blk bb 44 [vb]), (row vb 3 1 best.length (ints best)), (rob bs 134 [(Value.func (.func 73) #[] #[(bptr br 0), (bptr bb 0), (bptr F 0), (bptr bs 0)])]), (rob br 53 [xr]), (rob F 116 [(bptr bx 0)]), (rob bx 146 [(Value.int .i64 b.scales), vt, vm, (Value.map (some bm))]), (mapX false bm es ck es.size 106 5 (bN b.tabs b.tabs.length) (bC lr lb b.tabs b.tabs.length)), (c_9 false vt lr lb b.tabs), (d_2 false vm lk b.macs), (sl xr 2 l.length (pairs l)), (sl xk 2 ((d_6 l s q).length) (pairs (d_6 l s q)))]) :
  Calls Try.prog 73 #[xl, xk, (Value.int .i64 (q : Int)), (Value.int .i64 ((m + 1 : Nat) : Int)), (bptr br 0), (bptr bb 0), (bptr F 0), (bptr bs 0)] w (Ret fun v w' => v = .bool (i_2 l.length (okS b l) (m + 1) s q) ∧ ∃ vb' best', ((i_2 l.length (okS b l) (m + 1) s q) = true → (m_8 l.length (m + 1) s q).find? (okS b l) = some best') ∧ Sep X w w' [(row xl 3 1 s.length (ints s)), (blk bb 44 [vb']), (row vb' 3 1 best'.length (ints best')), (rob bs 134 [(Value.func (.func 73) #[] #[(bptr br 0), (bptr bb 0), (bptr F 0), (bptr bs 0)])]), (rob br 53 [xr]), (rob F 116 [(bptr bx 0)]), (rob bx 146 [(Value.int .i64 b.scales), vt, vm, (Value.map (some bm))]), (mapX false bm es ck es.size 106 5 (bN b.tabs b.tabs.length) (bC lr lb b.tabs b.tabs.length)), (c_9 false vt lr lb b.tabs), (d_2 false vm lk b.macs), (sl xr 2 l.length (pairs l)), (sl xk 2 ((d_6 l s q).length) (pairs (d_6 l s q)))]) := by
 refine a_8 Try.func73 rfl fun a0 AS => ?_
 replace AS : Fr 69 [] [(0, xl), (1, xk), (2, (Value.int .i64 (q : Int))), (3, (Value.int .i64 ((m + 1 : Nat) : Int))), (4, (bptr br 0)), (5, (bptr bb 0)), (6, (bptr F 0)), (7, (bptr bs 0))] a0 := AS
 have hll := hl.len; have hkl := kep_len l s q
 have AE : Sep X w w [(row xl 3 1 s.length (ints s)), (blk bb 44 [vb]), (row vb 3 1 best.length (ints best)), (rob bs 134 [(Value.func (.func 73) #[] #[(bptr br 0), (bptr bb 0), (bptr F 0), (bptr bs 0)])]), (rob br 53 [xr]), (rob F 116 [(bptr bx 0)]), (rob bx 146 [(Value.int .i64 b.scales), vt, vm, (Value.map (some bm))]), (mapX false bm es ck es.size 106 5 (bN b.tabs b.tabs.length) (bC lr lb b.tabs b.tabs.length)), (c_9 false vt lr lb b.tabs), (d_2 false vm lk b.macs), (sl xr 2 l.length (pairs l)), (sl xk 2 ((d_6 l s q).length) (pairs (d_6 l s q)))] := hJ
 refine m2 ?_
 refine s1 AS (a_1 rfl (evc _ _)) fun a1 A1 => ?_; clear AS a0
 refine n2 ?_
 refine m2 ?_
 refine s1 A1 (a_0 rfl (A1.ev rfl)) fun a3 A7 => ?_; clear A1 a1
 refine s1 A7 (a_3 rfl ab_7 (A7.ev rfl) (AE.rk 4 rfl) rfl) fun a5 BD => ?_; clear A7 a3
 refine s1 BD (c_0 rfl p_0 (BD.ev rfl) (AE.sk 10 rfl)) fun a7 Ao => ?_; clear BD a5
 refine s1 Ao (j_8 rfl (Ao.ev rfl) (Ao.ev rfl)) fun a9 e => ?_; clear Ao a7
 have Bw : ¬ ((q : Int) = (l.length : Int)) := (by omega)
 rw [decide_eq_false Bw] at e
 refine n1 ?_
 refine b_5 e rfl ?_
 refine d_1 ?_
 refine b_0 ?_
 refine b_7 ?_
 refine b_7 ?_
 have Ay := e.as [(0, xl), (1, xk), (2, (Value.int .i64 (q : Int))), (3, (Value.int .i64 ((m + 1 : Nat) : Int))), (4, (bptr br 0)), (7, (bptr bs 0))] rfl; clear e
 have hd5_ : 0 < ((m + 1 : Nat) : Int) := by omega
 have Az := Ay.as [(0, xl), (1, xk), (2, (Value.int .i64 (q : Int))), (3, (Value.int .i64 ((m + 1 : Nat) : Int))), (4, (bptr br 0)), (7, (bptr bs 0))] rfl; clear Ay
 have Bt := AE.below
 refine c_drawnA mixed Az AE 13 [[], [0], [1], [2], [2], [2], [2, 5], [2, 4, 6], [2], [2], [2, 9], [2], [2, 11]] [(Yd.val (Value.int .i64 ((m + 1 : Nat) : Int))), (Yd.val (Value.bool true)), (Yd.val (Value.bool true)), (Yd.val (Value.func (.func 73) #[] #[(bptr br 0), (bptr bb 0), (bptr F 0), (bptr bs 0)])), (Yd.val xl), (Yd.val (Value.int .i64 (q : Int))), (Yd.blt w.heap.size 3 1 [(Value.int .i64 (q : Int))]), Yd.any, (Yd.val xk), (Yd.val (Value.int .i64 (q : Int))), (Yd.val (Value.int .i64 ((q : Int) + 1))), (Yd.val (Value.int .i64 ((m + 1 : Nat) : Int))), (Yd.val (Value.int .i64 (((m + 1 : Nat) : Int) - 1)))] (by decide +kernel) rfl rfl 7 0 (by decide) rfl 1 ((ints s) ++ [(Value.int .i64 (q : Int))]) rfl ⟨u_8 _ _, u_8 _ _, u_8 _ _, u_8 _ _, u_8 _ _, u_8 _ _, ydb_blt _ _ _ _, ydb_any _, u_8 _ _, u_8 _ _, u_8 _ _, u_8 _ _, u_8 _ _, trivial⟩ ?_ ?_
 ·skip
  refine ⟨⟨fun _ a w hA hS hz hd => ?_, fun e_ => absurd e_ (by decide)⟩, ?_⟩
  ·skip
   exact d_9 rfl (dv (a_0 rfl (hA.ev rfl)) hS rfl)
  refine ⟨⟨fun _ a w hA hS hz hd => ?_, fun e_ => absurd e_ (by decide)⟩, ?_⟩
  ·skip
   have e0 := e_2 (hd 0 (by decide)) rfl (fun _ h => h)
   exact d_9 rfl (dv (g_9 rfl (b_9 e0) (evc _ _)) hS (by show Value.bool _ = _; simp [hd5_]))
  refine ⟨⟨fun _ a w hA hS hz hd => ?_, fun e_ => absurd e_ (by decide)⟩, ?_⟩
  ·skip
   have e1 := e_2 (hd 1 (by decide)) rfl (fun _ h => h)
   exact d_9 rfl (dv (a_0 rfl (b_9 e1)) hS rfl)
  refine ⟨⟨fun _ a w hA hS hz hd => ?_, fun e_ => absurd e_ (by decide)⟩, ?_⟩
  ·skip
   have J := e_2 (hd 2 (by decide)) rfl (fun _ h => h)
   exact f_1 rfl rfl J (dv (a_3 rfl ty_134 (hA.ev rfl) (hS.rk 3 rfl) rfl) hS rfl)
  refine ⟨⟨fun _ a w hA hS hz hd => ?_, fun e_ => absurd e_ (by decide)⟩, ?_⟩
  ·skip
   have J := e_2 (hd 2 (by decide)) rfl (fun _ h => h)
   exact f_1 rfl rfl J (dv (a_0 rfl (hA.ev rfl)) hS rfl)
  refine ⟨⟨fun _ a w hA hS hz hd => ?_, fun e_ => absurd e_ (by decide)⟩, ?_⟩
  ·skip
   have J := e_2 (hd 2 (by decide)) rfl (fun _ h => h)
   exact f_1 rfl rfl J (dv (a_0 rfl (hA.ev rfl)) hS rfl)
  refine ⟨⟨fun _ a w hA hS hz hd => ?_, fun e_ => absurd e_ (by decide)⟩, ?_⟩
  ·skip
   have J := e_2 (hd 2 (by decide)) rfl (fun _ h => h)
   have e5 := e_2 (hd 5 (by decide)) rfl (fun _ h => h)
   exact f_1 rfl rfl J (dbltZ hS hz rfl (pv1 (b_9 e5)) h_8 ty_3 ze_3 (by decide) (cs := [(Value.int .i64 (q : Int))]) (bs_3_1_0i _) (fun _ _ h => h))
  refine ⟨⟨fun e_ => absurd rfl e_, fun _ a w hA hS hz hd => ?_⟩, ?_⟩
  ·skip
   have J := e_2 (hd 2 (by decide)) rfl (fun _ h => h)
   have e4 := e_2 (hd 4 (by decide)) rfl (fun _ h => h)
   obtain ⟨_, e6, F, rfl, BY, _⟩ := has_get (hd 6 (by decide)) rfl
   exact f_1 rfl rfl J (op_appendL hS hz rfl h_8 el_3 (b_9 e4) (b_9 e6) (i := 0) rfl (SlAt.of_blk BY rfl (by decide)) (by decide) rfl (by simp only [maxLen]; omega) (by omega))
  refine ⟨⟨fun _ a w hA hS hz hd => ?_, fun e_ => absurd e_ (by decide)⟩, ?_⟩
  ·skip
   have J := e_2 (hd 2 (by decide)) rfl (fun _ h => h)
   exact f_1 rfl rfl J (dv (a_0 rfl (hA.ev rfl)) hS rfl)
  refine ⟨⟨fun _ a w hA hS hz hd => ?_, fun e_ => absurd e_ (by decide)⟩, ?_⟩
  ·skip
   have J := e_2 (hd 2 (by decide)) rfl (fun _ h => h)
   exact f_1 rfl rfl J (dv (a_0 rfl (hA.ev rfl)) hS rfl)
  refine ⟨⟨fun _ a w hA hS hz hd => ?_, fun e_ => absurd e_ (by decide)⟩, ?_⟩
  ·skip
   have J := e_2 (hd 2 (by decide)) rfl (fun _ h => h)
   have e9 := e_2 (hd 9 (by decide)) rfl (fun _ h => h)
   exact f_1 rfl rfl J (dv (f_6 rfl (b_9 e9) (evc _ _) (by omega) (by omega)) hS rfl)
  refine ⟨⟨fun _ a w hA hS hz hd => ?_, fun e_ => absurd e_ (by decide)⟩, ?_⟩
  ·skip
   have J := e_2 (hd 2 (by decide)) rfl (fun _ h => h)
   exact f_1 rfl rfl J (dv (a_0 rfl (hA.ev rfl)) hS rfl)
  refine ⟨⟨fun _ a w hA hS hz hd => ?_, fun e_ => absurd e_ (by decide)⟩, ?_⟩
  ·skip
   have J := e_2 (hd 2 (by decide)) rfl (fun _ h => h)
   have CD := e_2 (hd 11 (by decide)) rfl (fun _ h => h)
   exact f_1 rfl rfl J (dv (g_1 rfl (b_9 CD) (evc _ _) (by omega) (by omega)) hS rfl)
  trivial
 intro Bj CY A0 AJ U hAp20; clear Az AE
 have A2 := A0.add (e_2 (U 2 (by decide) (by decide)) rfl (fun _ h => h)); clear A0
 have A3 := A2.add (e_2 (U 3 (by decide) (by decide)) rfl (fun _ h => h)); clear A2
 obtain ⟨M, Bb, hap26⟩ := has_get hAp20 rfl
 have A4 := A3.add Bb; clear A3 Bb hAp20
 have A5 := A4.add (e_2 (U 8 (by decide) (by decide)) rfl (fun _ h => h)); clear A4
 have A6 := A5.add (e_2 (U 10 (by decide) (by decide)) rfl (fun _ h => h)); clear A5
 have H := A6.add (e_2 (U 12 (by decide) (by decide)) rfl (fun _ h => h)); clear A6
 clear U
 rcases appL_row AJ Bt (i0 := 0) rfl hap26 with ⟨Z, hbk31⟩ | Z
 ·skip
  clear AJ
  have x := Z.g_7 (i := 0) rfl (n' := (s ++ [(q : Int)]).length) (xs' := ints (s ++ [(q : Int)])) (by simp) (by simp [ints]); rw [← kep_out (l := l) hs] at x; clear Z
  refine s6 H (i_5 rfl (H.ev rfl) en_73 (ev4 (H.ev rfl) (H.ev rfl) (H.ev rfl) (H.ev rfl)) (by have hz := ih m (q + 1) (s ++ [(q : Int)]) _ _ _ _ _ (ownX [(row M 3 1 ((s ++ [(q : Int)]).length) (ints (s ++ [(q : Int)]))), (blk bb 44 [vb]), (row vb 3 1 best.length (ints best)), (rob bs 134 [(Value.func (.func 73) #[] #[(bptr br 0), (bptr bb 0), (bptr F 0), (bptr bs 0)])]), (rob br 53 [xr]), (rob F 116 [(bptr bx 0)]), (rob bx 146 [(Value.int .i64 b.scales), vt, vm, (Value.map (some bm))]), (mapX false bm es ck es.size 106 5 (bN b.tabs b.tabs.length) (bC lr lb b.tabs b.tabs.length)), (c_9 false vt lr lb b.tabs), (d_2 false vm lk b.macs), (sl xr 2 l.length (pairs l)), (sl xk 2 ((d_6 l (s ++ [(q : Int)]) (q + 1)).length) (pairs (d_6 l (s ++ [(q : Int)]) (q + 1))))]) (by omega) (by omega) hs.snoc (by simp only [List.length_append, List.length_cons, List.length_nil]; omega) (Sep.enterG (A := [(row M 3 1 ((s ++ [(q : Int)]).length) (ints (s ++ [(q : Int)]))), (blk bb 44 [vb]), (row vb 3 1 best.length (ints best)), (rob bs 134 [(Value.func (.func 73) #[] #[(bptr br 0), (bptr bb 0), (bptr F 0), (bptr bs 0)])]), (rob br 53 [xr]), (rob F 116 [(bptr bx 0)]), (rob bx 146 [(Value.int .i64 b.scales), vt, vm, (Value.map (some bm))]), (mapX false bm es ck es.size 106 5 (bN b.tabs b.tabs.length) (bC lr lb b.tabs b.tabs.length)), (c_9 false vt lr lb b.tabs), (d_2 false vm lk b.macs), (sl xr 2 l.length (pairs l)), (sl xk 2 ((d_6 l (s ++ [(q : Int)]) (q + 1)).length) (pairs (d_6 l (s ++ [(q : Int)]) (q + 1))))]) (B := []) x); rw [show ((m + 1 : Nat) : Int) - 1 = (m : Int) by omega]; exact hz)) ?_
  rintro B6 _ CG ⟨rfl, vb38, best39, Bx, BV⟩ k; clear H Bj
  have BS : Sep X w CG [(row M 3 1 ((s ++ [(q : Int)]).length) (ints (s ++ [(q : Int)]))), (blk bb 44 [vb38]), (row vb38 3 1 best39.length (ints best39)), (rob bs 134 [(Value.func (.func 73) #[] #[(bptr br 0), (bptr bb 0), (bptr F 0), (bptr bs 0)])]), (rob br 53 [xr]), (rob F 116 [(bptr bx 0)]), (rob bx 146 [(Value.int .i64 b.scales), vt, vm, (Value.map (some bm))]), (mapX false bm es ck es.size 106 5 (bN b.tabs b.tabs.length) (bC lr lb b.tabs b.tabs.length)), (c_9 false vt lr lb b.tabs), (d_2 false vm lk b.macs), (sl xr 2 l.length (pairs l)), (sl xk 2 ((d_6 l (s ++ [(q : Int)]) (q + 1)).length) (pairs (d_6 l (s ++ [(q : Int)]) (q + 1))))] := Sep.callG (A := [(row M 3 1 ((s ++ [(q : Int)]).length) (ints (s ++ [(q : Int)]))), (blk bb 44 [vb]), (row vb 3 1 best.length (ints best)), (rob bs 134 [(Value.func (.func 73) #[] #[(bptr br 0), (bptr bb 0), (bptr F 0), (bptr bs 0)])]), (rob br 53 [xr]), (rob F 116 [(bptr bx 0)]), (rob bx 146 [(Value.int .i64 b.scales), vt, vm, (Value.map (some bm))]), (mapX false bm es ck es.size 106 5 (bN b.tabs b.tabs.length) (bC lr lb b.tabs b.tabs.length)), (c_9 false vt lr lb b.tabs), (d_2 false vm lk b.macs), (sl xr 2 l.length (pairs l)), (sl xk 2 ((d_6 l (s ++ [(q : Int)]) (q + 1)).length) (pairs (d_6 l (s ++ [(q : Int)]) (q + 1))))]) (B := []) x BV (u_2 ⟨.inl rfl, .inl rfl, .inl rfl, .inr ⟨3, rfl⟩, .inr ⟨4, rfl⟩, .inr ⟨5, rfl⟩, .inr ⟨6, rfl⟩, .inr ⟨7, rfl⟩, .inr ⟨8, rfl⟩, .inr ⟨9, rfl⟩, .inr ⟨10, rfl⟩, .inr ⟨11, rfl⟩, trivial⟩); clear BV x
  have AK := BS; rw [kep_out (l := l) hs] at AK; clear BS
  have c := hbk31 _ _ _ _ (AK.g_7 (i := 0) rfl (n' := s.length + 1) (xs' := ints s ++ [Value.int .i64 (q : Int)]) (by simp) (by simp [ints])) 0 rfl (by simp [ints]); clear AK
  refine s1 k (b_3 rfl (k.ev rfl) (k.ev rfl)) fun B7 N => ?_; clear k B6
  refine n1 ?_
  rcases Bool.eq_false_or_eq_true ((i_2 l.length (okS b l) m (s ++ [(q : Int)]) (q + 1))) with AN | AN
  ·skip
   rw [AN] at N
   refine c_6 N rfl ?_
   refine b_7 ?_
   have A8 := N.as [] rfl; clear N
   refine a_5 ?_
   refine s1 A8 (a_1 rfl (evc _ _)) fun CW A9 => ?_; clear A8 B7
   refine n1 ?_
   refine c_8 ?_
   refine a_7 ?_
   refine a_9 A9 (.inl rfl) (a_2 A9 rfl (.tmp rfl)) ?_
   have hh := lv_hit (by omega) (by assumption) (Bx (by assumption))
   rw [hh.1]
   exact ⟨rfl, _, _, fun _ => hh.2, c.keep [0, 1, 2, 3, 4, 5, 6, 7, 8, 9, 10, 11] (by decide) _ rfl rfl⟩
  skip
  rw [AN] at N
  refine b_5 N rfl ?_
  refine d_1 ?_
  refine b_0 ?_
  refine b_7 ?_
  have BA := N.as [(0, xl), (1, xk), (2, (Value.int .i64 (q : Int))), (3, (Value.int .i64 ((m + 1 : Nat) : Int))), (4, (bptr br 0)), (7, (bptr bs 0))] rfl; clear N
  have n := BA.as [(0, xl), (1, xk), (2, (Value.int .i64 (q : Int))), (3, (Value.int .i64 ((m + 1 : Nat) : Int))), (4, (bptr br 0)), (7, (bptr bs 0))] rfl; clear BA
  by_cases BX : ((m + 1 : Nat) : Int) < ((l.length : Int) - (q : Int))
  ·skip
   have BB := n.as [(0, xl), (1, xk), (2, (Value.int .i64 (q : Int))), (3, (Value.int .i64 ((m + 1 : Nat) : Int))), (4, (bptr br 0)), (7, (bptr bs 0))] rfl; clear n
   refine c_drawC mixed BB c 20 16 10 (by decide) (by decide) (by decide) rfl [[], [0], [], [1, 2], [], [3, 4], [5], [6], [6], [6], [6, 9], [6], [6], [6, 11, 12], [6, 13], [6, 14], [6, 10, 15], [6], [6, 17], [6]] [(yw xr), (yw (Value.int .i64 (l.length : Int))), (yw (Value.int .i64 (q : Int))), (yw (Value.int .i64 ((l.length : Int) - (q : Int)))), (yw (Value.int .i64 ((m + 1 : Nat) : Int))), (yw (Value.bool true)), (yw (Value.bool true)), (yw (Value.func (.func 73) #[] #[(bptr br 0), (bptr bb 0), (bptr F 0), (bptr bs 0)])), (yw xl), (yw xk), (fun (D : Nat → Value) (v_ : Value) (rs_ : List Res) => True ∧ rs_ = [(row v_ 98 2 ((d_6 l s q).length) (pairs (d_6 l s q)))]), (yw xr), (yw (Value.int .i64 (q : Int))), (yw (eptr xr (q * 2))), (yw (Value.agg #[(Value.int .i64 ((l.getD q (0, 0)).1)), (Value.int .i64 ((l.getD q (0, 0)).2))])), (fun (D : Nat → Value) (v_ : Value) (rs_ : List Res) => True ∧ rs_ = [(row v_ 98 2 1 [(Value.int .i64 ((l.getD q (0, 0)).1)), (Value.int .i64 ((l.getD q (0, 0)).2))])]), (fun (D : Nat → Value) (v_ : Value) (rs_ : List Res) => True ∧ rs_ = [(row v_ 98 2 (((d_6 l s q) ++ [((l.getD q (0, 0)).1, (l.getD q (0, 0)).2)]).length) (pairs ((d_6 l s q) ++ [((l.getD q (0, 0)).1, (l.getD q (0, 0)).2)])))]), (yw (Value.int .i64 (q : Int))), (yw (Value.int .i64 ((q : Int) + 1))), (yw (Value.int .i64 ((m + 1 : Nat) : Int)))] (by decide +kernel) (by decide +kernel) rfl rfl ⟨dw, dw, dw, dw, dw, dw, dw, dw, dw, dw, (fun _ _ _ _ _ h_ => h_), dw, dw, dw, dw, (fun _ _ _ _ _ h_ => h_), (fun _ _ _ _ _ h_ => h_), dw, dw, dw, trivial⟩ (by decide +kernel) (by decide +kernel) ?_ ?_ ?_
   ·skip
    refine ⟨fun hj_ a w D hA hS hd => gv1 (a_3 rfl ab_7 (hA.ev rfl) (hS.rk 4 rfl) rfl), ?_⟩
    refine ⟨fun hj_ a w D hA hS hd => gv1 (c_0 rfl p_0 (gu hd 0) (hS.sk 10 rfl)), ?_⟩
    refine ⟨fun hj_ a w D hA hS hd => gv1 (a_0 rfl (hA.ev rfl)), ?_⟩
    refine ⟨fun hj_ a w D hA hS hd => gv1 (g_1 rfl (gu hd 1) (gu hd 2) (by omega) (by omega)), ?_⟩
    refine ⟨fun hj_ a w D hA hS hd => gv1 (a_0 rfl (hA.ev rfl)), ?_⟩
    refine ⟨fun hj_ a w D hA hS hd => gv2 (g_9 rfl (gu hd 3) (gu hd 4)) (And.intro (by show Value.bool _ = _; simp only [decide_eq_true BX, decide_true, decide_false, Bool.not_true, Bool.not_false]) rfl), ?_⟩
    refine ⟨fun hj_ a w D hA hS hd => gv1 (a_0 rfl (gu hd 5)), ?_⟩
    refine ⟨fun hj_ a w D hA hS hd => gy1 hd 6 (a_3 rfl ty_134 (hA.ev rfl) (hS.rk 3 rfl) rfl), ?_⟩
    refine ⟨fun hj_ a w D hA hS hd => gy1 hd 6 (a_0 rfl (hA.ev rfl)), ?_⟩
    refine ⟨fun hj_ a w D hA hS hd => gy1 hd 6 (a_0 rfl (hA.ev rfl)), ?_⟩
    refine ⟨fun hj_ a w D hA hS hd => f_1 rfl rfl (gut hd 6 (by decide) rfl (fun _ h => And.left h)) (vn (a_6 rfl en_75 (ev1 (gu hd 9)) (clone_read (d_6 l s q) _ _ (hS.sk 11 rfl) (by omega))) (fun v w' h => ⟨_, And.intro trivial rfl, (Sep.start NoB _).h_7 h.1 h.2, rfl⟩)), ?_⟩
    refine ⟨fun hj_ a w D hA hS hd => gy1 hd 6 (a_3 rfl ab_7 (hA.ev rfl) (hS.rk 4 rfl) rfl), ?_⟩
    refine ⟨fun hj_ a w D hA hS hd => gy1 hd 6 (a_0 rfl (hA.ev rfl)), ?_⟩
    refine ⟨fun hj_ a w D hA hS hd => gy1 hd 6 (b_2 rfl p_0 z_2 (gu hd 11) (i := q) (gu hd 12) (hS.sk 10 rfl) (by decide) (by omega)), ?_⟩
    refine ⟨fun hj_ a w D hA hS hd => gy1 hd 6 (f_2 rfl z_2 (gu hd 13) (hS.sk 10 rfl) (i_3 (by omega)) rfl (by decide)), ?_⟩
    refine ⟨fun hj_ a w D hA hS hd => f_1 rfl rfl (gut hd 6 (by decide) rfl (fun _ h => And.left h)) (vblt rfl (pv1 (gu hd 14)) p_0 z_2 ze_98 (by decide) (cs := [(Value.int .i64 ((l.getD q (0, 0)).1)), (Value.int .i64 ((l.getD q (0, 0)).2))]) (r_0 _ _) rfl (by decide) (fun _ => And.intro trivial rfl)), ?_⟩
    refine ⟨fun hj_ => absurd rfl hj_, ?_⟩
    refine ⟨fun hj_ a w D hA hS hd => gy1 hd 6 (a_0 rfl (hA.ev rfl)), ?_⟩
    refine ⟨fun hj_ a w D hA hS hd => gy1 hd 6 (f_6 rfl (gu hd 17) (evc _ _) (by omega) (by omega)), ?_⟩
    refine ⟨fun hj_ a w D hA hS hd => gy1 hd 6 (a_0 rfl (hA.ev rfl)), ?_⟩
    trivial
   ·skip
    intro a w D CE Lr hA Ba Bd hd hS
    obtain ⟨Bz, AP⟩ := Bd; subst AP
    obtain ⟨e6, CF, Be, BY⟩ := hd 6 (by decide) (by decide)
    obtain ⟨Bc, BZ⟩ := Be; subst BZ
    rw [Bc] at e6
    obtain ⟨Aw, B1, AR, AO⟩ := hd 15 (by decide) (by decide)
    obtain ⟨B0, AQ⟩ := AR; subst AQ
    have hp15_0 := AO _ (List.mem_of_getElem? (i := 0) rfl)
    exact f_1 rfl rfl (i_1 e6 rfl) (n_2 (l_0 hS rfl p_0 el_98 (b_9 (i_1 Ba rfl)) (b_9 (i_1 Aw rfl)) (i := 0) rfl (SlAt.d_4 hp15_0) rfl (by simp only [maxLen]; omega) (by omega)) fun v_ w_ h_ => ⟨_, And.intro trivial rfl, h_.g_7 (i := 0) rfl (n' := ((d_6 l s q) ++ [((l.getD q (0, 0)).1, (l.getD q (0, 0)).2)]).length) (xs' := (pairs ((d_6 l s q) ++ [((l.getD q (0, 0)).1, (l.getD q (0, 0)).2)]))) (by simp) (by simp [pairs])⟩)
   skip
   intro Bk CH D rsf61 BC G hrq AL; clear BB c
   obtain ⟨z, AC⟩ := G 15 (by decide) (by decide)
   obtain ⟨AA, R⟩ := AC
   obtain ⟨T, AD⟩ := G 16 (by decide) (by decide)
   obtain ⟨AB, S⟩ := AD
   have BT : Sep X w CH [(row (D 15) 98 2 1 [(Value.int .i64 ((l.getD q (0, 0)).1)), (Value.int .i64 ((l.getD q (0, 0)).2))]), (row (D 16) 98 2 (((d_6 l s q) ++ [((l.getD q (0, 0)).1, (l.getD q (0, 0)).2)]).length) (pairs ((d_6 l s q) ++ [((l.getD q (0, 0)).1, (l.getD q (0, 0)).2)]))), (row xl 3 1 s.length (ints s)), (blk bb 44 [vb38]), (row vb38 3 1 best39.length (ints best39)), (rob bs 134 [(Value.func (.func 73) #[] #[(bptr br 0), (bptr bb 0), (bptr F 0), (bptr bs 0)])]), (rob br 53 [xr]), (rob F 116 [(bptr bx 0)]), (rob bx 146 [(Value.int .i64 b.scales), vt, vm, (Value.map (some bm))]), (mapX false bm es ck es.size 106 5 (bN b.tabs b.tabs.length) (bC lr lb b.tabs b.tabs.length)), (c_9 false vt lr lb b.tabs), (d_2 false vm lk b.macs), (sl xr 2 l.length (pairs l)), (sl xk 2 ((d_6 l s q).length) (pairs (d_6 l s q)))] := by rw [show catR rsf61 0 20 = ([(row (D 15) 98 2 1 [(Value.int .i64 ((l.getD q (0, 0)).1)), (Value.int .i64 ((l.getD q (0, 0)).2))]), (row (D 16) 98 2 (((d_6 l s q) ++ [((l.getD q (0, 0)).1, (l.getD q (0, 0)).2)]).length) (pairs ((d_6 l s q) ++ [((l.getD q (0, 0)).1, (l.getD q (0, 0)).2)])))] : List Res) by (try simp only [catR, gr (G 0 (by decide) (by decide)), gr (G 1 (by decide) (by decide)), gr (G 2 (by decide) (by decide)), gr (G 3 (by decide) (by decide)), gr (G 4 (by decide) (by decide)), gr (G 5 (by decide) (by decide)), gr (G 6 (by decide) (by decide)), gr (G 7 (by decide) (by decide)), gr (G 8 (by decide) (by decide)), gr (G 9 (by decide) (by decide)), gr (G 11 (by decide) (by decide)), gr (G 12 (by decide) (by decide)), gr (G 13 (by decide) (by decide)), gr (G 14 (by decide) (by decide)), R, S, gr (G 17 (by decide) (by decide)), gr (G 18 (by decide) (by decide)), gr (G 19 (by decide) (by decide)), hrq]); (try rfl)] at AL; exact AL
   have BE := BC.add (gs (G 6 (by decide) (by decide))); clear BC
   have BF := BE.add (gs (G 7 (by decide) (by decide))); clear BE
   have BG := BF.add (gs (G 8 (by decide) (by decide))); clear BF
   have BH : Fr 69 [] [(63, (D 16)), (55, xl), (54, (Value.func (.func 73) #[] #[(bptr br 0), (bptr bb 0), (bptr F 0), (bptr bs 0)])), (53, (Value.bool true)), (0, xl), (1, xk), (2, (Value.int .i64 (q : Int))), (3, (Value.int .i64 ((m + 1 : Nat) : Int))), (4, (bptr br 0)), (7, (bptr bs 0))] Bk := BG.add (i_1 T rfl); clear BG
   have BI := BH.add (gs (G 18 (by decide) (by decide))); clear BH
   have P := BI.add (gs (G 19 (by decide) (by decide))); clear BI
   clear G AL z T hrq
   clear R
   clear AA
   clear S
   clear AB
   have BU := sep_row_sl (BT.g_7 (i := 1) rfl (n' := (d_6 l s (q + 1)).length) (xs' := pairs (d_6 l s (q + 1))) (by rw [kep_in hs]) (by rw [kep_in hs])) (i := 1) rfl; clear BT
   have AM := BU.gkp (gpc 2 (gpc 3 (gpc 4 (gpc 5 (gpc 6 (gpc 7 (gpc 8 (gpc 9 (gpc 10 (gpc 11 (gpc 12 (gpc 1 (gpc 0 (gpc 13 gpn)))))))))))))); clear BU
   refine s6 P (i_5 rfl (P.ev rfl) en_73 (ev4 (P.ev rfl) (P.ev rfl) (P.ev rfl) (P.ev rfl)) (by have hz := ih (m + 1) (q + 1) s _ _ _ _ _ (ownX [(row xl 3 1 s.length (ints s)), (blk bb 44 [vb38]), (row vb38 3 1 best39.length (ints best39)), (rob bs 134 [(Value.func (.func 73) #[] #[(bptr br 0), (bptr bb 0), (bptr F 0), (bptr bs 0)])]), (rob br 53 [xr]), (rob F 116 [(bptr bx 0)]), (rob bx 146 [(Value.int .i64 b.scales), vt, vm, (Value.map (some bm))]), (mapX false bm es ck es.size 106 5 (bN b.tabs b.tabs.length) (bC lr lb b.tabs b.tabs.length)), (c_9 false vt lr lb b.tabs), (d_2 false vm lk b.macs), (sl xr 2 l.length (pairs l)), (sl (D 16) 2 ((d_6 l s (q + 1)).length) (pairs (d_6 l s (q + 1))))]) (by omega) (by omega) hs.more (by omega) (Sep.enterG (A := [(row xl 3 1 s.length (ints s)), (blk bb 44 [vb38]), (row vb38 3 1 best39.length (ints best39)), (rob bs 134 [(Value.func (.func 73) #[] #[(bptr br 0), (bptr bb 0), (bptr F 0), (bptr bs 0)])]), (rob br 53 [xr]), (rob F 116 [(bptr bx 0)]), (rob bx 146 [(Value.int .i64 b.scales), vt, vm, (Value.map (some bm))]), (mapX false bm es ck es.size 106 5 (bN b.tabs b.tabs.length) (bC lr lb b.tabs b.tabs.length)), (c_9 false vt lr lb b.tabs), (d_2 false vm lk b.macs), (sl xr 2 l.length (pairs l)), (sl (D 16) 2 ((d_6 l s (q + 1)).length) (pairs (d_6 l s (q + 1))))]) (B := [(row (D 15) 98 2 1 [(Value.int .i64 ((l.getD q (0, 0)).1)), (Value.int .i64 ((l.getD q (0, 0)).2))]), (sl xk 2 ((d_6 l s q).length) (pairs (d_6 l s q)))]) AM); exact hz)) ?_
   rintro B8 _ CI ⟨rfl, vb75, best76, By, BW⟩ o; clear P Bk
   have Bu : Sep X w CI [(row xl 3 1 s.length (ints s)), (blk bb 44 [vb75]), (row vb75 3 1 best76.length (ints best76)), (rob bs 134 [(Value.func (.func 73) #[] #[(bptr br 0), (bptr bb 0), (bptr F 0), (bptr bs 0)])]), (rob br 53 [xr]), (rob F 116 [(bptr bx 0)]), (rob bx 146 [(Value.int .i64 b.scales), vt, vm, (Value.map (some bm))]), (mapX false bm es ck es.size 106 5 (bN b.tabs b.tabs.length) (bC lr lb b.tabs b.tabs.length)), (c_9 false vt lr lb b.tabs), (d_2 false vm lk b.macs), (sl xr 2 l.length (pairs l)), (sl (D 16) 2 ((d_6 l s (q + 1)).length) (pairs (d_6 l s (q + 1)))), (row (D 15) 98 2 1 [(Value.int .i64 ((l.getD q (0, 0)).1)), (Value.int .i64 ((l.getD q (0, 0)).2))]), (sl xk 2 ((d_6 l s q).length) (pairs (d_6 l s q)))] := Sep.callG (A := [(row xl 3 1 s.length (ints s)), (blk bb 44 [vb38]), (row vb38 3 1 best39.length (ints best39)), (rob bs 134 [(Value.func (.func 73) #[] #[(bptr br 0), (bptr bb 0), (bptr F 0), (bptr bs 0)])]), (rob br 53 [xr]), (rob F 116 [(bptr bx 0)]), (rob bx 146 [(Value.int .i64 b.scales), vt, vm, (Value.map (some bm))]), (mapX false bm es ck es.size 106 5 (bN b.tabs b.tabs.length) (bC lr lb b.tabs b.tabs.length)), (c_9 false vt lr lb b.tabs), (d_2 false vm lk b.macs), (sl xr 2 l.length (pairs l)), (sl (D 16) 2 ((d_6 l s (q + 1)).length) (pairs (d_6 l s (q + 1))))]) (B := [(row (D 15) 98 2 1 [(Value.int .i64 ((l.getD q (0, 0)).1)), (Value.int .i64 ((l.getD q (0, 0)).2))]), (sl xk 2 ((d_6 l s q).length) (pairs (d_6 l s q)))]) AM BW (u_2 ⟨.inl rfl, .inl rfl, .inl rfl, .inr ⟨3, rfl⟩, .inr ⟨4, rfl⟩, .inr ⟨5, rfl⟩, .inr ⟨6, rfl⟩, .inr ⟨7, rfl⟩, .inr ⟨8, rfl⟩, .inr ⟨9, rfl⟩, .inr ⟨10, rfl⟩, .inr ⟨11, rfl⟩, trivial⟩); clear BW AM
   refine s1 o (b_3 rfl (o.ev rfl) (o.ev rfl)) fun B9 AG => ?_; clear o B8
   refine s1 AG (a_1 rfl (AG.ev rfl)) fun CX BJ => ?_; clear AG B9
   refine n1 ?_
   refine c_8 ?_
   refine a_9 BJ (.inl rfl) (a_2 BJ rfl (.tmp rfl)) ?_
   have hh : (i_2 l.length (okS b l) (m + 1) s q) = (i_2 l.length (okS b l) (m + 1) s (q + 1)) := lv_go (by omega) (by assumption)
   rw [hh]
   exact ⟨rfl, _, _, fun h => lv_gof (by omega) (by assumption) (By h), Bu.keep [0, 1, 2, 3, 4, 5, 6, 7, 8, 9, 10, 13] (by decide) _ rfl rfl⟩
  skip
  have BK := n.as [(0, xl), (1, xk), (2, (Value.int .i64 (q : Int))), (3, (Value.int .i64 ((m + 1 : Nat) : Int))), (4, (bptr br 0)), (7, (bptr bs 0))] rfl; clear n
  refine g_6 mixed BK c 20 [[], [0], [], [1, 2], [], [3, 4], [5], [6], [6], [6], [6, 9], [6], [6], [6, 11, 12], [6, 13], [6, 14], [6, 10, 15], [6], [6, 17], [6]] [(Yd.val xr), (Yd.val (Value.int .i64 (l.length : Int))), (Yd.val (Value.int .i64 (q : Int))), (Yd.val (Value.int .i64 ((l.length : Int) - (q : Int)))), (Yd.val (Value.int .i64 ((m + 1 : Nat) : Int))), (Yd.val (Value.bool false)), (Yd.val (Value.bool false)), (Yd.val undef), (Yd.val undef), (Yd.val undef), (Yd.val undef), (Yd.val undef), (Yd.val undef), (Yd.val undef), (Yd.val undef), (Yd.val undef), (Yd.val undef), (Yd.val undef), (Yd.val undef), (Yd.val undef)] (by decide +kernel) rfl rfl ?_ ?_
  ·skip
   refine dq (fun a w hA hS hd => a_3 rfl ab_7 (hA.ev rfl) (hS.rk 4 rfl) rfl) ?_
   refine dq (fun a w hA hS hd => c_0 rfl p_0 (hq hd 0) (hS.sk 10 rfl)) ?_
   refine dq (fun a w hA hS hd => a_0 rfl (hA.ev rfl)) ?_
   refine dq (fun a w hA hS hd => g_1 rfl (hq hd 1) (hq hd 2) (by omega) (by omega)) ?_
   refine dq (fun a w hA hS hd => a_0 rfl (hA.ev rfl)) ?_
   refine ⟨fun a w hA hS hd => by have e3 := hx hd 3; have e4 := hx hd 4; exact d_9 rfl (dv (g_9 rfl (b_9 e3) (b_9 e4)) hS (by show Value.bool _ = _; simp only [decide_eq_false BX, decide_true, decide_false, Bool.not_true, Bool.not_false])), ?_⟩
   refine dq (fun a w hA hS hd => a_0 rfl (hq hd 5)) ?_
   refine dn 6 ?_
   refine dn 6 ?_
   refine dn 6 ?_
   refine dn 6 ?_
   refine dn 6 ?_
   refine dn 6 ?_
   refine dn 6 ?_
   refine dn 6 ?_
   refine dn 6 ?_
   refine dn 6 ?_
   refine dn 6 ?_
   refine dn 6 ?_
   refine dn 6 ?_
   trivial
  intro CA CZ BL Bv Q; clear BK c
  have BM := BL.add (hz Q 6); clear BL
  have BN := BM.add (hz Q 7); clear BM
  have BO := BN.add (hz Q 8); clear BN
  have BP := BO.add (hz Q 16); clear BO
  have BQ := BP.add (hz Q 18); clear BP
  have BR := BQ.add (hz Q 19); clear BQ
  clear Q
  refine s3 BR fun CB AH => ?_; clear BR CA
  refine s1 AH (c_2 rfl (AH.ev rfl) (evc _ _)) fun CC AI => ?_; clear AH CB
  refine s1 AI (a_1 rfl (AI.ev rfl)) fun CK AT => ?_; clear AI CC
  refine n1 ?_
  refine c_8 ?_
  refine a_9 AT (.inl rfl) (a_2 AT rfl (.tmp rfl)) ?_
  have hh : (i_2 l.length (okS b l) (m + 1) s q) = false := lv_no (by omega) (by assumption) (by omega)
  rw [hh]
  exact ⟨rfl, _, _, (fun h => by cases h), Bv.keep [0, 1, 2, 3, 4, 5, 6, 7, 8, 9, 10, 11] (by decide) _ rfl rfl⟩
 skip
 clear AJ
 have p := Z.g_7 (i := 0) rfl (n' := (s ++ [(q : Int)]).length) (xs' := ints (s ++ [(q : Int)])) (by simp) (by simp [ints]); rw [← kep_out (l := l) hs] at p; clear Z
 have r := p.gkp (gpc 0 (gpc 2 (gpc 3 (gpc 4 (gpc 5 (gpc 6 (gpc 7 (gpc 8 (gpc 9 (gpc 10 (gpc 11 (gpc 12 (gpc 1 gpn))))))))))))); clear p
 refine s6 H (i_5 rfl (H.ev rfl) en_73 (ev4 (H.ev rfl) (H.ev rfl) (H.ev rfl) (H.ev rfl)) (by have hz := ih m (q + 1) (s ++ [(q : Int)]) _ _ _ _ _ (ownX [(row M 3 1 ((s ++ [(q : Int)]).length) (ints (s ++ [(q : Int)]))), (blk bb 44 [vb]), (row vb 3 1 best.length (ints best)), (rob bs 134 [(Value.func (.func 73) #[] #[(bptr br 0), (bptr bb 0), (bptr F 0), (bptr bs 0)])]), (rob br 53 [xr]), (rob F 116 [(bptr bx 0)]), (rob bx 146 [(Value.int .i64 b.scales), vt, vm, (Value.map (some bm))]), (mapX false bm es ck es.size 106 5 (bN b.tabs b.tabs.length) (bC lr lb b.tabs b.tabs.length)), (c_9 false vt lr lb b.tabs), (d_2 false vm lk b.macs), (sl xr 2 l.length (pairs l)), (sl xk 2 ((d_6 l (s ++ [(q : Int)]) (q + 1)).length) (pairs (d_6 l (s ++ [(q : Int)]) (q + 1))))]) (by omega) (by omega) hs.snoc (by simp only [List.length_append, List.length_cons, List.length_nil]; omega) (Sep.enterG (A := [(row M 3 1 ((s ++ [(q : Int)]).length) (ints (s ++ [(q : Int)]))), (blk bb 44 [vb]), (row vb 3 1 best.length (ints best)), (rob bs 134 [(Value.func (.func 73) #[] #[(bptr br 0), (bptr bb 0), (bptr F 0), (bptr bs 0)])]), (rob br 53 [xr]), (rob F 116 [(bptr bx 0)]), (rob bx 146 [(Value.int .i64 b.scales), vt, vm, (Value.map (some bm))]), (mapX false bm es ck es.size 106 5 (bN b.tabs b.tabs.length) (bC lr lb b.tabs b.tabs.length)), (c_9 false vt lr lb b.tabs), (d_2 false vm lk b.macs), (sl xr 2 l.length (pairs l)), (sl xk 2 ((d_6 l (s ++ [(q : Int)]) (q + 1)).length) (pairs (d_6 l (s ++ [(q : Int)]) (q + 1))))]) (B := [(row xl 3 1 s.length (ints s))]) r); rw [show ((m + 1 : Nat) : Int) - 1 = (m : Int) by omega]; exact hz)) ?_
 rintro Bl _ B2 ⟨rfl, vb109, best110, Bh, As⟩ V; clear H Bj
 have Ap : Sep X w B2 [(row M 3 1 ((s ++ [(q : Int)]).length) (ints (s ++ [(q : Int)]))), (blk bb 44 [vb109]), (row vb109 3 1 best110.length (ints best110)), (rob bs 134 [(Value.func (.func 73) #[] #[(bptr br 0), (bptr bb 0), (bptr F 0), (bptr bs 0)])]), (rob br 53 [xr]), (rob F 116 [(bptr bx 0)]), (rob bx 146 [(Value.int .i64 b.scales), vt, vm, (Value.map (some bm))]), (mapX false bm es ck es.size 106 5 (bN b.tabs b.tabs.length) (bC lr lb b.tabs b.tabs.length)), (c_9 false vt lr lb b.tabs), (d_2 false vm lk b.macs), (sl xr 2 l.length (pairs l)), (sl xk 2 ((d_6 l (s ++ [(q : Int)]) (q + 1)).length) (pairs (d_6 l (s ++ [(q : Int)]) (q + 1)))), (row xl 3 1 s.length (ints s))] := Sep.callG (A := [(row M 3 1 ((s ++ [(q : Int)]).length) (ints (s ++ [(q : Int)]))), (blk bb 44 [vb]), (row vb 3 1 best.length (ints best)), (rob bs 134 [(Value.func (.func 73) #[] #[(bptr br 0), (bptr bb 0), (bptr F 0), (bptr bs 0)])]), (rob br 53 [xr]), (rob F 116 [(bptr bx 0)]), (rob bx 146 [(Value.int .i64 b.scales), vt, vm, (Value.map (some bm))]), (mapX false bm es ck es.size 106 5 (bN b.tabs b.tabs.length) (bC lr lb b.tabs b.tabs.length)), (c_9 false vt lr lb b.tabs), (d_2 false vm lk b.macs), (sl xr 2 l.length (pairs l)), (sl xk 2 ((d_6 l (s ++ [(q : Int)]) (q + 1)).length) (pairs (d_6 l (s ++ [(q : Int)]) (q + 1))))]) (B := [(row xl 3 1 s.length (ints s))]) r As (u_2 ⟨.inl rfl, .inl rfl, .inl rfl, .inr ⟨3, rfl⟩, .inr ⟨4, rfl⟩, .inr ⟨5, rfl⟩, .inr ⟨6, rfl⟩, .inr ⟨7, rfl⟩, .inr ⟨8, rfl⟩, .inr ⟨9, rfl⟩, .inr ⟨10, rfl⟩, .inr ⟨11, rfl⟩, trivial⟩); clear As r
 have O := Ap; rw [kep_out (l := l) hs] at O; clear Ap
 refine s1 V (b_3 rfl (V.ev rfl) (V.ev rfl)) fun Bm I => ?_; clear V Bl
 refine n1 ?_
 rcases Bool.eq_false_or_eq_true ((i_2 l.length (okS b l) m (s ++ [(q : Int)]) (q + 1))) with y | y
 ·skip
  rw [y] at I
  refine c_6 I rfl ?_
  refine b_7 ?_
  have AU := I.as [] rfl; clear I
  refine a_5 ?_
  refine s1 AU (a_1 rfl (evc _ _)) fun CL AV => ?_; clear AU Bm
  refine n1 ?_
  refine c_8 ?_
  refine a_7 ?_
  refine a_9 AV (.inl rfl) (a_2 AV rfl (.tmp rfl)) ?_
  have hh := lv_hit (by omega) (by assumption) (Bh (by assumption))
  rw [hh.1]
  exact ⟨rfl, _, _, fun _ => hh.2, O.keep [12, 1, 2, 3, 4, 5, 6, 7, 8, 9, 10, 11] (by decide) _ rfl rfl⟩
 skip
 rw [y] at I
 refine b_5 I rfl ?_
 refine d_1 ?_
 refine b_0 ?_
 refine b_7 ?_
 have AW := I.as [(0, xl), (1, xk), (2, (Value.int .i64 (q : Int))), (3, (Value.int .i64 ((m + 1 : Nat) : Int))), (4, (bptr br 0)), (7, (bptr bs 0))] rfl; clear I
 have W := AW.as [(0, xl), (1, xk), (2, (Value.int .i64 (q : Int))), (3, (Value.int .i64 ((m + 1 : Nat) : Int))), (4, (bptr br 0)), (7, (bptr bs 0))] rfl; clear AW
 by_cases Au : ((m + 1 : Nat) : Int) < ((l.length : Int) - (q : Int))
 ·skip
  have AX := W.as [(0, xl), (1, xk), (2, (Value.int .i64 (q : Int))), (3, (Value.int .i64 ((m + 1 : Nat) : Int))), (4, (bptr br 0)), (7, (bptr bs 0))] rfl; clear W
  refine c_drawC mixed AX O 20 16 10 (by decide) (by decide) (by decide) rfl [[], [0], [], [1, 2], [], [3, 4], [5], [6], [6], [6], [6, 9], [6], [6], [6, 11, 12], [6, 13], [6, 14], [6, 10, 15], [6], [6, 17], [6]] [(yw xr), (yw (Value.int .i64 (l.length : Int))), (yw (Value.int .i64 (q : Int))), (yw (Value.int .i64 ((l.length : Int) - (q : Int)))), (yw (Value.int .i64 ((m + 1 : Nat) : Int))), (yw (Value.bool true)), (yw (Value.bool true)), (yw (Value.func (.func 73) #[] #[(bptr br 0), (bptr bb 0), (bptr F 0), (bptr bs 0)])), (yw xl), (yw xk), (fun (C : Nat → Value) (v_ : Value) (rs_ : List Res) => True ∧ rs_ = [(row v_ 98 2 ((d_6 l s q).length) (pairs (d_6 l s q)))]), (yw xr), (yw (Value.int .i64 (q : Int))), (yw (eptr xr (q * 2))), (yw (Value.agg #[(Value.int .i64 ((l.getD q (0, 0)).1)), (Value.int .i64 ((l.getD q (0, 0)).2))])), (fun (C : Nat → Value) (v_ : Value) (rs_ : List Res) => True ∧ rs_ = [(row v_ 98 2 1 [(Value.int .i64 ((l.getD q (0, 0)).1)), (Value.int .i64 ((l.getD q (0, 0)).2))])]), (fun (C : Nat → Value) (v_ : Value) (rs_ : List Res) => True ∧ rs_ = [(row v_ 98 2 (((d_6 l s q) ++ [((l.getD q (0, 0)).1, (l.getD q (0, 0)).2)]).length) (pairs ((d_6 l s q) ++ [((l.getD q (0, 0)).1, (l.getD q (0, 0)).2)])))]), (yw (Value.int .i64 (q : Int))), (yw (Value.int .i64 ((q : Int) + 1))), (yw (Value.int .i64 ((m + 1 : Nat) : Int)))] (by decide +kernel) (by decide +kernel) rfl rfl ⟨dw, dw, dw, dw, dw, dw, dw, dw, dw, dw, (fun _ _ _ _ _ h_ => h_), dw, dw, dw, dw, (fun _ _ _ _ _ h_ => h_), (fun _ _ _ _ _ h_ => h_), dw, dw, dw, trivial⟩ (by decide +kernel) (by decide +kernel) ?_ ?_ ?_
  ·skip
   refine ⟨fun hj_ a w C hA hS hd => gv1 (a_3 rfl ab_7 (hA.ev rfl) (hS.rk 4 rfl) rfl), ?_⟩
   refine ⟨fun hj_ a w C hA hS hd => gv1 (c_0 rfl p_0 (gu hd 0) (hS.sk 10 rfl)), ?_⟩
   refine ⟨fun hj_ a w C hA hS hd => gv1 (a_0 rfl (hA.ev rfl)), ?_⟩
   refine ⟨fun hj_ a w C hA hS hd => gv1 (g_1 rfl (gu hd 1) (gu hd 2) (by omega) (by omega)), ?_⟩
   refine ⟨fun hj_ a w C hA hS hd => gv1 (a_0 rfl (hA.ev rfl)), ?_⟩
   refine ⟨fun hj_ a w C hA hS hd => gv2 (g_9 rfl (gu hd 3) (gu hd 4)) (And.intro (by show Value.bool _ = _; simp only [decide_eq_true Au, decide_true, decide_false, Bool.not_true, Bool.not_false]) rfl), ?_⟩
   refine ⟨fun hj_ a w C hA hS hd => gv1 (a_0 rfl (gu hd 5)), ?_⟩
   refine ⟨fun hj_ a w C hA hS hd => gy1 hd 6 (a_3 rfl ty_134 (hA.ev rfl) (hS.rk 3 rfl) rfl), ?_⟩
   refine ⟨fun hj_ a w C hA hS hd => gy1 hd 6 (a_0 rfl (hA.ev rfl)), ?_⟩
   refine ⟨fun hj_ a w C hA hS hd => gy1 hd 6 (a_0 rfl (hA.ev rfl)), ?_⟩
   refine ⟨fun hj_ a w C hA hS hd => f_1 rfl rfl (gut hd 6 (by decide) rfl (fun _ h => And.left h)) (vn (a_6 rfl en_75 (ev1 (gu hd 9)) (clone_read (d_6 l s q) _ _ (hS.sk 11 rfl) (by omega))) (fun v w' h => ⟨_, And.intro trivial rfl, (Sep.start NoB _).h_7 h.1 h.2, rfl⟩)), ?_⟩
   refine ⟨fun hj_ a w C hA hS hd => gy1 hd 6 (a_3 rfl ab_7 (hA.ev rfl) (hS.rk 4 rfl) rfl), ?_⟩
   refine ⟨fun hj_ a w C hA hS hd => gy1 hd 6 (a_0 rfl (hA.ev rfl)), ?_⟩
   refine ⟨fun hj_ a w C hA hS hd => gy1 hd 6 (b_2 rfl p_0 z_2 (gu hd 11) (i := q) (gu hd 12) (hS.sk 10 rfl) (by decide) (by omega)), ?_⟩
   refine ⟨fun hj_ a w C hA hS hd => gy1 hd 6 (f_2 rfl z_2 (gu hd 13) (hS.sk 10 rfl) (i_3 (by omega)) rfl (by decide)), ?_⟩
   refine ⟨fun hj_ a w C hA hS hd => f_1 rfl rfl (gut hd 6 (by decide) rfl (fun _ h => And.left h)) (vblt rfl (pv1 (gu hd 14)) p_0 z_2 ze_98 (by decide) (cs := [(Value.int .i64 ((l.getD q (0, 0)).1)), (Value.int .i64 ((l.getD q (0, 0)).2))]) (r_0 _ _) rfl (by decide) (fun _ => And.intro trivial rfl)), ?_⟩
   refine ⟨fun hj_ => absurd rfl hj_, ?_⟩
   refine ⟨fun hj_ a w C hA hS hd => gy1 hd 6 (a_0 rfl (hA.ev rfl)), ?_⟩
   refine ⟨fun hj_ a w C hA hS hd => gy1 hd 6 (f_6 rfl (gu hd 17) (evc _ _) (by omega) (by omega)), ?_⟩
   refine ⟨fun hj_ a w C hA hS hd => gy1 hd 6 (a_0 rfl (hA.ev rfl)), ?_⟩
   trivial
  ·skip
   intro a w C CE Lr hA Ba Bd hd hS
   obtain ⟨Bz, AP⟩ := Bd; subst AP
   obtain ⟨e6, CF, Be, BY⟩ := hd 6 (by decide) (by decide)
   obtain ⟨Bc, BZ⟩ := Be; subst BZ
   rw [Bc] at e6
   obtain ⟨Aw, B1, AR, AO⟩ := hd 15 (by decide) (by decide)
   obtain ⟨B0, AQ⟩ := AR; subst AQ
   have hp15_0 := AO _ (List.mem_of_getElem? (i := 0) rfl)
   exact f_1 rfl rfl (i_1 e6 rfl) (n_2 (l_0 hS rfl p_0 el_98 (b_9 (i_1 Ba rfl)) (b_9 (i_1 Aw rfl)) (i := 0) rfl (SlAt.d_4 hp15_0) rfl (by simp only [maxLen]; omega) (by omega)) fun v_ w_ h_ => ⟨_, And.intro trivial rfl, h_.g_7 (i := 0) rfl (n' := ((d_6 l s q) ++ [((l.getD q (0, 0)).1, (l.getD q (0, 0)).2)]).length) (xs' := (pairs ((d_6 l s q) ++ [((l.getD q (0, 0)).1, (l.getD q (0, 0)).2)]))) (by simp) (by simp [pairs])⟩)
  skip
  intro Av B3 C rsf131 AY E hrq t; clear AX O
  obtain ⟨z, AC⟩ := E 15 (by decide) (by decide)
  obtain ⟨AA, R⟩ := AC
  obtain ⟨T, AD⟩ := E 16 (by decide) (by decide)
  obtain ⟨AB, S⟩ := AD
  have Aq : Sep X w B3 [(row (C 15) 98 2 1 [(Value.int .i64 ((l.getD q (0, 0)).1)), (Value.int .i64 ((l.getD q (0, 0)).2))]), (row (C 16) 98 2 (((d_6 l s q) ++ [((l.getD q (0, 0)).1, (l.getD q (0, 0)).2)]).length) (pairs ((d_6 l s q) ++ [((l.getD q (0, 0)).1, (l.getD q (0, 0)).2)]))), (row M 3 1 ((s ++ [(q : Int)]).length) (ints (s ++ [(q : Int)]))), (blk bb 44 [vb109]), (row vb109 3 1 best110.length (ints best110)), (rob bs 134 [(Value.func (.func 73) #[] #[(bptr br 0), (bptr bb 0), (bptr F 0), (bptr bs 0)])]), (rob br 53 [xr]), (rob F 116 [(bptr bx 0)]), (rob bx 146 [(Value.int .i64 b.scales), vt, vm, (Value.map (some bm))]), (mapX false bm es ck es.size 106 5 (bN b.tabs b.tabs.length) (bC lr lb b.tabs b.tabs.length)), (c_9 false vt lr lb b.tabs), (d_2 false vm lk b.macs), (sl xr 2 l.length (pairs l)), (sl xk 2 ((d_6 l s q).length) (pairs (d_6 l s q))), (row xl 3 1 s.length (ints s))] := by rw [show catR rsf131 0 20 = ([(row (C 15) 98 2 1 [(Value.int .i64 ((l.getD q (0, 0)).1)), (Value.int .i64 ((l.getD q (0, 0)).2))]), (row (C 16) 98 2 (((d_6 l s q) ++ [((l.getD q (0, 0)).1, (l.getD q (0, 0)).2)]).length) (pairs ((d_6 l s q) ++ [((l.getD q (0, 0)).1, (l.getD q (0, 0)).2)])))] : List Res) by (try simp only [catR, gr (E 0 (by decide) (by decide)), gr (E 1 (by decide) (by decide)), gr (E 2 (by decide) (by decide)), gr (E 3 (by decide) (by decide)), gr (E 4 (by decide) (by decide)), gr (E 5 (by decide) (by decide)), gr (E 6 (by decide) (by decide)), gr (E 7 (by decide) (by decide)), gr (E 8 (by decide) (by decide)), gr (E 9 (by decide) (by decide)), gr (E 11 (by decide) (by decide)), gr (E 12 (by decide) (by decide)), gr (E 13 (by decide) (by decide)), gr (E 14 (by decide) (by decide)), R, S, gr (E 17 (by decide) (by decide)), gr (E 18 (by decide) (by decide)), gr (E 19 (by decide) (by decide)), hrq]); (try rfl)] at t; exact t
  have AZ := AY.add (gs (E 6 (by decide) (by decide))); clear AY
  have Aa := AZ.add (gs (E 7 (by decide) (by decide))); clear AZ
  have Ab := Aa.add (gs (E 8 (by decide) (by decide))); clear Aa
  have Ac : Fr 69 [] [(63, (C 16)), (55, xl), (54, (Value.func (.func 73) #[] #[(bptr br 0), (bptr bb 0), (bptr F 0), (bptr bs 0)])), (53, (Value.bool true)), (0, xl), (1, xk), (2, (Value.int .i64 (q : Int))), (3, (Value.int .i64 ((m + 1 : Nat) : Int))), (4, (bptr br 0)), (7, (bptr bs 0))] Av := Ab.add (i_1 T rfl); clear Ab
  have Ad := Ac.add (gs (E 18 (by decide) (by decide))); clear Ac
  have K := Ad.add (gs (E 19 (by decide) (by decide))); clear Ad
  clear E t z T hrq
  clear R
  clear AA
  clear S
  clear AB
  have Ar := sep_row_sl (Aq.g_7 (i := 1) rfl (n' := (d_6 l s (q + 1)).length) (xs' := pairs (d_6 l s (q + 1))) (by rw [kep_in hs]) (by rw [kep_in hs])) (i := 1) rfl; clear Aq
  have u := Ar.gkp (gpc 14 (gpc 3 (gpc 4 (gpc 5 (gpc 6 (gpc 7 (gpc 8 (gpc 9 (gpc 10 (gpc 11 (gpc 12 (gpc 1 (gpc 0 (gpc 2 (gpc 13 gpn))))))))))))))); clear Ar
  refine s6 K (i_5 rfl (K.ev rfl) en_73 (ev4 (K.ev rfl) (K.ev rfl) (K.ev rfl) (K.ev rfl)) (by have hz := ih (m + 1) (q + 1) s _ _ _ _ _ (ownX [(row xl 3 1 s.length (ints s)), (blk bb 44 [vb109]), (row vb109 3 1 best110.length (ints best110)), (rob bs 134 [(Value.func (.func 73) #[] #[(bptr br 0), (bptr bb 0), (bptr F 0), (bptr bs 0)])]), (rob br 53 [xr]), (rob F 116 [(bptr bx 0)]), (rob bx 146 [(Value.int .i64 b.scales), vt, vm, (Value.map (some bm))]), (mapX false bm es ck es.size 106 5 (bN b.tabs b.tabs.length) (bC lr lb b.tabs b.tabs.length)), (c_9 false vt lr lb b.tabs), (d_2 false vm lk b.macs), (sl xr 2 l.length (pairs l)), (sl (C 16) 2 ((d_6 l s (q + 1)).length) (pairs (d_6 l s (q + 1))))]) (by omega) (by omega) hs.more (by omega) (Sep.enterG (A := [(row xl 3 1 s.length (ints s)), (blk bb 44 [vb109]), (row vb109 3 1 best110.length (ints best110)), (rob bs 134 [(Value.func (.func 73) #[] #[(bptr br 0), (bptr bb 0), (bptr F 0), (bptr bs 0)])]), (rob br 53 [xr]), (rob F 116 [(bptr bx 0)]), (rob bx 146 [(Value.int .i64 b.scales), vt, vm, (Value.map (some bm))]), (mapX false bm es ck es.size 106 5 (bN b.tabs b.tabs.length) (bC lr lb b.tabs b.tabs.length)), (c_9 false vt lr lb b.tabs), (d_2 false vm lk b.macs), (sl xr 2 l.length (pairs l)), (sl (C 16) 2 ((d_6 l s (q + 1)).length) (pairs (d_6 l s (q + 1))))]) (B := [(row (C 15) 98 2 1 [(Value.int .i64 ((l.getD q (0, 0)).1)), (Value.int .i64 ((l.getD q (0, 0)).2))]), (row M 3 1 ((s ++ [(q : Int)]).length) (ints (s ++ [(q : Int)]))), (sl xk 2 ((d_6 l s q).length) (pairs (d_6 l s q)))]) u); exact hz)) ?_
  rintro Bn _ B4 ⟨rfl, vb145, best146, Bi, At⟩ Y; clear K Av
  have Bf : Sep X w B4 [(row xl 3 1 s.length (ints s)), (blk bb 44 [vb145]), (row vb145 3 1 best146.length (ints best146)), (rob bs 134 [(Value.func (.func 73) #[] #[(bptr br 0), (bptr bb 0), (bptr F 0), (bptr bs 0)])]), (rob br 53 [xr]), (rob F 116 [(bptr bx 0)]), (rob bx 146 [(Value.int .i64 b.scales), vt, vm, (Value.map (some bm))]), (mapX false bm es ck es.size 106 5 (bN b.tabs b.tabs.length) (bC lr lb b.tabs b.tabs.length)), (c_9 false vt lr lb b.tabs), (d_2 false vm lk b.macs), (sl xr 2 l.length (pairs l)), (sl (C 16) 2 ((d_6 l s (q + 1)).length) (pairs (d_6 l s (q + 1)))), (row (C 15) 98 2 1 [(Value.int .i64 ((l.getD q (0, 0)).1)), (Value.int .i64 ((l.getD q (0, 0)).2))]), (row M 3 1 ((s ++ [(q : Int)]).length) (ints (s ++ [(q : Int)]))), (sl xk 2 ((d_6 l s q).length) (pairs (d_6 l s q)))] := Sep.callG (A := [(row xl 3 1 s.length (ints s)), (blk bb 44 [vb109]), (row vb109 3 1 best110.length (ints best110)), (rob bs 134 [(Value.func (.func 73) #[] #[(bptr br 0), (bptr bb 0), (bptr F 0), (bptr bs 0)])]), (rob br 53 [xr]), (rob F 116 [(bptr bx 0)]), (rob bx 146 [(Value.int .i64 b.scales), vt, vm, (Value.map (some bm))]), (mapX false bm es ck es.size 106 5 (bN b.tabs b.tabs.length) (bC lr lb b.tabs b.tabs.length)), (c_9 false vt lr lb b.tabs), (d_2 false vm lk b.macs), (sl xr 2 l.length (pairs l)), (sl (C 16) 2 ((d_6 l s (q + 1)).length) (pairs (d_6 l s (q + 1))))]) (B := [(row (C 15) 98 2 1 [(Value.int .i64 ((l.getD q (0, 0)).1)), (Value.int .i64 ((l.getD q (0, 0)).2))]), (row M 3 1 ((s ++ [(q : Int)]).length) (ints (s ++ [(q : Int)]))), (sl xk 2 ((d_6 l s q).length) (pairs (d_6 l s q)))]) u At (u_2 ⟨.inl rfl, .inl rfl, .inl rfl, .inr ⟨3, rfl⟩, .inr ⟨4, rfl⟩, .inr ⟨5, rfl⟩, .inr ⟨6, rfl⟩, .inr ⟨7, rfl⟩, .inr ⟨8, rfl⟩, .inr ⟨9, rfl⟩, .inr ⟨10, rfl⟩, .inr ⟨11, rfl⟩, trivial⟩); clear At u
  refine s1 Y (b_3 rfl (Y.ev rfl) (Y.ev rfl)) fun Bo f => ?_; clear Y Bn
  refine s1 f (a_1 rfl (f.ev rfl)) fun CM Ae => ?_; clear f Bo
  refine n1 ?_
  refine c_8 ?_
  refine a_9 Ae (.inl rfl) (a_2 Ae rfl (.tmp rfl)) ?_
  have hh : (i_2 l.length (okS b l) (m + 1) s q) = (i_2 l.length (okS b l) (m + 1) s (q + 1)) := lv_go (by omega) (by assumption)
  rw [hh]
  exact ⟨rfl, _, _, fun h => lv_gof (by omega) (by assumption) (Bi h), Bf.keep [0, 1, 2, 3, 4, 5, 6, 7, 8, 9, 10, 14] (by decide) _ rfl rfl⟩
 skip
 have Af := W.as [(0, xl), (1, xk), (2, (Value.int .i64 (q : Int))), (3, (Value.int .i64 ((m + 1 : Nat) : Int))), (4, (bptr br 0)), (7, (bptr bs 0))] rfl; clear W
 refine g_6 mixed Af O 20 [[], [0], [], [1, 2], [], [3, 4], [5], [6], [6], [6], [6, 9], [6], [6], [6, 11, 12], [6, 13], [6, 14], [6, 10, 15], [6], [6, 17], [6]] [(Yd.val xr), (Yd.val (Value.int .i64 (l.length : Int))), (Yd.val (Value.int .i64 (q : Int))), (Yd.val (Value.int .i64 ((l.length : Int) - (q : Int)))), (Yd.val (Value.int .i64 ((m + 1 : Nat) : Int))), (Yd.val (Value.bool false)), (Yd.val (Value.bool false)), (Yd.val undef), (Yd.val undef), (Yd.val undef), (Yd.val undef), (Yd.val undef), (Yd.val undef), (Yd.val undef), (Yd.val undef), (Yd.val undef), (Yd.val undef), (Yd.val undef), (Yd.val undef), (Yd.val undef)] (by decide +kernel) rfl rfl ?_ ?_
 ·skip
  refine dq (fun a w hA hS hd => a_3 rfl ab_7 (hA.ev rfl) (hS.rk 4 rfl) rfl) ?_
  refine dq (fun a w hA hS hd => c_0 rfl p_0 (hq hd 0) (hS.sk 10 rfl)) ?_
  refine dq (fun a w hA hS hd => a_0 rfl (hA.ev rfl)) ?_
  refine dq (fun a w hA hS hd => g_1 rfl (hq hd 1) (hq hd 2) (by omega) (by omega)) ?_
  refine dq (fun a w hA hS hd => a_0 rfl (hA.ev rfl)) ?_
  refine ⟨fun a w hA hS hd => by have e3 := hx hd 3; have e4 := hx hd 4; exact d_9 rfl (dv (g_9 rfl (b_9 e3) (b_9 e4)) hS (by show Value.bool _ = _; simp only [decide_eq_false Au, decide_true, decide_false, Bool.not_true, Bool.not_false])), ?_⟩
  refine dq (fun a w hA hS hd => a_0 rfl (hq hd 5)) ?_
  refine dn 6 ?_
  refine dn 6 ?_
  refine dn 6 ?_
  refine dn 6 ?_
  refine dn 6 ?_
  refine dn 6 ?_
  refine dn 6 ?_
  refine dn 6 ?_
  refine dn 6 ?_
  refine dn 6 ?_
  refine dn 6 ?_
  refine dn 6 ?_
  refine dn 6 ?_
  trivial
 intro Bp CV Ag Bg L; clear Af O
 have Ah := Ag.add (hz L 6); clear Ag
 have Ai := Ah.add (hz L 7); clear Ah
 have Aj := Ai.add (hz L 8); clear Ai
 have Ak := Aj.add (hz L 16); clear Aj
 have Al := Ak.add (hz L 18); clear Ak
 have Am := Al.add (hz L 19); clear Al
 clear L
 refine s3 Am fun Bq g => ?_; clear Am Bp
 refine s1 g (c_2 rfl (g.ev rfl) (evc _ _)) fun Br j => ?_; clear g Bq
 refine s1 j (a_1 rfl (j.ev rfl)) fun CN An => ?_; clear j Br
 refine n1 ?_
 refine c_8 ?_
 refine a_9 An (.inl rfl) (a_2 An rfl (.tmp rfl)) ?_
 have hh : (i_2 l.length (okS b l) (m + 1) s q) = false := lv_no (by omega) (by assumption) (by omega)
 rw [hh]
 exact ⟨rfl, _, _, (fun h => by cases h), Bg.keep [12, 1, 2, 3, 4, 5, 6, 7, 8, 9, 10, 11] (by decide) _ rfl rfl⟩
theorem leave_ok (b : h_0) (vt vm : Value) (lr lb lk : Nat → Value) (hth : o_0 b) (hb : l_3 b) (bx bm : Nat) (es : Array MapEntry) (ck : Nat) (hMO : p_3 bm es ck (bN b.tabs b.tabs.length)) (l : List (Int × Int)) (hl : t_6 b l) (xr : Value) (bb br A bs : Nat) : ∀ (d m : Nat) (q : Nat) (s : List Int) (xl xk vb : Value) (best : List Int) (w : World) (X : Nat → Prop) (_ : m ≤ d) (_ : q + d = l.length) (_ : s_1 s q) (_ : s.length + m ≤ 1000) (_ : Sep X w w [(row xl 3 1 s.length (ints s)), (blk bb 44 [vb]), (row vb 3 1 best.length (ints best)), (rob bs 134 [(Value.func (.func 73) #[] #[(bptr br 0), (bptr bb 0), (bptr A 0), (bptr bs 0)])]), (rob br 53 [xr]), (rob A 116 [(bptr bx 0)]), (rob bx 146 [(Value.int .i64 b.scales), vt, vm, (Value.map (some bm))]), (mapX false bm es ck es.size 106 5 (bN b.tabs b.tabs.length) (bC lr lb b.tabs b.tabs.length)), (c_9 false vt lr lb b.tabs), (d_2 false vm lk b.macs), (sl xr 2 l.length (pairs l)), (sl xk 2 ((d_6 l s q).length) (pairs (d_6 l s q)))]), Calls Try.prog 73 #[xl, xk, .int .i64 (q : Int), .int .i64 (m : Int), bptr br 0, bptr bb 0, bptr A 0, bptr bs 0] w (Ret fun v w' => v = .bool (i_2 l.length (okS b l) m s q) ∧ ∃ vb' best', ((i_2 l.length (okS b l) m s q) = true → (m_8 l.length m s q).find? (okS b l) = some best') ∧ Sep X w w' [(row xl 3 1 s.length (ints s)), (blk bb 44 [vb']), (row vb' 3 1 best'.length (ints best')), (rob bs 134 [(Value.func (.func 73) #[] #[(bptr br 0), (bptr bb 0), (bptr A 0), (bptr bs 0)])]), (rob br 53 [xr]), (rob A 116 [(bptr bx 0)]), (rob bx 146 [(Value.int .i64 b.scales), vt, vm, (Value.map (some bm))]), (mapX false bm es ck es.size 106 5 (bN b.tabs b.tabs.length) (bC lr lb b.tabs b.tabs.length)), (c_9 false vt lr lb b.tabs), (d_2 false vm lk b.macs), (sl xr 2 l.length (pairs l)), (sl xk 2 ((d_6 l s q).length) (pairs (d_6 l s q)))]) := by
 intro d
 induction d with
 | zero =>
  intro m q s xl xk vb best w X hm hqd hs hsl hJ
  obtain rfl : m = 0 := by omega
  obtain rfl : q = l.length := by omega
  exact leave_zero b vt vm lr lb lk hth hb bx bm es ck hMO l hl xr bb br A bs s xl xk vb best w X hsl hJ
 | succ d ih =>
  intro m q s xl xk vb best w X hm hqd hs hsl hJ
  cases m with
  | zero => exact leave_keep b vt vm lr lb lk hth hb bx bm es ck hMO l hl xr bb br A bs d ih q s xl xk vb best w X hm hqd hs hsl hJ
  | succ m => exact leave_more b vt vm lr lb lk hth hb bx bm es ck hMO l hl xr bb br A bs d ih m q s xl xk vb best w X hm hqd hs hsl hJ
end Go.Proofs.Ytohgladndklciaa

namespace Go.Proofs.Ytohgladndklciaa
open Go.RowKit Go.Shelf Go.Eng Go.Hard
theorem mapX_roS {X : Nat → Prop} {A w : World} {L : List Res} {i : Nat} {bm : Nat} {es : Array MapEntry} {ck q te sz : Nat} {n : Int → Int → Nat} {c : Int → Int → List Value} (h : Sep X A w L) (hi : L[i]? = some (mapX true bm es ck q te sz n c)) : Sep X A w (L.set i (mapX false bm es ck q te sz n c)) := h.say hi (mapX_ro (h.ok i _ hi)) (fun _ hb => hb) (fun e => by cases e)
theorem Doubt_ok (b : h_0) (vt vm : Value) (lr lb lk : Nat → Value) (w : World) (hT : j_6 w vt lr lb b.tabs) (hM : k_4 w vm lk b.macs) (hth : o_0 b) (l : List (Int × Int)) (xl : Value) (hxl : SlAt w xl 2 l.length (pairs l)) (hlb : l.length ≤ 1000000) (hr : n_5 b l = 0) :
  Calls Try.prog 41 #[(Value.agg #[(Value.int .i64 b.scales), vt, vm]), xl] w (Ret fun v w' => ∃ u, v = .tuple #[u, .int .i64 0] ∧ Sep NoB w w' [row u 3 1 (c_1 b l).length (ints (c_1 b l))]) := by
 refine a_8 Try.func41 rfl fun a0 a => ?_
 replace a : Fr 32 [] [(0, (Value.agg #[(Value.int .i64 b.scales), vt, vm])), (1, xl)] a0 := a
 have hc : g_0 b = 0 := o_6 hr; have hbl := z_7 hr; have hb := hbl.1; have hl := hbl.2; have hll := hl.len; have hsc := hb.scales
 have Aj : Sep NoB w w [(c_9 false vt lr lb b.tabs), (d_2 false vm lk b.macs), (sl xl 2 l.length (pairs l))] := f_0 ⟨rfl, hT, rfl, hM, rfl, hxl, trivial⟩
 refine m2 ?_
 refine s2 a (f_3 Aj rfl (a.ev rfl) (cs := [(Value.int .i64 b.scales), vt, vm]) rfl) ?_
 rintro a1 _ w3 ⟨b4, rfl, AQ⟩ AF; clear a Aj a0
 refine s2 AF (f_3 AQ rfl (AF.ev rfl) (cs := [xl]) (t_2 (SlAt.isSl (AQ.sk 3 rfl)))) ?_
 rintro a6 _ w8 ⟨I, rfl, J⟩ Ai; clear AF AQ a1
 refine s1 Ai (a_1 rfl (evc _ _)) fun Ar AE => ?_; clear Ai a6
 refine s1 AE (a_1 rfl (evc _ _)) fun As c => ?_; clear AE Ar
 refine n4 ?_
 refine s1 c (c_4 rfl y_4 (c.ev rfl) (J.bk 1 rfl) (l := [(Value.int .i64 b.scales), vt, vm]) rfl rfl) fun At d => ?_; clear c As
 refine s1 d (a_3 rfl ab_7 (d.ev rfl) (J.bk 0 rfl) rfl) fun Au R => ?_; clear d At
 refine s2 R (a_6 rfl en_56 (ev2 (R.ev rfl) (R.ev rfl)) (read_yes b vt vm lr lb lk _ (b_6 (J.ok 2 _ rfl)) (b_8 (J.ok 3 _ rfl)) hth l _ (J.sk 4 rfl) (by omega) hc hr)) ?_
 rintro Av _ BN ⟨bx24, bm25, es26, ck27, rfl, hMO28, Ab⟩ e; have AM := J.l_5 Ab rfl; clear Ab R J Au
 refine s1 e (a_0 rfl (e.ev rfl)) fun Aw f => ?_; clear e Av
 refine s1 f (c_3 rfl (f.ev rfl) rfl) fun Ax g => ?_; clear f Aw
 refine s1 g (c_3 rfl (g.ev rfl) rfl) fun Ay AG => ?_; clear g Ax
 refine s2 AG (e_4 AM rfl ze_116 (cs := [(Value.pointer none)]) rfl) ?_
 rintro Az _ BO ⟨E, rfl, AN⟩ S; clear AG AM Ay
 refine s7 S (c_5 AN rfl ty_116 (S.ev rfl) (S.ev rfl) (i := 0) rfl (vs := [(bptr bx24 0)]) rfl rfl rfl (Nat.le_of_ble_eq_true rfl)) ?_
 intro _ BF AO h; clear S
 have AP : Sep NoB w BF [(blk E 116 [(bptr bx24 0)]), (blk bx24 146 [(Value.int .i64 b.scales), vt, vm, (Value.map (some bm25))]), (mapX true bm25 es26 ck27 es26.size 106 5 (bN b.tabs b.tabs.length) (bC lr lb b.tabs b.tabs.length)), (blk I 53 [xl]), (blk b4 37 [(Value.int .i64 b.scales), vt, vm]), (c_9 false vt lr lb b.tabs), (d_2 false vm lk b.macs), (sl xl 2 l.length (pairs l))] := AO; clear AO AN
 refine s1 h (a_1 rfl (h.ev rfl)) fun A0 AH => ?_; clear h Az
 refine n2 ?_
 refine b_7 ?_
 have j := AH.as [(7, (Value.int .i64 0)), (6, (bptr E 0)), (3, (bptr I 0))] rfl; clear AH
 refine a_5 ?_
 refine s1 j (a_0 rfl (j.ev rfl)) fun A1 m => ?_; clear j A0
 refine s1 m (y_6 rfl (m.ev rfl) (evc _ _)) fun A2 n => ?_; clear m A1
 refine n1 ?_
 refine b_5 n rfl ?_
 refine d_1 ?_
 refine b_0 ?_
 refine m2 ?_
 refine s2 n (e_4 AP rfl ze_44 (cs := [(Value.slice none 0 0)]) rfl) ?_
 rintro A3 _ BP ⟨C, rfl, AR⟩ AI; clear n AP A2
 refine n4 ?_
 refine s2 AI (e_4 AR rfl ze_134 (cs := [Value.nilFunc]) rfl) ?_
 rintro A4 _ BQ ⟨D, rfl, AS⟩ K; clear AI AR A3
 refine n4 ?_
 refine s1 K (i_0 rfl ev0 (ev4 (K.ev rfl) (K.ev rfl) (K.ev rfl) (K.ev rfl))) fun A5 T => ?_; clear K A4
 refine s7 T (c_5 AS rfl ty_134 (T.ev rfl) (T.ev rfl) (i := 0) rfl (vs := [(Value.func (.func 73) #[] #[(bptr I 0), (bptr C 0), (bptr E 0), (bptr D 0)])]) rfl rfl rfl (Nat.le_of_ble_eq_true rfl)) ?_
 intro _ BG AT o; clear T
 have X : Sep NoB w BG [(blk D 134 [(Value.func (.func 73) #[] #[(bptr I 0), (bptr C 0), (bptr E 0), (bptr D 0)])]), (blk C 44 [(Value.slice none 0 0)]), (blk E 116 [(bptr bx24 0)]), (blk bx24 146 [(Value.int .i64 b.scales), vt, vm, (Value.map (some bm25))]), (mapX true bm25 es26 ck27 es26.size 106 5 (bN b.tabs b.tabs.length) (bC lr lb b.tabs b.tabs.length)), (blk I 53 [xl]), (blk b4 37 [(Value.int .i64 b.scales), vt, vm]), (c_9 false vt lr lb b.tabs), (d_2 false vm lk b.macs), (sl xl 2 l.length (pairs l))] := AT; clear AT AS
 refine n2 ?_
 refine m2 ?_
 refine s1 o (a_3 rfl ab_7 (o.ev rfl) (X.bk 5 rfl) rfl) fun A6 p => ?_; clear o A5
 refine s1 p (c_0 rfl p_0 (p.ev rfl) (X.sk 9 rfl)) fun A7 q => ?_; clear p A6
 refine s1 q (f_6 rfl (q.ev rfl) (evc _ _) (by omega) (by omega)) fun A8 AJ => ?_; clear q A7
 refine s1 AJ (a_0 rfl (evc _ _)) fun A9 AK => ?_; clear AJ A8
 refine n1 ?_
 refine d_0 ?_
 have AU := X.to_ro (i := 5) rfl; clear X
 have AV := AU.to_ro (i := 2) rfl; clear AU
 have AW := AV.to_ro (i := 0) rfl; clear AV
 have AX := AW.to_ro (i := 3) rfl; clear AW
 have AY := mapX_roS (i := 4) AX rfl; clear AX
 have AZ := sep_row_sl (AY.r_9 98 2) (i := 0) rfl; clear AY
 have Aa := AZ.r_9 3 1; clear AZ
 have AL := AK.as [(24, (Value.int .i64 0)), (23, (Value.int .i64 ((l.length : Int) + 1))), (9, (bptr D 0)), (8, (bptr C 0))] rfl; clear AK
 refine h_3 (G := Nat) (fun (k : Nat) a_ w_ => ∃ vb_ : Value, ∃ best_ : List Int, Fr 32 [] [(24, (Value.int .i64 (k : Int))), (23, (Value.int .i64 ((l.length : Int) + 1))), (9, (bptr D 0)), (8, (bptr C 0))] a_ ∧ Sep NoB w w_ [(row vb_ 3 1 best_.length (ints best_)), (sl (Value.slice none 0 0) 2 0 []), (rob D 134 [(Value.func (.func 73) #[] #[(bptr I 0), (bptr C 0), (bptr E 0), (bptr D 0)])]), (blk C 44 [vb_]), (rob E 116 [(bptr bx24 0)]), (rob bx24 146 [(Value.int .i64 b.scales), vt, vm, (Value.map (some bm25))]), (mapX false bm25 es26 ck27 es26.size 106 5 (bN b.tabs b.tabs.length) (bC lr lb b.tabs b.tabs.length)), (rob I 53 [xl]), (blk b4 37 [(Value.int .i64 b.scales), vt, vm]), (c_9 false vt lr lb b.tabs), (d_2 false vm lk b.macs), (sl xl 2 l.length (pairs l))] ∧ (k ≤ l.length + 1) ∧ ((o_1 l.length k).any (okS b l) = false)) (fun k => l.length + 1 - k) 0 ⟨(Value.slice none 0 0), [], AL.as _ rfl, Aa, by omega, rfl⟩ ?_
 clear AL Aa A9
 rintro k BA BR ⟨vb_, best_, U, Y, BM, hno⟩
 refine m2 ?_
 refine s1 U (f_9 rfl (U.ev rfl) (U.ev rfl)) fun Ag F => ?_; clear U BA
 refine n2 ?_
 by_cases Ac : (k : Int) < ((l.length : Int) + 1)
 ·skip
  rw [decide_eq_true Ac] at F
  refine c_6 F rfl ?_
  refine d_1 ?_
  refine b_0 ?_
  refine b_7 ?_
  refine d_0 ?_
  refine m2 ?_
  refine s1 F (a_0 rfl (F.ev rfl)) fun BB r => ?_; clear F Ag
  refine s1 r (a_1 rfl (r.ev rfl)) fun BC s => ?_; clear r BB
  refine n4 ?_
  refine s1 s (a_3 rfl ty_134 (s.ev rfl) (Y.rk 2 rfl) rfl) fun BD t => ?_; clear s BC
  refine s1 t (a_0 rfl (t.ev rfl)) fun BE V => ?_; clear t BD
  have AB := Y.r_9 3 1; clear Y
  have W := AB.gkp (gpc 0 (gpc 4 (gpc 1 (gpc 3 (gpc 8 (gpc 5 (gpc 6 (gpc 7 (gpc 10 (gpc 11 (gpc 12 (gpc 2 (gpc 9 gpn))))))))))))); clear AB
  refine s2 V (i_5 rfl (V.ev rfl) en_73 (ev4 (evc _ _) (evc _ _) (evc _ _) (V.ev rfl)) (leave_ok b vt vm lr lb lk hth hb bx24 bm25 es26 ck27 hMO28 l hl xl C I E D l.length k 0 [] _ _ _ _ _ (ownX [(row (Value.slice none 0 0) 3 1 0 []), (blk C 44 [vb_]), (row vb_ 3 1 best_.length (ints best_)), (rob D 134 [(Value.func (.func 73) #[] #[(bptr I 0), (bptr C 0), (bptr E 0), (bptr D 0)])]), (rob I 53 [xl]), (rob E 116 [(bptr bx24 0)]), (rob bx24 146 [(Value.int .i64 b.scales), vt, vm, (Value.map (some bm25))]), (mapX false bm25 es26 ck27 es26.size 106 5 (bN b.tabs b.tabs.length) (bC lr lb b.tabs b.tabs.length)), (c_9 false vt lr lb b.tabs), (d_2 false vm lk b.macs), (sl xl 2 l.length (pairs l)), (sl (Value.slice none 0 0) 2 0 [])]) (by omega) (by omega) s_1.nil (by simp only [List.length_nil]; omega) (Sep.enterG (A := [(row (Value.slice none 0 0) 3 1 0 []), (blk C 44 [vb_]), (row vb_ 3 1 best_.length (ints best_)), (rob D 134 [(Value.func (.func 73) #[] #[(bptr I 0), (bptr C 0), (bptr E 0), (bptr D 0)])]), (rob I 53 [xl]), (rob E 116 [(bptr bx24 0)]), (rob bx24 146 [(Value.int .i64 b.scales), vt, vm, (Value.map (some bm25))]), (mapX false bm25 es26 ck27 es26.size 106 5 (bN b.tabs b.tabs.length) (bC lr lb b.tabs b.tabs.length)), (c_9 false vt lr lb b.tabs), (d_2 false vm lk b.macs), (sl xl 2 l.length (pairs l)), (sl (Value.slice none 0 0) 2 0 [])]) (B := [(blk b4 37 [(Value.int .i64 b.scales), vt, vm])]) W))) ?_
  rintro Ah _ Ap ⟨rfl, vb104, best105, Af, AC⟩ H; clear V BE
  have L : Sep NoB w Ap [(row (Value.slice none 0 0) 3 1 0 []), (blk C 44 [vb104]), (row vb104 3 1 best105.length (ints best105)), (rob D 134 [(Value.func (.func 73) #[] #[(bptr I 0), (bptr C 0), (bptr E 0), (bptr D 0)])]), (rob I 53 [xl]), (rob E 116 [(bptr bx24 0)]), (rob bx24 146 [(Value.int .i64 b.scales), vt, vm, (Value.map (some bm25))]), (mapX false bm25 es26 ck27 es26.size 106 5 (bN b.tabs b.tabs.length) (bC lr lb b.tabs b.tabs.length)), (c_9 false vt lr lb b.tabs), (d_2 false vm lk b.macs), (sl xl 2 l.length (pairs l)), (sl (Value.slice none 0 0) 2 0 []), (blk b4 37 [(Value.int .i64 b.scales), vt, vm])] := Sep.callG (A := [(row (Value.slice none 0 0) 3 1 0 []), (blk C 44 [vb_]), (row vb_ 3 1 best_.length (ints best_)), (rob D 134 [(Value.func (.func 73) #[] #[(bptr I 0), (bptr C 0), (bptr E 0), (bptr D 0)])]), (rob I 53 [xl]), (rob E 116 [(bptr bx24 0)]), (rob bx24 146 [(Value.int .i64 b.scales), vt, vm, (Value.map (some bm25))]), (mapX false bm25 es26 ck27 es26.size 106 5 (bN b.tabs b.tabs.length) (bC lr lb b.tabs b.tabs.length)), (c_9 false vt lr lb b.tabs), (d_2 false vm lk b.macs), (sl xl 2 l.length (pairs l)), (sl (Value.slice none 0 0) 2 0 [])]) (B := [(blk b4 37 [(Value.int .i64 b.scales), vt, vm])]) W AC (u_2 ⟨.inl rfl, .inl rfl, .inl rfl, .inr ⟨3, rfl⟩, .inr ⟨4, rfl⟩, .inr ⟨5, rfl⟩, .inr ⟨6, rfl⟩, .inr ⟨7, rfl⟩, .inr ⟨8, rfl⟩, .inr ⟨9, rfl⟩, .inr ⟨10, rfl⟩, .inr ⟨11, rfl⟩, trivial⟩); clear AC W
  refine n1 ?_
  rcases Bool.eq_false_or_eq_true ((i_2 l.length (okS b l) k [] 0)) with Z | Z
  ·skip
   rw [Z] at H
   refine c_6 H rfl ?_
   refine h_1 ?_
   refine blk_miss (by decide) ?_
   refine b_4 ?_
   refine b_4 ?_
   refine f_7 ?_
   refine b_0 ?_
   refine b_7 ?_
   have M := H.as [(8, (bptr C 0))] rfl; clear H
   refine a_5 ?_
   refine s1 M (a_3 rfl aa_8 (M.ev rfl) (L.bk 1 rfl) rfl) fun Ak N => ?_; clear M Ah
   refine s1 N (a_1 rfl (N.ev rfl)) fun Al x => ?_; clear N Ak
   refine s1 x (a_1 rfl (evc _ _)) fun BI y => ?_; clear x Al
   refine n1 ?_
   refine c_8 ?_
   refine a_9 y (.inl rfl) (e_3 y rfl (.tmp rfl) (.tmp rfl)) ?_
   rw [doubt_found (by omega) hno (Af (by assumption))]
   exact ⟨_, rfl, L.keep [2] (by decide) _ rfl rfl⟩
  skip
  rw [Z] at H
  refine b_5 H rfl ?_
  refine d_1 ?_
  refine g_8 ?_
  refine b_0 ?_
  have O := H.as [(24, (Value.int .i64 (k : Int))), (23, (Value.int .i64 ((l.length : Int) + 1))), (9, (bptr D 0)), (8, (bptr C 0))] rfl; clear H
  refine a_5 ?_
  refine s1 O (f_6 rfl (O.ev rfl) (evc _ _) (by omega) (by omega)) fun Am P => ?_; clear O Ah
  refine s1 P (a_0 rfl (P.ev rfl)) fun BJ Ad => ?_; clear P Am
  refine e_8 ?_
  have Ae := L.gkp (gpc 2 (gpc 11 (gpc 3 (gpc 1 (gpc 5 (gpc 6 (gpc 7 (gpc 4 (gpc 12 (gpc 8 (gpc 9 (gpc 10 gpn)))))))))))); clear L
  exact b_0 ⟨k + 1, ⟨vb104, best105, Ad.as _ rfl, Ae, by omega, all_go hno (by assumption)⟩, by omega⟩
 skip
 rw [decide_eq_false Ac] at F
 refine b_5 F rfl ?_
 refine h_1 ?_
 refine b_4 ?_
 refine b_4 ?_
 refine f_7 ?_
 refine b_0 ?_
 refine m2 ?_
 refine s1 F (a_3 rfl aa_8 (F.ev rfl) (Y.bk 3 rfl) rfl) fun An Q => ?_; clear F Ag
 refine s1 Q (a_1 rfl (Q.ev rfl)) fun Ao z => ?_; clear Q An
 refine s1 z (a_1 rfl (evc _ _)) fun BK AA => ?_; clear z Ao
 refine n1 ?_
 refine c_8 ?_
 refine a_9 AA (.inl rfl) (e_3 AA rfl (.tmp rfl) (.tmp rfl)) ?_
 exact (all_not hb (by omega) hno).elim
end Go.Proofs.Ytohgladndklciaa

namespace Go.Proofs.Ytohgladndklciaa
open Go.RowKit Go.Shelf Go.Eng Go.Hard
theorem k_9 (l : List (Int × Int)) (xl : Value) (w : World) (hxl : SlAt w xl 2 l.length (pairs l)) (z : List Int) (xz : Value) (hxz : SlAt w xz 1 z.length (ints z)) (Bd : l.length ≤ 12) (hzl : z.length ≤ 1000000) :
  Calls Try.prog 43 #[xl, xz] w (Ret fun v w' => Ext NoB w w' ∧ w'.ownsRow w.heap.size 67 2 v (woF l z).length (pairs (woF l z))) := by
 refine a_8 Try.func43 rfl fun a0 AG => ?_
 replace AG : Fr 39 [] [(0, xl), (1, xz)] a0 := AG
 have Aj : Sep NoB w w [(sl xl 2 l.length (pairs l)), (sl xz 1 z.length (ints z))] := f_0 ⟨rfl, hxl, rfl, hxz, trivial⟩
 refine m2 ?_
 refine s1 AG (a_1 rfl (evc _ _)) fun a1 Af => ?_; clear AG a0
 refine n4 ?_
 refine s1 Af (a_1 rfl (evc _ _)) fun a3 Ag => ?_; clear Af a1
 have Ak := Aj.r_9 67 2; clear Aj
 refine n2 ?_
 refine m2 ?_
 refine s1 Ag (a_1 rfl (evc _ _)) fun a6 Ah => ?_; clear Ag a3
 refine n1 ?_
 refine d_0 ?_
 have Ai := Ah.as [(6, (Value.int .i64 0)), (5, (Value.slice none 0 0)), (0, xl), (1, xz)] rfl; clear Ah
 refine h_3 (G := Nat) (fun (A : Nat) a_ w_ => ∃ v5_ : Value, Fr 39 [] [(6, (Value.int .i64 (A : Int))), (5, v5_), (0, xl), (1, xz)] a_ ∧ Sep NoB w w_ [(row v5_ 67 2 ((d_6 l z A).length) (pairs (d_6 l z A))), (sl xl 2 l.length (pairs l)), (sl xz 1 z.length (ints z))] ∧ (A ≤ l.length)) (fun A => l.length - A) 0 ⟨(Value.slice none 0 0), Ai.as _ rfl, (Ak.g_7 (i := 0) rfl (by rfl) (by rfl)), by omega⟩ ?_
 clear Ai Ak a6
 rintro A a9 Bj ⟨v5_, e, d, hkk1⟩
 have hkpl := kep_len l z A
 refine b_7 ?_
 refine m2 ?_
 refine s1 e (a_0 rfl (e.ev rfl)) fun Ay f => ?_; clear e a9
 refine s1 f (a_0 rfl (f.ev rfl)) fun Az g => ?_; clear f Ay
 refine s1 g (c_0 rfl m_9 (g.ev rfl) (d.sk 1 rfl)) fun A0 X => ?_; clear g Az
 refine s1 X (f_9 rfl (X.ev rfl) (X.ev rfl)) fun Ab E => ?_; clear X A0
 refine n1 ?_
 by_cases AV : (A : Int) < (l.length : Int)
 ·skip
  rw [decide_eq_true AV] at E
  refine c_6 E rfl ?_
  refine d_1 ?_
  refine b_0 ?_
  refine b_7 ?_
  refine d_0 ?_
  refine m2 ?_
  refine s1 E (a_1 rfl (evc _ _)) fun A1 AL => ?_; clear E Ab
  refine n2 ?_
  refine m2 ?_
  refine s1 AL (a_1 rfl (evc _ _)) fun A2 AM => ?_; clear AL A1
  refine n1 ?_
  refine d_0 ?_
  have AN := AM.as [(8, (Value.int .i64 0)), (7, (Value.bool true)), (6, (Value.int .i64 (A : Int))), (5, v5_), (0, xl), (1, xz)] rfl; clear AM
  refine h_3 (G := Nat) (fun (D : Nat) a_ w_ => Fr 39 [] [(8, (Value.int .i64 (D : Int))), (7, (Value.bool (woU z A D))), (6, (Value.int .i64 (A : Int))), (5, v5_), (0, xl), (1, xz)] a_ ∧ Sep NoB w w_ [(row v5_ 67 2 ((d_6 l z A).length) (pairs (d_6 l z A))), (sl xl 2 l.length (pairs l)), (sl xz 1 z.length (ints z))] ∧ (D ≤ z.length)) (fun D => z.length - D) 0 ⟨AN.as _ (by rfl), d, by omega⟩ ?_
  clear AN d A2
  rintro D A3 Bk ⟨h, C, Bi⟩
  refine b_7 ?_
  refine m2 ?_
  refine s1 h (a_0 rfl (h.ev rfl)) fun A4 k => ?_; clear h A3
  refine s1 k (a_0 rfl (k.ev rfl)) fun A5 m => ?_; clear k A4
  refine s1 m (c_0 rfl h_8 (m.ev rfl) (C.sk 2 rfl)) fun A6 Y => ?_; clear m A5
  refine s1 Y (f_9 rfl (Y.ev rfl) (Y.ev rfl)) fun Ac B => ?_; clear Y A6
  refine n1 ?_
  by_cases AW : (D : Int) < (z.length : Int)
  ·skip
   rw [decide_eq_true AW] at B
   refine c_6 B rfl ?_
   refine d_1 ?_
   refine b_0 ?_
   refine b_7 ?_
   refine d_0 ?_
   refine a_5 ?_
   refine s1 B (a_0 rfl (B.ev rfl)) fun A7 n => ?_; clear B Ac
   refine s1 n (a_0 rfl (n.ev rfl)) fun Ad H => ?_; clear n A7
   rcases Bool.eq_false_or_eq_true ((woU z A D)) with K | K
   ·skip
    rw [K] at H
    have hnx := woU_t2 K
    refine s5 H (a_0 rfl (H.ev rfl)) fun A8 o => ?_; clear H Ad
    refine s5 o (a_0 rfl (o.ev rfl)) fun A9 Z => ?_; clear o A8
    refine s5 Z (b_2 rfl h_8 ty_3 (Z.ev rfl) (i := D) (Z.ev rfl) (C.sk 2 rfl) (by decide) (by omega)) fun BA p => ?_; clear Z A9
    refine s5 p (c_7 rfl ty_3 (p.ev rfl) (C.sk 2 rfl) (ints_at (by omega))) fun BB q => ?_; clear p BA
    refine s5 q (a_0 rfl (q.ev rfl)) fun BC a => ?_; clear q BB
    refine s5 a (y_6 rfl (a.ev rfl) (a.ev rfl)) fun BD b => ?_; clear a BC
    refine s1 b (b_3 rfl (b.ev rfl) (b.ev rfl)) fun BE r => ?_; clear b BD
    refine s1 r (a_1 rfl (r.ev rfl)) fun BF AO => ?_; clear r BE
    refine e_8 ?_
    refine g_8 ?_
    refine b_0 ?_
    have s := AO.as [(7, (Value.bool (!(decide ((z.getD D 0) = (A : Int)))))), (8, (Value.int .i64 (D : Int))), (6, (Value.int .i64 (A : Int))), (5, v5_), (0, xl), (1, xz)] rfl; clear AO
    refine a_5 ?_
    refine s1 s (a_0 rfl (s.ev rfl)) fun BG t => ?_; clear s BF
    refine s1 t (f_6 rfl (t.ev rfl) (evc _ _) (by omega) (by omega)) fun BH u => ?_; clear t BG
    refine s1 u (a_1 rfl (u.ev rfl)) fun Bg Av => ?_; clear u BH
    refine e_8 ?_
    exact b_0 ⟨D + 1, ⟨Av.as _ (by first | (rw [hnx]; done) | (rw [hnx]; rfl)), C, by omega⟩, by omega⟩
   skip
   rw [K] at H
   have hnx := woU_f1 K
   refine s3 H fun BI AP => ?_; clear H Ad
   refine s3 AP fun BJ AQ => ?_; clear AP BI
   refine s3 AQ fun BK AR => ?_; clear AQ BJ
   refine s3 AR fun BL AS => ?_; clear AR BK
   refine s3 AS fun BM AT => ?_; clear AS BL
   refine s3 AT fun BN x => ?_; clear AT BM
   refine s1 x (c_2 rfl (x.ev rfl) (evc _ _)) fun BO y => ?_; clear x BN
   refine s1 y (a_1 rfl (y.ev rfl)) fun BP AU => ?_; clear y BO
   refine e_8 ?_
   refine g_8 ?_
   refine b_0 ?_
   have AA := AU.as [(7, (Value.bool false)), (8, (Value.int .i64 (D : Int))), (6, (Value.int .i64 (A : Int))), (5, v5_), (0, xl), (1, xz)] rfl; clear AU
   refine a_5 ?_
   refine s1 AA (a_0 rfl (AA.ev rfl)) fun BQ AB => ?_; clear AA BP
   refine s1 AB (f_6 rfl (AB.ev rfl) (evc _ _) (by omega) (by omega)) fun BR AC => ?_; clear AB BQ
   refine s1 AC (a_1 rfl (AC.ev rfl)) fun Bh Aw => ?_; clear AC BR
   refine e_8 ?_
   exact b_0 ⟨D + 1, ⟨Aw.as _ (by first | (rw [hnx]; done) | (rw [hnx]; rfl)), C, by omega⟩, by omega⟩
  skip
  rw [decide_eq_false AW] at B
  refine b_5 B rfl ?_
  refine h_1 ?_
  refine b_4 ?_
  refine b_4 ?_
  refine f_7 ?_
  refine b_0 ?_
  refine m2 ?_
  refine s1 B (a_0 rfl (B.ev rfl)) fun Ae F => ?_; clear B Ac
  refine n1 ?_
  rcases Bool.eq_false_or_eq_true ((woU z A D)) with L | L
  ·skip
   rw [L] at F
   have hnx := woU_t2 L
   refine c_6 F rfl ?_
   have AD := F.as [(6, (Value.int .i64 (A : Int))), (5, v5_), (0, xl), (1, xz)] rfl; clear F
   refine a_5 ?_
   refine s1 AD (a_0 rfl (AD.ev rfl)) fun BS AE => ?_; clear AD Ae
   refine s1 AE (a_0 rfl (AE.ev rfl)) fun BT AF => ?_; clear AE BS
   refine s1 AF (a_0 rfl (AF.ev rfl)) fun BU I => ?_; clear AF BT
   refine s1 I (b_2 rfl m_9 ty_67 (I.ev rfl) (i := A) (I.ev rfl) (C.sk 1 rfl) (by decide) (by omega)) fun Al M => ?_; clear I BU
   refine s1 M (f_2 rfl ty_67 (M.ev rfl) (C.sk 1 rfl) (i_3 (by omega)) rfl (by decide)) fun Am N => ?_; clear M Al
   refine s2 N (g_4 C rfl (pv1 (N.ev rfl)) m_9 ty_67 ze_67 (by decide) (cs := [(Value.int .i64 ((l.getD A (0, 0)).1)), (Value.int .i64 ((l.getD A (0, 0)).2))]) (bs_67_1_0iia _ _)) ?_
   rintro An _ Be ⟨Bc, rfl, c⟩ J; clear N C Am
   refine s2 J (l_0 c rfl m_9 el_67 (J.ev rfl) (J.ev rfl) (i := 1) rfl (SlAt.of_blk (c.bk 0 rfl) rfl (Nat.le_of_ble_eq_true rfl)) rfl (by simp only [maxLen]; omega) (by omega)) ?_
   intro Ao AX Bf AJ O
   have AK := AJ.g_7 (i := 1) rfl (n' := ((d_6 l z A) ++ [((l.getD A (0, 0)).1, (l.getD A (0, 0)).2)]).length) (xs' := (pairs ((d_6 l z A) ++ [((l.getD A (0, 0)).1, (l.getD A (0, 0)).2)]))) (by simp) (by simp [pairs]); clear AJ J c An
   refine s1 O (a_1 rfl (O.ev rfl)) fun Ap AH => ?_; clear O Ao
   refine e_8 ?_
   refine g_8 ?_
   refine b_0 ?_
   have P := AH.as [(5, AX), (6, (Value.int .i64 (A : Int))), (0, xl), (1, xz)] rfl; clear AH
   refine a_5 ?_
   refine s1 P (a_0 rfl (P.ev rfl)) fun Aq Q => ?_; clear P Ap
   refine s1 Q (f_6 rfl (Q.ev rfl) (evc _ _) (by omega) (by omega)) fun Ar R => ?_; clear Q Aq
   refine s1 R (a_1 rfl (R.ev rfl)) fun BW AY => ?_; clear R Ar
   refine e_8 ?_
   have Aa := AK.gkp (gpc 1 (gpc 2 (gpc 3 gpn))); clear AK
   exact b_0 ⟨A + 1, ⟨AX, AY.as _ rfl, (Aa.g_7 (i := 0) rfl (n' := (d_6 l z (A + 1)).length) (xs' := pairs (d_6 l z (A + 1))) (by rw [kep_y (j := D) (by omega) (by assumption)]) (by rw [kep_y (j := D) (by omega) (by assumption)])), by omega⟩, by omega⟩
  skip
  rw [L] at F
  have hnx := woU_f1 L
  refine b_5 F rfl ?_
  refine d_1 ?_
  refine g_8 ?_
  refine b_0 ?_
  have S := F.as [(6, (Value.int .i64 (A : Int))), (5, v5_), (0, xl), (1, xz)] rfl; clear F
  refine a_5 ?_
  refine s1 S (a_0 rfl (S.ev rfl)) fun As T => ?_; clear S Ae
  refine s1 T (f_6 rfl (T.ev rfl) (evc _ _) (by omega) (by omega)) fun At U => ?_; clear T As
  refine s1 U (a_1 rfl (U.ev rfl)) fun BX AZ => ?_; clear U At
  refine e_8 ?_
  exact b_0 ⟨A + 1, ⟨v5_, AZ.as _ rfl, (C.g_7 (i := 0) rfl (n' := (d_6 l z (A + 1)).length) (xs' := pairs (d_6 l z (A + 1))) (by rw [kep_n (j := D) (by omega) (by assumption)]) (by rw [kep_n (j := D) (by omega) (by assumption)])), by omega⟩, by omega⟩
 skip
 rw [decide_eq_false AV] at E
 refine b_5 E rfl ?_
 refine h_1 ?_
 refine b_4 ?_
 refine b_4 ?_
 refine f_7 ?_
 refine b_0 ?_
 refine b_7 ?_
 have V := E.as [(5, v5_)] rfl; clear E
 refine a_5 ?_
 refine s1 V (a_0 rfl (V.ev rfl)) fun Au W => ?_; clear V Ab
 refine s1 W (a_1 rfl (W.ev rfl)) fun BY AI => ?_; clear W Au
 refine n1 ?_
 refine c_8 ?_
 refine a_9 AI (.inl rfl) (a_2 AI rfl (.tmp rfl)) ?_
 have hz := d.g_7 (i := 0) rfl (n' := (woF l z).length) (xs' := pairs (woF l z)) (by rw [show A = l.length by omega]; rfl) (by rw [show A = l.length by omega]; rfl)
 exact ⟨hz.ext, hz.row_new (i := 0) rfl⟩
end Go.Proofs.Ytohgladndklciaa
