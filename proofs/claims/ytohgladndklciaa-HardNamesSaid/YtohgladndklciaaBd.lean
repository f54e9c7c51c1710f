/-
  Books and readings that are changed: how their spans differ.
  Books that are copied and changed: the structs in new memory, the inner lists where they were.
  Finer books: lesser errors, narrower blocks; what HardFiner says of them.
  Books with more in them: what HardMore says of them.
  The chapter's book, changed: what HardNames shows of it; decided by the kernel. Two tables, two machines in memory as one thing.
-/
import Derived.Test.YtohgladndklciaaBc
import Derived.Test.YtohgladndklciaaEnga
import Derived.Test.YtohgladndklciaaEngb
set_option linter.unusedSimpArgs false
set_option linter.unusedVariables false
namespace Go.Proofs.Ytohgladndklciaa
open Go.RowKit Go.Shelf Go.Eng Go.Hard
theorem leave_zero (b : f_7) (vt vm : Value) (lr lb lk : Nat → Value) (hth : l_4 b) (hb : m_2 b) (bx bm : Nat) (es : Array MapEntry) (ck : Nat) (hMO : o_8 bm es ck (bN b.tabs b.tabs.length)) (l : List (Int × Int)) (hl : t_5 b l) (xr : Value) (bb br B bs : Nat) (s : List Int) (xl xk vb : Value) (best : List Int) (w : World) (X : Nat → Prop) (hsl : s.length ≤ 1000) (hJ : Sep X w w [(row xl 3 1 s.length (ints s)), (blk bb 44 [vb]), (row vb 3 1 best.length (ints best)), (rob bs 134 [(Value.func (.func 73) #[] #[(bptr br 0), (bptr bb 0), (bptr B 0), (bptr bs 0)])]), (rob br 53 [xr]), (rob B 116 [(bptr bx 0)]), (rob bx 146 [(iv b.scales), vt, vm, (Value.map (some bm))]), (mapX false bm es ck es.size 106 5 (bN b.tabs b.tabs.length) (bC lr lb b.tabs b.tabs.length)), (c_0 false vt lr lb b.tabs), (c_3 false vm lk b.macs), (sl xr 2 l.length (pairs l)), (sl xk 2 ((d_0 l s l.length).length) (pairs (d_0 l s l.length)))]) :
  Calls Try.prog 73 #[xl, xk, (iv (l.length : Int)), (iv 0), (bptr br 0), (bptr bb 0), (bptr B 0), (bptr bs 0)] w (Ret fun v w' => v = .bool (h_1 l.length (okS b l) 0 s l.length) ∧ ∃ vb' best', ((h_1 l.length (okS b l) 0 s l.length) = true → (o_1 l.length 0 s l.length).find? (okS b l) = some best') ∧ Sep X w w' [(row xl 3 1 s.length (ints s)), (blk bb 44 [vb']), (row vb' 3 1 best'.length (ints best')), (rob bs 134 [(Value.func (.func 73) #[] #[(bptr br 0), (bptr bb 0), (bptr B 0), (bptr bs 0)])]), (rob br 53 [xr]), (rob B 116 [(bptr bx 0)]), (rob bx 146 [(iv b.scales), vt, vm, (Value.map (some bm))]), (mapX false bm es ck es.size 106 5 (bN b.tabs b.tabs.length) (bC lr lb b.tabs b.tabs.length)), (c_0 false vt lr lb b.tabs), (c_3 false vm lk b.macs), (sl xr 2 l.length (pairs l)), (sl xk 2 ((d_0 l s l.length).length) (pairs (d_0 l s l.length)))]) := by
 refine a_7 Try.func73 rfl fun x W => ?_
 replace W : Fr 69 [] [(0, xl), (1, xk), (2, (iv (l.length : Int))), (3, (iv 0)), (4, (bptr br 0)), (5, (bptr bb 0)), (6, (bptr B 0)), (7, (bptr bs 0))] x := W
 have hll := hl.len; have hkl := kep_len l s l.length
 have I : Sep X w w [(row xl 3 1 s.length (ints s)), (blk bb 44 [vb]), (row vb 3 1 best.length (ints best)), (rob bs 134 [(Value.func (.func 73) #[] #[(bptr br 0), (bptr bb 0), (bptr B 0), (bptr bs 0)])]), (rob br 53 [xr]), (rob B 116 [(bptr bx 0)]), (rob bx 146 [(iv b.scales), vt, vm, (Value.map (some bm))]), (mapX false bm es ck es.size 106 5 (bN b.tabs b.tabs.length) (bC lr lb b.tabs b.tabs.length)), (c_0 false vt lr lb b.tabs), (c_3 false vm lk b.macs), (sl xr 2 l.length (pairs l)), (sl xk 2 ((d_0 l s l.length).length) (pairs (d_0 l s l.length)))] := hJ
 refine m2 (s1 W (a_0 rfl (evc _ _)) fun a1 a => ?_); clear W x
 refine n2 (m2 (s1 a (a_1 rfl a.e) fun a3 c => ?_)); clear a a1
 refine s1 c (a_3 rfl y_8 c.e (I.rk 4 rfl) rfl) fun a5 g => ?_; clear c a3
 refine s1 g (e_8 rfl l_3 g.e (I.sk 10 rfl)) fun a7 Y => ?_; clear g a5
 refine s1 Y (j_8 rfl Y.e Y.e) fun a9 C => ?_; clear Y a7
 have u : (l.length : Int) = (l.length : Int) := rfl
 rw [decide_eq_true u] at C
 refine n1 (d_6 C rfl (d_3 ?_))
 have J := C.as [(0, xl), (1, xk), (3, (iv 0)), (5, (bptr bb 0)), (6, (bptr B 0))] rfl; clear C
 refine a_5 (s1 J (a_1 rfl J.e) fun y K => ?_); clear J a9
 refine s2 K (a_8 rfl en_74 (ev1 K.e) (clone_int s _ _ (SlAt.e_4 (I.f_2 0 rfl)) (by omega))) ?_
 rintro z r AW ⟨k, hO19⟩ D; have H := I.new_row k hO19; clear k hO19 K I y
 refine s7 D (b_4 H rfl y_4 D.e D.e (i := 2) rfl (vs := [r]) (isSl_cells (SlAt.isSl (SlAt.e_4 (H.f_2 0 rfl)))) rfl (k_2 (SlAt.one (SlAt.e_4 (H.f_2 0 rfl))) y_2) (Nat.le_of_ble_eq_true rfl)) ?_
 intro _ AN n L; clear D
 have A : Sep X w AN [(row r 3 1 s.length (ints s)), (row xl 3 1 s.length (ints s)), (blk bb 44 [r]), (row vb 3 1 best.length (ints best)), (rob bs 134 [(Value.func (.func 73) #[] #[(bptr br 0), (bptr bb 0), (bptr B 0), (bptr bs 0)])]), (rob br 53 [xr]), (rob B 116 [(bptr bx 0)]), (rob bx 146 [(iv b.scales), vt, vm, (Value.map (some bm))]), (mapX false bm es ck es.size 106 5 (bN b.tabs b.tabs.length) (bC lr lb b.tabs b.tabs.length)), (c_0 false vt lr lb b.tabs), (c_3 false vm lk b.macs), (sl xr 2 l.length (pairs l)), (sl xk 2 ((d_0 l s l.length).length) (pairs (d_0 l s l.length)))] := n; clear n H
 refine n4 (s1 L (a_3 rfl ty_116 L.e (A.rk 6 rfl) rfl) fun AA M => ?_); clear L z
 refine s1 M (a_1 rfl M.e) fun AB E => ?_; clear M AA
 refine s2 E (a_8 rfl en_57 (ev2 E.e E.e) (spansb_ok b vt vm lr lb lk _ (c_5 (A.ok 9 _ rfl)) (d_1 (A.ok 10 _ rfl)) hth bx bm _ _ hMO (A.rk 7 rfl) (A.ok 8 _ rfl) hb (d_0 l s l.length) _ (A.sk 12 rfl) (kep_read hl (Nat.le_refl _)))) ?_
 rintro AC _ AX ⟨Z, AT, rfl, htk35, m⟩ N; have o := A.step m; clear m E A AB
 refine s1 N (a_1 rfl N.e) fun AD O => ?_; clear N AC
 refine s1 O (b_2 rfl O.e rfl) fun AE P => ?_; clear O AD
 refine s1 P (b_2 rfl P.e rfl) fun AF d => ?_; clear P AE
 refine s2 d (d_2 o rfl ze_120 (cs := [(iv 0), (iv 0), (iv 0), (iv 0), (iv 0), (iv 0), (iv 0), (iv 0)]) rfl) ?_
 rintro AG _ AY ⟨AV, rfl, p⟩ F; clear d o AF
 refine s7 F (b_4 p rfl j_9 F.e F.e (i := 0) rfl (vs := (pairs Z)) rfl (show (pairs Z).length = 8 from by simp only [a_6, List.length_set]; omega) (j_4 _) (by decide)) ?_
 intro _ AZ q Q; have t := q.n_1 (i := 0) rfl (cs' := (pairs Z)) (i_3 _ _ (Eq.symm (show (pairs Z).length = 8 from by simp only [a_6, List.length_set]; omega))); clear q F p
 refine s1 Q (a_0 rfl Q.e) fun AH f => ?_; clear Q AG
 refine n2 ?_
 have R := f.as [(14, (Value.bool ((l_6 b (d_0 l s l.length)).isSome))), (3, (iv 0))] rfl; clear f
 refine a_5 (s1 R (a_1 rfl R.e) fun AI S => ?_); clear R AH
 refine s1 S (j_8 rfl S.e (evc _ _)) fun AJ T => ?_; clear S AI
 refine s1 T (a_1 rfl T.e) fun AK U => ?_; clear T AJ
 refine s5 U (a_1 rfl U.e) fun AL G => ?_; clear U AK
 refine s1 G (b_5 rfl G.e G.e) fun AM V => ?_; clear G AL
 refine s1 V (a_0 rfl V.e) fun AU j => ?_; clear V AM
 refine n1 (c_6 (b_1 (b_0 j (.inl rfl) (a_2 j rfl (.tmp rfl)) ?_)))
 rw [lv_0]
 exact ⟨rfl, _, s, fun h => lv_f0 h, t.keep [2, 3, 1, 5, 6, 7, 8, 9, 10, 11, 12, 13] (by decide) _ rfl rfl⟩
theorem leave_keep (b : f_7) (vt vm : Value) (lr lb lk : Nat → Value) (hth : l_4 b) (hb : m_2 b) (bx bm : Nat) (es : Array MapEntry) (ck : Nat) (hMO : o_8 bm es ck (bN b.tabs b.tabs.length)) (l : List (Int × Int)) (hl : t_5 b l) (xr : Value) (bb br E bs : Nat) (d : Nat) (ih : ∀ (m : Nat) (q : Nat) (s : List Int) (xl xk vb : Value) (best : List Int) (w : World) (X : Nat → Prop) (_ : m ≤ d) (_ : q + d = l.length) (_ : r_0 s q) (_ : s.length + m ≤ 1000) (_ : Sep X w w [(row xl 3 1 s.length (ints s)), (blk bb 44 [vb]), (row vb 3 1 best.length (ints best)), (rob bs 134 [(Value.func (.func 73) #[] #[(bptr br 0), (bptr bb 0), (bptr E 0), (bptr bs 0)])]), (rob br 53 [xr]), (rob E 116 [(bptr bx 0)]), (rob bx 146 [(iv b.scales), vt, vm, (Value.map (some bm))]), (mapX false bm es ck es.size 106 5 (bN b.tabs b.tabs.length) (bC lr lb b.tabs b.tabs.length)), (c_0 false vt lr lb b.tabs), (c_3 false vm lk b.macs), (sl xr 2 l.length (pairs l)), (sl xk 2 ((d_0 l s q).length) (pairs (d_0 l s q)))]), Calls Try.prog 73 #[xl, xk, .int .i64 (q : Int), .int .i64 (m : Int), bptr br 0, bptr bb 0, bptr E 0, bptr bs 0] w (Ret fun v w' => v = .bool (h_1 l.length (okS b l) m s q) ∧ ∃ vb' best', ((h_1 l.length (okS b l) m s q) = true → (o_1 l.length m s q).find? (okS b l) = some best') ∧ Sep X w w' [(row xl 3 1 s.length (ints s)), (blk bb 44 [vb']), (row vb' 3 1 best'.length (ints best')), (rob bs 134 [(Value.func (.func 73) #[] #[(bptr br 0), (bptr bb 0), (bptr E 0), (bptr bs 0)])]), (rob br 53 [xr]), (rob E 116 [(bptr bx 0)]), (rob bx 146 [(iv b.scales), vt, vm, (Value.map (some bm))]), (mapX false bm es ck es.size 106 5 (bN b.tabs b.tabs.length) (bC lr lb b.tabs b.tabs.length)), (c_0 false vt lr lb b.tabs), (c_3 false vm lk b.macs), (sl xr 2 l.length (pairs l)), (sl xk 2 ((d_0 l s q).length) (pairs (d_0 l s q)))])) (q : Nat) (s : List Int) (xl xk vb : Value) (best : List Int) (w : World) (X : Nat → Prop) (hm : 0 ≤ d + 1) (hqd : q + (d + 1) = l.length) (hs : r_0 s q) (hsl : s.length + 0 ≤ 1000) (hJ : Sep X w w [(row xl 3 1 s.length (ints s)), (blk bb 44 [vb]), (row vb 3 1 best.length (ints best)), (rob bs 134 [(Value.func (.func 73) #[] #[(bptr br 0), (bptr bb 0), (bptr E 0), (bptr bs 0)])]), (rob br 53 [xr]), (rob E 116 [(bptr bx 0)]), (rob bx 146 [(iv b.scales), vt, vm, (Value.map (some bm))]), (mapX false bm es ck es.size 106 5 (bN b.tabs b.tabs.length) (bC lr lb b.tabs b.tabs.length)), (c_0 false vt lr lb b.tabs), (c_3 false vm lk b.macs), (sl xr 2 l.length (pairs l)), (sl xk 2 ((d_0 l s q).length) (pairs (d_0 l s q)))]) :
  Calls Try.prog 73 #[xl, xk, (iv (q : Int)), (iv 0), (bptr br 0), (bptr bb 0), (bptr E 0), (bptr bs 0)] w (Ret fun v w' => v = .bool (h_1 l.length (okS b l) 0 s q) ∧ ∃ vb' best', ((h_1 l.length (okS b l) 0 s q) = true → (o_1 l.length 0 s q).find? (okS b l) = some best') ∧ Sep X w w' [(row xl 3 1 s.length (ints s)), (blk bb 44 [vb']), (row vb' 3 1 best'.length (ints best')), (rob bs 134 [(Value.func (.func 73) #[] #[(bptr br 0), (bptr bb 0), (bptr E 0), (bptr bs 0)])]), (rob br 53 [xr]), (rob E 116 [(bptr bx 0)]), (rob bx 146 [(iv b.scales), vt, vm, (Value.map (some bm))]), (mapX false bm es ck es.size 106 5 (bN b.tabs b.tabs.length) (bC lr lb b.tabs b.tabs.length)), (c_0 false vt lr lb b.tabs), (c_3 false vm lk b.macs), (sl xr 2 l.length (pairs l)), (sl xk 2 ((d_0 l s q).length) (pairs (d_0 l s q)))]) := by
 refine a_7 Try.func73 rfl fun a0 O => ?_
 replace O : Fr 69 [] [(0, xl), (1, xk), (2, (iv (q : Int))), (3, (iv 0)), (4, (bptr br 0)), (5, (bptr bb 0)), (6, (bptr E 0)), (7, (bptr bs 0))] a0 := O
 have hll := hl.len; have hkl := kep_len l s q
 have Q : Sep X w w [(row xl 3 1 s.length (ints s)), (blk bb 44 [vb]), (row vb 3 1 best.length (ints best)), (rob bs 134 [(Value.func (.func 73) #[] #[(bptr br 0), (bptr bb 0), (bptr E 0), (bptr bs 0)])]), (rob br 53 [xr]), (rob E 116 [(bptr bx 0)]), (rob bx 146 [(iv b.scales), vt, vm, (Value.map (some bm))]), (mapX false bm es ck es.size 106 5 (bN b.tabs b.tabs.length) (bC lr lb b.tabs b.tabs.length)), (c_0 false vt lr lb b.tabs), (c_3 false vm lk b.macs), (sl xr 2 l.length (pairs l)), (sl xk 2 ((d_0 l s q).length) (pairs (d_0 l s q)))] := hJ
 refine m2 (s1 O (a_0 rfl (evc _ _)) fun a1 Y => ?_); clear O a0
 refine n2 (m2 (s1 Y (a_1 rfl Y.e) fun a3 r => ?_)); clear Y a1
 refine s1 r (a_3 rfl y_8 r.e (Q.rk 4 rfl) rfl) fun a5 AB => ?_; clear r a3
 refine s1 AB (e_8 rfl l_3 AB.e (Q.sk 10 rfl)) fun a7 P => ?_; clear AB a5
 refine s1 P (j_8 rfl P.e P.e) fun a9 H => ?_; clear P a7
 have AN : ¬ ((q : Int) = (l.length : Int)) := (by omega)
 rw [decide_eq_false AN] at H
 refine n1 (b_8 H rfl (e_1 (b_3 (d_3 (d_3 ?_)))))
 have U := H.as [(0, xl), (1, xk), (2, (iv (q : Int))), (3, (iv 0)), (4, (bptr br 0)), (7, (bptr bs 0))] rfl; clear H
 have V := U.as [(0, xl), (1, xk), (2, (iv (q : Int))), (3, (iv 0)), (4, (bptr br 0)), (7, (bptr bs 0))] rfl; clear U
 refine i_7 mixed V Q 13 [[], [0], [1], [2], [2], [2], [2, 5], [2, 4, 6], [2], [2], [2, 9], [2], [2, 11]] [(Yd.val (iv 0)), (Yd.val (Value.bool false)), (Yd.val (Value.bool false)), (Yd.val undef), (Yd.val undef), (Yd.val undef), (Yd.val undef), (Yd.val undef), (Yd.val undef), (Yd.val undef), (Yd.val undef), (Yd.val undef), (Yd.val undef)] (by decide +kernel) rfl rfl ?_ ?_
 ·skip
  refine dq (fun a w hA hS hd => a_1 rfl hA.e) ?_
  refine dq (fun a w hA hS hd => u_0 rfl (hq hd 0) (evc _ _)) ?_
  refine dq (fun a w hA hS hd => a_1 rfl (hq hd 1)) ?_
  refine dn 2 (dn 2 (dn 2 (dn 2 (dn 2 (dn 2 (dn 2 (dn 2 (dn 2 (dn 2 ?_)))))))))
  trivial
 intro AU At W AC G; clear V Q
 have Z := W.add (hz G 2); clear W
 have c := Z.add (hz G 3); clear Z
 have f := c.add (hz G 7); clear c
 have g := f.add (hz G 8); clear f
 have j := g.add (hz G 10); clear g
 have k := j.add (hz G 12); clear j
 clear G
 refine s3 k fun AV J => ?_; clear k AU
 refine s1 J (e_0 rfl J.e (evc _ _)) fun Ao K => ?_; clear J AV
 refine n1 (b_8 K rfl (e_1 (b_3 (d_3 ?_))))
 have n := K.as [(0, xl), (1, xk), (2, (iv (q : Int))), (3, (iv 0)), (4, (bptr br 0)), (7, (bptr bs 0))] rfl; clear K
 have o := n.as [(0, xl), (1, xk), (2, (iv (q : Int))), (3, (iv 0)), (4, (bptr br 0)), (7, (bptr bs 0))] rfl; clear n
 refine c_drawC mixed o AC 20 16 10 (by decide) (by decide) (by decide) rfl [[], [0], [], [1, 2], [], [3, 4], [5], [6], [6], [6], [6, 9], [6], [6], [6, 11, 12], [6, 13], [6, 14], [6, 10, 15], [6], [6, 17], [6]] [(yw xr), (yw (iv (l.length : Int))), (yw (iv (q : Int))), (yw (iv ((l.length : Int) - (q : Int)))), (yw (iv 0)), (yw (Value.bool true)), (yw (Value.bool true)), (yw (Value.func (.func 73) #[] #[(bptr br 0), (bptr bb 0), (bptr E 0), (bptr bs 0)])), (yw xl), (yw xk), (fun (C : Nat → Value) (v_ : Value) (rs_ : List Res) => True ∧ rs_ = [(row v_ 98 2 ((d_0 l s q).length) (pairs (d_0 l s q)))]), (yw xr), (yw (iv (q : Int))), (yw (eptr xr (q * 2))), (yw (Value.agg #[(iv ((l.getD q (0, 0)).1)), (iv ((l.getD q (0, 0)).2))])), (fun (C : Nat → Value) (v_ : Value) (rs_ : List Res) => True ∧ rs_ = [(row v_ 98 2 1 [(iv ((l.getD q (0, 0)).1)), (iv ((l.getD q (0, 0)).2))])]), (fun (C : Nat → Value) (v_ : Value) (rs_ : List Res) => True ∧ rs_ = [(row v_ 98 2 (((d_0 l s q) ++ [((l.getD q (0, 0)).1, (l.getD q (0, 0)).2)]).length) (pairs ((d_0 l s q) ++ [((l.getD q (0, 0)).1, (l.getD q (0, 0)).2)])))]), (yw (iv (q : Int))), (yw (iv ((q : Int) + 1))), (yw (iv 0))] (by decide +kernel) (by decide +kernel) rfl rfl ⟨dw, dw, dw, dw, dw, dw, dw, dw, dw, dw, (fun _ _ _ _ _ h_ => h_), dw, dw, dw, dw, (fun _ _ _ _ _ h_ => h_), (fun _ _ _ _ _ h_ => h_), dw, dw, dw, trivial⟩ (by decide +kernel) (by decide +kernel) ?_ ?_ ?_
 ·skip
  refine ⟨fun hj_ a w C hA hS hd => gv1 (a_3 rfl y_8 hA.e (hS.rk 4 rfl) rfl), ?_⟩
  refine ⟨fun hj_ a w C hA hS hd => gv1 (e_8 rfl l_3 (gu hd 0) (hS.sk 10 rfl)), ?_⟩
  refine ⟨fun hj_ a w C hA hS hd => gv1 (a_1 rfl hA.e), ?_⟩
  refine ⟨fun hj_ a w C hA hS hd => gv1 (k_5 rfl (gu hd 1) (gu hd 2) (by omega) (by omega)), ?_⟩
  refine ⟨fun hj_ a w C hA hS hd => gv1 (a_1 rfl hA.e), ?_⟩
  refine ⟨fun hj_ a w C hA hS hd => gv2 (u_0 rfl (gu hd 3) (gu hd 4)) (And.intro (by show Value.bool _ = _; simp only [decide_eq_true (show 0 < ((l.length : Int) - (q : Int)) from (by omega)), decide_true, decide_false, Bool.not_true, Bool.not_false]) rfl), ?_⟩
  refine ⟨fun hj_ a w C hA hS hd => gv1 (a_1 rfl (gu hd 5)), ?_⟩
  refine ⟨fun hj_ a w C hA hS hd => gy1 hd 6 (a_3 rfl ty_134 hA.e (hS.rk 3 rfl) rfl), ?_⟩
  refine ⟨fun hj_ a w C hA hS hd => gy1 hd 6 (a_1 rfl hA.e), ?_⟩
  refine ⟨fun hj_ a w C hA hS hd => gy1 hd 6 (a_1 rfl hA.e), ?_⟩
  refine ⟨fun hj_ a w C hA hS hd => d_9 rfl rfl (gut hd 6 (by decide) rfl (fun _ h => And.left h)) (vn (a_8 rfl en_75 (ev1 (gu hd 9)) (clone_read (d_0 l s q) _ _ (hS.sk 11 rfl) (by omega))) (fun v w' h => ⟨_, And.intro trivial rfl, (Sep.start NoB _).new_row h.1 h.2, rfl⟩)), ?_⟩
  refine ⟨fun hj_ a w C hA hS hd => gy1 hd 6 (a_3 rfl y_8 hA.e (hS.rk 4 rfl) rfl), ?_⟩
  refine ⟨fun hj_ a w C hA hS hd => gy1 hd 6 (a_1 rfl hA.e), ?_⟩
  refine ⟨fun hj_ a w C hA hS hd => gy1 hd 6 (b_6 rfl l_3 o_7 (gu hd 11) (i := q) (gu hd 12) (hS.sk 10 rfl) (by decide) (by omega)), ?_⟩
  refine ⟨fun hj_ a w C hA hS hd => gy1 hd 6 (e_7 rfl o_7 (gu hd 13) (hS.sk 10 rfl) (g_1 (by omega)) rfl (by decide)), ?_⟩
  refine ⟨fun hj_ a w C hA hS hd => d_9 rfl rfl (gut hd 6 (by decide) rfl (fun _ h => And.left h)) (vblt rfl (pv1 (gu hd 14)) l_3 o_7 y_0 (by decide) (cs := [(iv ((l.getD q (0, 0)).1)), (iv ((l.getD q (0, 0)).2))]) (j_2 _ _) rfl (by decide) (fun _ => And.intro trivial rfl)), ?_⟩
  refine ⟨fun hj_ => absurd rfl hj_, ?_⟩
  refine ⟨fun hj_ a w C hA hS hd => gy1 hd 6 (a_1 rfl hA.e), ?_⟩
  refine ⟨fun hj_ a w C hA hS hd => gy1 hd 6 (g_9 rfl (gu hd 17) (evc _ _) (by omega) (by omega)), ?_⟩
  refine ⟨fun hj_ a w C hA hS hd => gy1 hd 6 (a_1 rfl hA.e), ?_⟩
  trivial
 ·skip
  intro a w C Ar Lr hA Ab Ad hd hS
  obtain ⟨Al, AQ⟩ := Ad; subst AQ
  obtain ⟨e6, As, Ae, Aq⟩ := hd 6 (by decide) (by decide)
  obtain ⟨Ac, Aa⟩ := Ae; subst Aa
  rw [Ac] at e6
  obtain ⟨AY, An, AS, AP⟩ := hd 15 (by decide) (by decide)
  obtain ⟨Am, AR⟩ := AS; subst AR
  have hp15_0 := AP _ (List.mem_of_getElem? (i := 0) rfl)
  exact d_9 rfl rfl (f_4 e6 rfl) (n_0 (q_2 hS rfl l_3 el_98 (c_1 (f_4 Ab rfl)) (c_1 (f_4 AY rfl)) (i := 0) rfl (SlAt.e_4 hp15_0) rfl (by simp only [maxLen]; omega) (by omega)) fun v_ w_ h_ => ⟨_, And.intro trivial rfl, h_.i_9 (i := 0) rfl (n' := ((d_0 l s q) ++ [((l.getD q (0, 0)).1, (l.getD q (0, 0)).2)]).length) (xs' := (pairs ((d_0 l s q) ++ [((l.getD q (0, 0)).1, (l.getD q (0, 0)).2)]))) (by simp) (by simp [pairs])⟩)
 skip
 intro AL Af C rsf38 p D hrq M; clear o AC
 obtain ⟨AG, AJ⟩ := D 15 (by decide) (by decide)
 obtain ⟨AH, R⟩ := AJ
 obtain ⟨T, AK⟩ := D 16 (by decide) (by decide)
 obtain ⟨AI, S⟩ := AK
 have AD : Sep X w Af [(row (C 15) 98 2 1 [(iv ((l.getD q (0, 0)).1)), (iv ((l.getD q (0, 0)).2))]), (row (C 16) 98 2 (((d_0 l s q) ++ [((l.getD q (0, 0)).1, (l.getD q (0, 0)).2)]).length) (pairs ((d_0 l s q) ++ [((l.getD q (0, 0)).1, (l.getD q (0, 0)).2)]))), (row xl 3 1 s.length (ints s)), (blk bb 44 [vb]), (row vb 3 1 best.length (ints best)), (rob bs 134 [(Value.func (.func 73) #[] #[(bptr br 0), (bptr bb 0), (bptr E 0), (bptr bs 0)])]), (rob br 53 [xr]), (rob E 116 [(bptr bx 0)]), (rob bx 146 [(iv b.scales), vt, vm, (Value.map (some bm))]), (mapX false bm es ck es.size 106 5 (bN b.tabs b.tabs.length) (bC lr lb b.tabs b.tabs.length)), (c_0 false vt lr lb b.tabs), (c_3 false vm lk b.macs), (sl xr 2 l.length (pairs l)), (sl xk 2 ((d_0 l s q).length) (pairs (d_0 l s q)))] := by rw [show catR rsf38 0 20 = ([(row (C 15) 98 2 1 [(iv ((l.getD q (0, 0)).1)), (iv ((l.getD q (0, 0)).2))]), (row (C 16) 98 2 (((d_0 l s q) ++ [((l.getD q (0, 0)).1, (l.getD q (0, 0)).2)]).length) (pairs ((d_0 l s q) ++ [((l.getD q (0, 0)).1, (l.getD q (0, 0)).2)])))] : List Res) by (try simp only [catR, gr (D 0 (by decide) (by decide)), gr (D 1 (by decide) (by decide)), gr (D 2 (by decide) (by decide)), gr (D 3 (by decide) (by decide)), gr (D 4 (by decide) (by decide)), gr (D 5 (by decide) (by decide)), gr (D 6 (by decide) (by decide)), gr (D 7 (by decide) (by decide)), gr (D 8 (by decide) (by decide)), gr (D 9 (by decide) (by decide)), gr (D 11 (by decide) (by decide)), gr (D 12 (by decide) (by decide)), gr (D 13 (by decide) (by decide)), gr (D 14 (by decide) (by decide)), R, S, gr (D 17 (by decide) (by decide)), gr (D 18 (by decide) (by decide)), gr (D 19 (by decide) (by decide)), hrq]); (try rfl)] at M; exact M
 have t := p.add (gs (D 6 (by decide) (by decide))); clear p
 have u := t.add (gs (D 7 (by decide) (by decide))); clear t
 have x := u.add (gs (D 8 (by decide) (by decide))); clear u
 have y : Fr 69 [] [(63, (C 16)), (55, xl), (54, (Value.func (.func 73) #[] #[(bptr br 0), (bptr bb 0), (bptr E 0), (bptr bs 0)])), (53, (Value.bool true)), (0, xl), (1, xk), (2, (iv (q : Int))), (3, (iv 0)), (4, (bptr br 0)), (7, (bptr bs 0))] AL := x.add (f_4 T rfl); clear x
 have z := y.add (gs (D 18 (by decide) (by decide))); clear y
 have F := z.add (gs (D 19 (by decide) (by decide))); clear z
 clear D M AG T hrq
 clear R
 clear AH
 clear S
 clear AI
 have AE := sep_row_sl (AD.i_9 (i := 1) rfl (n' := (d_0 l s (q + 1)).length) (xs' := pairs (d_0 l s (q + 1))) (by rw [kep_in hs]) (by rw [kep_in hs])) (i := 1) rfl; clear AD
 have N := AE.gkp (gpc 2 (gpc 3 (gpc 4 (gpc 5 (gpc 6 (gpc 7 (gpc 8 (gpc 9 (gpc 10 (gpc 11 (gpc 12 (gpc 1 (gpc 0 (gpc 13 gpn)))))))))))))); clear AE
 refine s6 F (h_0 rfl (F.ev rfl) en_73 (ev4 F.e F.e F.e F.e) (by have hz := ih 0 (q + 1) s _ _ _ _ _ (ownX [(row xl 3 1 s.length (ints s)), (blk bb 44 [vb]), (row vb 3 1 best.length (ints best)), (rob bs 134 [(Value.func (.func 73) #[] #[(bptr br 0), (bptr bb 0), (bptr E 0), (bptr bs 0)])]), (rob br 53 [xr]), (rob E 116 [(bptr bx 0)]), (rob bx 146 [(iv b.scales), vt, vm, (Value.map (some bm))]), (mapX false bm es ck es.size 106 5 (bN b.tabs b.tabs.length) (bC lr lb b.tabs b.tabs.length)), (c_0 false vt lr lb b.tabs), (c_3 false vm lk b.macs), (sl xr 2 l.length (pairs l)), (sl (C 16) 2 ((d_0 l s (q + 1)).length) (pairs (d_0 l s (q + 1))))]) (by omega) (by omega) hs.more (by omega) (Sep.enterG (A := [(row xl 3 1 s.length (ints s)), (blk bb 44 [vb]), (row vb 3 1 best.length (ints best)), (rob bs 134 [(Value.func (.func 73) #[] #[(bptr br 0), (bptr bb 0), (bptr E 0), (bptr bs 0)])]), (rob br 53 [xr]), (rob E 116 [(bptr bx 0)]), (rob bx 146 [(iv b.scales), vt, vm, (Value.map (some bm))]), (mapX false bm es ck es.size 106 5 (bN b.tabs b.tabs.length) (bC lr lb b.tabs b.tabs.length)), (c_0 false vt lr lb b.tabs), (c_3 false vm lk b.macs), (sl xr 2 l.length (pairs l)), (sl (C 16) 2 ((d_0 l s (q + 1)).length) (pairs (d_0 l s (q + 1))))]) (B := [(row (C 15) 98 2 1 [(iv ((l.getD q (0, 0)).1)), (iv ((l.getD q (0, 0)).2))]), (sl xk 2 ((d_0 l s q).length) (pairs (d_0 l s q)))]) N); exact hz)) ?_
 rintro AW _ Ag ⟨rfl, vb52, best53, AO, AF⟩ I; clear F AL
 have AM : Sep X w Ag [(row xl 3 1 s.length (ints s)), (blk bb 44 [vb52]), (row vb52 3 1 best53.length (ints best53)), (rob bs 134 [(Value.func (.func 73) #[] #[(bptr br 0), (bptr bb 0), (bptr E 0), (bptr bs 0)])]), (rob br 53 [xr]), (rob E 116 [(bptr bx 0)]), (rob bx 146 [(iv b.scales), vt, vm, (Value.map (some bm))]), (mapX false bm es ck es.size 106 5 (bN b.tabs b.tabs.length) (bC lr lb b.tabs b.tabs.length)), (c_0 false vt lr lb b.tabs), (c_3 false vm lk b.macs), (sl xr 2 l.length (pairs l)), (sl (C 16) 2 ((d_0 l s (q + 1)).length) (pairs (d_0 l s (q + 1)))), (row (C 15) 98 2 1 [(iv ((l.getD q (0, 0)).1)), (iv ((l.getD q (0, 0)).2))]), (sl xk 2 ((d_0 l s q).length) (pairs (d_0 l s q)))] := Sep.callG (A := [(row xl 3 1 s.length (ints s)), (blk bb 44 [vb]), (row vb 3 1 best.length (ints best)), (rob bs 134 [(Value.func (.func 73) #[] #[(bptr br 0), (bptr bb 0), (bptr E 0), (bptr bs 0)])]), (rob br 53 [xr]), (rob E 116 [(bptr bx 0)]), (rob bx 146 [(iv b.scales), vt, vm, (Value.map (some bm))]), (mapX false bm es ck es.size 106 5 (bN b.tabs b.tabs.length) (bC lr lb b.tabs b.tabs.length)), (c_0 false vt lr lb b.tabs), (c_3 false vm lk b.macs), (sl xr 2 l.length (pairs l)), (sl (C 16) 2 ((d_0 l s (q + 1)).length) (pairs (d_0 l s (q + 1))))]) (B := [(row (C 15) 98 2 1 [(iv ((l.getD q (0, 0)).1)), (iv ((l.getD q (0, 0)).2))]), (sl xk 2 ((d_0 l s q).length) (pairs (d_0 l s q)))]) N AF (s_9 ⟨.inl rfl, .inl rfl, .inl rfl, .inr ⟨3, rfl⟩, .inr ⟨4, rfl⟩, .inr ⟨5, rfl⟩, .inr ⟨6, rfl⟩, .inr ⟨7, rfl⟩, .inr ⟨8, rfl⟩, .inr ⟨9, rfl⟩, .inr ⟨10, rfl⟩, .inr ⟨11, rfl⟩, trivial⟩); clear AF N
 refine s1 I (b_5 rfl I.e I.e) fun AX L => ?_; clear I AW
 refine s1 L (a_0 rfl L.e) fun Ap AA => ?_; clear L AX
 refine n1 (c_6 (b_0 AA (.inl rfl) (a_2 AA rfl (.tmp rfl)) ?_))
 have hh : (h_1 l.length (okS b l) 0 s q) = (h_1 l.length (okS b l) 0 s (q + 1)) := lv_0.trans lv_0.symm
 rw [hh]
 exact ⟨rfl, _, _, fun h => AO h, AM.keep [0, 1, 2, 3, 4, 5, 6, 7, 8, 9, 10, 13] (by decide) _ rfl rfl⟩
theorem leave_more (b : f_7) (vt vm : Value) (lr lb lk : Nat → Value) (hth : l_4 b) (hb : m_2 b) (bx bm : Nat) (es : Array MapEntry) (ck : Nat) (hMO : o_8 bm es ck (bN b.tabs b.tabs.length)) (l : List (Int × Int)) (hl : t_5 b l) (xr : Value) (bb br F bs : Nat) (d : Nat) (ih : ∀ (m : Nat) (q : Nat) (s : List Int) (xl xk vb : Value) (best : List Int) (w : World) (X : Nat → Prop) (_ : m ≤ d) (_ : q + d = l.length) (_ : r_0 s q) (_ : s.length + m ≤ 1000) (_ : Sep X w w [(row xl 3 1 s.length (ints s)), (blk bb 44 [vb]), (row vb 3 1 best.length (ints best)), (rob bs 134 [(Value.func (.func 73) #[] #[(bptr br 0), (bptr bb 0), (bptr F 0), (bptr bs 0)])]), (rob br 53 [xr]), (rob F 116 [(bptr bx 0)]), (rob bx 146 [(iv b.scales), vt, vm, (Value.map (some bm))]), (mapX false bm es ck es.size 106 5 (bN b.tabs b.tabs.length) (bC lr lb b.tabs b.tabs.length)), (c_0 false vt lr lb b.tabs), (c_3 false vm lk b.macs), (sl xr 2 l.length (pairs l)), (sl xk 2 ((d_0 l s q).length) (pairs (d_0 l s q)))]), Calls Try.prog 73 #[xl, xk, .int .i64 (q : Int), .int .i64 (m : Int), bptr br 0, bptr bb 0, bptr F 0, bptr bs 0] w (Ret fun v w' => v = .bool (h_1 l.length (okS b l) m s q) ∧ ∃ vb' best', ((h_1 l.length (okS b l) m s q) = true → (o_1 l.length m s q).find? (okS b l) = some best') ∧ Sep X w w' [(row xl 3 1 s.length (ints s)), (blk bb 44 [vb']), (row vb' 3 1 best'.length (ints best')), (rob bs 134 [(Value.func (.func 73) #[] #[(bptr br 0), (bptr bb 0), (bptr F 0), (bptr bs 0)])]), (rob br 53 [xr]), (rob F 116 [(bptr bx 0)]), (rob bx 146 [(iv b.scales), vt, vm, (Value.map (some bm))]), (mapX false bm es ck es.size 106 5 (bN b.tabs b.tabs.length) (bC lr lb b.tabs b.tabs.length)), (c_0 false vt lr lb b.tabs), (c_3 false vm lk b.macs), (sl xr 2 l.length (pairs l)), (sl xk 2 ((d_0 l s q).length) (pairs (d_0 l s q)))])) (m : Nat) (q : Nat) (s : List Int) (xl xk vb : Value) (best : List Int) (w : World) (X : Nat → Prop) (hm : (m + 1) ≤ d + 1) (hqd : q + (d + 1) = l.length) (hs : r_0 s q) (hsl : s.length + (m + 1) ≤ 1000) (hJ : Sep X w w [(row xl 3 1 s.length (ints s)), (blk bb 44 [vb]), (row vb 3 1 best.length (ints best)), (rob bs 134 [(Value.func (.func 73) #[] #[(bptr br 0), (bptr bb 0), (bptr F 0), (bptr bs 0)])]), (rob br 53 [xr]), (rob F 116 [(bptr bx 0)]), (rob bx 146 [(iv b.scales), vt, vm, (Value.map (some bm))]), (mapX false bm es ck es.size 106 5 (bN b.tabs b.tabs.length) (bC lr lb b.tabs b.tabs.length)), (c_0 false vt lr lb b.tabs), (c_3 false vm lk b.macs), (sl xr 2 l.length (pairs l)), (sl xk 2 ((d_0 l s q).length) (pairs (d_0 l s q)))]) :
  Calls Try.prog 73 #[xl, xk, (iv (q : Int)), (iv ((m + 1 : Nat) : Int)), (bptr br 0), (bptr bb 0), (bptr F 0), (bptr bs 0)] w (Ret fun v w' => v = .bool (h_1 l.length (okS b l) (m + 1) s q) ∧ ∃ vb' best', ((h_1 l.length (okS b l) (m + 1) s q) = true → (o_1 l.length (m + 1) s q).find? (okS b l) = some best') ∧ Sep X w w' [(row xl 3 1 s.length (ints s)), (blk bb 44 [vb']), (row vb' 3 1 best'.length (ints best')), (rob bs 134 [(Value.func (.func 73) #[] #[(bptr br 0), (bptr bb 0), (bptr F 0), (bptr bs 0)])]), (rob br 53 [xr]), (rob F 116 [(bptr bx 0)]), (rob bx 146 [(iv b.scales), vt, vm, (Value.map (some bm))]), (mapX false bm es ck es.size 106 5 (bN b.tabs b.tabs.length) (bC lr lb b.tabs b.tabs.length)), (c_0 false vt lr lb b.tabs), (c_3 false vm lk b.macs), (sl xr 2 l.length (pairs l)), (sl xk 2 ((d_0 l s q).length) (pairs (d_0 l s q)))]) := by
 refine a_7 Try.func73 rfl fun a0 AT => ?_
 replace AT : Fr 69 [] [(0, xl), (1, xk), (2, (iv (q : Int))), (3, (iv ((m + 1 : Nat) : Int))), (4, (bptr br 0)), (5, (bptr bb 0)), (6, (bptr F 0)), (7, (bptr bs 0))] a0 := AT
 have hll := hl.len; have hkl := kep_len l s q
 have AF : Sep X w w [(row xl 3 1 s.length (ints s)), (blk bb 44 [vb]), (row vb 3 1 best.length (ints best)), (rob bs 134 [(Value.func (.func 73) #[] #[(bptr br 0), (bptr bb 0), (bptr F 0), (bptr bs 0)])]), (rob br 53 [xr]), (rob F 116 [(bptr bx 0)]), (rob bx 146 [(iv b.scales), vt, vm, (Value.map (some bm))]), (mapX false bm es ck es.size 106 5 (bN b.tabs b.tabs.length) (bC lr lb b.tabs b.tabs.length)), (c_0 false vt lr lb b.tabs), (c_3 false vm lk b.macs), (sl xr 2 l.length (pairs l)), (sl xk 2 ((d_0 l s q).length) (pairs (d_0 l s q)))] := hJ
 refine m2 (s1 AT (a_0 rfl (evc _ _)) fun a1 A2 => ?_); clear AT a0
 refine n2 (m2 (s1 A2 (a_1 rfl A2.e) fun a3 A8 => ?_)); clear A2 a1
 refine s1 A8 (a_3 rfl y_8 A8.e (AF.rk 4 rfl) rfl) fun a5 BE => ?_; clear A8 a3
 refine s1 BE (e_8 rfl l_3 BE.e (AF.sk 10 rfl)) fun a7 Ap => ?_; clear BE a5
 refine s1 Ap (j_8 rfl Ap.e Ap.e) fun a9 f => ?_; clear Ap a7
 have Bx : ¬ ((q : Int) = (l.length : Int)) := (by omega)
 rw [decide_eq_false Bx] at f
 refine n1 (b_8 f rfl (e_1 (b_3 (d_3 (d_3 ?_)))))
 have Az := f.as [(0, xl), (1, xk), (2, (iv (q : Int))), (3, (iv ((m + 1 : Nat) : Int))), (4, (bptr br 0)), (7, (bptr bs 0))] rfl; clear f
 have hd5_ : 0 < ((m + 1 : Nat) : Int) := by omega
 have A0 := Az.as [(0, xl), (1, xk), (2, (iv (q : Int))), (3, (iv ((m + 1 : Nat) : Int))), (4, (bptr br 0)), (7, (bptr bs 0))] rfl; clear Az
 have Bu := AF.below
 refine c_drawnA mixed A0 AF 13 [[], [0], [1], [2], [2], [2], [2, 5], [2, 4, 6], [2], [2], [2, 9], [2], [2, 11]] [(Yd.val (iv ((m + 1 : Nat) : Int))), (Yd.val (Value.bool true)), (Yd.val (Value.bool true)), (Yd.val (Value.func (.func 73) #[] #[(bptr br 0), (bptr bb 0), (bptr F 0), (bptr bs 0)])), (Yd.val xl), (Yd.val (iv (q : Int))), (Yd.blt w.heap.size 3 1 [(iv (q : Int))]), Yd.any, (Yd.val xk), (Yd.val (iv (q : Int))), (Yd.val (iv ((q : Int) + 1))), (Yd.val (iv ((m + 1 : Nat) : Int))), (Yd.val (iv (((m + 1 : Nat) : Int) - 1)))] (by decide +kernel) rfl rfl 7 0 (by decide) rfl 1 ((ints s) ++ [(iv (q : Int))]) rfl ⟨t_4 _ _, t_4 _ _, t_4 _ _, t_4 _ _, t_4 _ _, t_4 _ _, ydb_blt _ _ _ _, ydb_any _, t_4 _ _, t_4 _ _, t_4 _ _, t_4 _ _, t_4 _ _, trivial⟩ ?_ ?_
 ·skip
  refine ⟨⟨fun _ a w hA hS hz hd => ?_, fun e_ => absurd e_ (by decide)⟩, ?_⟩
  ·skip
   exact e_2 rfl (dv (a_1 rfl hA.e) hS rfl)
  refine ⟨⟨fun _ a w hA hS hz hd => ?_, fun e_ => absurd e_ (by decide)⟩, ?_⟩
  ·skip
   have e0 := d_4 (hd 0 (by decide)) rfl (fun _ h => h)
   exact e_2 rfl (dv (u_0 rfl (c_1 e0) (evc _ _)) hS (by show Value.bool _ = _; simp [hd5_]))
  refine ⟨⟨fun _ a w hA hS hz hd => ?_, fun e_ => absurd e_ (by decide)⟩, ?_⟩
  ·skip
   have e1 := d_4 (hd 1 (by decide)) rfl (fun _ h => h)
   exact e_2 rfl (dv (a_1 rfl (c_1 e1)) hS rfl)
  refine ⟨⟨fun _ a w hA hS hz hd => ?_, fun e_ => absurd e_ (by decide)⟩, ?_⟩
  ·skip
   have J := d_4 (hd 2 (by decide)) rfl (fun _ h => h)
   exact d_9 rfl rfl J (dv (a_3 rfl ty_134 hA.e (hS.rk 3 rfl) rfl) hS rfl)
  refine ⟨⟨fun _ a w hA hS hz hd => ?_, fun e_ => absurd e_ (by decide)⟩, ?_⟩
  ·skip
   have J := d_4 (hd 2 (by decide)) rfl (fun _ h => h)
   exact d_9 rfl rfl J (dv (a_1 rfl hA.e) hS rfl)
  refine ⟨⟨fun _ a w hA hS hz hd => ?_, fun e_ => absurd e_ (by decide)⟩, ?_⟩
  ·skip
   have J := d_4 (hd 2 (by decide)) rfl (fun _ h => h)
   exact d_9 rfl rfl J (dv (a_1 rfl hA.e) hS rfl)
  refine ⟨⟨fun _ a w hA hS hz hd => ?_, fun e_ => absurd e_ (by decide)⟩, ?_⟩
  ·skip
   have J := d_4 (hd 2 (by decide)) rfl (fun _ h => h)
   have e5 := d_4 (hd 5 (by decide)) rfl (fun _ h => h)
   exact d_9 rfl rfl J (dbltZ hS hz rfl (pv1 (c_1 e5)) j_6 ty_3 ze_3 (by decide) (cs := [(iv (q : Int))]) (s_6 _) (fun _ _ h => h))
  refine ⟨⟨fun e_ => absurd rfl e_, fun _ a w hA hS hz hd => ?_⟩, ?_⟩
  ·skip
   have J := d_4 (hd 2 (by decide)) rfl (fun _ h => h)
   have e4 := d_4 (hd 4 (by decide)) rfl (fun _ h => h)
   obtain ⟨_, e6, F, rfl, BZ, _⟩ := has_get (hd 6 (by decide)) rfl
   exact d_9 rfl rfl J (op_appendL hS hz rfl j_6 el_3 (c_1 e4) (c_1 e6) (i := 0) rfl (SlAt.of_blk BZ rfl (by decide)) (by decide) rfl (by simp only [maxLen]; omega) (by omega))
  refine ⟨⟨fun _ a w hA hS hz hd => ?_, fun e_ => absurd e_ (by decide)⟩, ?_⟩
  ·skip
   have J := d_4 (hd 2 (by decide)) rfl (fun _ h => h)
   exact d_9 rfl rfl J (dv (a_1 rfl hA.e) hS rfl)
  refine ⟨⟨fun _ a w hA hS hz hd => ?_, fun e_ => absurd e_ (by decide)⟩, ?_⟩
  ·skip
   have J := d_4 (hd 2 (by decide)) rfl (fun _ h => h)
   exact d_9 rfl rfl J (dv (a_1 rfl hA.e) hS rfl)
  refine ⟨⟨fun _ a w hA hS hz hd => ?_, fun e_ => absurd e_ (by decide)⟩, ?_⟩
  ·skip
   have J := d_4 (hd 2 (by decide)) rfl (fun _ h => h)
   have e9 := d_4 (hd 9 (by decide)) rfl (fun _ h => h)
   exact d_9 rfl rfl J (dv (g_9 rfl (c_1 e9) (evc _ _) (by omega) (by omega)) hS rfl)
  refine ⟨⟨fun _ a w hA hS hz hd => ?_, fun e_ => absurd e_ (by decide)⟩, ?_⟩
  ·skip
   have J := d_4 (hd 2 (by decide)) rfl (fun _ h => h)
   exact d_9 rfl rfl J (dv (a_1 rfl hA.e) hS rfl)
  refine ⟨⟨fun _ a w hA hS hz hd => ?_, fun e_ => absurd e_ (by decide)⟩, ?_⟩
  ·skip
   have J := d_4 (hd 2 (by decide)) rfl (fun _ h => h)
   have CE := d_4 (hd 11 (by decide)) rfl (fun _ h => h)
   exact d_9 rfl rfl J (dv (k_5 rfl (c_1 CE) (evc _ _) (by omega) (by omega)) hS rfl)
  trivial
 intro Bk CZ A1 AK U hAp20; clear A0 AF
 have A3 := A1.add (d_4 (U 2 (by decide) (by decide)) rfl (fun _ h => h)); clear A1
 have A4 := A3.add (d_4 (U 3 (by decide) (by decide)) rfl (fun _ h => h)); clear A3
 obtain ⟨M, Bc, hap26⟩ := has_get hAp20 rfl
 have A5 := A4.add Bc; clear A4 Bc hAp20
 have A6 := A5.add (d_4 (U 8 (by decide) (by decide)) rfl (fun _ h => h)); clear A5
 have A7 := A6.add (d_4 (U 10 (by decide) (by decide)) rfl (fun _ h => h)); clear A6
 have H := A7.add (d_4 (U 12 (by decide) (by decide)) rfl (fun _ h => h)); clear A7
 clear U
 rcases appL_row AK Bu (i0 := 0) rfl hap26 with ⟨Z, hbk31⟩ | Z
 ·skip
  clear AK
  have y := Z.i_9 (i := 0) rfl (n' := (s ++ [(q : Int)]).length) (xs' := ints (s ++ [(q : Int)])) (by simp) (by simp [ints]); rw [← kep_out (l := l) hs] at y; clear Z
  refine s6 H (h_0 rfl (H.ev rfl) en_73 (ev4 H.e H.e H.e H.e) (by have hz := ih m (q + 1) (s ++ [(q : Int)]) _ _ _ _ _ (ownX [(row M 3 1 ((s ++ [(q : Int)]).length) (ints (s ++ [(q : Int)]))), (blk bb 44 [vb]), (row vb 3 1 best.length (ints best)), (rob bs 134 [(Value.func (.func 73) #[] #[(bptr br 0), (bptr bb 0), (bptr F 0), (bptr bs 0)])]), (rob br 53 [xr]), (rob F 116 [(bptr bx 0)]), (rob bx 146 [(iv b.scales), vt, vm, (Value.map (some bm))]), (mapX false bm es ck es.size 106 5 (bN b.tabs b.tabs.length) (bC lr lb b.tabs b.tabs.length)), (c_0 false vt lr lb b.tabs), (c_3 false vm lk b.macs), (sl xr 2 l.length (pairs l)), (sl xk 2 ((d_0 l (s ++ [(q : Int)]) (q + 1)).length) (pairs (d_0 l (s ++ [(q : Int)]) (q + 1))))]) (by omega) (by omega) hs.snoc (by simp only [List.length_append, List.length_cons, List.length_nil]; omega) (Sep.enterG (A := [(row M 3 1 ((s ++ [(q : Int)]).length) (ints (s ++ [(q : Int)]))), (blk bb 44 [vb]), (row vb 3 1 best.length (ints best)), (rob bs 134 [(Value.func (.func 73) #[] #[(bptr br 0), (bptr bb 0), (bptr F 0), (bptr bs 0)])]), (rob br 53 [xr]), (rob F 116 [(bptr bx 0)]), (rob bx 146 [(iv b.scales), vt, vm, (Value.map (some bm))]), (mapX false bm es ck es.size 106 5 (bN b.tabs b.tabs.length) (bC lr lb b.tabs b.tabs.length)), (c_0 false vt lr lb b.tabs), (c_3 false vm lk b.macs), (sl xr 2 l.length (pairs l)), (sl xk 2 ((d_0 l (s ++ [(q : Int)]) (q + 1)).length) (pairs (d_0 l (s ++ [(q : Int)]) (q + 1))))]) (B := []) y); rw [show ((m + 1 : Nat) : Int) - 1 = (m : Int) by omega]; exact hz)) ?_
  rintro B7 _ CH ⟨rfl, vb38, best39, By, BW⟩ n; clear H Bk
  have BT : Sep X w CH [(row M 3 1 ((s ++ [(q : Int)]).length) (ints (s ++ [(q : Int)]))), (blk bb 44 [vb38]), (row vb38 3 1 best39.length (ints best39)), (rob bs 134 [(Value.func (.func 73) #[] #[(bptr br 0), (bptr bb 0), (bptr F 0), (bptr bs 0)])]), (rob br 53 [xr]), (rob F 116 [(bptr bx 0)]), (rob bx 146 [(iv b.scales), vt, vm, (Value.map (some bm))]), (mapX false bm es ck es.size 106 5 (bN b.tabs b.tabs.length) (bC lr lb b.tabs b.tabs.length)), (c_0 false vt lr lb b.tabs), (c_3 false vm lk b.macs), (sl xr 2 l.length (pairs l)), (sl xk 2 ((d_0 l (s ++ [(q : Int)]) (q + 1)).length) (pairs (d_0 l (s ++ [(q : Int)]) (q + 1))))] := Sep.callG (A := [(row M 3 1 ((s ++ [(q : Int)]).length) (ints (s ++ [(q : Int)]))), (blk bb 44 [vb]), (row vb 3 1 best.length (ints best)), (rob bs 134 [(Value.func (.func 73) #[] #[(bptr br 0), (bptr bb 0), (bptr F 0), (bptr bs 0)])]), (rob br 53 [xr]), (rob F 116 [(bptr bx 0)]), (rob bx 146 [(iv b.scales), vt, vm, (Value.map (some bm))]), (mapX false bm es ck es.size 106 5 (bN b.tabs b.tabs.length) (bC lr lb b.tabs b.tabs.length)), (c_0 false vt lr lb b.tabs), (c_3 false vm lk b.macs), (sl xr 2 l.length (pairs l)), (sl xk 2 ((d_0 l (s ++ [(q : Int)]) (q + 1)).length) (pairs (d_0 l (s ++ [(q : Int)]) (q + 1))))]) (B := []) y BW (s_9 ⟨.inl rfl, .inl rfl, .inl rfl, .inr ⟨3, rfl⟩, .inr ⟨4, rfl⟩, .inr ⟨5, rfl⟩, .inr ⟨6, rfl⟩, .inr ⟨7, rfl⟩, .inr ⟨8, rfl⟩, .inr ⟨9, rfl⟩, .inr ⟨10, rfl⟩, .inr ⟨11, rfl⟩, trivial⟩); clear BW y
  have AL := BT; rw [kep_out (l := l) hs] at AL; clear BT
  have c := hbk31 _ _ _ _ (AL.i_9 (i := 0) rfl (n' := s.length + 1) (xs' := ints s ++ [Value.int .i64 (q : Int)]) (by simp) (by simp [ints])) 0 rfl (by simp [ints]); clear AL
  refine s1 n (b_5 rfl n.e n.e) fun B8 N => ?_; clear n B7
  refine n1 ?_
  rcases Bool.eq_false_or_eq_true ((h_1 l.length (okS b l) m (s ++ [(q : Int)]) (q + 1))) with AO | AO
  ·skip
   rw [AO] at N
   refine d_6 N rfl (d_3 ?_)
   have A9 := N.as [] rfl; clear N
   refine a_5 (s1 A9 (a_0 rfl (evc _ _)) fun CX BA => ?_); clear A9 B8
   refine n1 (c_6 (b_1 (b_0 BA (.inl rfl) (a_2 BA rfl (.tmp rfl)) ?_)))
   have hh := lv_hit (by omega) (by assumption) (By (by assumption))
   rw [hh.1]
   exact ⟨rfl, _, _, fun _ => hh.2, c.keep [0, 1, 2, 3, 4, 5, 6, 7, 8, 9, 10, 11] (by decide) _ rfl rfl⟩
  skip
  rw [AO] at N
  refine b_8 N rfl (e_1 (b_3 (d_3 ?_)))
  have BB := N.as [(0, xl), (1, xk), (2, (iv (q : Int))), (3, (iv ((m + 1 : Nat) : Int))), (4, (bptr br 0)), (7, (bptr bs 0))] rfl; clear N
  have o := BB.as [(0, xl), (1, xk), (2, (iv (q : Int))), (3, (iv ((m + 1 : Nat) : Int))), (4, (bptr br 0)), (7, (bptr bs 0))] rfl; clear BB
  by_cases BY : ((m + 1 : Nat) : Int) < ((l.length : Int) - (q : Int))
  ·skip
   have BC := o.as [(0, xl), (1, xk), (2, (iv (q : Int))), (3, (iv ((m + 1 : Nat) : Int))), (4, (bptr br 0)), (7, (bptr bs 0))] rfl; clear o
   refine c_drawC mixed BC c 20 16 10 (by decide) (by decide) (by decide) rfl [[], [0], [], [1, 2], [], [3, 4], [5], [6], [6], [6], [6, 9], [6], [6], [6, 11, 12], [6, 13], [6, 14], [6, 10, 15], [6], [6, 17], [6]] [(yw xr), (yw (iv (l.length : Int))), (yw (iv (q : Int))), (yw (iv ((l.length : Int) - (q : Int)))), (yw (iv ((m + 1 : Nat) : Int))), (yw (Value.bool true)), (yw (Value.bool true)), (yw (Value.func (.func 73) #[] #[(bptr br 0), (bptr bb 0), (bptr F 0), (bptr bs 0)])), (yw xl), (yw xk), (fun (D : Nat → Value) (v_ : Value) (rs_ : List Res) => True ∧ rs_ = [(row v_ 98 2 ((d_0 l s q).length) (pairs (d_0 l s q)))]), (yw xr), (yw (iv (q : Int))), (yw (eptr xr (q * 2))), (yw (Value.agg #[(iv ((l.getD q (0, 0)).1)), (iv ((l.getD q (0, 0)).2))])), (fun (D : Nat → Value) (v_ : Value) (rs_ : List Res) => True ∧ rs_ = [(row v_ 98 2 1 [(iv ((l.getD q (0, 0)).1)), (iv ((l.getD q (0, 0)).2))])]), (fun (D : Nat → Value) (v_ : Value) (rs_ : List Res) => True ∧ rs_ = [(row v_ 98 2 (((d_0 l s q) ++ [((l.getD q (0, 0)).1, (l.getD q (0, 0)).2)]).length) (pairs ((d_0 l s q) ++ [((l.getD q (0, 0)).1, (l.getD q (0, 0)).2)])))]), (yw (iv (q : Int))), (yw (iv ((q : Int) + 1))), (yw (iv ((m + 1 : Nat) : Int)))] (by decide +kernel) (by decide +kernel) rfl rfl ⟨dw, dw, dw, dw, dw, dw, dw, dw, dw, dw, (fun _ _ _ _ _ h_ => h_), dw, dw, dw, dw, (fun _ _ _ _ _ h_ => h_), (fun _ _ _ _ _ h_ => h_), dw, dw, dw, trivial⟩ (by decide +kernel) (by decide +kernel) ?_ ?_ ?_
   ·skip
    refine ⟨fun hj_ a w D hA hS hd => gv1 (a_3 rfl y_8 hA.e (hS.rk 4 rfl) rfl), ?_⟩
    refine ⟨fun hj_ a w D hA hS hd => gv1 (e_8 rfl l_3 (gu hd 0) (hS.sk 10 rfl)), ?_⟩
    refine ⟨fun hj_ a w D hA hS hd => gv1 (a_1 rfl hA.e), ?_⟩
    refine ⟨fun hj_ a w D hA hS hd => gv1 (k_5 rfl (gu hd 1) (gu hd 2) (by omega) (by omega)), ?_⟩
    refine ⟨fun hj_ a w D hA hS hd => gv1 (a_1 rfl hA.e), ?_⟩
    refine ⟨fun hj_ a w D hA hS hd => gv2 (u_0 rfl (gu hd 3) (gu hd 4)) (And.intro (by show Value.bool _ = _; simp only [decide_eq_true BY, decide_true, decide_false, Bool.not_true, Bool.not_false]) rfl), ?_⟩
    refine ⟨fun hj_ a w D hA hS hd => gv1 (a_1 rfl (gu hd 5)), ?_⟩
    refine ⟨fun hj_ a w D hA hS hd => gy1 hd 6 (a_3 rfl ty_134 hA.e (hS.rk 3 rfl) rfl), ?_⟩
    refine ⟨fun hj_ a w D hA hS hd => gy1 hd 6 (a_1 rfl hA.e), ?_⟩
    refine ⟨fun hj_ a w D hA hS hd => gy1 hd 6 (a_1 rfl hA.e), ?_⟩
    refine ⟨fun hj_ a w D hA hS hd => d_9 rfl rfl (gut hd 6 (by decide) rfl (fun _ h => And.left h)) (vn (a_8 rfl en_75 (ev1 (gu hd 9)) (clone_read (d_0 l s q) _ _ (hS.sk 11 rfl) (by omega))) (fun v w' h => ⟨_, And.intro trivial rfl, (Sep.start NoB _).new_row h.1 h.2, rfl⟩)), ?_⟩
    refine ⟨fun hj_ a w D hA hS hd => gy1 hd 6 (a_3 rfl y_8 hA.e (hS.rk 4 rfl) rfl), ?_⟩
    refine ⟨fun hj_ a w D hA hS hd => gy1 hd 6 (a_1 rfl hA.e), ?_⟩
    refine ⟨fun hj_ a w D hA hS hd => gy1 hd 6 (b_6 rfl l_3 o_7 (gu hd 11) (i := q) (gu hd 12) (hS.sk 10 rfl) (by decide) (by omega)), ?_⟩
    refine ⟨fun hj_ a w D hA hS hd => gy1 hd 6 (e_7 rfl o_7 (gu hd 13) (hS.sk 10 rfl) (g_1 (by omega)) rfl (by decide)), ?_⟩
    refine ⟨fun hj_ a w D hA hS hd => d_9 rfl rfl (gut hd 6 (by decide) rfl (fun _ h => And.left h)) (vblt rfl (pv1 (gu hd 14)) l_3 o_7 y_0 (by decide) (cs := [(iv ((l.getD q (0, 0)).1)), (iv ((l.getD q (0, 0)).2))]) (j_2 _ _) rfl (by decide) (fun _ => And.intro trivial rfl)), ?_⟩
    refine ⟨fun hj_ => absurd rfl hj_, ?_⟩
    refine ⟨fun hj_ a w D hA hS hd => gy1 hd 6 (a_1 rfl hA.e), ?_⟩
    refine ⟨fun hj_ a w D hA hS hd => gy1 hd 6 (g_9 rfl (gu hd 17) (evc _ _) (by omega) (by omega)), ?_⟩
    refine ⟨fun hj_ a w D hA hS hd => gy1 hd 6 (a_1 rfl hA.e), ?_⟩
    trivial
   ·skip
    intro a w D CF Lr hA Bb Be hd hS
    obtain ⟨B0, AQ⟩ := Be; subst AQ
    obtain ⟨e6, CG, Bf, BZ⟩ := hd 6 (by decide) (by decide)
    obtain ⟨Bd, Ba⟩ := Bf; subst Ba
    rw [Bd] at e6
    obtain ⟨Ax, B2, AS, AP⟩ := hd 15 (by decide) (by decide)
    obtain ⟨B1, AR⟩ := AS; subst AR
    have hp15_0 := AP _ (List.mem_of_getElem? (i := 0) rfl)
    exact d_9 rfl rfl (f_4 e6 rfl) (n_0 (q_2 hS rfl l_3 el_98 (c_1 (f_4 Bb rfl)) (c_1 (f_4 Ax rfl)) (i := 0) rfl (SlAt.e_4 hp15_0) rfl (by simp only [maxLen]; omega) (by omega)) fun v_ w_ h_ => ⟨_, And.intro trivial rfl, h_.i_9 (i := 0) rfl (n' := ((d_0 l s q) ++ [((l.getD q (0, 0)).1, (l.getD q (0, 0)).2)]).length) (xs' := (pairs ((d_0 l s q) ++ [((l.getD q (0, 0)).1, (l.getD q (0, 0)).2)]))) (by simp) (by simp [pairs])⟩)
   skip
   intro Bl CI D rsf61 BD G hrq AM; clear BC c
   obtain ⟨AA, AD⟩ := G 15 (by decide) (by decide)
   obtain ⟨AB, R⟩ := AD
   obtain ⟨T, AE⟩ := G 16 (by decide) (by decide)
   obtain ⟨AC, S⟩ := AE
   have BU : Sep X w CI [(row (D 15) 98 2 1 [(iv ((l.getD q (0, 0)).1)), (iv ((l.getD q (0, 0)).2))]), (row (D 16) 98 2 (((d_0 l s q) ++ [((l.getD q (0, 0)).1, (l.getD q (0, 0)).2)]).length) (pairs ((d_0 l s q) ++ [((l.getD q (0, 0)).1, (l.getD q (0, 0)).2)]))), (row xl 3 1 s.length (ints s)), (blk bb 44 [vb38]), (row vb38 3 1 best39.length (ints best39)), (rob bs 134 [(Value.func (.func 73) #[] #[(bptr br 0), (bptr bb 0), (bptr F 0), (bptr bs 0)])]), (rob br 53 [xr]), (rob F 116 [(bptr bx 0)]), (rob bx 146 [(iv b.scales), vt, vm, (Value.map (some bm))]), (mapX false bm es ck es.size 106 5 (bN b.tabs b.tabs.length) (bC lr lb b.tabs b.tabs.length)), (c_0 false vt lr lb b.tabs), (c_3 false vm lk b.macs), (sl xr 2 l.length (pairs l)), (sl xk 2 ((d_0 l s q).length) (pairs (d_0 l s q)))] := by rw [show catR rsf61 0 20 = ([(row (D 15) 98 2 1 [(iv ((l.getD q (0, 0)).1)), (iv ((l.getD q (0, 0)).2))]), (row (D 16) 98 2 (((d_0 l s q) ++ [((l.getD q (0, 0)).1, (l.getD q (0, 0)).2)]).length) (pairs ((d_0 l s q) ++ [((l.getD q (0, 0)).1, (l.getD q (0, 0)).2)])))] : List Res) by (try simp only [catR, gr (G 0 (by decide) (by decide)), gr (G 1 (by decide) (by decide)), gr (G 2 (by decide) (by decide)), gr (G 3 (by decide) (by decide)), gr (G 4 (by decide) (by decide)), gr (G 5 (by decide) (by decide)), gr (G 6 (by decide) (by decide)), gr (G 7 (by decide) (by decide)), gr (G 8 (by decide) (by decide)), gr (G 9 (by decide) (by decide)), gr (G 11 (by decide) (by decide)), gr (G 12 (by decide) (by decide)), gr (G 13 (by decide) (by decide)), gr (G 14 (by decide) (by decide)), R, S, gr (G 17 (by decide) (by decide)), gr (G 18 (by decide) (by decide)), gr (G 19 (by decide) (by decide)), hrq]); (try rfl)] at AM; exact AM
   have BF := BD.add (gs (G 6 (by decide) (by decide))); clear BD
   have BG := BF.add (gs (G 7 (by decide) (by decide))); clear BF
   have BH := BG.add (gs (G 8 (by decide) (by decide))); clear BG
   have BI : Fr 69 [] [(63, (D 16)), (55, xl), (54, (Value.func (.func 73) #[] #[(bptr br 0), (bptr bb 0), (bptr F 0), (bptr bs 0)])), (53, (Value.bool true)), (0, xl), (1, xk), (2, (iv (q : Int))), (3, (iv ((m + 1 : Nat) : Int))), (4, (bptr br 0)), (7, (bptr bs 0))] Bl := BH.add (f_4 T rfl); clear BH
   have BJ := BI.add (gs (G 18 (by decide) (by decide))); clear BI
   have P := BJ.add (gs (G 19 (by decide) (by decide))); clear BJ
   clear G AM AA T hrq
   clear R
   clear AB
   clear S
   clear AC
   have BV := sep_row_sl (BU.i_9 (i := 1) rfl (n' := (d_0 l s (q + 1)).length) (xs' := pairs (d_0 l s (q + 1))) (by rw [kep_in hs]) (by rw [kep_in hs])) (i := 1) rfl; clear BU
   have AN := BV.gkp (gpc 2 (gpc 3 (gpc 4 (gpc 5 (gpc 6 (gpc 7 (gpc 8 (gpc 9 (gpc 10 (gpc 11 (gpc 12 (gpc 1 (gpc 0 (gpc 13 gpn)))))))))))))); clear BV
   refine s6 P (h_0 rfl (P.ev rfl) en_73 (ev4 P.e P.e P.e P.e) (by have hz := ih (m + 1) (q + 1) s _ _ _ _ _ (ownX [(row xl 3 1 s.length (ints s)), (blk bb 44 [vb38]), (row vb38 3 1 best39.length (ints best39)), (rob bs 134 [(Value.func (.func 73) #[] #[(bptr br 0), (bptr bb 0), (bptr F 0), (bptr bs 0)])]), (rob br 53 [xr]), (rob F 116 [(bptr bx 0)]), (rob bx 146 [(iv b.scales), vt, vm, (Value.map (some bm))]), (mapX false bm es ck es.size 106 5 (bN b.tabs b.tabs.length) (bC lr lb b.tabs b.tabs.length)), (c_0 false vt lr lb b.tabs), (c_3 false vm lk b.macs), (sl xr 2 l.length (pairs l)), (sl (D 16) 2 ((d_0 l s (q + 1)).length) (pairs (d_0 l s (q + 1))))]) (by omega) (by omega) hs.more (by omega) (Sep.enterG (A := [(row xl 3 1 s.length (ints s)), (blk bb 44 [vb38]), (row vb38 3 1 best39.length (ints best39)), (rob bs 134 [(Value.func (.func 73) #[] #[(bptr br 0), (bptr bb 0), (bptr F 0), (bptr bs 0)])]), (rob br 53 [xr]), (rob F 116 [(bptr bx 0)]), (rob bx 146 [(iv b.scales), vt, vm, (Value.map (some bm))]), (mapX false bm es ck es.size 106 5 (bN b.tabs b.tabs.length) (bC lr lb b.tabs b.tabs.length)), (c_0 false vt lr lb b.tabs), (c_3 false vm lk b.macs), (sl xr 2 l.length (pairs l)), (sl (D 16) 2 ((d_0 l s (q + 1)).length) (pairs (d_0 l s (q + 1))))]) (B := [(row (D 15) 98 2 1 [(iv ((l.getD q (0, 0)).1)), (iv ((l.getD q (0, 0)).2))]), (sl xk 2 ((d_0 l s q).length) (pairs (d_0 l s q)))]) AN); exact hz)) ?_
   rintro B9 _ CJ ⟨rfl, vb75, best76, Bz, BX⟩ p; clear P Bl
   have Bv : Sep X w CJ [(row xl 3 1 s.length (ints s)), (blk bb 44 [vb75]), (row vb75 3 1 best76.length (ints best76)), (rob bs 134 [(Value.func (.func 73) #[] #[(bptr br 0), (bptr bb 0), (bptr F 0), (bptr bs 0)])]), (rob br 53 [xr]), (rob F 116 [(bptr bx 0)]), (rob bx 146 [(iv b.scales), vt, vm, (Value.map (some bm))]), (mapX false bm es ck es.size 106 5 (bN b.tabs b.tabs.length) (bC lr lb b.tabs b.tabs.length)), (c_0 false vt lr lb b.tabs), (c_3 false vm lk b.macs), (sl xr 2 l.length (pairs l)), (sl (D 16) 2 ((d_0 l s (q + 1)).length) (pairs (d_0 l s (q + 1)))), (row (D 15) 98 2 1 [(iv ((l.getD q (0, 0)).1)), (iv ((l.getD q (0, 0)).2))]), (sl xk 2 ((d_0 l s q).length) (pairs (d_0 l s q)))] := Sep.callG (A := [(row xl 3 1 s.length (ints s)), (blk bb 44 [vb38]), (row vb38 3 1 best39.length (ints best39)), (rob bs 134 [(Value.func (.func 73) #[] #[(bptr br 0), (bptr bb 0), (bptr F 0), (bptr bs 0)])]), (rob br 53 [xr]), (rob F 116 [(bptr bx 0)]), (rob bx 146 [(iv b.scales), vt, vm, (Value.map (some bm))]), (mapX false bm es ck es.size 106 5 (bN b.tabs b.tabs.length) (bC lr lb b.tabs b.tabs.length)), (c_0 false vt lr lb b.tabs), (c_3 false vm lk b.macs), (sl xr 2 l.length (pairs l)), (sl (D 16) 2 ((d_0 l s (q + 1)).length) (pairs (d_0 l s (q + 1))))]) (B := [(row (D 15) 98 2 1 [(iv ((l.getD q (0, 0)).1)), (iv ((l.getD q (0, 0)).2))]), (sl xk 2 ((d_0 l s q).length) (pairs (d_0 l s q)))]) AN BX (s_9 ⟨.inl rfl, .inl rfl, .inl rfl, .inr ⟨3, rfl⟩, .inr ⟨4, rfl⟩, .inr ⟨5, rfl⟩, .inr ⟨6, rfl⟩, .inr ⟨7, rfl⟩, .inr ⟨8, rfl⟩, .inr ⟨9, rfl⟩, .inr ⟨10, rfl⟩, .inr ⟨11, rfl⟩, trivial⟩); clear BX AN
   refine s1 p (b_5 rfl p.e p.e) fun CA AH => ?_; clear p B9
   refine s1 AH (a_0 rfl AH.e) fun CY BK => ?_; clear AH CA
   refine n1 (c_6 (b_0 BK (.inl rfl) (a_2 BK rfl (.tmp rfl)) ?_))
   have hh : (h_1 l.length (okS b l) (m + 1) s q) = (h_1 l.length (okS b l) (m + 1) s (q + 1)) := lv_go (by omega) (by assumption)
   rw [hh]
   exact ⟨rfl, _, _, fun h => lv_gof (by omega) (by assumption) (Bz h), Bv.keep [0, 1, 2, 3, 4, 5, 6, 7, 8, 9, 10, 13] (by decide) _ rfl rfl⟩
  skip
  have BL := o.as [(0, xl), (1, xk), (2, (iv (q : Int))), (3, (iv ((m + 1 : Nat) : Int))), (4, (bptr br 0)), (7, (bptr bs 0))] rfl; clear o
  refine i_7 mixed BL c 20 [[], [0], [], [1, 2], [], [3, 4], [5], [6], [6], [6], [6, 9], [6], [6], [6, 11, 12], [6, 13], [6, 14], [6, 10, 15], [6], [6, 17], [6]] [(Yd.val xr), (Yd.val (iv (l.length : Int))), (Yd.val (iv (q : Int))), (Yd.val (iv ((l.length : Int) - (q : Int)))), (Yd.val (iv ((m + 1 : Nat) : Int))), (Yd.val (Value.bool false)), (Yd.val (Value.bool false)), (Yd.val undef), (Yd.val undef), (Yd.val undef), (Yd.val undef), (Yd.val undef), (Yd.val undef), (Yd.val undef), (Yd.val undef), (Yd.val undef), (Yd.val undef), (Yd.val undef), (Yd.val undef), (Yd.val undef)] (by decide +kernel) rfl rfl ?_ ?_
  ·skip
   refine dq (fun a w hA hS hd => a_3 rfl y_8 hA.e (hS.rk 4 rfl) rfl) ?_
   refine dq (fun a w hA hS hd => e_8 rfl l_3 (hq hd 0) (hS.sk 10 rfl)) ?_
   refine dq (fun a w hA hS hd => a_1 rfl hA.e) ?_
   refine dq (fun a w hA hS hd => k_5 rfl (hq hd 1) (hq hd 2) (by omega) (by omega)) ?_
   refine dq (fun a w hA hS hd => a_1 rfl hA.e) ?_
   refine ⟨fun a w hA hS hd => by have e3 := hx hd 3; have e4 := hx hd 4; exact e_2 rfl (dv (u_0 rfl (c_1 e3) (c_1 e4)) hS (by show Value.bool _ = _; simp only [decide_eq_false BY, decide_true, decide_false, Bool.not_true, Bool.not_false])), ?_⟩
   refine dq (fun a w hA hS hd => a_1 rfl (hq hd 5)) ?_
   refine dn 6 (dn 6 (dn 6 (dn 6 (dn 6 (dn 6 (dn 6 (dn 6 (dn 6 (dn 6 (dn 6 (dn 6 (dn 6 ?_))))))))))))
   trivial
  intro CB Ca BM Bw Q; clear BL c
  have BN := BM.add (hz Q 6); clear BM
  have BO := BN.add (hz Q 7); clear BN
  have BP := BO.add (hz Q 8); clear BO
  have BQ := BP.add (hz Q 16); clear BP
  have BR := BQ.add (hz Q 18); clear BQ
  have BS := BR.add (hz Q 19); clear BR
  clear Q
  refine s3 BS fun CC AI => ?_; clear BS CB
  refine s1 AI (e_0 rfl AI.e (evc _ _)) fun CD AJ => ?_; clear AI CC
  refine s1 AJ (a_0 rfl AJ.e) fun CL AU => ?_; clear AJ CD
  refine n1 (c_6 (b_0 AU (.inl rfl) (a_2 AU rfl (.tmp rfl)) ?_))
  have hh : (h_1 l.length (okS b l) (m + 1) s q) = false := lv_no (by omega) (by assumption) (by omega)
  rw [hh]
  exact ⟨rfl, _, _, (fun h => by cases h), Bw.keep [0, 1, 2, 3, 4, 5, 6, 7, 8, 9, 10, 11] (by decide) _ rfl rfl⟩
 skip
 clear AK
 have r := Z.i_9 (i := 0) rfl (n' := (s ++ [(q : Int)]).length) (xs' := ints (s ++ [(q : Int)])) (by simp) (by simp [ints]); rw [← kep_out (l := l) hs] at r; clear Z
 have t := r.gkp (gpc 0 (gpc 2 (gpc 3 (gpc 4 (gpc 5 (gpc 6 (gpc 7 (gpc 8 (gpc 9 (gpc 10 (gpc 11 (gpc 12 (gpc 1 gpn))))))))))))); clear r
 refine s6 H (h_0 rfl (H.ev rfl) en_73 (ev4 H.e H.e H.e H.e) (by have hz := ih m (q + 1) (s ++ [(q : Int)]) _ _ _ _ _ (ownX [(row M 3 1 ((s ++ [(q : Int)]).length) (ints (s ++ [(q : Int)]))), (blk bb 44 [vb]), (row vb 3 1 best.length (ints best)), (rob bs 134 [(Value.func (.func 73) #[] #[(bptr br 0), (bptr bb 0), (bptr F 0), (bptr bs 0)])]), (rob br 53 [xr]), (rob F 116 [(bptr bx 0)]), (rob bx 146 [(iv b.scales), vt, vm, (Value.map (some bm))]), (mapX false bm es ck es.size 106 5 (bN b.tabs b.tabs.length) (bC lr lb b.tabs b.tabs.length)), (c_0 false vt lr lb b.tabs), (c_3 false vm lk b.macs), (sl xr 2 l.length (pairs l)), (sl xk 2 ((d_0 l (s ++ [(q : Int)]) (q + 1)).length) (pairs (d_0 l (s ++ [(q : Int)]) (q + 1))))]) (by omega) (by omega) hs.snoc (by simp only [List.length_append, List.length_cons, List.length_nil]; omega) (Sep.enterG (A := [(row M 3 1 ((s ++ [(q : Int)]).length) (ints (s ++ [(q : Int)]))), (blk bb 44 [vb]), (row vb 3 1 best.length (ints best)), (rob bs 134 [(Value.func (.func 73) #[] #[(bptr br 0), (bptr bb 0), (bptr F 0), (bptr bs 0)])]), (rob br 53 [xr]), (rob F 116 [(bptr bx 0)]), (rob bx 146 [(iv b.scales), vt, vm, (Value.map (some bm))]), (mapX false bm es ck es.size 106 5 (bN b.tabs b.tabs.length) (bC lr lb b.tabs b.tabs.length)), (c_0 false vt lr lb b.tabs), (c_3 false vm lk b.macs), (sl xr 2 l.length (pairs l)), (sl xk 2 ((d_0 l (s ++ [(q : Int)]) (q + 1)).length) (pairs (d_0 l (s ++ [(q : Int)]) (q + 1))))]) (B := [(row xl 3 1 s.length (ints s))]) t); rw [show ((m + 1 : Nat) : Int) - 1 = (m : Int) by omega]; exact hz)) ?_
 rintro Bm _ B3 ⟨rfl, vb109, best110, Bi, At⟩ V; clear H Bk
 have Aq : Sep X w B3 [(row M 3 1 ((s ++ [(q : Int)]).length) (ints (s ++ [(q : Int)]))), (blk bb 44 [vb109]), (row vb109 3 1 best110.length (ints best110)), (rob bs 134 [(Value.func (.func 73) #[] #[(bptr br 0), (bptr bb 0), (bptr F 0), (bptr bs 0)])]), (rob br 53 [xr]), (rob F 116 [(bptr bx 0)]), (rob bx 146 [(iv b.scales), vt, vm, (Value.map (some bm))]), (mapX false bm es ck es.size 106 5 (bN b.tabs b.tabs.length) (bC lr lb b.tabs b.tabs.length)), (c_0 false vt lr lb b.tabs), (c_3 false vm lk b.macs), (sl xr 2 l.length (pairs l)), (sl xk 2 ((d_0 l (s ++ [(q : Int)]) (q + 1)).length) (pairs (d_0 l (s ++ [(q : Int)]) (q + 1)))), (row xl 3 1 s.length (ints s))] := Sep.callG (A := [(row M 3 1 ((s ++ [(q : Int)]).length) (ints (s ++ [(q : Int)]))), (blk bb 44 [vb]), (row vb 3 1 best.length (ints best)), (rob bs 134 [(Value.func (.func 73) #[] #[(bptr br 0), (bptr bb 0), (bptr F 0), (bptr bs 0)])]), (rob br 53 [xr]), (rob F 116 [(bptr bx 0)]), (rob bx 146 [(iv b.scales), vt, vm, (Value.map (some bm))]), (mapX false bm es ck es.size 106 5 (bN b.tabs b.tabs.length) (bC lr lb b.tabs b.tabs.length)), (c_0 false vt lr lb b.tabs), (c_3 false vm lk b.macs), (sl xr 2 l.length (pairs l)), (sl xk 2 ((d_0 l (s ++ [(q : Int)]) (q + 1)).length) (pairs (d_0 l (s ++ [(q : Int)]) (q + 1))))]) (B := [(row xl 3 1 s.length (ints s))]) t At (s_9 ⟨.inl rfl, .inl rfl, .inl rfl, .inr ⟨3, rfl⟩, .inr ⟨4, rfl⟩, .inr ⟨5, rfl⟩, .inr ⟨6, rfl⟩, .inr ⟨7, rfl⟩, .inr ⟨8, rfl⟩, .inr ⟨9, rfl⟩, .inr ⟨10, rfl⟩, .inr ⟨11, rfl⟩, trivial⟩); clear At t
 have O := Aq; rw [kep_out (l := l) hs] at O; clear Aq
 refine s1 V (b_5 rfl V.e V.e) fun Bn I => ?_; clear V Bm
 refine n1 ?_
 rcases Bool.eq_false_or_eq_true ((h_1 l.length (okS b l) m (s ++ [(q : Int)]) (q + 1))) with z | z
 ·skip
  rw [z] at I
  refine d_6 I rfl (d_3 ?_)
  have AV := I.as [] rfl; clear I
  refine a_5 (s1 AV (a_0 rfl (evc _ _)) fun CM AW => ?_); clear AV Bn
  refine n1 (c_6 (b_1 (b_0 AW (.inl rfl) (a_2 AW rfl (.tmp rfl)) ?_)))
  have hh := lv_hit (by omega) (by assumption) (Bi (by assumption))
  rw [hh.1]
  exact ⟨rfl, _, _, fun _ => hh.2, O.keep [12, 1, 2, 3, 4, 5, 6, 7, 8, 9, 10, 11] (by decide) _ rfl rfl⟩
 skip
 rw [z] at I
 refine b_8 I rfl (e_1 (b_3 (d_3 ?_)))
 have AX := I.as [(0, xl), (1, xk), (2, (iv (q : Int))), (3, (iv ((m + 1 : Nat) : Int))), (4, (bptr br 0)), (7, (bptr bs 0))] rfl; clear I
 have W := AX.as [(0, xl), (1, xk), (2, (iv (q : Int))), (3, (iv ((m + 1 : Nat) : Int))), (4, (bptr br 0)), (7, (bptr bs 0))] rfl; clear AX
 by_cases Av : ((m + 1 : Nat) : Int) < ((l.length : Int) - (q : Int))
 ·skip
  have AY := W.as [(0, xl), (1, xk), (2, (iv (q : Int))), (3, (iv ((m + 1 : Nat) : Int))), (4, (bptr br 0)), (7, (bptr bs 0))] rfl; clear W
  refine c_drawC mixed AY O 20 16 10 (by decide) (by decide) (by decide) rfl [[], [0], [], [1, 2], [], [3, 4], [5], [6], [6], [6], [6, 9], [6], [6], [6, 11, 12], [6, 13], [6, 14], [6, 10, 15], [6], [6, 17], [6]] [(yw xr), (yw (iv (l.length : Int))), (yw (iv (q : Int))), (yw (iv ((l.length : Int) - (q : Int)))), (yw (iv ((m + 1 : Nat) : Int))), (yw (Value.bool true)), (yw (Value.bool true)), (yw (Value.func (.func 73) #[] #[(bptr br 0), (bptr bb 0), (bptr F 0), (bptr bs 0)])), (yw xl), (yw xk), (fun (C : Nat → Value) (v_ : Value) (rs_ : List Res) => True ∧ rs_ = [(row v_ 98 2 ((d_0 l s q).length) (pairs (d_0 l s q)))]), (yw xr), (yw (iv (q : Int))), (yw (eptr xr (q * 2))), (yw (Value.agg #[(iv ((l.getD q (0, 0)).1)), (iv ((l.getD q (0, 0)).2))])), (fun (C : Nat → Value) (v_ : Value) (rs_ : List Res) => True ∧ rs_ = [(row v_ 98 2 1 [(iv ((l.getD q (0, 0)).1)), (iv ((l.getD q (0, 0)).2))])]), (fun (C : Nat → Value) (v_ : Value) (rs_ : List Res) => True ∧ rs_ = [(row v_ 98 2 (((d_0 l s q) ++ [((l.getD q (0, 0)).1, (l.getD q (0, 0)).2)]).length) (pairs ((d_0 l s q) ++ [((l.getD q (0, 0)).1, (l.getD q (0, 0)).2)])))]), (yw (iv (q : Int))), (yw (iv ((q : Int) + 1))), (yw (iv ((m + 1 : Nat) : Int)))] (by decide +kernel) (by decide +kernel) rfl rfl ⟨dw, dw, dw, dw, dw, dw, dw, dw, dw, dw, (fun _ _ _ _ _ h_ => h_), dw, dw, dw, dw, (fun _ _ _ _ _ h_ => h_), (fun _ _ _ _ _ h_ => h_), dw, dw, dw, trivial⟩ (by decide +kernel) (by decide +kernel) ?_ ?_ ?_
  ·skip
   refine ⟨fun hj_ a w C hA hS hd => gv1 (a_3 rfl y_8 hA.e (hS.rk 4 rfl) rfl), ?_⟩
   refine ⟨fun hj_ a w C hA hS hd => gv1 (e_8 rfl l_3 (gu hd 0) (hS.sk 10 rfl)), ?_⟩
   refine ⟨fun hj_ a w C hA hS hd => gv1 (a_1 rfl hA.e), ?_⟩
   refine ⟨fun hj_ a w C hA hS hd => gv1 (k_5 rfl (gu hd 1) (gu hd 2) (by omega) (by omega)), ?_⟩
   refine ⟨fun hj_ a w C hA hS hd => gv1 (a_1 rfl hA.e), ?_⟩
   refine ⟨fun hj_ a w C hA hS hd => gv2 (u_0 rfl (gu hd 3) (gu hd 4)) (And.intro (by show Value.bool _ = _; simp only [decide_eq_true Av, decide_true, decide_false, Bool.not_true, Bool.not_false]) rfl), ?_⟩
   refine ⟨fun hj_ a w C hA hS hd => gv1 (a_1 rfl (gu hd 5)), ?_⟩
   refine ⟨fun hj_ a w C hA hS hd => gy1 hd 6 (a_3 rfl ty_134 hA.e (hS.rk 3 rfl) rfl), ?_⟩
   refine ⟨fun hj_ a w C hA hS hd => gy1 hd 6 (a_1 rfl hA.e), ?_⟩
   refine ⟨fun hj_ a w C hA hS hd => gy1 hd 6 (a_1 rfl hA.e), ?_⟩
   refine ⟨fun hj_ a w C hA hS hd => d_9 rfl rfl (gut hd 6 (by decide) rfl (fun _ h => And.left h)) (vn (a_8 rfl en_75 (ev1 (gu hd 9)) (clone_read (d_0 l s q) _ _ (hS.sk 11 rfl) (by omega))) (fun v w' h => ⟨_, And.intro trivial rfl, (Sep.start NoB _).new_row h.1 h.2, rfl⟩)), ?_⟩
   refine ⟨fun hj_ a w C hA hS hd => gy1 hd 6 (a_3 rfl y_8 hA.e (hS.rk 4 rfl) rfl), ?_⟩
   refine ⟨fun hj_ a w C hA hS hd => gy1 hd 6 (a_1 rfl hA.e), ?_⟩
   refine ⟨fun hj_ a w C hA hS hd => gy1 hd 6 (b_6 rfl l_3 o_7 (gu hd 11) (i := q) (gu hd 12) (hS.sk 10 rfl) (by decide) (by omega)), ?_⟩
   refine ⟨fun hj_ a w C hA hS hd => gy1 hd 6 (e_7 rfl o_7 (gu hd 13) (hS.sk 10 rfl) (g_1 (by omega)) rfl (by decide)), ?_⟩
   refine ⟨fun hj_ a w C hA hS hd => d_9 rfl rfl (gut hd 6 (by decide) rfl (fun _ h => And.left h)) (vblt rfl (pv1 (gu hd 14)) l_3 o_7 y_0 (by decide) (cs := [(iv ((l.getD q (0, 0)).1)), (iv ((l.getD q (0, 0)).2))]) (j_2 _ _) rfl (by decide) (fun _ => And.intro trivial rfl)), ?_⟩
   refine ⟨fun hj_ => absurd rfl hj_, ?_⟩
   refine ⟨fun hj_ a w C hA hS hd => gy1 hd 6 (a_1 rfl hA.e), ?_⟩
   refine ⟨fun hj_ a w C hA hS hd => gy1 hd 6 (g_9 rfl (gu hd 17) (evc _ _) (by omega) (by omega)), ?_⟩
   refine ⟨fun hj_ a w C hA hS hd => gy1 hd 6 (a_1 rfl hA.e), ?_⟩
   trivial
  ·skip
   intro a w C CF Lr hA Bb Be hd hS
   obtain ⟨B0, AQ⟩ := Be; subst AQ
   obtain ⟨e6, CG, Bf, BZ⟩ := hd 6 (by decide) (by decide)
   obtain ⟨Bd, Ba⟩ := Bf; subst Ba
   rw [Bd] at e6
   obtain ⟨Ax, B2, AS, AP⟩ := hd 15 (by decide) (by decide)
   obtain ⟨B1, AR⟩ := AS; subst AR
   have hp15_0 := AP _ (List.mem_of_getElem? (i := 0) rfl)
   exact d_9 rfl rfl (f_4 e6 rfl) (n_0 (q_2 hS rfl l_3 el_98 (c_1 (f_4 Bb rfl)) (c_1 (f_4 Ax rfl)) (i := 0) rfl (SlAt.e_4 hp15_0) rfl (by simp only [maxLen]; omega) (by omega)) fun v_ w_ h_ => ⟨_, And.intro trivial rfl, h_.i_9 (i := 0) rfl (n' := ((d_0 l s q) ++ [((l.getD q (0, 0)).1, (l.getD q (0, 0)).2)]).length) (xs' := (pairs ((d_0 l s q) ++ [((l.getD q (0, 0)).1, (l.getD q (0, 0)).2)]))) (by simp) (by simp [pairs])⟩)
  skip
  intro Aw B4 C rsf131 AZ E hrq u; clear AY O
  obtain ⟨AA, AD⟩ := E 15 (by decide) (by decide)
  obtain ⟨AB, R⟩ := AD
  obtain ⟨T, AE⟩ := E 16 (by decide) (by decide)
  obtain ⟨AC, S⟩ := AE
  have Ar : Sep X w B4 [(row (C 15) 98 2 1 [(iv ((l.getD q (0, 0)).1)), (iv ((l.getD q (0, 0)).2))]), (row (C 16) 98 2 (((d_0 l s q) ++ [((l.getD q (0, 0)).1, (l.getD q (0, 0)).2)]).length) (pairs ((d_0 l s q) ++ [((l.getD q (0, 0)).1, (l.getD q (0, 0)).2)]))), (row M 3 1 ((s ++ [(q : Int)]).length) (ints (s ++ [(q : Int)]))), (blk bb 44 [vb109]), (row vb109 3 1 best110.length (ints best110)), (rob bs 134 [(Value.func (.func 73) #[] #[(bptr br 0), (bptr bb 0), (bptr F 0), (bptr bs 0)])]), (rob br 53 [xr]), (rob F 116 [(bptr bx 0)]), (rob bx 146 [(iv b.scales), vt, vm, (Value.map (some bm))]), (mapX false bm es ck es.size 106 5 (bN b.tabs b.tabs.length) (bC lr lb b.tabs b.tabs.length)), (c_0 false vt lr lb b.tabs), (c_3 false vm lk b.macs), (sl xr 2 l.length (pairs l)), (sl xk 2 ((d_0 l s q).length) (pairs (d_0 l s q))), (row xl 3 1 s.length (ints s))] := by rw [show catR rsf131 0 20 = ([(row (C 15) 98 2 1 [(iv ((l.getD q (0, 0)).1)), (iv ((l.getD q (0, 0)).2))]), (row (C 16) 98 2 (((d_0 l s q) ++ [((l.getD q (0, 0)).1, (l.getD q (0, 0)).2)]).length) (pairs ((d_0 l s q) ++ [((l.getD q (0, 0)).1, (l.getD q (0, 0)).2)])))] : List Res) by (try simp only [catR, gr (E 0 (by decide) (by decide)), gr (E 1 (by decide) (by decide)), gr (E 2 (by decide) (by decide)), gr (E 3 (by decide) (by decide)), gr (E 4 (by decide) (by decide)), gr (E 5 (by decide) (by decide)), gr (E 6 (by decide) (by decide)), gr (E 7 (by decide) (by decide)), gr (E 8 (by decide) (by decide)), gr (E 9 (by decide) (by decide)), gr (E 11 (by decide) (by decide)), gr (E 12 (by decide) (by decide)), gr (E 13 (by decide) (by decide)), gr (E 14 (by decide) (by decide)), R, S, gr (E 17 (by decide) (by decide)), gr (E 18 (by decide) (by decide)), gr (E 19 (by decide) (by decide)), hrq]); (try rfl)] at u; exact u
  have Aa := AZ.add (gs (E 6 (by decide) (by decide))); clear AZ
  have Ab := Aa.add (gs (E 7 (by decide) (by decide))); clear Aa
  have Ac := Ab.add (gs (E 8 (by decide) (by decide))); clear Ab
  have Ad : Fr 69 [] [(63, (C 16)), (55, xl), (54, (Value.func (.func 73) #[] #[(bptr br 0), (bptr bb 0), (bptr F 0), (bptr bs 0)])), (53, (Value.bool true)), (0, xl), (1, xk), (2, (iv (q : Int))), (3, (iv ((m + 1 : Nat) : Int))), (4, (bptr br 0)), (7, (bptr bs 0))] Aw := Ac.add (f_4 T rfl); clear Ac
  have Ae := Ad.add (gs (E 18 (by decide) (by decide))); clear Ad
  have K := Ae.add (gs (E 19 (by decide) (by decide))); clear Ae
  clear E u AA T hrq
  clear R
  clear AB
  clear S
  clear AC
  have As := sep_row_sl (Ar.i_9 (i := 1) rfl (n' := (d_0 l s (q + 1)).length) (xs' := pairs (d_0 l s (q + 1))) (by rw [kep_in hs]) (by rw [kep_in hs])) (i := 1) rfl; clear Ar
  have x := As.gkp (gpc 14 (gpc 3 (gpc 4 (gpc 5 (gpc 6 (gpc 7 (gpc 8 (gpc 9 (gpc 10 (gpc 11 (gpc 12 (gpc 1 (gpc 0 (gpc 2 (gpc 13 gpn))))))))))))))); clear As
  refine s6 K (h_0 rfl (K.ev rfl) en_73 (ev4 K.e K.e K.e K.e) (by have hz := ih (m + 1) (q + 1) s _ _ _ _ _ (ownX [(row xl 3 1 s.length (ints s)), (blk bb 44 [vb109]), (row vb109 3 1 best110.length (ints best110)), (rob bs 134 [(Value.func (.func 73) #[] #[(bptr br 0), (bptr bb 0), (bptr F 0), (bptr bs 0)])]), (rob br 53 [xr]), (rob F 116 [(bptr bx 0)]), (rob bx 146 [(iv b.scales), vt, vm, (Value.map (some bm))]), (mapX false bm es ck es.size 106 5 (bN b.tabs b.tabs.length) (bC lr lb b.tabs b.tabs.length)), (c_0 false vt lr lb b.tabs), (c_3 false vm lk b.macs), (sl xr 2 l.length (pairs l)), (sl (C 16) 2 ((d_0 l s (q + 1)).length) (pairs (d_0 l s (q + 1))))]) (by omega) (by omega) hs.more (by omega) (Sep.enterG (A := [(row xl 3 1 s.length (ints s)), (blk bb 44 [vb109]), (row vb109 3 1 best110.length (ints best110)), (rob bs 134 [(Value.func (.func 73) #[] #[(bptr br 0), (bptr bb 0), (bptr F 0), (bptr bs 0)])]), (rob br 53 [xr]), (rob F 116 [(bptr bx 0)]), (rob bx 146 [(iv b.scales), vt, vm, (Value.map (some bm))]), (mapX false bm es ck es.size 106 5 (bN b.tabs b.tabs.length) (bC lr lb b.tabs b.tabs.length)), (c_0 false vt lr lb b.tabs), (c_3 false vm lk b.macs), (sl xr 2 l.length (pairs l)), (sl (C 16) 2 ((d_0 l s (q + 1)).length) (pairs (d_0 l s (q + 1))))]) (B := [(row (C 15) 98 2 1 [(iv ((l.getD q (0, 0)).1)), (iv ((l.getD q (0, 0)).2))]), (row M 3 1 ((s ++ [(q : Int)]).length) (ints (s ++ [(q : Int)]))), (sl xk 2 ((d_0 l s q).length) (pairs (d_0 l s q)))]) x); exact hz)) ?_
  rintro Bo _ B5 ⟨rfl, vb145, best146, Bj, Au⟩ Y; clear K Aw
  have Bg : Sep X w B5 [(row xl 3 1 s.length (ints s)), (blk bb 44 [vb145]), (row vb145 3 1 best146.length (ints best146)), (rob bs 134 [(Value.func (.func 73) #[] #[(bptr br 0), (bptr bb 0), (bptr F 0), (bptr bs 0)])]), (rob br 53 [xr]), (rob F 116 [(bptr bx 0)]), (rob bx 146 [(iv b.scales), vt, vm, (Value.map (some bm))]), (mapX false bm es ck es.size 106 5 (bN b.tabs b.tabs.length) (bC lr lb b.tabs b.tabs.length)), (c_0 false vt lr lb b.tabs), (c_3 false vm lk b.macs), (sl xr 2 l.length (pairs l)), (sl (C 16) 2 ((d_0 l s (q + 1)).length) (pairs (d_0 l s (q + 1)))), (row (C 15) 98 2 1 [(iv ((l.getD q (0, 0)).1)), (iv ((l.getD q (0, 0)).2))]), (row M 3 1 ((s ++ [(q : Int)]).length) (ints (s ++ [(q : Int)]))), (sl xk 2 ((d_0 l s q).length) (pairs (d_0 l s q)))] := Sep.callG (A := [(row xl 3 1 s.length (ints s)), (blk bb 44 [vb109]), (row vb109 3 1 best110.length (ints best110)), (rob bs 134 [(Value.func (.func 73) #[] #[(bptr br 0), (bptr bb 0), (bptr F 0), (bptr bs 0)])]), (rob br 53 [xr]), (rob F 116 [(bptr bx 0)]), (rob bx 146 [(iv b.scales), vt, vm, (Value.map (some bm))]), (mapX false bm es ck es.size 106 5 (bN b.tabs b.tabs.length) (bC lr lb b.tabs b.tabs.length)), (c_0 false vt lr lb b.tabs), (c_3 false vm lk b.macs), (sl xr 2 l.length (pairs l)), (sl (C 16) 2 ((d_0 l s (q + 1)).length) (pairs (d_0 l s (q + 1))))]) (B := [(row (C 15) 98 2 1 [(iv ((l.getD q (0, 0)).1)), (iv ((l.getD q (0, 0)).2))]), (row M 3 1 ((s ++ [(q : Int)]).length) (ints (s ++ [(q : Int)]))), (sl xk 2 ((d_0 l s q).length) (pairs (d_0 l s q)))]) x Au (s_9 ⟨.inl rfl, .inl rfl, .inl rfl, .inr ⟨3, rfl⟩, .inr ⟨4, rfl⟩, .inr ⟨5, rfl⟩, .inr ⟨6, rfl⟩, .inr ⟨7, rfl⟩, .inr ⟨8, rfl⟩, .inr ⟨9, rfl⟩, .inr ⟨10, rfl⟩, .inr ⟨11, rfl⟩, trivial⟩); clear Au x
  refine s1 Y (b_5 rfl Y.e Y.e) fun Bp g => ?_; clear Y Bo
  refine s1 g (a_0 rfl g.e) fun CN Af => ?_; clear g Bp
  refine n1 (c_6 (b_0 Af (.inl rfl) (a_2 Af rfl (.tmp rfl)) ?_))
  have hh : (h_1 l.length (okS b l) (m + 1) s q) = (h_1 l.length (okS b l) (m + 1) s (q + 1)) := lv_go (by omega) (by assumption)
  rw [hh]
  exact ⟨rfl, _, _, fun h => lv_gof (by omega) (by assumption) (Bj h), Bg.keep [0, 1, 2, 3, 4, 5, 6, 7, 8, 9, 10, 14] (by decide) _ rfl rfl⟩
 skip
 have Ag := W.as [(0, xl), (1, xk), (2, (iv (q : Int))), (3, (iv ((m + 1 : Nat) : Int))), (4, (bptr br 0)), (7, (bptr bs 0))] rfl; clear W
 refine i_7 mixed Ag O 20 [[], [0], [], [1, 2], [], [3, 4], [5], [6], [6], [6], [6, 9], [6], [6], [6, 11, 12], [6, 13], [6, 14], [6, 10, 15], [6], [6, 17], [6]] [(Yd.val xr), (Yd.val (iv (l.length : Int))), (Yd.val (iv (q : Int))), (Yd.val (iv ((l.length : Int) - (q : Int)))), (Yd.val (iv ((m + 1 : Nat) : Int))), (Yd.val (Value.bool false)), (Yd.val (Value.bool false)), (Yd.val undef), (Yd.val undef), (Yd.val undef), (Yd.val undef), (Yd.val undef), (Yd.val undef), (Yd.val undef), (Yd.val undef), (Yd.val undef), (Yd.val undef), (Yd.val undef), (Yd.val undef), (Yd.val undef)] (by decide +kernel) rfl rfl ?_ ?_
 ·skip
  refine dq (fun a w hA hS hd => a_3 rfl y_8 hA.e (hS.rk 4 rfl) rfl) ?_
  refine dq (fun a w hA hS hd => e_8 rfl l_3 (hq hd 0) (hS.sk 10 rfl)) ?_
  refine dq (fun a w hA hS hd => a_1 rfl hA.e) ?_
  refine dq (fun a w hA hS hd => k_5 rfl (hq hd 1) (hq hd 2) (by omega) (by omega)) ?_
  refine dq (fun a w hA hS hd => a_1 rfl hA.e) ?_
  refine ⟨fun a w hA hS hd => by have e3 := hx hd 3; have e4 := hx hd 4; exact e_2 rfl (dv (u_0 rfl (c_1 e3) (c_1 e4)) hS (by show Value.bool _ = _; simp only [decide_eq_false Av, decide_true, decide_false, Bool.not_true, Bool.not_false])), ?_⟩
  refine dq (fun a w hA hS hd => a_1 rfl (hq hd 5)) ?_
  refine dn 6 (dn 6 (dn 6 (dn 6 (dn 6 (dn 6 (dn 6 (dn 6 (dn 6 (dn 6 (dn 6 (dn 6 (dn 6 ?_))))))))))))
  trivial
 intro Bq CW Ah Bh L; clear Ag O
 have Ai := Ah.add (hz L 6); clear Ah
 have Aj := Ai.add (hz L 7); clear Ai
 have Ak := Aj.add (hz L 8); clear Aj
 have Al := Ak.add (hz L 16); clear Ak
 have Am := Al.add (hz L 18); clear Al
 have An := Am.add (hz L 19); clear Am
 clear L
 refine s3 An fun Br j => ?_; clear An Bq
 refine s1 j (e_0 rfl j.e (evc _ _)) fun Bs k => ?_; clear j Br
 refine s1 k (a_0 rfl k.e) fun CO Ao => ?_; clear k Bs
 refine n1 (c_6 (b_0 Ao (.inl rfl) (a_2 Ao rfl (.tmp rfl)) ?_))
 have hh : (h_1 l.length (okS b l) (m + 1) s q) = false := lv_no (by omega) (by assumption) (by omega)
 rw [hh]
 exact ⟨rfl, _, _, (fun h => by cases h), Bh.keep [12, 1, 2, 3, 4, 5, 6, 7, 8, 9, 10, 11] (by decide) _ rfl rfl⟩
theorem leave_ok (b : f_7) (vt vm : Value) (lr lb lk : Nat → Value) (hth : l_4 b) (hb : m_2 b) (bx bm : Nat) (es : Array MapEntry) (ck : Nat) (hMO : o_8 bm es ck (bN b.tabs b.tabs.length)) (l : List (Int × Int)) (hl : t_5 b l) (xr : Value) (bb br A bs : Nat) : ∀ (d m : Nat) (q : Nat) (s : List Int) (xl xk vb : Value) (best : List Int) (w : World) (X : Nat → Prop) (_ : m ≤ d) (_ : q + d = l.length) (_ : r_0 s q) (_ : s.length + m ≤ 1000) (_ : Sep X w w [(row xl 3 1 s.length (ints s)), (blk bb 44 [vb]), (row vb 3 1 best.length (ints best)), (rob bs 134 [(Value.func (.func 73) #[] #[(bptr br 0), (bptr bb 0), (bptr A 0), (bptr bs 0)])]), (rob br 53 [xr]), (rob A 116 [(bptr bx 0)]), (rob bx 146 [(iv b.scales), vt, vm, (Value.map (some bm))]), (mapX false bm es ck es.size 106 5 (bN b.tabs b.tabs.length) (bC lr lb b.tabs b.tabs.length)), (c_0 false vt lr lb b.tabs), (c_3 false vm lk b.macs), (sl xr 2 l.length (pairs l)), (sl xk 2 ((d_0 l s q).length) (pairs (d_0 l s q)))]), Calls Try.prog 73 #[xl, xk, .int .i64 (q : Int), .int .i64 (m : Int), bptr br 0, bptr bb 0, bptr A 0, bptr bs 0] w (Ret fun v w' => v = .bool (h_1 l.length (okS b l) m s q) ∧ ∃ vb' best', ((h_1 l.length (okS b l) m s q) = true → (o_1 l.length m s q).find? (okS b l) = some best') ∧ Sep X w w' [(row xl 3 1 s.length (ints s)), (blk bb 44 [vb']), (row vb' 3 1 best'.length (ints best')), (rob bs 134 [(Value.func (.func 73) #[] #[(bptr br 0), (bptr bb 0), (bptr A 0), (bptr bs 0)])]), (rob br 53 [xr]), (rob A 116 [(bptr bx 0)]), (rob bx 146 [(iv b.scales), vt, vm, (Value.map (some bm))]), (mapX false bm es ck es.size 106 5 (bN b.tabs b.tabs.length) (bC lr lb b.tabs b.tabs.length)), (c_0 false vt lr lb b.tabs), (c_3 false vm lk b.macs), (sl xr 2 l.length (pairs l)), (sl xk 2 ((d_0 l s q).length) (pairs (d_0 l s q)))]) := by
 intro d
 induction d with
 | zero =>
  intro m q s xl xk vb best w X hm hqd hs hsl hJ
  obtain rfl : m = 0 := by omega
  obtain rfl : q = l.length := by omega
  exact leave_zero b vt vm lr lb lk hth hb bx bm es ck hMO l hl xr bb br A bs s xl xk vb best w X hsl hJ
 | succ d ih =>
  intro m q s xl xk vb best w X hm hqd hs hsl hJ
  cases m with
  | zero => exact leave_keep b vt vm lr lb lk hth hb bx bm es ck hMO l hl xr bb br A bs d ih q s xl xk vb best w X hm hqd hs hsl hJ
  | succ m => exact leave_more b vt vm lr lb lk hth hb bx bm es ck hMO l hl xr bb br A bs d ih m q s xl xk vb best w X hm hqd hs hsl hJ
end Go.Proofs.Ytohgladndklciaa

namespace Go.Proofs.Ytohgladndklciaa
open Go.RowKit Go.Shelf Go.Eng Go.Hard
theorem mapX_roS {X : Nat → Prop} {A w : World} {L : List Res} {i : Nat} {bm : Nat} {es : Array MapEntry} {ck q te sz : Nat} {n : Int → Int → Nat} {c : Int → Int → List Value} (h : Sep X A w L) (hi : L[i]? = some (mapX true bm es ck q te sz n c)) : Sep X A w (L.set i (mapX false bm es ck q te sz n c)) := h.say hi (mapX_ro (h.ok i _ hi)) (fun _ hb => hb) (fun e => by cases e)
theorem Doubt_ok (b : f_7) (vt vm : Value) (lr lb lk : Nat → Value) (w : World) (hT : k_1 w vt lr lb b.tabs) (hM : m_3 w vm lk b.macs) (hth : l_4 b) (l : List (Int × Int)) (xl : Value) (hxl : SlAt w xl 2 l.length (pairs l)) (hlb : l.length ≤ 1000000) (hr : k_9 b l = 0) :
  Calls Try.prog 41 #[(Value.agg #[(iv b.scales), vt, vm]), xl] w (Ret fun v w' => ∃ u, v = .tuple #[u, .int .i64 0] ∧ Sep NoB w w' [row u 3 1 (x_4 b l).length (ints (x_4 b l))]) := by
 refine a_7 Try.func41 rfl fun a0 a => ?_
 replace a : Fr 32 [] [(0, (Value.agg #[(iv b.scales), vt, vm])), (1, xl)] a0 := a
 have hc : e_9 b = 0 := read_check hr; have hbl := read_ok hr; have hb := hbl.1; have hl := hbl.2; have hll := hl.len; have hsc := hb.scales
 have Ak : Sep NoB w w [(c_0 false vt lr lb b.tabs), (c_3 false vm lk b.macs), (sl xl 2 l.length (pairs l))] := f_0 ⟨rfl, hT, rfl, hM, rfl, hxl, trivial⟩
 refine m2 (s2 a (f_3 Ak rfl a.e (cs := [(iv b.scales), vt, vm]) rfl) ?_)
 rintro a1 _ w3 ⟨b4, rfl, AR⟩ AG; clear a Ak a0
 refine s2 AG (f_3 AR rfl AG.e (cs := [xl]) (isSl_cells (SlAt.isSl (AR.sk 3 rfl)))) ?_
 rintro a6 _ w8 ⟨I, rfl, J⟩ Aj; clear AG AR a1
 refine s1 Aj (a_0 rfl (evc _ _)) fun As AF => ?_; clear Aj a6
 refine s1 AF (a_0 rfl (evc _ _)) fun At c => ?_; clear AF As
 refine n4 (s1 c (b_9 rfl n_6 (c.ev rfl) (J.bk 1 rfl) (l := [(iv b.scales), vt, vm]) rfl rfl) fun Au d => ?_); clear c At
 refine s1 d (a_3 rfl y_8 d.e (J.bk 0 rfl) rfl) fun Av R => ?_; clear d Au
 refine s2 R (a_8 rfl en_56 (ev2 R.e R.e) (read_yes b vt vm lr lb lk _ (c_5 (J.ok 2 _ rfl)) (d_1 (J.ok 3 _ rfl)) hth l _ (J.sk 4 rfl) (by omega) hc hr)) ?_
 rintro Aw _ BO ⟨bx24, bm25, es26, ck27, rfl, hMO28, Ac⟩ f; have AN := J.n_2 Ac rfl; clear Ac R J Av
 refine s1 f (a_1 rfl f.e) fun Ax g => ?_; clear f Aw
 refine s1 g (b_2 rfl g.e rfl) fun Ay h => ?_; clear g Ax
 refine s1 h (b_2 rfl h.e rfl) fun Az AH => ?_; clear h Ay
 refine s2 AH (d_2 AN rfl ze_116 (cs := [(Value.pointer none)]) rfl) ?_
 rintro A0 _ BP ⟨E, rfl, AO⟩ S; clear AH AN Az
 refine s7 S (b_4 AO rfl ty_116 S.e S.e (i := 0) rfl (vs := [(bptr bx24 0)]) rfl rfl rfl (Nat.le_of_ble_eq_true rfl)) ?_
 intro _ BG AP j; clear S
 have AQ : Sep NoB w BG [(blk E 116 [(bptr bx24 0)]), (blk bx24 146 [(iv b.scales), vt, vm, (Value.map (some bm25))]), (mapX true bm25 es26 ck27 es26.size 106 5 (bN b.tabs b.tabs.length) (bC lr lb b.tabs b.tabs.length)), (blk I 53 [xl]), (blk b4 37 [(iv b.scales), vt, vm]), (c_0 false vt lr lb b.tabs), (c_3 false vm lk b.macs), (sl xl 2 l.length (pairs l))] := AP; clear AP AO
 refine s1 j (a_0 rfl j.e) fun A1 AI => ?_; clear j A0
 refine n2 (d_3 ?_)
 have m := AI.as [(7, (iv 0)), (6, (bptr E 0)), (3, (bptr I 0))] rfl; clear AI
 refine a_5 (s1 m (a_1 rfl m.e) fun A2 n => ?_); clear m A1
 refine s1 n (o_5 rfl n.e (evc _ _)) fun A3 o => ?_; clear n A2
 refine n1 (b_8 o rfl (e_1 (b_3 (m2 (s2 o (d_2 AQ rfl ze_44 (cs := [(Value.slice none 0 0)]) rfl) ?_)))))
 rintro A4 _ BQ ⟨C, rfl, AS⟩ AJ; clear o AQ A3
 refine n4 (s2 AJ (d_2 AS rfl ze_134 (cs := [Value.nilFunc]) rfl) ?_)
 rintro A5 _ BR ⟨D, rfl, AT⟩ K; clear AJ AS A4
 refine n4 (s1 K (f_9 rfl ev0 (ev4 K.e K.e K.e K.e)) fun A6 T => ?_); clear K A5
 refine s7 T (b_4 AT rfl ty_134 T.e T.e (i := 0) rfl (vs := [(Value.func (.func 73) #[] #[(bptr I 0), (bptr C 0), (bptr E 0), (bptr D 0)])]) rfl rfl rfl (Nat.le_of_ble_eq_true rfl)) ?_
 intro _ BH AU p; clear T
 have X : Sep NoB w BH [(blk D 134 [(Value.func (.func 73) #[] #[(bptr I 0), (bptr C 0), (bptr E 0), (bptr D 0)])]), (blk C 44 [(Value.slice none 0 0)]), (blk E 116 [(bptr bx24 0)]), (blk bx24 146 [(iv b.scales), vt, vm, (Value.map (some bm25))]), (mapX true bm25 es26 ck27 es26.size 106 5 (bN b.tabs b.tabs.length) (bC lr lb b.tabs b.tabs.length)), (blk I 53 [xl]), (blk b4 37 [(iv b.scales), vt, vm]), (c_0 false vt lr lb b.tabs), (c_3 false vm lk b.macs), (sl xl 2 l.length (pairs l))] := AU; clear AU AT
 refine n2 (m2 (s1 p (a_3 rfl y_8 p.e (X.bk 5 rfl) rfl) fun A7 q => ?_)); clear p A6
 refine s1 q (e_8 rfl l_3 q.e (X.sk 9 rfl)) fun A8 r => ?_; clear q A7
 refine s1 r (g_9 rfl r.e (evc _ _) (by omega) (by omega)) fun A9 AK => ?_; clear r A8
 refine s1 AK (a_1 rfl (evc _ _)) fun BA AL => ?_; clear AK A9
 refine n1 (e_3 ?_)
 have AV := X.to_ro (i := 5) rfl; clear X
 have AW := AV.to_ro (i := 2) rfl; clear AV
 have AX := AW.to_ro (i := 0) rfl; clear AW
 have AY := AX.to_ro (i := 3) rfl; clear AX
 have AZ := mapX_roS (i := 4) AY rfl; clear AY
 have Aa := sep_row_sl (AZ.nil_row 98 2) (i := 0) rfl; clear AZ
 have Ab := Aa.nil_row 3 1; clear Aa
 have AM := AL.as [(24, (iv 0)), (23, (iv ((l.length : Int) + 1))), (9, (bptr D 0)), (8, (bptr C 0))] rfl; clear AL
 refine k_4 (G := Nat) (fun (k : Nat) a_ w_ => ∃ vb_ : Value, ∃ best_ : List Int, Fr 32 [] [(24, (iv (k : Int))), (23, (iv ((l.length : Int) + 1))), (9, (bptr D 0)), (8, (bptr C 0))] a_ ∧ Sep NoB w w_ [(row vb_ 3 1 best_.length (ints best_)), (sl (Value.slice none 0 0) 2 0 []), (rob D 134 [(Value.func (.func 73) #[] #[(bptr I 0), (bptr C 0), (bptr E 0), (bptr D 0)])]), (blk C 44 [vb_]), (rob E 116 [(bptr bx24 0)]), (rob bx24 146 [(iv b.scales), vt, vm, (Value.map (some bm25))]), (mapX false bm25 es26 ck27 es26.size 106 5 (bN b.tabs b.tabs.length) (bC lr lb b.tabs b.tabs.length)), (rob I 53 [xl]), (blk b4 37 [(iv b.scales), vt, vm]), (c_0 false vt lr lb b.tabs), (c_3 false vm lk b.macs), (sl xl 2 l.length (pairs l))] ∧ (k ≤ l.length + 1) ∧ ((s_5 l.length k).any (okS b l) = false)) (fun k => l.length + 1 - k) 0 ⟨(Value.slice none 0 0), [], AM.as _ rfl, Ab, by omega, rfl⟩ ?_
 clear AM Ab BA
 rintro k BB BS ⟨vb_, best_, U, Y, BN, hno⟩
 refine m2 (s1 U (h_8 rfl U.e U.e) fun Ah F => ?_); clear U BB
 refine n2 ?_
 by_cases Ad : (k : Int) < ((l.length : Int) + 1)
 ·skip
  rw [decide_eq_true Ad] at F
  refine d_6 F rfl (e_1 (b_3 (d_3 (e_3 (m2 (s1 F (a_1 rfl F.e) fun BC s => ?_)))))); clear F Ah
  refine s1 s (a_0 rfl s.e) fun BD t => ?_; clear s BC
  refine n4 (s1 t (a_3 rfl ty_134 t.e (Y.rk 2 rfl) rfl) fun BE x => ?_); clear t BD
  refine s1 x (a_1 rfl x.e) fun BF V => ?_; clear x BE
  have AC := Y.nil_row 3 1; clear Y
  have W := AC.gkp (gpc 0 (gpc 4 (gpc 1 (gpc 3 (gpc 8 (gpc 5 (gpc 6 (gpc 7 (gpc 10 (gpc 11 (gpc 12 (gpc 2 (gpc 9 gpn))))))))))))); clear AC
  refine s2 V (h_0 rfl (V.ev rfl) en_73 (ev4 (evc _ _) (evc _ _) (evc _ _) V.e) (leave_ok b vt vm lr lb lk hth hb bx24 bm25 es26 ck27 hMO28 l hl xl C I E D l.length k 0 [] _ _ _ _ _ (ownX [(row (Value.slice none 0 0) 3 1 0 []), (blk C 44 [vb_]), (row vb_ 3 1 best_.length (ints best_)), (rob D 134 [(Value.func (.func 73) #[] #[(bptr I 0), (bptr C 0), (bptr E 0), (bptr D 0)])]), (rob I 53 [xl]), (rob E 116 [(bptr bx24 0)]), (rob bx24 146 [(iv b.scales), vt, vm, (Value.map (some bm25))]), (mapX false bm25 es26 ck27 es26.size 106 5 (bN b.tabs b.tabs.length) (bC lr lb b.tabs b.tabs.length)), (c_0 false vt lr lb b.tabs), (c_3 false vm lk b.macs), (sl xl 2 l.length (pairs l)), (sl (Value.slice none 0 0) 2 0 [])]) (by omega) (by omega) r_0.nil (by simp only [List.length_nil]; omega) (Sep.enterG (A := [(row (Value.slice none 0 0) 3 1 0 []), (blk C 44 [vb_]), (row vb_ 3 1 best_.length (ints best_)), (rob D 134 [(Value.func (.func 73) #[] #[(bptr I 0), (bptr C 0), (bptr E 0), (bptr D 0)])]), (rob I 53 [xl]), (rob E 116 [(bptr bx24 0)]), (rob bx24 146 [(iv b.scales), vt, vm, (Value.map (some bm25))]), (mapX false bm25 es26 ck27 es26.size 106 5 (bN b.tabs b.tabs.length) (bC lr lb b.tabs b.tabs.length)), (c_0 false vt lr lb b.tabs), (c_3 false vm lk b.macs), (sl xl 2 l.length (pairs l)), (sl (Value.slice none 0 0) 2 0 [])]) (B := [(blk b4 37 [(iv b.scales), vt, vm])]) W))) ?_
  rintro Ai _ Aq ⟨rfl, vb104, best105, Ag, AD⟩ H; clear V BF
  have L : Sep NoB w Aq [(row (Value.slice none 0 0) 3 1 0 []), (blk C 44 [vb104]), (row vb104 3 1 best105.length (ints best105)), (rob D 134 [(Value.func (.func 73) #[] #[(bptr I 0), (bptr C 0), (bptr E 0), (bptr D 0)])]), (rob I 53 [xl]), (rob E 116 [(bptr bx24 0)]), (rob bx24 146 [(iv b.scales), vt, vm, (Value.map (some bm25))]), (mapX false bm25 es26 ck27 es26.size 106 5 (bN b.tabs b.tabs.length) (bC lr lb b.tabs b.tabs.length)), (c_0 false vt lr lb b.tabs), (c_3 false vm lk b.macs), (sl xl 2 l.length (pairs l)), (sl (Value.slice none 0 0) 2 0 []), (blk b4 37 [(iv b.scales), vt, vm])] := Sep.callG (A := [(row (Value.slice none 0 0) 3 1 0 []), (blk C 44 [vb_]), (row vb_ 3 1 best_.length (ints best_)), (rob D 134 [(Value.func (.func 73) #[] #[(bptr I 0), (bptr C 0), (bptr E 0), (bptr D 0)])]), (rob I 53 [xl]), (rob E 116 [(bptr bx24 0)]), (rob bx24 146 [(iv b.scales), vt, vm, (Value.map (some bm25))]), (mapX false bm25 es26 ck27 es26.size 106 5 (bN b.tabs b.tabs.length) (bC lr lb b.tabs b.tabs.length)), (c_0 false vt lr lb b.tabs), (c_3 false vm lk b.macs), (sl xl 2 l.length (pairs l)), (sl (Value.slice none 0 0) 2 0 [])]) (B := [(blk b4 37 [(iv b.scales), vt, vm])]) W AD (s_9 ⟨.inl rfl, .inl rfl, .inl rfl, .inr ⟨3, rfl⟩, .inr ⟨4, rfl⟩, .inr ⟨5, rfl⟩, .inr ⟨6, rfl⟩, .inr ⟨7, rfl⟩, .inr ⟨8, rfl⟩, .inr ⟨9, rfl⟩, .inr ⟨10, rfl⟩, .inr ⟨11, rfl⟩, trivial⟩); clear AD W
  refine n1 ?_
  rcases Bool.eq_false_or_eq_true ((h_1 l.length (okS b l) k [] 0)) with Z | Z
  ·skip
   rw [Z] at H
   refine d_6 H rfl (j_7 (blk_miss (by decide) (b_7 (b_7 (h_6 (b_3 (d_3 ?_)))))))
   have M := H.as [(8, (bptr C 0))] rfl; clear H
   refine a_5 (s1 M (a_3 rfl y_4 M.e (L.bk 1 rfl) rfl) fun Al N => ?_); clear M Ai
   refine s1 N (a_0 rfl N.e) fun Am y => ?_; clear N Al
   refine s1 y (a_0 rfl (evc _ _)) fun BJ z => ?_; clear y Am
   refine n1 (c_6 (b_0 z (.inl rfl) (c_4 z rfl (.tmp rfl) (.tmp rfl)) ?_))
   rw [doubt_found (by omega) hno (Ag (by assumption))]
   exact ⟨_, rfl, L.keep [2] (by decide) _ rfl rfl⟩
  skip
  rw [Z] at H
  refine b_8 H rfl (e_1 (k_7 (b_3 ?_)))
  have O := H.as [(24, (iv (k : Int))), (23, (iv ((l.length : Int) + 1))), (9, (bptr D 0)), (8, (bptr C 0))] rfl; clear H
  refine a_5 (s1 O (g_9 rfl O.e (evc _ _) (by omega) (by omega)) fun An P => ?_); clear O Ai
  refine s1 P (a_1 rfl P.e) fun BK Ae => ?_; clear P An
  refine g_6 ?_
  have Af := L.gkp (gpc 2 (gpc 11 (gpc 3 (gpc 1 (gpc 5 (gpc 6 (gpc 7 (gpc 4 (gpc 12 (gpc 8 (gpc 9 (gpc 10 gpn)))))))))))); clear L
  exact b_3 ⟨k + 1, ⟨vb104, best105, Ae.as _ rfl, Af, by omega, all_go hno (by assumption)⟩, by omega⟩
 skip
 rw [decide_eq_false Ad] at F
 refine b_8 F rfl (j_7 (b_7 (b_7 (h_6 (b_3 (m2 (s1 F (a_3 rfl y_4 F.e (Y.bk 3 rfl) rfl) fun Ao Q => ?_))))))); clear F Ah
 refine s1 Q (a_0 rfl Q.e) fun Ap AA => ?_; clear Q Ao
 refine s1 AA (a_0 rfl (evc _ _)) fun BL AB => ?_; clear AA Ap
 exact n1 (c_6 (b_0 AB (.inl rfl) (c_4 AB rfl (.tmp rfl) (.tmp rfl)) ((all_not hb (by omega) hno).elim)))
end Go.Proofs.Ytohgladndklciaa

namespace Go.Proofs.Ytohgladndklciaa
open Go.RowKit Go.Shelf Go.Eng Go.Hard
theorem fitclo_ok (t : TabD) (vr vb : Value) (w : World) (hr : SlAt w vr 2 t.rows.length (pairs t.rows)) (hb : SlAt w vb 1 t.brk.length (ints t.brk)) (hrl : t.rows.length ≤ 1000000) (hbl : t.brk.length ≤ 1000000) (n : Int) (hV : TabV n t) (bz : Nat) (z : List Int) (xz : Value) (gz : (blk bz 44 [xz]).p w) (hxz : SlAt w xz 1 z.length (ints z)) (hzn : (z.length : Int) = n) :
  Calls Try.prog 71 #[(Value.agg #[(iv t.frm), (iv t.dst), vr, vb, (iv t.err)]), (bptr bz 0)] w (Ret fun v w' => v = .bool (s_8 z t) ∧ Ext NoB w w') := by
 refine a_7 Try.func71 rfl fun a0 Z => ?_
 replace Z : Fr 36 [] [(0, (Value.agg #[(iv t.frm), (iv t.dst), vr, vb, (iv t.err)])), (1, (bptr bz 0))] a0 := Z
 have hfd := hV.frm; have hdd := hV.dst; have hed := hV.err; have hmd := madeV_bd hV (z.getD t.frm.toNat 0)
 have An : Sep NoB w w [(rob bz 44 [xz]), (sl vr 2 t.rows.length (pairs t.rows)), (sl vb 1 t.brk.length (ints t.brk)), (sl xz 1 z.length (ints z))] := f_0 ⟨rfl, gz, rfl, hr, rfl, hb, rfl, hxz, trivial⟩
 refine m2 (s2 Z (f_3 An rfl Z.e (cs := [(iv t.frm), (iv t.dst), vr, vb, (iv t.err)]) rfl) ?_)
 rintro a1 _ w3 ⟨C, rfl, Af⟩ Al; clear Z An a0
 refine s1 Al (a_0 rfl (evc _ _)) fun a6 Am => ?_; clear Al a1
 refine n2 ?_
 have AW := Am.as [(2, (bptr C 0)), (1, (bptr bz 0))] rfl; clear Am
 refine c_drawF mixed AW Af 11 9 rfl rfl [[], [], [], [2], [1, 3], [4], [0, 5], [6], [7], [7], []] [(yw (Value.agg #[(iv t.frm), (iv t.dst), vr, vb, (iv t.err)])), (yw xz), (yw (bptr C 0)), (yw (iv t.frm)), (yw (eptr xz (t.frm.toNat * 1))), (yw (iv (z.getD t.frm.toNat 0))), (yw (Value.tuple #[(Value.agg #[(iv ((d_8 t (z.getD t.frm.toNat 0)).1)), (iv ((d_8 t (z.getD t.frm.toNat 0)).2))]), (Value.bool ((l_5 t (z.getD t.frm.toNat 0)).isSome))])), (yw (Value.tuple #[(Value.agg #[(iv ((d_8 t (z.getD t.frm.toNat 0)).1)), (iv ((d_8 t (z.getD t.frm.toNat 0)).2))]), (Value.bool ((l_5 t (z.getD t.frm.toNat 0)).isSome))])), (yw (Value.agg #[(iv ((d_8 t (z.getD t.frm.toNat 0)).1)), (iv ((d_8 t (z.getD t.frm.toNat 0)).2))])), (yw (Value.bool ((l_5 t (z.getD t.frm.toNat 0)).isSome))), (fun (D : Nat → Value) (v_ : Value) (rs_ : List Res) => ∃ (b10_ : Nat), v_ = (bptr b10_ 0) ∧ rs_ = [(blk b10_ 30 [(iv 0), (iv 0)])])] (by decide +kernel) (by decide +kernel) (by decide +kernel) rfl rfl ⟨dw, dw, dw, dw, dw, dw, dw, dw, dw, dw, (fun _ _ _ _ _ h_ => h_), trivial⟩ ?_ ?_ ?_
 ·skip
  refine ⟨fun a w D hA hS hd => gv1 (b_9 rfl j_5 (hA.ev rfl) (hS.bk 0 rfl) (l := [(iv t.frm), (iv t.dst), vr, vb, (iv t.err)]) rfl rfl), ?_⟩
  refine ⟨fun a w D hA hS hd => gv1 (a_3 rfl y_4 hA.e (hS.rk 1 rfl) rfl), ?_⟩
  refine ⟨fun a w D hA hS hd => gv1 (a_4 rfl fd_106_0 hA.e), ?_⟩
  refine ⟨fun a w D hA hS hd => gv1 (a_3 rfl ty_3 (gu hd 2) (hS.bk 0 rfl) rfl), ?_⟩
  refine ⟨fun a w D hA hS hd => gv1 (b_6 rfl j_6 ty_3 (gu hd 1) (i := t.frm.toNat) ((gu hd 3).trans (m_7 (by omega))) (hS.sk 4 rfl) (by decide) (by omega)), ?_⟩
  refine ⟨fun a w D hA hS hd => gv1 (g_2 rfl ty_3 (gu hd 4) (hS.sk 4 rfl) (ints_at (by omega))), ?_⟩
  refine ⟨fun a w D hA hS hd => gx1 (a_8 rfl en_72 (ev2 (gu hd 0) (gu hd 5)) (around_ok t _ _ _ (hS.sk 2 rfl) (hS.sk 3 rfl) (by omega) (by omega) _ hV (z.getD t.frm.toNat 0))), ?_⟩
  refine ⟨fun a w D hA hS hd => gv1 (a_1 rfl (gu hd 6)), ?_⟩
  refine ⟨fun a w D hA hS hd => gv1 (b_2 rfl (gu hd 7) rfl), ?_⟩
  refine ⟨fun a w D hA hS hd => gv1 (b_2 rfl (gu hd 7) rfl), ?_⟩
  refine ⟨fun a w D hA hS hd => e_2 rfl (valloc rfl t_7 (cs := [(iv 0), (iv 0)]) rfl (fun b_ => ⟨b_, rfl, rfl⟩)), ?_⟩
  trivial
 ·skip
  intro Aj A5 D rsf15 AC A j; clear AW Af
  obtain ⟨E, Y⟩ := A 10 (by decide)
  obtain ⟨b10_, H, G⟩ := Y
  have Ad : Sep NoB w A5 [(blk b10_ 30 [(iv 0), (iv 0)]), (blk C 106 [(iv t.frm), (iv t.dst), vr, vb, (iv t.err)]), (rob bz 44 [xz]), (sl vr 2 t.rows.length (pairs t.rows)), (sl vb 1 t.brk.length (ints t.brk)), (sl xz 1 z.length (ints z))] := by rw [show catR rsf15 0 11 = ([(blk b10_ 30 [(iv 0), (iv 0)])] : List Res) by (try simp only [catR, gr (A 0 (by decide)), gr (A 1 (by decide)), gr (A 2 (by decide)), gr (A 3 (by decide)), gr (A 4 (by decide)), gr (A 5 (by decide)), gr (A 6 (by decide)), gr (A 7 (by decide)), gr (A 8 (by decide)), gr (A 9 (by decide)), G]); (try rfl)] at j; exact j
  have AD := AC.add (gs (A 8 (by decide))); clear AC
  have AE := AD.add (gs (A 9 (by decide))); clear AD
  rw [H] at E
  have S : Fr 36 [] [(4, (bptr b10_ 0)), (15, (Value.bool ((l_5 t (z.getD t.frm.toNat 0)).isSome))), (14, (Value.agg #[(iv ((d_8 t (z.getD t.frm.toNat 0)).1)), (iv ((d_8 t (z.getD t.frm.toNat 0)).2))])), (2, (bptr C 0)), (1, (bptr bz 0))] Aj := AE.add (f_4 E rfl); clear AE
  clear A j E
  clear G
  clear H
  refine s7 S (b_4 Ad rfl f_1 S.e S.e (i := 0) rfl (vs := [(iv ((d_8 t (z.getD t.frm.toNat 0)).1)), (iv ((d_8 t (z.getD t.frm.toNat 0)).2))]) rfl rfl rfl (Nat.le_of_ble_eq_true rfl)) ?_
  intro _ A6 Ae b; clear S
  have W : Sep NoB w A6 [(blk b10_ 30 [(iv ((d_8 t (z.getD t.frm.toNat 0)).1)), (iv ((d_8 t (z.getD t.frm.toNat 0)).2))]), (blk C 106 [(iv t.frm), (iv t.dst), vr, vb, (iv t.err)]), (rob bz 44 [xz]), (sl vr 2 t.rows.length (pairs t.rows)), (sl vb 1 t.brk.length (ints t.brk)), (sl xz 1 z.length (ints z))] := Ae; clear Ae Ad
  refine s1 b (a_0 rfl b.e) fun BD AF => ?_; clear b Aj
  refine n2 ?_
  have I := AF.as [(5, (Value.bool ((l_5 t (z.getD t.frm.toNat 0)).isSome))), (4, (bptr b10_ 0)), (2, (bptr C 0)), (1, (bptr bz 0))] rfl; clear AF
  rcases Bool.eq_false_or_eq_true (((l_5 t (z.getD t.frm.toNat 0)).isSome)) with m | m
  ·skip
   rw [m] at I
   have AG := I.as [(5, (Value.bool true)), (4, (bptr b10_ 0)), (2, (bptr C 0)), (1, (bptr bz 0))] rfl; clear I
   refine i_7 mixed AG W 18 [[], [0], [1], [2], [2], [2, 4], [2, 3, 5], [2, 6], [2], [2, 8], [2], [2, 10], [2, 9, 11], [2], [2, 13], [2], [2, 15], [2, 14, 16]] [(Yd.val (Value.bool true)), (Yd.val (Value.bool (!true))), (Yd.val (Value.bool (!true))), (Yd.val xz), (Yd.val (bptr C 1)), (Yd.val (iv t.dst)), (Yd.val (eptr xz (t.dst.toNat * 1))), (Yd.val (iv (z.getD t.dst.toNat 0))), (Yd.val (bptr b10_ 0)), (Yd.val (iv ((d_8 t (z.getD t.frm.toNat 0)).1))), (Yd.val (bptr C 4)), (Yd.val (iv t.err)), (Yd.val (iv (((d_8 t (z.getD t.frm.toNat 0)).1) - t.err))), (Yd.val (bptr b10_ 1)), (Yd.val (iv ((d_8 t (z.getD t.frm.toNat 0)).2))), (Yd.val (bptr C 4)), (Yd.val (iv t.err)), (Yd.val (iv (((d_8 t (z.getD t.frm.toNat 0)).2) + t.err)))] (by decide +kernel) rfl rfl ?_ ?_
   ·skip
    refine dq (fun a w hA hS hd => a_1 rfl hA.e) ?_
    refine dq (fun a w hA hS hd => g_0 rfl (hq hd 0)) ?_
    refine dq (fun a w hA hS hd => a_1 rfl (hq hd 1)) ?_
    refine dy 2 (fun a w hA hS hd => a_3 rfl y_4 hA.e (hS.rk 2 rfl) rfl) ?_
    refine dy 2 (fun a w hA hS hd => a_4 rfl fd_106_1 hA.e) ?_
    refine dy 2 (fun a w hA hS hd => a_3 rfl ty_3 (hq hd 4) (hS.bk 1 rfl) rfl) ?_
    refine dy 2 (fun a w hA hS hd => b_6 rfl j_6 ty_3 (hq hd 3) (i := t.dst.toNat) ((hq hd 5).trans (m_7 (by omega))) (hS.sk 5 rfl) (by decide) (by omega)) ?_
    refine dy 2 (fun a w hA hS hd => g_2 rfl ty_3 (hq hd 6) (hS.sk 5 rfl) (ints_at (by omega))) ?_
    refine dy 2 (fun a w hA hS hd => a_4 rfl n_3 hA.e) ?_
    refine dy 2 (fun a w hA hS hd => a_3 rfl ty_3 (hq hd 8) (hS.bk 0 rfl) rfl) ?_
    refine dy 2 (fun a w hA hS hd => a_4 rfl w_1 hA.e) ?_
    refine dy 2 (fun a w hA hS hd => a_3 rfl ty_3 (hq hd 10) (hS.bk 1 rfl) rfl) ?_
    refine dy 2 (fun a w hA hS hd => k_5 rfl (hq hd 9) (hq hd 11) (by omega) (by omega)) ?_
    refine dy 2 (fun a w hA hS hd => a_4 rfl n_4 hA.e) ?_
    refine dy 2 (fun a w hA hS hd => a_3 rfl ty_3 (hq hd 13) (hS.bk 0 rfl) rfl) ?_
    refine dy 2 (fun a w hA hS hd => a_4 rfl w_1 hA.e) ?_
    refine dy 2 (fun a w hA hS hd => a_3 rfl ty_3 (hq hd 15) (hS.bk 1 rfl) rfl) ?_
    refine dy 2 (fun a w hA hS hd => g_9 rfl (hq hd 14) (hq hd 16) (by omega) (by omega)) ?_
    trivial
   intro Av BH AH Ar M; clear AG W
   have AI := AH.add (hz M 2); clear AH
   have AJ := AI.add (hz M 7); clear AI
   have AK := AJ.add (hz M 12); clear AJ
   have K := AK.add (hz M 17); clear AK
   clear M
   refine s6 K (a_8 rfl y_5 (ev3 K.e K.e K.e) (k_6 _ _ _ _)) ?_
   rintro Aw _ W_ ⟨rfl, hW_⟩ T; have hW2_ := hW_.symm; subst hW2_; clear hW_ K Av
   refine s1 T (e_0 rfl T.e T.e) fun Ax c => ?_; clear T Aw
   refine s1 c (a_0 rfl c.e) fun BE AL => ?_; clear c Ax
   exact n1 (c_6 (b_0 AL (.inl rfl) (a_2 AL rfl (.tmp rfl)) (⟨congrArg Value.bool (Eq.symm (fitT_some (by assumption))), Ar.ext⟩)))
  skip
  rw [m] at I
  have AM := I.as [(5, (Value.bool false)), (4, (bptr b10_ 0)), (2, (bptr C 0)), (1, (bptr bz 0))] rfl; clear I
  refine i_7 mixed AM W 18 [[], [0], [1], [2], [2], [2, 4], [2, 3, 5], [2, 6], [2], [2, 8], [2], [2, 10], [2, 9, 11], [2], [2, 13], [2], [2, 15], [2, 14, 16]] [(Yd.val (Value.bool false)), (Yd.val (Value.bool (!false))), (Yd.val (Value.bool (!false))), (Yd.val undef), (Yd.val undef), (Yd.val undef), (Yd.val undef), (Yd.val undef), (Yd.val undef), (Yd.val undef), (Yd.val undef), (Yd.val undef), (Yd.val undef), (Yd.val undef), (Yd.val undef), (Yd.val undef), (Yd.val undef), (Yd.val undef)] (by decide +kernel) rfl rfl ?_ ?_
  ·skip
   refine dq (fun a w hA hS hd => a_1 rfl hA.e) ?_
   refine dq (fun a w hA hS hd => g_0 rfl (hq hd 0)) ?_
   refine dq (fun a w hA hS hd => a_1 rfl (hq hd 1)) ?_
   refine dn 2 (dn 2 (dn 2 (dn 2 (dn 2 (dn 2 (dn 2 (dn 2 (dn 2 (dn 2 (dn 2 (dn 2 (dn 2 ?_))))))))))))
   refine dn 2 (dn 2 ?_)
   trivial
  intro Ay BI AN As N; clear AM W
  have AO := AN.add (hz N 2); clear AN
  have AP := AO.add (hz N 7); clear AO
  have AQ := AP.add (hz N 12); clear AP
  have AR := AQ.add (hz N 17); clear AQ
  clear N
  refine s3 AR fun Az d => ?_; clear AR Ay
  refine s1 d (b_5 rfl d.e (evc _ _)) fun A0 f => ?_; clear d Az
  refine s1 f (a_0 rfl f.e) fun BF AS => ?_; clear f A0
  exact n1 (c_6 (b_0 AS (.inl rfl) (a_2 AS rfl (.tmp rfl)) (⟨congrArg Value.bool (Eq.symm (fitT_none (by assumption))), As.ext⟩)))
 skip
 intro Ak A7 D rsf69 AT B hrq k; clear AW Af
 obtain ⟨E, Y⟩ := B 10 (by decide) (by decide)
 obtain ⟨b10_, H, G⟩ := Y
 have Ag : Sep NoB w A7 [(blk b10_ 30 [(iv 0), (iv 0)]), (blk C 106 [(iv t.frm), (iv t.dst), vr, vb, (iv t.err)]), (rob bz 44 [xz]), (sl vr 2 t.rows.length (pairs t.rows)), (sl vb 1 t.brk.length (ints t.brk)), (sl xz 1 z.length (ints z))] := by rw [show catR rsf69 0 11 = ([(blk b10_ 30 [(iv 0), (iv 0)])] : List Res) by (try simp only [catR, gr (B 0 (by decide) (by decide)), gr (B 1 (by decide) (by decide)), gr (B 2 (by decide) (by decide)), gr (B 3 (by decide) (by decide)), gr (B 4 (by decide) (by decide)), gr (B 5 (by decide) (by decide)), gr (B 6 (by decide) (by decide)), gr (B 7 (by decide) (by decide)), gr (B 8 (by decide) (by decide)), G, hrq]); (try rfl)] at k; exact k
 have AU := AT.add (gs (B 7 (by decide) (by decide))); clear AT
 have AV := AU.add (gs (B 8 (by decide) (by decide))); clear AU
 rw [H] at E
 have U : Fr 36 [] [(4, (bptr b10_ 0)), (14, (Value.agg #[(iv ((d_8 t (z.getD t.frm.toNat 0)).1)), (iv ((d_8 t (z.getD t.frm.toNat 0)).2))])), (6, (Value.tuple #[(Value.agg #[(iv ((d_8 t (z.getD t.frm.toNat 0)).1)), (iv ((d_8 t (z.getD t.frm.toNat 0)).2))]), (Value.bool ((l_5 t (z.getD t.frm.toNat 0)).isSome))])), (2, (bptr C 0)), (1, (bptr bz 0))] Ak := AV.add (f_4 E rfl); clear AV
 clear B k E hrq
 clear G
 clear H
 refine s7 U (b_4 Ag rfl f_1 U.e U.e (i := 0) rfl (vs := [(iv ((d_8 t (z.getD t.frm.toNat 0)).1)), (iv ((d_8 t (z.getD t.frm.toNat 0)).2))]) rfl rfl rfl (Nat.le_of_ble_eq_true rfl)) ?_
 intro _ A8 Ah g; clear U
 have X : Sep NoB w A8 [(blk b10_ 30 [(iv ((d_8 t (z.getD t.frm.toNat 0)).1)), (iv ((d_8 t (z.getD t.frm.toNat 0)).2))]), (blk C 106 [(iv t.frm), (iv t.dst), vr, vb, (iv t.err)]), (rob bz 44 [xz]), (sl vr 2 t.rows.length (pairs t.rows)), (sl vb 1 t.brk.length (ints t.brk)), (sl xz 1 z.length (ints z))] := Ah; clear Ah Ag
 refine s1 g (b_2 rfl g.e rfl) fun A1 h => ?_; clear g Ak
 refine s1 h (a_0 rfl h.e) fun BG AX => ?_; clear h A1
 refine n2 ?_
 have J := AX.as [(5, (Value.bool ((l_5 t (z.getD t.frm.toNat 0)).isSome))), (4, (bptr b10_ 0)), (2, (bptr C 0)), (1, (bptr bz 0))] rfl; clear AX
 rcases Bool.eq_false_or_eq_true (((l_5 t (z.getD t.frm.toNat 0)).isSome)) with o | o
 ·skip
  rw [o] at J
  have AY := J.as [(5, (Value.bool true)), (4, (bptr b10_ 0)), (2, (bptr C 0)), (1, (bptr bz 0))] rfl; clear J
  refine i_7 mixed AY X 18 [[], [0], [1], [2], [2], [2, 4], [2, 3, 5], [2, 6], [2], [2, 8], [2], [2, 10], [2, 9, 11], [2], [2, 13], [2], [2, 15], [2, 14, 16]] [(Yd.val (Value.bool true)), (Yd.val (Value.bool (!true))), (Yd.val (Value.bool (!true))), (Yd.val xz), (Yd.val (bptr C 1)), (Yd.val (iv t.dst)), (Yd.val (eptr xz (t.dst.toNat * 1))), (Yd.val (iv (z.getD t.dst.toNat 0))), (Yd.val (bptr b10_ 0)), (Yd.val (iv ((d_8 t (z.getD t.frm.toNat 0)).1))), (Yd.val (bptr C 4)), (Yd.val (iv t.err)), (Yd.val (iv (((d_8 t (z.getD t.frm.toNat 0)).1) - t.err))), (Yd.val (bptr b10_ 1)), (Yd.val (iv ((d_8 t (z.getD t.frm.toNat 0)).2))), (Yd.val (bptr C 4)), (Yd.val (iv t.err)), (Yd.val (iv (((d_8 t (z.getD t.frm.toNat 0)).2) + t.err)))] (by decide +kernel) rfl rfl ?_ ?_
  ·skip
   refine dq (fun a w hA hS hd => a_1 rfl hA.e) ?_
   refine dq (fun a w hA hS hd => g_0 rfl (hq hd 0)) ?_
   refine dq (fun a w hA hS hd => a_1 rfl (hq hd 1)) ?_
   refine dy 2 (fun a w hA hS hd => a_3 rfl y_4 hA.e (hS.rk 2 rfl) rfl) ?_
   refine dy 2 (fun a w hA hS hd => a_4 rfl fd_106_1 hA.e) ?_
   refine dy 2 (fun a w hA hS hd => a_3 rfl ty_3 (hq hd 4) (hS.bk 1 rfl) rfl) ?_
   refine dy 2 (fun a w hA hS hd => b_6 rfl j_6 ty_3 (hq hd 3) (i := t.dst.toNat) ((hq hd 5).trans (m_7 (by omega))) (hS.sk 5 rfl) (by decide) (by omega)) ?_
   refine dy 2 (fun a w hA hS hd => g_2 rfl ty_3 (hq hd 6) (hS.sk 5 rfl) (ints_at (by omega))) ?_
   refine dy 2 (fun a w hA hS hd => a_4 rfl n_3 hA.e) ?_
   refine dy 2 (fun a w hA hS hd => a_3 rfl ty_3 (hq hd 8) (hS.bk 0 rfl) rfl) ?_
   refine dy 2 (fun a w hA hS hd => a_4 rfl w_1 hA.e) ?_
   refine dy 2 (fun a w hA hS hd => a_3 rfl ty_3 (hq hd 10) (hS.bk 1 rfl) rfl) ?_
   refine dy 2 (fun a w hA hS hd => k_5 rfl (hq hd 9) (hq hd 11) (by omega) (by omega)) ?_
   refine dy 2 (fun a w hA hS hd => a_4 rfl n_4 hA.e) ?_
   refine dy 2 (fun a w hA hS hd => a_3 rfl ty_3 (hq hd 13) (hS.bk 0 rfl) rfl) ?_
   refine dy 2 (fun a w hA hS hd => a_4 rfl w_1 hA.e) ?_
   refine dy 2 (fun a w hA hS hd => a_3 rfl ty_3 (hq hd 15) (hS.bk 1 rfl) rfl) ?_
   refine dy 2 (fun a w hA hS hd => g_9 rfl (hq hd 14) (hq hd 16) (by omega) (by omega)) ?_
   trivial
  intro A2 BJ AZ At O; clear AY X
  have Aa := AZ.add (hz O 2); clear AZ
  have Ab := Aa.add (hz O 7); clear Aa
  have Ac := Ab.add (hz O 12); clear Ab
  have L := Ac.add (hz O 17); clear Ac
  clear O
  refine s6 L (a_8 rfl y_5 (ev3 L.e L.e L.e) (k_6 _ _ _ _)) ?_
  rintro A3 _ W_ ⟨rfl, hW_⟩ V; have hW2_ := hW_.symm; subst hW2_; clear hW_ L A2
  refine s1 V (e_0 rfl V.e V.e) fun A4 P => ?_; clear V A3
  refine s1 P (a_0 rfl P.e) fun BA q => ?_; clear P A4
  exact n1 (c_6 (b_0 q (.inl rfl) (a_2 q rfl (.tmp rfl)) (⟨congrArg Value.bool (Eq.symm (fitT_some (by assumption))), At.ext⟩)))
 skip
 rw [o] at J
 have r := J.as [(5, (Value.bool false)), (4, (bptr b10_ 0)), (2, (bptr C 0)), (1, (bptr bz 0))] rfl; clear J
 refine i_7 mixed r X 18 [[], [0], [1], [2], [2], [2, 4], [2, 3, 5], [2, 6], [2], [2, 8], [2], [2, 10], [2, 9, 11], [2], [2, 13], [2], [2, 15], [2, 14, 16]] [(Yd.val (Value.bool false)), (Yd.val (Value.bool (!false))), (Yd.val (Value.bool (!false))), (Yd.val undef), (Yd.val undef), (Yd.val undef), (Yd.val undef), (Yd.val undef), (Yd.val undef), (Yd.val undef), (Yd.val undef), (Yd.val undef), (Yd.val undef), (Yd.val undef), (Yd.val undef), (Yd.val undef), (Yd.val undef), (Yd.val undef)] (by decide +kernel) rfl rfl ?_ ?_
 ·skip
  refine dq (fun a w hA hS hd => a_1 rfl hA.e) ?_
  refine dq (fun a w hA hS hd => g_0 rfl (hq hd 0)) ?_
  refine dq (fun a w hA hS hd => a_1 rfl (hq hd 1)) ?_
  refine dn 2 (dn 2 (dn 2 (dn 2 (dn 2 (dn 2 (dn 2 (dn 2 (dn 2 (dn 2 (dn 2 (dn 2 (dn 2 ?_))))))))))))
  refine dn 2 (dn 2 ?_)
  trivial
 intro Ao BC s Ai F; clear r X
 have u := s.add (hz F 2); clear s
 have x := u.add (hz F 7); clear u
 have y := x.add (hz F 12); clear x
 have AA := y.add (hz F 17); clear y
 clear F
 refine s3 AA fun Ap Q => ?_; clear AA Ao
 refine s1 Q (b_5 rfl Q.e (evc _ _)) fun Aq R => ?_; clear Q Ap
 refine s1 R (a_0 rfl R.e) fun BB AB => ?_; clear R Aq
 exact n1 (c_6 (b_0 AB (.inl rfl) (a_2 AB rfl (.tmp rfl)) (⟨congrArg Value.bool (Eq.symm (fitT_none (by assumption))), Ai.ext⟩)))
set_option maxHeartbeats 4000000 in
theorem Prove_ok (b : f_7) (vt vm : Value) (lr lb lk : Nat → Value) (w : World) (hT : k_1 w vt lr lb b.tabs) (hM : m_3 w vm lk b.macs) (hth : l_4 b) (l : List (Int × Int)) (xl : Value) (hxl : SlAt w xl 2 l.length (pairs l)) (hlb : l.length ≤ 1000000) (z : List Int) (xz : Value) (hxz : SlAt w xz 1 z.length (ints z)) (CQ : z.length ≤ 1000000) (hr : k_9 b l = 0) :
  Calls Try.prog 39 #[(Value.agg #[(iv b.scales), vt, vm]), xl, xz] w (Ret fun v w' => v = .bool (y_6 b l z) ∧ Ext NoB w w') := by
 refine a_7 Try.func39 rfl fun a0 AF => ?_
 replace AF : Fr 66 [] [(0, (Value.agg #[(iv b.scales), vt, vm])), (1, xl), (2, xz)] a0 := AF
 have hc : e_9 b = 0 := read_check hr; have hbl := read_ok hr; have hb := hbl.1; have hl := hbl.2; have hll := hl.len; have hsc := hb.scales; have hml9 := hth.ml
 have BK : Sep NoB w w [(c_0 false vt lr lb b.tabs), (c_3 false vm lk b.macs), (sl xl 2 l.length (pairs l)), (sl xz 1 z.length (ints z))] := f_0 ⟨rfl, hT, rfl, hM, rfl, hxl, rfl, hxz, trivial⟩
 refine m2 (s2 AF (f_3 BK rfl AF.e (cs := [(iv b.scales), vt, vm]) rfl) ?_)
 rintro a1 _ w3 ⟨S, rfl, A7⟩ A0; clear AF BK a0
 refine s2 A0 (f_3 A7 rfl A0.e (cs := [xz]) (isSl_cells (SlAt.isSl (A7.sk 4 rfl)))) ?_
 rintro a6 _ w8 ⟨K, rfl, I⟩ BJ; clear A0 A7 a1
 refine s1 BJ (a_0 rfl (evc _ _)) fun Bi AG => ?_; clear BJ a6
 refine n2 (m2 (s1 AG (b_9 rfl n_6 (AG.ev rfl) (I.bk 1 rfl) (l := [(iv b.scales), vt, vm]) rfl rfl) fun Bj AH => ?_)); clear AG Bi
 refine s1 AH (a_1 rfl AH.e) fun Bk m => ?_; clear AH Bj
 refine s2 m (a_8 rfl en_56 (ev2 m.e m.e) (read_yes b vt vm lr lb lk _ (c_5 (I.ok 2 _ rfl)) (d_1 (I.ok 3 _ rfl)) hth l _ (I.sk 4 rfl) (by omega) hc hr)) ?_
 rintro Bl _ CR ⟨bx22, bm23, es24, ck25, rfl, hMO26, BA⟩ AI; have E := I.n_2 BA rfl; clear BA m I Bk
 refine s1 AI (a_1 rfl AI.e) fun Bm AJ => ?_; clear AI Bl
 refine s1 AJ (b_2 rfl AJ.e rfl) fun Bn AK => ?_; clear AJ Bm
 refine s1 AK (b_2 rfl AK.e rfl) fun Bo AL => ?_; clear AK Bn
 refine s1 AL (a_0 rfl AL.e) fun Bp AM => ?_; clear AL Bo
 refine s1 AM (a_0 rfl AM.e) fun Bq A1 => ?_; clear AM Bp
 refine n2 ?_
 have AN := A1.as [(8, (iv 0)), (5, (bptr K 0)), (3, (bptr S 0)), (1, xl)] rfl; clear A1
 refine a_5 (s1 AN (a_1 rfl AN.e) fun Br AO => ?_); clear AN Bq
 refine s1 AO (o_5 rfl AO.e (evc _ _)) fun Bs AP => ?_; clear AO Br
 refine s1 AP (a_1 rfl AP.e) fun Bt AQ => ?_; clear AP Bs
 refine s5 AQ (a_3 rfl y_4 AQ.e (E.bk 2 rfl) rfl) fun Bu AR => ?_; clear AQ Bt
 refine s5 AR (e_8 rfl j_6 AR.e (E.sk 7 rfl)) fun Bv AS => ?_; clear AR Bu
 refine s5 AS (a_4 rfl x_0 AS.e) fun Bw AT => ?_; clear AS Bv
 refine s5 AT (a_3 rfl ty_3 AT.e (E.bk 3 rfl) rfl) fun Bx s => ?_; clear AT Bw
 refine s5 s (o_5 rfl s.e s.e) fun By t => ?_; clear s Bx
 refine s1 t (e_0 rfl t.e t.e) fun Bz AU => ?_; clear t By
 refine s1 AU (a_1 rfl AU.e) fun BG F => ?_; clear AU Bz
 by_cases BB : (z.length : Int) = b.scales
 ·skip
  rw [decide_eq_true BB] at F
  refine s5 F (a_3 rfl y_4 F.e (E.bk 2 rfl) rfl) fun B0 AV => ?_; clear F BG
  refine s6 AV (a_8 rfl en_69 (ev2 AV.e (evf _ _)) (all_int z _ 70 #[] #[] (fun i => inB (z.getD i 0) 0 100000) _ (E.sk 7 rfl) (by omega) ⟨en_70, fun i hi W hW => value_ok _ W⟩)) ?_
  rintro B1 _ CS ⟨rfl, A6⟩ AW; have AC := E.step A6; clear A6 AV E B0
  refine s5 AW (g_0 rfl AW.e) fun B2 u => ?_; clear AW B1
  refine s1 u (e_0 rfl u.e u.e) fun BH D => ?_; clear u B2
  refine n1 ?_
  rcases Bool.eq_false_or_eq_true (((List.range z.length).all (fun i => inB (z.getD i 0) 0 100000))) with AE | AE
  ·skip
   rw [AE] at D
   have hzv := List.all_eq_true.1 AE
   refine b_8 D rfl (e_1 (b_3 (d_3 (d_3 ?_))))
   have AX := D.as [(5, (bptr K 0)), (3, (bptr S 0)), (1, xl)] rfl; clear D
   refine a_5 (s1 AX (a_1 rfl AX.e) fun B3 AY => ?_); clear AX BH
   refine s1 AY (e_8 rfl l_3 AY.e (AC.sk 6 rfl)) fun B4 A2 => ?_; clear AY B3
   refine s1 A2 (a_1 rfl (evc _ _)) fun B5 A3 => ?_; clear A2 B4
   refine n1 (e_3 ?_)
   have A4 := A3.as [(35, (iv 0)), (34, (iv (l.length : Int))), (33, xl), (5, (bptr K 0)), (3, (bptr S 0))] rfl; clear A3
   refine k_4 (G := Nat) (fun (k : Nat) a_ w_ => Fr 66 [] [(35, (iv (k : Int))), (34, (iv (l.length : Int))), (33, xl), (5, (bptr K 0)), (3, (bptr S 0))] a_ ∧ Sep NoB w w_ [(blk bx22 146 [(iv b.scales), vt, vm, (Value.map (some bm23))]), (mapX true bm23 es24 ck25 es24.size 106 5 (bN b.tabs b.tabs.length) (bC lr lb b.tabs b.tabs.length)), (blk K 44 [xz]), (blk S 37 [(iv b.scales), vt, vm]), (c_0 false vt lr lb b.tabs), (c_3 false vm lk b.macs), (sl xl 2 l.length (pairs l)), (sl xz 1 z.length (ints z))] ∧ (k ≤ l.length) ∧ (∀ i, i < k → fitRead b l z i = true)) (fun k => l.length - k) 0 ⟨A4.as _ rfl, AC, by omega, (fun _ h => absurd h (Nat.not_lt_zero _))⟩ ?_
   clear A4 AC B5
   rintro k B6 CT ⟨x, A, hkk, BL⟩
   refine m2 (s1 x (h_8 rfl x.e x.e) fun BI B => ?_); clear x B6
   refine n2 ?_
   by_cases BC : (k : Int) < (l.length : Int)
   ·skip
    rw [decide_eq_true BC] at B
    have hmv := hl.macV hb (k := k) (by omega); have hsv := hmv.scale; have hbb := biasF_bd hmv; have hlm := hl.mac k (by omega); have hlr := hl.read k (by omega); have CP := m_6.1 (hzv (b.macs.getD (l.getD k (0, 0)).1.toNat mac0).scale.toNat (List.mem_range.2 (by omega)))
    refine d_6 B rfl (e_1 (b_3 (d_3 (e_3 (m2 (s1 B (b_6 rfl l_3 o_7 B.e (i := k) B.e (A.sk 6 rfl) (by decide) (by omega)) fun B7 AZ => ?_)))))); clear B BI
    refine s1 AZ (e_7 rfl o_7 AZ.e (A.sk 6 rfl) (g_1 (by omega)) rfl (by decide)) fun B8 A5 => ?_; clear AZ B7
    refine s2 A5 (d_2 A rfl y_0 (cs := [(iv 0), (iv 0)]) rfl) ?_
    rintro B9 _ CU ⟨T, rfl, A8⟩ y; clear A5 A B8
    refine s7 y (b_4 A8 rfl o_7 y.e y.e (i := 0) rfl (vs := [(iv ((l.getD k (0, 0)).1)), (iv ((l.getD k (0, 0)).2))]) rfl rfl rfl (Nat.le_of_ble_eq_true rfl)) ?_
    intro _ CB A9 Aa; clear y
    have J : Sep NoB w CB [(blk T 98 [(iv ((l.getD k (0, 0)).1)), (iv ((l.getD k (0, 0)).2))]), (blk bx22 146 [(iv b.scales), vt, vm, (Value.map (some bm23))]), (mapX true bm23 es24 ck25 es24.size 106 5 (bN b.tabs b.tabs.length) (bC lr lb b.tabs b.tabs.length)), (blk K 44 [xz]), (blk S 37 [(iv b.scales), vt, vm]), (c_0 false vt lr lb b.tabs), (c_3 false vm lk b.macs), (sl xl 2 l.length (pairs l)), (sl xz 1 z.length (ints z))] := A9; clear A9 A8
    refine n4 (s1 Aa (a_4 rfl q_5 Aa.e) fun CA V => ?_); clear Aa B9
    refine s1 V (a_3 rfl z_1 V.e (J.bk 4 rfl) rfl) fun BM X => ?_; clear V CA
    refine s1 X (a_4 rfl fd_98_0 X.e) fun BN Y => ?_; clear X BM
    refine s1 Y (a_3 rfl ty_3 Y.e (J.bk 0 rfl) rfl) fun BO L => ?_; clear Y BN
    refine s1 L (b_6 rfl x_8 m_9 L.e (i := ((l.getD k (0, 0)).1).toNat) (L.e.trans (m_7 (by omega))) (d_1 (J.ok 6 _ rfl)).macs (by decide) (by omega)) fun BP Z => ?_; clear L BO
    refine s1 Z (e_7 rfl m_9 Z.e (d_1 (J.ok 6 _ rfl)).macs (macs_all (by omega)) rfl (by decide)) fun BQ Ab => ?_; clear Z BP
    refine s2 Ab (d_2 J rfl ze_103 (cs := [(iv 0), (Value.slice none 0 0)]) rfl) ?_
    rintro BR _ CK ⟨R, rfl, AA⟩ M; clear Ab J BQ
    refine s7 M (b_4 AA rfl m_9 M.e M.e (i := 0) rfl (vs := [(iv ((b.macs.getD (((l.getD k (0, 0)).1).toNat) mac0).scale)), (lk (((l.getD k (0, 0)).1).toNat))]) rfl rfl (k_2 rfl (k_2 (SlAt.one ((d_1 (AA.ok 7 _ rfl)).blk (i := ((l.getD k (0, 0)).1).toNat) (by omega))) y_2)) (Nat.le_of_ble_eq_true rfl)) ?_
    intro _ Bf Au Ac; clear M
    have Q : Sep NoB w Bf [(blk R 103 [(iv ((b.macs.getD (((l.getD k (0, 0)).1).toNat) mac0).scale)), (lk (((l.getD k (0, 0)).1).toNat))]), (blk T 98 [(iv ((l.getD k (0, 0)).1)), (iv ((l.getD k (0, 0)).2))]), (blk bx22 146 [(iv b.scales), vt, vm, (Value.map (some bm23))]), (mapX true bm23 es24 ck25 es24.size 106 5 (bN b.tabs b.tabs.length) (bC lr lb b.tabs b.tabs.length)), (blk K 44 [xz]), (blk S 37 [(iv b.scales), vt, vm]), (c_0 false vt lr lb b.tabs), (c_3 false vm lk b.macs), (sl xl 2 l.length (pairs l)), (sl xz 1 z.length (ints z))] := Au; clear Au AA
    refine n2 ?_
    have c := Ac.as [(11, (bptr R 0)), (10, (bptr T 0)), (35, (iv (k : Int))), (34, (iv (l.length : Int))), (33, xl), (5, (bptr K 0)), (3, (bptr S 0))] rfl; clear Ac
    refine a_5 (s1 c (b_9 rfl m_9 (c.ev rfl) (Q.bk 0 rfl) (l := [(iv ((b.macs.getD (((l.getD k (0, 0)).1).toNat) mac0).scale)), (lk (((l.getD k (0, 0)).1).toNat))]) rfl rfl) fun BS d => ?_); clear c BR
    refine s2 d (a_8 rfl en_67 (ev1 d.e) (bias_ok _ (b.macs.getD (((l.getD k (0, 0)).1).toNat) mac0) _ _ ((d_1 (Q.ok 7 _ rfl)).blk (i := ((l.getD k (0, 0)).1).toNat) (by omega)) hmv (hth.kl _))) ?_
    rintro BT _ CL ⟨rfl, As⟩ Ad; have Av := Q.step As; clear As d Q BS
    refine s2 Ad (d_2 Av rfl t_7 (cs := [(iv 0), (iv 0)]) rfl) ?_
    rintro CD _ CM ⟨U, rfl, Aw⟩ N; clear Ad Av BT
    refine s7 N (b_4 Aw rfl f_1 N.e N.e (i := 0) rfl (vs := [(iv ((d_5 (b.macs.getD (((l.getD k (0, 0)).1).toNat) mac0)).1)), (iv ((d_5 (b.macs.getD (((l.getD k (0, 0)).1).toNat) mac0)).2))]) rfl rfl rfl (Nat.le_of_ble_eq_true rfl)) ?_
    intro _ Bg Ax Ae; clear N
    have Ay : Sep NoB w Bg [(blk U 30 [(iv ((d_5 (b.macs.getD (((l.getD k (0, 0)).1).toNat) mac0)).1)), (iv ((d_5 (b.macs.getD (((l.getD k (0, 0)).1).toNat) mac0)).2))]), (blk R 103 [(iv ((b.macs.getD (((l.getD k (0, 0)).1).toNat) mac0).scale)), (lk (((l.getD k (0, 0)).1).toNat))]), (blk T 98 [(iv ((l.getD k (0, 0)).1)), (iv ((l.getD k (0, 0)).2))]), (blk bx22 146 [(iv b.scales), vt, vm, (Value.map (some bm23))]), (mapX true bm23 es24 ck25 es24.size 106 5 (bN b.tabs b.tabs.length) (bC lr lb b.tabs b.tabs.length)), (blk K 44 [xz]), (blk S 37 [(iv b.scales), vt, vm]), (c_0 false vt lr lb b.tabs), (c_3 false vm lk b.macs), (sl xl 2 l.length (pairs l)), (sl xz 1 z.length (ints z))] := Ax; clear Ax Aw
    refine n2 ?_
    have Af := Ae.as [(12, (bptr U 0)), (11, (bptr R 0)), (10, (bptr T 0)), (35, (iv (k : Int))), (34, (iv (l.length : Int))), (33, xl), (5, (bptr K 0)), (3, (bptr S 0))] rfl; clear Ae
    refine i_7 mixed Af Ay 12 [[], [0], [], [], [3], [2, 4], [5], [1, 6], [], [8], [], [10]] [(Yd.val (bptr T 1)), (Yd.val (iv ((l.getD k (0, 0)).2))), (Yd.val xz), (Yd.val (bptr R 0)), (Yd.val (iv ((b.macs.getD (((l.getD k (0, 0)).1).toNat) mac0).scale))), (Yd.val (eptr xz (((b.macs.getD (((l.getD k (0, 0)).1).toNat) mac0).scale).toNat * 1))), (Yd.val (iv (z.getD (((b.macs.getD (((l.getD k (0, 0)).1).toNat) mac0).scale).toNat) 0))), (Yd.val (iv (((l.getD k (0, 0)).2) - (z.getD (((b.macs.getD (((l.getD k (0, 0)).1).toNat) mac0).scale).toNat) 0)))), (Yd.val (bptr U 0)), (Yd.val (iv ((d_5 (b.macs.getD (((l.getD k (0, 0)).1).toNat) mac0)).1))), (Yd.val (bptr U 1)), (Yd.val (iv ((d_5 (b.macs.getD (((l.getD k (0, 0)).1).toNat) mac0)).2)))] (by decide +kernel) rfl rfl ?_ ?_
    ·skip
     refine dq (fun a w hA hS hd => a_4 rfl fd_98_1 hA.e) ?_
     refine dq (fun a w hA hS hd => a_3 rfl ty_3 (hq hd 0) (hS.bk 2 rfl) rfl) ?_
     refine dq (fun a w hA hS hd => a_3 rfl y_4 hA.e (hS.bk 5 rfl) rfl) ?_
     refine dq (fun a w hA hS hd => a_4 rfl fd_103_0 hA.e) ?_
     refine dq (fun a w hA hS hd => a_3 rfl ty_3 (hq hd 3) (hS.bk 1 rfl) rfl) ?_
     refine dq (fun a w hA hS hd => b_6 rfl j_6 ty_3 (hq hd 2) (i := ((b.macs.getD (((l.getD k (0, 0)).1).toNat) mac0).scale).toNat) ((hq hd 4).trans (m_7 (by omega))) (hS.sk 10 rfl) (by decide) (by omega)) ?_
     refine dq (fun a w hA hS hd => g_2 rfl ty_3 (hq hd 5) (hS.sk 10 rfl) (ints_at (by omega))) ?_
     refine dq (fun a w hA hS hd => k_5 rfl (hq hd 1) (hq hd 6) (by omega) (by omega)) ?_
     refine dq (fun a w hA hS hd => a_4 rfl n_3 hA.e) ?_
     refine dq (fun a w hA hS hd => a_3 rfl ty_3 (hq hd 8) (hS.bk 0 rfl) rfl) ?_
     refine dq (fun a w hA hS hd => a_4 rfl n_4 hA.e) ?_
     refine dq (fun a w hA hS hd => a_3 rfl ty_3 (hq hd 10) (hS.bk 0 rfl) rfl) ?_
     trivial
    intro BU CN Ag AB P; clear Af Ay
    have Ah := Ag.add (hz P 7); clear Ag
    have Ai := Ah.add (hz P 9); clear Ah
    have H := Ai.add (hz P 11); clear Ai
    clear P
    refine s2 H (a_8 rfl y_5 (ev3 H.e H.e H.e) (k_6 _ _ _ _)) ?_
    rintro BV _ W_ ⟨rfl, hW_⟩ f; have hW2_ := hW_.symm; subst hW2_; clear hW_ H BU
    refine s1 f (g_0 rfl f.e) fun Az C => ?_; clear f BV
    refine n1 ?_
    rcases Bool.eq_false_or_eq_true ((inB (((l.getD k (0, 0)).2) - (z.getD (((b.macs.getD (((l.getD k (0, 0)).1).toNat) mac0).scale).toNat) 0)) ((d_5 (b.macs.getD (((l.getD k (0, 0)).1).toNat) mac0)).1) ((d_5 (b.macs.getD (((l.getD k (0, 0)).1).toNat) mac0)).2))) with AD | AD
    ·skip
     rw [AD] at C
     refine b_8 C rfl (e_1 (k_7 (b_3 ?_)))
     have g := C.as [(35, (iv (k : Int))), (34, (iv (l.length : Int))), (33, xl), (5, (bptr K 0)), (3, (bptr S 0))] rfl; clear C
     refine a_5 (s1 g (g_9 rfl g.e (evc _ _) (by omega) (by omega)) fun BW j => ?_); clear g Az
     refine s1 j (a_1 rfl j.e) fun CE BD => ?_; clear j BW
     refine g_6 ?_
     have BE := AB.gkp (gpc 3 (gpc 4 (gpc 5 (gpc 6 (gpc 7 (gpc 8 (gpc 9 (gpc 10 gpn)))))))); clear AB
     exact b_3 ⟨k + 1, ⟨BD.as _ rfl, BE, by omega, (fun i hi => by rcases Nat.lt_succ_iff_lt_or_eq.1 hi with h | h; exact BL i h; subst h; exact (fitR_is.trans (by assumption)))⟩, by omega⟩
    skip
    rw [AD] at C
    refine d_6 C rfl (d_3 ?_)
    have Aj := C.as [] rfl; clear C
    refine a_5 (s1 Aj (a_0 rfl (evc _ _)) fun CF Ak => ?_); clear Aj Az
    exact n1 (c_6 (e_6 (b_1 (b_1 (e_6 (b_1 (b_0 Ak (.inl rfl) (a_2 Ak rfl (.tmp rfl)) (⟨congrArg Value.bool (by first | exact (fits_n0 (by omega)).symm | exact (fits_n1' (by assumption)).symm | exact (fits_n2 (k := k) (by omega) (by assumption)).symm), AB.ext⟩))))))))
   skip
   rw [decide_eq_false BC] at B
   refine b_8 B rfl (j_7 (b_7 (b_7 (h_6 (b_3 (m2 (s1 B (a_4 rfl s_7 B.e) fun BX n => ?_))))))); clear B BI
   refine s1 n (a_3 rfl z_5 n.e (A.bk 3 rfl) rfl) fun BY o => ?_; clear n BX
   refine s1 o (f_9 rfl ev0 (ev1 o.e)) fun BZ O => ?_; clear o BY
   refine s2 O (a_8 rfl en_61 (ev2 O.e O.e) (all_tab b.tabs lr lb _ 71 #[] #[(bptr K 0)] (fun i => s_8 z (b.tabs.getD i tab0)) _ (c_5 (A.ok 4 _ rfl)).tabs (by have := hth.tl; omega) ⟨en_71, fun i hi W hW => fitclo_ok (b.tabs.getD i tab0) _ _ W ((c_5 ((A.step hW).ok 4 _ rfl)).row hi) ((c_5 ((A.step hW).ok 4 _ rfl)).brk hi) (hth.rl i) (hth.bl i) _ (hb.tab hi) _ z xz ((A.step hW).bk 2 rfl) ((A.step hW).sk 7 rfl) (by omega)⟩ (fun i hi => ⟨((c_5 (A.ok 4 _ rfl)).row hi).one, ((c_5 (A.ok 4 _ rfl)).brk hi).one⟩))) ?_
   rintro Ba _ CO ⟨rfl, At⟩ p; have BF := A.step At; clear At O A BZ
   refine s1 p (a_0 rfl p.e) fun CG Al => ?_; clear p Ba
   exact n1 (c_6 (b_0 Al (.inl rfl) (a_2 Al rfl (.tmp rfl)) (⟨congrArg Value.bool (fits_rest (by omega) (by assumption) (fun i hi => BL i (by omega))), BF.ext⟩)))
  skip
  rw [AE] at D
  refine d_6 D rfl (d_3 ?_)
  have Am := D.as [] rfl; clear D
  refine a_5 (s1 Am (a_0 rfl (evc _ _)) fun CH An => ?_); clear Am BH
  exact n1 (c_6 (b_1 (b_0 An (.inl rfl) (a_2 An rfl (.tmp rfl)) (⟨congrArg Value.bool (by first | exact (fits_n0 (by omega)).symm | exact (fits_n1' (by assumption)).symm | exact (fits_n2 (k := k) (by omega) (by assumption)).symm), AC.ext⟩))))
 skip
 rw [decide_eq_false BB] at F
 refine s3 F fun Bb Ao => ?_; clear F BG
 refine s3 Ao fun Bc Ap => ?_; clear Ao Bb
 refine s3 Ap fun Bd q => ?_; clear Ap Bc
 refine s1 q (b_5 rfl q.e (evc _ _)) fun Be r => ?_; clear q Bd
 refine n1 (d_6 r rfl (d_3 ?_))
 have Aq := r.as [] rfl; clear r
 refine a_5 (s1 Aq (a_0 rfl (evc _ _)) fun CI Ar => ?_); clear Aq Be
 exact n1 (c_6 (b_1 (b_0 Ar (.inl rfl) (a_2 Ar rfl (.tmp rfl)) (⟨congrArg Value.bool (by first | exact (fits_n0 (by omega)).symm | exact (fits_n1' (by assumption)).symm | exact (fits_n2 (k := k) (by omega) (by assumption)).symm), E.ext⟩))))
end Go.Proofs.Ytohgladndklciaa

namespace Go.Proofs.Ytohgladndklciaa
open Go.RowKit Go.Shelf Go.Eng Go.Hard
end Go.Proofs.Ytohgladndklciaa

namespace Go.Hard
section
variable {b b' : f_7} {l l' : List (Int × Int)} {s : g_5}
end
end Go.Hard

namespace Go.Hard
open Go.RowKit Go.Eng
section
variable {X : Nat → Prop} {w0 w : World} {L : List Res}
end
section
variable {lr lb lk : Nat → Value} {ts : List TabD} {ms : List MacD} {k : Nat}
end
section
variable {X : Nat → Prop} {w0 w : World} {L : List Res}
end
section
variable {b : f_7} {l : List (Int × Int)} {k : Nat}
end
section
variable {b : f_7} {l : List (Int × Int)} {k : Nat} {bl : List (Int × Int × Int)}
end
end Go.Hard

namespace Go.Hard
open Go.RowKit Go.Eng
def withE (t : TabD) (e : Int) : TabD := { t with err := e }
section
variable {t : TabD} {e : Int} {n : Int} {s : g_5}
end
structure FinT (ts ts' : List TabD) : Prop where
  len : ts'.length = ts.length
  each : ∀ j, j < ts.length → ∃ e, 0 ≤ e ∧ e ≤ (ts.getD j tab0).err ∧ ts'.getD j tab0 = withE (ts.getD j tab0) e
theorem FinT.set {ts : List TabD} {k : Nat} {e : Int} (h : ∀ j, j < ts.length → 0 ≤ (ts.getD j tab0).err) (hk : k < ts.length) (h0 : 0 ≤ e) (h1 : e ≤ (ts.getD k tab0).err) : FinT ts (ts.set k { ts.getD k tab0 with err := e }) := by
  refine ⟨List.length_set .., fun j hj => ?_⟩
  by_cases c : j = k
  · subst c; exact ⟨e, h0, h1, by simp [List.getD, hj, withE]⟩
  · exact ⟨_, h j hj, Int.le_refl _, by simp only [List.getD, List.getElem?_set_ne (fun e' => c e'.symm)]; rfl⟩
section
variable {X : Nat → Prop} {w0 w : World} {L : List Res}
end
structure FinM (n : Int) (ms ms' : List MacD) : Prop where
  len : ms'.length = ms.length
  scale : ∀ j, (ms'.getD j mac0).scale = (ms.getD j mac0).scale
  bias : ∀ j, (d_5 (ms.getD j mac0)).1 ≤ (d_5 (ms'.getD j mac0)).1 ∧ (d_5 (ms'.getD j mac0)).2 ≤ (d_5 (ms.getD j mac0)).2
  macs : ∀ m ∈ ms', macB n m = true
  blks : ∀ m ∈ ms', m.blocks.length ≤ 5
theorem set_at {ms : List MacD} {k : Nat} {m : MacD} (hk : k < ms.length) (j : Nat) : (ms.set k m).getD j mac0 = if j = k then m else ms.getD j mac0 := by
  by_cases e : j = k
  · subst e; rw [if_pos rfl]; simp [List.getD, hk]
  · rw [if_neg e]; simp [List.getD, List.getElem?_set_ne (fun e' => e e'.symm)]
theorem FinM.set {n : Int} {ms : List MacD} {k : Nat} {bl : List (Int × Int × Int)} (h1 : ∀ m ∈ ms, macB n m = true) (h2 : ∀ m ∈ ms, m.blocks.length ≤ 5) (hk : k < ms.length) (h3 : bl.length ≤ 5) (h4 : ∀ x ∈ bl, blkB x = true)
    (h5 : (d_5 (ms.getD k mac0)).1 ≤ (d_5 ⟨(ms.getD k mac0).scale, bl⟩).1 ∧ (d_5 ⟨(ms.getD k mac0).scale, bl⟩).2 ≤ (d_5 (ms.getD k mac0)).2) : FinM n ms (ms.set k ⟨(ms.getD k mac0).scale, bl⟩) := by
  refine ⟨List.length_set .., fun j => ?_, fun j => ?_, fun m hm => ?_, fun m hm => ?_⟩
  · rw [set_at hk]; split
    · rename_i e; subst e; rfl
    · rfl
  · rw [set_at hk]; split
    · rename_i e; subst e; exact h5
    · exact ⟨Int.le_refl _, Int.le_refl _⟩
  · rcases List.mem_or_eq_of_mem_set hm with h | h
    · exact h1 m h
    · rw [h]
      have := h1 _ (getD_mem' (d := mac0) hk)
      unfold macB at this ⊢
      rw [Bool.and_eq_true] at this ⊢
      exact ⟨this.1, (p_8 (p := blkB) (d := (0, 0, 0))).2 h4⟩
  · rcases List.mem_or_eq_of_mem_set hm with h | h
    · exact h2 m h
    · rw [h]; exact h3
section
variable {b b2 : f_7} {l l2 : List (Int × Int)} {ts : List TabD} {ms : List MacD}
end
end Go.Hard

namespace Go.Hard
open Go.RowKit Go.Eng
section
variable {b : f_7} {l ox : List (Int × Int)} {tsx : List TabD} {msx : List MacD}
variable {X : Nat → Prop} {w0 w : World} {L : List Res}
end
end Go.Hard

namespace Go.Hard
open Go.RowKit Go.Eng
def badB : f_7 := ⟨3, [⟨0, 1, [(100, 200), (200, 300), (300, 500), (400, 600)], [2], 2⟩, ⟨1, 2, [(250, 90), (350, 50)], [], 0⟩], [⟨0, [(150, 154, 154), (240, 246, 251)]⟩, ⟨1, [(300, 300, 299)]⟩]⟩
def oddB : f_7 := ⟨3, [⟨0, 0, [(100, 200), (200, 300), (300, 500), (400, 600)], [2], 2⟩, ⟨1, 2, [(250, 90), (350, 50)], [], 0⟩], [⟨0, [(150, 154, 160), (240, 246, 249)]⟩, ⟨1, [(300, 300, 299)]⟩]⟩
def p_0 : f_7 := ⟨3, [⟨0, 1, [(100, 200), (200, 300), (300, 500), (400, 600)], [2], 2⟩, ⟨1, 2, [(250, 90), (350, 90)], [], 0⟩], [⟨0, [(150, 154, 160), (240, 246, 249)]⟩, ⟨1, [(300, 300, 299)]⟩]⟩
def farB : f_7 := ⟨3, [⟨0, 1, [(100, 200), (200, 300), (300, 500), (400, 600)], [3], 2⟩, ⟨1, 2, [(250, 90), (350, 50)], [], 0⟩], [⟨0, [(150, 154, 160), (240, 246, 249)]⟩, ⟨1, [(300, 300, 299)]⟩]⟩
def freeB : f_7 := ⟨1, [], []⟩
def zeroB : f_7 := ⟨0, [], []⟩
def w_8 : List (Int × Int) := List.replicate 9 (0, 0)
theorem thin_by {b : f_7} (h : thinF b 0 = true) : l_4 b := (thin_iff.1 h).1
theorem bad_thin : l_4 badB := thin_by (by decide)
theorem odd_thin : l_4 oddB := thin_by (by decide)
theorem flat_thin : l_4 p_0 := thin_by (by decide)
theorem far_thin : l_4 farB := thin_by (by decide)
theorem free_thin : l_4 freeB := thin_by (by decide)
theorem zero_thin : l_4 zeroB := thin_by (by decide)
theorem nm_read2 : k_9 a_9 [(0, 170), (1, 265)] = 0 := by decide
theorem nm_spans2 : l_6 a_9 [(0, 170), (1, 265)] = some [(161, 164), (266, 266), (83, 84)] := by decide +kernel
theorem nm_read3 : k_9 a_9 [(0, 170), (1, 280)] = 0 := by decide
theorem nm_spans3 : l_6 a_9 [(0, 170), (1, 280)] = none := by decide +kernel
theorem nm_badc : e_9 badB = 0 := by decide
theorem nm_badread : k_9 badB [(0, 170)] = 11 := by decide
theorem nm_read4 : k_9 a_9 [(2, 0)] = 2 := by decide
theorem nm_read9 : k_9 a_9 w_8 = 3 := by decide
theorem nm_free : k_9 freeB [] = 0 := by decide
theorem nm_freespans : l_6 freeB [] = some [(0, 100000)] := by decide +kernel
abbrev NILs : Value := .slice none 0 0
section
variable {X : Nat → Prop} {w0 w : World} {L : List Res}
theorem Sep.front (l : List Res) {a : Res} (h : Sep X w0 w (l ++ a :: L)) : Sep X w0 w (a :: (l ++ L)) := h.perm List.perm_middle.symm
theorem u_2 (f0 d0 e0 f1 d1 e1 : Int) (R0 R1 : List (Int × Int)) (B0 : List Int) {r0 r1 k0 vt : Value} (h : Sep X w0 w (row r0 107 2 R0.length (pairs R0) :: row r1 107 2 R1.length (pairs R1) :: row k0 3 1 B0.length (ints B0) :: row vt 106 5 2 [.int .i64 f0, .int .i64 d0, r0, k0, .int .i64 e0, .int .i64 f1, .int .i64 d1, r1, NILs, .int .i64 e1] :: L)) :
    Sep X w0 w (c_0 true vt (putV 1 (putV 0 (fun _ => NILs) r0) r1) (putV 1 (putV 0 (fun _ => NILs) k0) NILs) [⟨f0, d0, R0, B0, e0⟩, ⟨f1, d1, R1, [], e1⟩] :: L) := by
  have o : ∀ {k k' : Nat → Nat} {c c' : Nat → List Value}, ∀ i, i < 0 → k' i = k i ∧ c' i = c i := fun i hi => absurd hi (Nat.not_lt_zero _)
  let T : List TabD := [⟨f0, d0, R0, B0, e0⟩, ⟨f1, d1, R1, [], e1⟩]
  have h1 := Sep.front [_] (p_2 h (fun _ => NILs) 2 (q_9 T) (q_8 T))
  have h2 := h_5 (k' := q_9 T) (c' := q_8 T) h1 rfl rfl o
  have h3 := h_5 (k' := q_9 T) (c' := q_8 T) (Sep.front [_] h2) rfl rfl (fun _ _ => ⟨rfl, rfl⟩)
  have h4 := Sep.front [_] h3
  have h5 := Sep.front [_] (p_2 h4 (fun _ => NILs) 1 (brkN T) (brkC T))
  have h6 := h_5 (k' := brkN T) (c' := brkC T) h5 rfl rfl o
  have h7 := h_5 (k' := brkN T) (c' := brkC T) (h6.nil_row 3 1) rfl rfl (fun _ _ => ⟨rfl, rfl⟩)
  have h8 := Sep.front [_, _] (Sep.front [_] h7)
  exact sep_tabs_join (ts := T) h8
theorem u_1 (s0 s1 : Int) (K0 K1 : List (Int × Int × Int)) {u0 u1 vm : Value} (h : Sep X w0 w (row u0 100 3 K0.length (trips K0) :: row u1 100 3 K1.length (trips K1) :: row vm 103 2 2 [.int .i64 s0, u0, .int .i64 s1, u1] :: L)) :
    Sep X w0 w (c_3 true vm (putV 1 (putV 0 (fun _ => NILs) u0) u1) [⟨s0, K0⟩, ⟨s1, K1⟩] :: L) := by
  have o : ∀ {k k' : Nat → Nat} {c c' : Nat → List Value}, ∀ i, i < 0 → k' i = k i ∧ c' i = c i := fun i hi => absurd hi (Nat.not_lt_zero _)
  let M : List MacD := [⟨s0, K0⟩, ⟨s1, K1⟩]
  have h1 := Sep.front [_] (p_2 h (fun _ => NILs) 3 (blkN M) (blkC M))
  have h2 := h_5 (k' := blkN M) (c' := blkC M) h1 rfl rfl o
  have h3 := h_5 (k' := blkN M) (c' := blkC M) (Sep.front [_] h2) rfl rfl (fun _ _ => ⟨rfl, rfl⟩)
  exact sep_macs_join (ms := M) (Sep.front [_] h3)
theorem tabsAt_nil (w : World) (f g : Nat → Value) : k_1 w NILs f g [] := ⟨slAt_nil w 5, fun i hi => absurd hi (Nat.not_lt_zero _), fun i hi => absurd hi (Nat.not_lt_zero _)⟩
theorem macsAt_nil (w : World) (f : Nat → Value) : m_3 w NILs f [] := ⟨slAt_nil w 2, fun i hi => absurd hi (Nat.not_lt_zero _)⟩
end
end Go.Hard

namespace Go.Proofs.Ytohgladndklciaa
open Go.RowKit Go.Shelf Go.Eng Go.Hard
set_option maxHeartbeats 1000000 in
theorem kept_parts (w : World) :
  Calls Try.prog 46 #[] w (Ret fun v w' => ∃ r0 r1 k0 vt u0 u1 vm, v = .agg #[.int .i64 3, vt, vm] ∧ Sep NoB w w' [row r0 107 2 4 [(iv 100), (iv 200), (iv 200), (iv 300), (iv 300), (iv 500), (iv 400), (iv 600)], row r1 107 2 2 [(iv 250), (iv 90), (iv 350), (iv 50)], row k0 3 1 1 [(iv 2)], row vt 106 5 2 [(iv 0), (iv 1), r0, k0, (iv 2), (iv 1), (iv 2), r1, (Value.slice none 0 0), (iv 0)], row u0 100 3 2 [(iv 150), (iv 154), (iv 160), (iv 240), (iv 246), (iv 249)], row u1 100 3 1 [(iv 300), (iv 300), (iv 299)], row vm 103 2 2 [(iv 0), u0, (iv 1), u1]]) := by
 refine a_7 Try.func46 rfl fun a0 R => ?_
 replace R : Fr 25 [] [] a0 := R
 have AD : Sep NoB w w [] := Sep.start _ _
 refine m2 (s2 R (d_2 AD rfl ze_37 (cs := [(iv 0), (Value.slice none 0 0), (Value.slice none 0 0)]) rfl) ?_)
 rintro a1 _ w3 ⟨b4, rfl, AE⟩ AA; clear R AD a0
 refine n4 (s1 AA (c_7 rfl (pv2 (evc _ _) (evc _ _)) (h_4 _ _)) fun a6 AB => ?_); clear AA a1
 refine s1 AB (c_7 rfl (pv2 (evc _ _) (evc _ _)) (h_4 _ _)) fun a8 AC => ?_; clear AB a6
 refine s1 AC (c_7 rfl (pv2 (evc _ _) (evc _ _)) (h_4 _ _)) fun AG X => ?_; clear AC a8
 refine s1 X (c_7 rfl (pv2 (evc _ _) (evc _ _)) (h_4 _ _)) fun AH A => ?_; clear X AG
 refine s2 A (d_7 AE rfl (pv4 A.e A.e A.e A.e) j_0 h_2 v_6 (by decide) (cs := [(iv 100), (iv 200), (iv 200), (iv 300), (iv 300), (iv 500), (iv 400), (iv 600)]) (m_0 _ _ _ _ _ _ _ _)) ?_
 rintro AI _ At ⟨S, rfl, k⟩ Y; clear A AE AH
 refine s2 Y (d_7 k rfl (pv1 (evc _ _)) j_6 ty_3 ze_3 (by decide) (cs := [(iv 2)]) (s_6 _)) ?_
 rintro AJ _ Au ⟨T, rfl, m⟩ B; clear Y k AI
 refine s1 B (c_7 rfl (pv5 (evc _ _) (evc _ _) B.e B.e (evc _ _)) (p_9 _ _ _ ⟨_, _, _, rfl⟩ _ ⟨_, _, _, rfl⟩ _)) fun AK Z => ?_; clear B AJ
 refine s1 Z (c_7 rfl (pv2 (evc _ _) (evc _ _)) (h_4 _ _)) fun AL a => ?_; clear Z AK
 refine s1 a (c_7 rfl (pv2 (evc _ _) (evc _ _)) (h_4 _ _)) fun AM C => ?_; clear a AL
 refine s2 C (d_7 m rfl (pv2 C.e C.e) j_0 h_2 v_6 (by decide) (cs := [(iv 250), (iv 90), (iv 350), (iv 50)]) (bs_107_2_0iia_1iia _ _ _ _)) ?_
 rintro AN _ Av ⟨U, rfl, o⟩ I; clear C m AM
 refine s1 I (c_7 rfl (pv3 (evc _ _) (evc _ _) I.e) (bd_106_0i_1i_2s _ _ _ ⟨_, _, _, rfl⟩)) fun AO D => ?_; clear I AN
 refine s2 D (d_7 o rfl (pv2 D.e D.e) x_3 j_5 ze_106 (by decide) (cs := [(iv 0), (iv 1), (Value.slice (some ⟨S, 0, none⟩) 4 4), (Value.slice (some ⟨T, 0, none⟩) 1 1), (iv 2), (iv 1), (iv 2), (Value.slice (some ⟨U, 0, none⟩) 2 2), (Value.slice none 0 0), (iv 0)]) (o_2 _ _ _ _ _ _ _ _ _ _)) ?_
 rintro AP _ Aw ⟨P, rfl, p⟩ b; clear D o AO
 refine s2 b (a_8 rfl t_6 (ev2 (evc _ _) (evc _ _)) (f_8 _ _ _)) ?_
 rintro AQ _ Ax ⟨rfl, g⟩ J; have q := p.step g; clear g b p AP
 refine s1 J (c_7 rfl (pv2 J.e (evc _ _)) (l_7 _ _ _)) fun AR c => ?_; clear J AQ
 refine s2 c (a_8 rfl t_6 (ev2 (evc _ _) (evc _ _)) (f_8 _ _ _)) ?_
 rintro AS _ Ay ⟨rfl, h⟩ K; have r := q.step h; clear h c q AR
 refine s1 K (c_7 rfl (pv2 K.e (evc _ _)) (l_7 _ _ _)) fun AT E => ?_; clear K AS
 refine s2 E (d_7 r rfl (pv2 E.e E.e) x_2 w_6 ze_100 (by decide) (cs := [(iv 150), (iv 154), (iv 160), (iv 240), (iv 246), (iv 249)]) (r_1 _ _ _ _ _ _)) ?_
 rintro AU _ Az ⟨V, rfl, s⟩ L; clear E r AT
 refine s1 L (c_7 rfl (pv2 (evc _ _) L.e) (t_9 _ _ ⟨_, _, _, rfl⟩)) fun AV d => ?_; clear L AU
 refine s2 d (a_8 rfl t_6 (ev2 (evc _ _) (evc _ _)) (f_8 _ _ _)) ?_
 rintro AW _ A0 ⟨rfl, j⟩ M; have t := s.step j; clear j d s AV
 refine s1 M (c_7 rfl (pv2 M.e (evc _ _)) (l_7 _ _ _)) fun AX N => ?_; clear M AW
 refine s2 N (d_7 t rfl (pv1 N.e) x_2 w_6 ze_100 (by decide) (cs := [(iv 300), (iv 300), (iv 299)]) (bs_100_1_0iiia _ _ _)) ?_
 rintro AY _ A1 ⟨W, rfl, u⟩ O; clear N t AX
 refine s1 O (c_7 rfl (pv2 (evc _ _) O.e) (t_9 _ _ ⟨_, _, _, rfl⟩)) fun AZ F => ?_; clear O AY
 refine s2 F (d_7 u rfl (pv2 F.e F.e) x_8 m_9 ze_103 (by decide) (cs := [(iv 0), (Value.slice (some ⟨V, 0, none⟩) 2 2), (iv 1), (Value.slice (some ⟨W, 0, none⟩) 1 1)]) (bs_103_2_0iva_1iva _ _ _ _)) ?_
 rintro Aa _ A2 ⟨Q, rfl, x⟩ G; clear F u AZ
 refine s1 G (c_7 rfl (pv3 (evc _ _) G.e G.e) (bd_37_0i_1s_2s _ _ ⟨_, _, _, rfl⟩ _ ⟨_, _, _, rfl⟩)) fun As H => ?_; clear G Aa
 refine s7 H (b_4 x rfl n_6 H.e H.e (i := 7) rfl (vs := [(iv 3), (Value.slice (some ⟨P, 0, none⟩) 2 2), (Value.slice (some ⟨Q, 0, none⟩) 2 2)]) rfl rfl (k_2 rfl (k_2 rfl (k_2 rfl y_2))) (Nat.le_of_ble_eq_true rfl)) ?_
 intro _ An y f; clear H
 have z : Sep NoB w An [(blk Q 103 [(iv 0), (Value.slice (some ⟨V, 0, none⟩) 2 2), (iv 1), (Value.slice (some ⟨W, 0, none⟩) 1 1)]), (blk W 100 [(iv 300), (iv 300), (iv 299)]), (blk V 100 [(iv 150), (iv 154), (iv 160), (iv 240), (iv 246), (iv 249)]), (blk P 106 [(iv 0), (iv 1), (Value.slice (some ⟨S, 0, none⟩) 4 4), (Value.slice (some ⟨T, 0, none⟩) 1 1), (iv 2), (iv 1), (iv 2), (Value.slice (some ⟨U, 0, none⟩) 2 2), (Value.slice none 0 0), (iv 0)]), (blk U 107 [(iv 250), (iv 90), (iv 350), (iv 50)]), (blk T 3 [(iv 2)]), (blk S 107 [(iv 100), (iv 200), (iv 200), (iv 300), (iv 300), (iv 500), (iv 400), (iv 600)]), (blk b4 37 [(iv 3), (Value.slice (some ⟨P, 0, none⟩) 2 2), (Value.slice (some ⟨Q, 0, none⟩) 2 2)])] := y; clear y x
 refine n1 (c_6 (b_0 f (.inl rfl) (a_2 f rfl (.cellA rfl n_6 (z.bk 7 rfl) (l := [(iv 3), (Value.slice (some ⟨P, 0, none⟩) 2 2), (Value.slice (some ⟨Q, 0, none⟩) 2 2)]) rfl rfl)) ?_))
 have Ab := z.l_2 (i := 6) (sz := 2) (n := 4) rfl rfl (by decide)
 have Ac := Ab.l_2 (i := 5) (sz := 1) (n := 1) rfl rfl (by decide)
 have Ad := Ac.l_2 (i := 4) (sz := 2) (n := 2) rfl rfl (by decide)
 have Ae := Ad.l_2 (i := 3) (sz := 5) (n := 2) rfl rfl (by decide)
 have Af := Ae.l_2 (i := 2) (sz := 3) (n := 2) rfl rfl (by decide)
 have Ag := Af.l_2 (i := 1) (sz := 3) (n := 1) rfl rfl (by decide)
 have Ah := Ag.l_2 (i := 0) (sz := 2) (n := 2) rfl rfl (by decide)
 exact ⟨_, _, _, _, _, _, _, rfl, Ah.keep [6, 4, 5, 3, 2, 1, 0] (by decide) _ rfl rfl⟩
theorem mkv_98_9 : (madeCells (Value.agg #[.int .i64 0, .int .i64 0]).cells (9 * 2)).toList = pairs w_8 := by kernel_rfl
end Go.Proofs.Ytohgladndklciaa
