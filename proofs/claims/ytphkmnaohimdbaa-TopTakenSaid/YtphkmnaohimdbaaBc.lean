/-
  Flaws of units, what they make of specimens, and what verdicts say of more flaws.
-/
import Derived.Test.YtphkmnaohimdbaaBb
import Derived.Test.YtphkmnaohimdbaaEnga
import Derived.Test.YtphkmnaohimdbaaBa
import Derived.Test.YtphkmnaohimdbaaEngb
set_option linter.unusedSimpArgs false
set_option linter.unusedVariables false
namespace Go.Proofs.Ytphkmnaohimdbaa
open Go.RowKit Go.Shelf Go.Eng Go.Top
theorem en_55 : ∀ args w, (callFunc 55 args).run Try.prog w = .ok (.enter 55 args) w := enters_of Try.func55 (by kernel_rfl) rfl
theorem s_3 : tyK Try.prog 90 = some (false, 1) := by kernel_rfl
theorem bs_88_1_0iiiia (x0_0 : Int) (x0_1 : Int) (x0_2 : Int) (x0_3 : Int) : Instr.fill (fun i => some (i * 4, 4)) ((Array.range (1 * 4)).map ((Value.agg #[(iv 0), (iv 0), (iv 0), (iv 0)]).cells[· % (Value.agg #[(iv 0), (iv 0), (iv 0), (iv 0)]).cells.size]!)) [(0, .agg #[(.int .i64 x0_0), (.int .i64 x0_1), (.int .i64 x0_2), (.int .i64 x0_3)])] = some (([(.int .i64 x0_0), (.int .i64 x0_1), (.int .i64 x0_2), (.int .i64 x0_3)] : List Value).toArray) := by kernel_rfl
theorem r_0 : Try.prog.underlying 90 = some (.slice 88) := by kernel_rfl
theorem el_88 : elK Try.prog 88 = some ((Value.agg #[(iv 0), (iv 0), (iv 0), (iv 0)]), 4, 32) := by kernel_rfl
theorem en_53 : ∀ args w, (callFunc 53 args).run Try.prog w = .ok (.enter 53 args) w := enters_of Try.func53 (by kernel_rfl) rfl
theorem appendseq_ok (ac : Bool) (q : Quad) (pos saw : Int) (ib1 ib2 ib3 ib4 : Nat) (w : World) (g1 : (blk ib1 117 [(Value.func (.func (fwA ac)) #[] #[]), (Value.func (.func (fpA ac)) #[] #[])]).p w) (g2 : (blk ib2 88 [(iv q.x), (iv q.y), (iv q.w), (iv q.l)]).p w) (g3 : (blk ib3 3 [(iv pos)]).p w) (g4 : (blk ib4 3 [(iv saw)]).p w) (hqv : n_7 q) (hp : -1000 ≤ pos ∧ pos ≤ 1000) (hs : 0 ≤ saw ∧ saw ≤ 2) :
  Calls Try.prog 53 #[(Value.slice none 0 0), (Value.func (.func 55) #[] #[(bptr ib1 0), (bptr ib2 0), (bptr ib3 0), (bptr ib4 0)])] w (Ret fun v w' => Ext NoB w w' ∧ w'.ownsRow w.heap.size 88 4 v (a_7 q ac pos saw).length (recC d_5 (a_7 q ac pos saw))) := by
 refine calls_enterM Try.func53 rfl fun a0 G => ?_
 replace G : Fr 13 (marks []) [(0, (Value.slice none 0 0)), (1, (Value.func (.func 55) #[] #[(bptr ib1 0), (bptr ib2 0), (bptr ib3 0), (bptr ib4 0)]))] a0 := G
 have s : Sep NoB w w [(h_1 []), (rob ib1 117 [(Value.func (.func (fwA ac)) #[] #[]), (Value.func (.func (fpA ac)) #[] #[])]), (rob ib2 88 [(iv q.x), (iv q.y), (iv q.w), (iv q.l)]), (rob ib3 3 [(iv pos)]), (rob ib4 3 [(iv saw)])] := sep_marks (f_7 ⟨rfl, g1, rfl, g2, rfl, g3, rfl, g4, trivial⟩)
 refine m2 (s2 G (e_5 s rfl G.e (cs := [(Value.slice none 0 0)]) rfl) ?_)
 rintro a1 _ w3 ⟨Q, rfl, t⟩ m; clear G s a0
 refine s1 m (a_1 rfl (evc _ _)) fun a6 T => ?_; clear m a1
 refine n2 (m2 (s1 T (a_0 rfl T.e) fun a8 o => ?_)); clear T a6
 refine n1 (c_9 ?_)
 have A := o.as [(6, (Value.func (.func 55) #[] #[(bptr ib1 0), (bptr ib2 0), (bptr ib3 0), (bptr ib4 0)])), (2, (bptr Q 0))] rfl; clear o
 have U := t.i_4 88 4; clear t
 have V := U.nilR; clear U
 have M := V.gkp (gpc 3 (gpc 0 (gpc 1 (gpc 2 (gpc 4 (gpc 5 (gpc 6 (gpc 7 gpn)))))))); clear V
 refine c_rangeG A nilR rfl M A.e en_55 ((a_7 q ac pos saw).length) (fun k => #[.agg #[.int .i64 ((a_7 q ac pos saw).getD k q0).x, .int .i64 ((a_7 q ac pos saw).getD k q0).y, .int .i64 ((a_7 q ac pos saw).getD k q0).w, .int .i64 ((a_7 q ac pos saw).getD k q0).l]]) (fun _ => rfl) [(rob ib1 117 [(Value.func (.func (fwA ac)) #[] #[]), (Value.func (.func (fpA ac)) #[] #[])]), (rob ib2 88 [(iv q.x), (iv q.y), (iv q.w), (iv q.l)]), (rob ib3 3 [(iv pos)]), (rob ib4 3 [(iv saw)])] (fun r hr => by simp only [List.mem_cons, List.not_mem_nil, or_false] at hr; rcases hr with rfl | rfl | rfl | rfl <;> rfl) (parts_it ac q pos saw ib1 ib2 ib3 ib4 hqv hp hs) (fun q_ L_ => ∃ vx_ : Value, L_ = [(row vx_ 88 4 (((a_7 q ac pos saw).take q_).length) (recC d_5 ((a_7 q ac pos saw).take q_))), (blk Q 90 [vx_]), (rob ib1 117 [(Value.func (.func (fwA ac)) #[] #[]), (Value.func (.func (fpA ac)) #[] #[])]), (rob ib2 88 [(iv q.x), (iv q.y), (iv q.w), (iv q.l)]), (rob ib3 3 [(iv pos)]), (rob ib4 3 [(iv saw)])]) (fun _ => False) none ⟨(Value.slice none 0 0), rfl⟩ (fun q_ L_ hI_ G_ W_ r1_ r2_ hW_ => by obtain ⟨vx_, rfl⟩ := hI_; exact (Sep.keep hW_ [2, 5, 6, 7, 8] (by decide) _ rfl rfl)) (fun L_ hI_ => hI_.elim) ?_ ?_ (fun _ hc_ => by cases hc_)
 ·skip
  intro q_ hq_ L_ hL_ G22 AS u D20 rc21 h AV g W; obtain ⟨vx_, rfl⟩ := hL_
  have R : Fr 13 [] [(7, (Value.agg #[(iv (((a_7 q ac pos saw).getD q_ q0).x)), (iv (((a_7 q ac pos saw).getD q_ q0).y)), (iv (((a_7 q ac pos saw).getD q_ q0).w)), (iv (((a_7 q ac pos saw).getD q_ q0).l))])), (6, (Value.func (.func 55) #[] #[(bptr ib1 0), (bptr ib2 0), (bptr ib3 0), (bptr ib4 0)])), (2, (bptr Q 0))] h := by rw [g]; exact Fr.round1 A (by decide)
  clear g M
  have hpl := parts_len (q := q) (a := ac) (pos := pos) (saw := saw); have hul : ((a_7 q ac pos saw).take q_).length = q_ := by rw [List.length_take]; omega
  refine a_5 (s2 R (e_6 W rfl ze_88 (cs := [(iv 0), (iv 0), (iv 0), (iv 0)]) rfl) ?_)
  rintro AC _ AW ⟨j, rfl, X⟩ B; clear R W h
  refine s7 B (d_8 X rfl j_9 B.e B.e (i := 0) rfl (vs := [(iv (((a_7 q ac pos saw).getD q_ q0).x)), (iv (((a_7 q ac pos saw).getD q_ q0).y)), (iv (((a_7 q ac pos saw).getD q_ q0).w)), (iv (((a_7 q ac pos saw).getD q_ q0).l))]) rfl rfl rfl (Nat.le_of_ble_eq_true rfl)) ?_
  intro _ AJ Y H; clear B
  have Z : Sep NoB w AJ [(blk j 88 [(iv (((a_7 q ac pos saw).getD q_ q0).x)), (iv (((a_7 q ac pos saw).getD q_ q0).y)), (iv (((a_7 q ac pos saw).getD q_ q0).w)), (iv (((a_7 q ac pos saw).getD q_ q0).l))]), (obR u (.loop (rc21 .ready none))), (h_1 (D20 :: [])), G22, (row vx_ 88 4 (((a_7 q ac pos saw).take q_).length) (recC d_5 ((a_7 q ac pos saw).take q_))), (blk Q 90 [vx_]), (rob ib1 117 [(Value.func (.func (fwA ac)) #[] #[]), (Value.func (.func (fpA ac)) #[] #[])]), (rob ib2 88 [(iv q.x), (iv q.y), (iv q.w), (iv q.l)]), (rob ib3 3 [(iv pos)]), (rob ib4 3 [(iv saw)])] := Y; clear Y X
  refine d_0 ?_
  have b := Z.gkp (gpc 1 (gpc 2 (gpc 3 (gpc 0 (gpc 4 (gpc 5 (gpc 6 (gpc 7 (gpc 8 (gpc 9 gpn)))))))))); clear Z
  refine ⟨rfl, _, b, ?_⟩; intro AX E; clear b
  refine c_9 (a_5 (s1 H (a_3 rfl s_3 H.e (E.bk 5 rfl) rfl) fun AD I => ?_)); clear H AC
  refine s1 I (c_2 rfl j_9 (I.ev rfl) (E.bk 3 rfl) (l := [(iv (((a_7 q ac pos saw).getD q_ q0).x)), (iv (((a_7 q ac pos saw).getD q_ q0).y)), (iv (((a_7 q ac pos saw).getD q_ q0).w)), (iv (((a_7 q ac pos saw).getD q_ q0).l))]) rfl rfl) fun AE J => ?_; clear I AD
  refine s2 J (c_7 E rfl (pv1 J.e) r_0 j_9 ze_88 (by decide) (cs := [(iv (((a_7 q ac pos saw).getD q_ q0).x)), (iv (((a_7 q ac pos saw).getD q_ q0).y)), (iv (((a_7 q ac pos saw).getD q_ q0).w)), (iv (((a_7 q ac pos saw).getD q_ q0).l))]) (bs_88_1_0iiiia _ _ _ _)) ?_
  rintro AF _ AY ⟨AI, rfl, N⟩ C; clear J E AE
  refine s2 C (e_9 N rfl r_0 el_88 C.e C.e (i := 5) rfl (SlAt.h_3 (n := 1) (N.bk 0 rfl) rfl (Nat.le_of_ble_eq_true rfl)) rfl (by simp only [maxLen]; omega) (by omega)) ?_
  intro AT P AZ c D
  have F := c.c_5 (i := 5) rfl (n' := (((a_7 q ac pos saw).take q_) ++ [((a_7 q ac pos saw).getD q_ q0)]).length) (xs' := (recC d_5 (((a_7 q ac pos saw).take q_) ++ [((a_7 q ac pos saw).getD q_ q0)]))) (g_4 ((a_7 q ac pos saw).take q_) ((a_7 q ac pos saw).getD q_ q0)) (g_9 d_5 ((a_7 q ac pos saw).take q_) ((a_7 q ac pos saw).getD q_ q0)); clear c C N AF
  refine s7 D (d_8 F rfl s_3 D.e D.e (i := 6) rfl (vs := [P]) (i_3 (SlAt.isSl (SlAt.b_4 (F.b_7 5 rfl)))) rfl (j_8 (SlAt.one (SlAt.b_4 (F.b_7 5 rfl))) p_2) (Nat.le_of_ble_eq_true rfl)) ?_
  intro _ AK d AR; clear D
  have f : Sep NoB w AK [(blk AI 88 [(iv (((a_7 q ac pos saw).getD q_ q0).x)), (iv (((a_7 q ac pos saw).getD q_ q0).y)), (iv (((a_7 q ac pos saw).getD q_ q0).w)), (iv (((a_7 q ac pos saw).getD q_ q0).l))]), (obR u (.loop (rc21 .busy none))), (h_1 (D20 :: [])), G22, (blk j 88 [(iv (((a_7 q ac pos saw).getD q_ q0).x)), (iv (((a_7 q ac pos saw).getD q_ q0).y)), (iv (((a_7 q ac pos saw).getD q_ q0).w)), (iv (((a_7 q ac pos saw).getD q_ q0).l))]), (row P 88 4 ((((a_7 q ac pos saw).take q_) ++ [((a_7 q ac pos saw).getD q_ q0)]).length) (recC d_5 (((a_7 q ac pos saw).take q_) ++ [((a_7 q ac pos saw).getD q_ q0)]))), (blk Q 90 [P]), (rob ib1 117 [(Value.func (.func (fwA ac)) #[] #[]), (Value.func (.func (fpA ac)) #[] #[])]), (rob ib2 88 [(iv q.x), (iv q.y), (iv q.w), (iv q.l)]), (rob ib3 3 [(iv pos)]), (rob ib4 3 [(iv saw)])] := d; clear d F
  refine d_0 (f_8 ?_)
  have z := f.gkp (gpc 1 (gpc 2 (gpc 3 (gpc 5 (gpc 6 (gpc 7 (gpc 8 (gpc 9 (gpc 10 gpn))))))))); clear f
  exact re_n ⟨_, rfl, ⟨P, rfl⟩⟩ (z.c_5 (i := 3) rfl (by rw [take_one _ _ hq_]) (by rw [take_one _ _ hq_]))
 intro L_ hL_ D60 AG Aa K O; obtain ⟨vx_, rfl⟩ := hL_; clear A M
 refine f_8 (b_0 (m2 (s1 K (a_3 rfl s_3 K.e (O.bk 3 rfl) rfl) fun AH L => ?_))); clear K AG
 refine s1 L (a_1 rfl L.e) fun AU S => ?_; clear L AH
 refine n1 (c_3 (fin_runM S (.inl rfl) O ?_))
 intro Ab AA; clear O
 refine ⟨_, (a_4 S rfl (.tmp rfl)), ?_⟩
 have hz := AA.c_5 (i := 1) rfl (n' := (a_7 q ac pos saw).length) (xs' := recC d_5 (a_7 q ac pos saw)) (by rw [List.take_length]) (by rw [List.take_length])
 exact ⟨hz.ext, hz.g_7 (i := 1) rfl⟩
theorem collect_ok (ac : Bool) (q : Quad) (pos saw : Int) (ib1 ib2 ib3 ib4 : Nat) (w : World) (M : (blk ib1 117 [(Value.func (.func (fwA ac)) #[] #[]), (Value.func (.func (fpA ac)) #[] #[])]).p w) (N : (blk ib2 88 [(iv q.x), (iv q.y), (iv q.w), (iv q.l)]).p w) (O : (blk ib3 3 [(iv pos)]).p w) (P : (blk ib4 3 [(iv saw)]).p w) (hqv : n_7 q) (hp : -1000 ≤ pos ∧ pos ≤ 1000) (hs : 0 ≤ saw ∧ saw ≤ 2) :
  Calls Try.prog 42 #[(Value.func (.func 55) #[] #[(bptr ib1 0), (bptr ib2 0), (bptr ib3 0), (bptr ib4 0)])] w (Ret fun v w' => Ext NoB w w' ∧ w'.ownsRow w.heap.size 88 4 v (a_7 q ac pos saw).length (recC d_5 (a_7 q ac pos saw))) := by
 refine b_2 Try.func42 rfl fun I B => ?_
 replace B : Fr 5 [] [(0, (Value.func (.func 55) #[] #[(bptr ib1 0), (bptr ib2 0), (bptr ib3 0), (bptr ib4 0)]))] I := B
 have A : Sep NoB w w [(rob ib1 117 [(Value.func (.func (fwA ac)) #[] #[]), (Value.func (.func (fpA ac)) #[] #[])]), (rob ib2 88 [(iv q.x), (iv q.y), (iv q.w), (iv q.l)]), (rob ib3 3 [(iv pos)]), (rob ib4 3 [(iv saw)])] := f_7 ⟨rfl, M, rfl, N, rfl, O, rfl, P, trivial⟩
 refine m2 (s1 B (a_1 rfl (evc _ _)) fun J D => ?_); clear B I
 refine n4 (s1 D (a_0 rfl D.e) fun K E => ?_); clear D J
 refine s2 E (b_5 rfl en_53 (ev2 (evc _ _) E.e) (appendseq_ok ac q pos saw ib1 ib2 ib3 ib4 _ (A.rk 0 rfl) (A.rk 1 rfl) (A.rk 2 rfl) (A.rk 3 rfl) hqv (by omega) (by omega))) ?_
 rintro L R S ⟨H, hO9⟩ F; have G := A.new_row H hO9; clear H hO9 E A K
 refine s1 F (a_1 rfl F.e) fun Q C => ?_; clear F L
 exact n1 (c_3 (a_9 C (.inl rfl) (a_4 C rfl (.tmp rfl)) (⟨G.ext, G.g_7 (i := 0) rfl⟩)))
end Go.Proofs.Ytphkmnaohimdbaa

namespace Go.Proofs.Ytphkmnaohimdbaa
open Go.RowKit Go.Shelf Go.Eng Go.Top
theorem en_41 : ∀ args w, (callFunc 41 args).run Try.prog w = .ok (.enter 41 args) w := enters_of Try.func41 (by kernel_rfl) rfl
theorem en_23 : ∀ args w, (callFunc 23 args).run Try.prog w = .ok (.enter 23 args) w := enters_of Try.func23 (by kernel_rfl) rfl
theorem bd_92_0iiiva_1s_2s (x0_0 : Int) (x0_1 : Int) (x0_2 : Int) (x0_3 : Value) (x1_0 : Value) (hx1_0 : IsSl x1_0) (x2_0 : Value) (hx2_0 : IsSl x2_0) (w : World) : (Instr.build 92 #[(0, .agg #[(.int .i64 x0_0), (.int .i64 x0_1), (.int .i64 x0_2), x0_3]), (1, x1_0), (2, x2_0)]).run Try.prog w = .ok (.agg #[(.int .i64 x0_0), (.int .i64 x0_1), (.int .i64 x0_2), x0_3, x1_0, x2_0]) w := by obtain ⟨Ax1_0, Bx1_0, Cx1_0, rfl⟩ := hx1_0; obtain ⟨Ax2_0, Bx2_0, Cx2_0, rfl⟩ := hx2_0; kernel_rfl
theorem fd_109_0 : fldK Try.prog 109 0 = some 0 := by kernel_rfl
theorem fd_92_1 : fldK Try.prog 92 1 = some 4 := by kernel_rfl
theorem fd_92_2 : fldK Try.prog 92 2 = some 5 := by kernel_rfl
theorem ty_39 : tyK Try.prog 39 = some (false, 1) := by kernel_rfl
theorem fd_109_2 : fldK Try.prog 109 2 = some 2 := by kernel_rfl
theorem en_43 : ∀ args w, (callFunc 43 args).run Try.prog w = .ok (.enter 43 args) w := enters_of Try.func43 (by kernel_rfl) rfl
theorem en_44 : ∀ args w, (callFunc 44 args).run Try.prog w = .ok (.enter 44 args) w := enters_of Try.func44 (by kernel_rfl) rfl
theorem en_42 : ∀ args w, (callFunc 42 args).run Try.prog w = .ok (.enter 42 args) w := enters_of Try.func42 (by kernel_rfl) rfl
theorem pieces_at {p : g_2} {cuts : List CutD} {k : Nat} {st r : PCs} (h : l_7 p cuts = some r) (hk : k < cuts.length) (hu : h_8 p cuts k = some st) : r_8 st p.saw (cuts.getD k c0) :=
 Decidable.byContradiction fun hn => by rw [pieces_fail hu hk hn] at h; cases h
theorem parts_ne {L : List Quad} (h : L ≠ []) : ¬ ((L.length : Int) = 0) := fun e => h (List.eq_nil_of_length_eq_zero (by omega))
set_option maxHeartbeats 8000000 in
theorem do_ok (p : g_2) (vw : Value) (w : World) (hvw : SlAt w vw 8 p.wants.length (recC d_6 p.wants)) (cuts : List CutD) (vc : Value) (hvc : SlAt w vc 3 cuts.length (recC cutC cuts)) (hV : n_0 p) (hcl : cuts.length ≤ 40) (hcb : ∀ i, i < cuts.length → -1000 ≤ (cuts.getD i c0).pos ∧ (cuts.getD i c0).pos ≤ 1000) (ps : List Quad) (cs : List Bool) (hd : l_7 p cuts = some (ps, cs)) :
  Calls Try.prog 32 #[(Value.agg #[(iv p.wide), (iv p.long), (iv p.saw), vw]), vc] w (Ret fun v w' => ∃ bw u1 u2, v = .tuple #[bptr bw 0, .int .i64 0] ∧ Sep NoB w w' [blk bw 92 [.int .i64 p.wide, .int .i64 p.long, .int .i64 p.saw, vw, u1, u2], row u1 88 4 ps.length (recC d_5 ps), row u2 4 1 cs.length (d_1 cs)]) := by
 refine b_2 Try.func32 rfl fun a0 Aa => ?_
 replace Aa : Fr 108 [] [(0, (Value.agg #[(iv p.wide), (iv p.long), (iv p.saw), vw])), (1, vc)] a0 := Aa
 have hsw := hV.saw
 have CE : Sep NoB w w [(sl vw 8 p.wants.length (recC d_6 p.wants)), (sl vc 3 cuts.length (recC cutC cuts))] := f_7 ⟨rfl, hvw, rfl, hvc, trivial⟩
 refine m2 (s2 Aa (e_5 CE rfl Aa.e (cs := [(iv p.wide), (iv p.long), (iv p.saw), vw]) rfl) ?_)
 rintro a1 _ w3 ⟨E, rfl, BT⟩ CC; clear Aa CE a0
 refine s1 CC (a_1 rfl (evc _ _)) fun a6 CD => ?_; clear CC a1
 refine s1 CD (a_1 rfl (evc _ _)) fun a8 Br => ?_; clear CD a6
 refine n2 (m2 (s1 Br (c_2 rfl ty_60 (Br.ev rfl) (BT.bk 0 rfl) (l := [(iv p.wide), (iv p.long), (iv p.saw), vw]) rfl rfl) fun Cs Ab => ?_)); clear Br a8
 refine s2 Ab (b_5 rfl en_41 (ev1 Ab.e) (checkplate_ok p vw _ (BT.sk 1 rfl) hV)) ?_
 rintro Ct _ Do ⟨rfl, Bu⟩ Ac; have Aq := BT.step Bu; clear Bu Ab BT Cs
 refine s1 Ac (a_1 rfl Ac.e) fun Cu Ad => ?_; clear Ac Ct
 refine n4 (s1 Ad (a_0 rfl Ad.e) fun Cv Ae => ?_); clear Ad Cu
 refine s1 Ae (j_7 rfl Ae.e (evc _ _)) fun Cw Af => ?_; clear Ae Cv
 refine n1 (b_3 Af rfl (c_0 (b_0 (b_6 (b_6 ?_)))))
 have Ag := Af.as [(2, (bptr E 0)), (1, vc)] rfl; clear Af
 refine a_5 (s1 Ag (a_0 rfl Ag.e) fun Cx Ah => ?_); clear Ag Cw
 refine s1 Ah (d_7 rfl un_61 Ah.e (Aq.sk 2 rfl)) fun Cy Ai => ?_; clear Ah Cx
 refine s1 Ai (h_4 rfl Ai.e (evc _ _)) fun Di AO => ?_; clear Ai Cy
 have Ce : ¬ (40 < (cuts.length : Int)) := (by omega)
 rw [decide_eq_false Ce] at AO
 refine n1 (b_3 AO rfl (c_0 (b_0 (b_6 ?_))))
 have Be := AO.as [(2, (bptr E 0)), (1, vc)] rfl; clear AO
 refine c_drawV mixed Be Aq 5 [[], [], [1], [2], []] [(yw (Value.agg #[(iv p.wide), (iv p.long), (iv p.saw), vw])), (yw (Value.agg #[(iv p.wide), (iv p.long), (iv p.saw), vw])), (yw (Value.agg #[(iv 0), (iv 0), (iv p.wide), (iv p.long)])), (fun (D : Nat → Value) (v_ : Value) (rs_ : List Res) => True ∧ rs_ = [(row v_ 88 4 1 [(iv 0), (iv 0), (iv p.wide), (iv p.long)])]), (fun (D : Nat → Value) (v_ : Value) (rs_ : List Res) => True ∧ rs_ = [(row v_ 4 1 1 [(Value.bool false)])])] (by decide +kernel) (by decide +kernel) rfl rfl ⟨dw, dw, dw, (fun _ _ _ _ _ h_ => h_), (fun _ _ _ _ _ h_ => h_), trivial⟩ ?_ ?_
 ·skip
  refine ⟨fun a w D hA hS hd => gv1 (c_2 rfl ty_60 (hA.ev rfl) (hS.bk 0 rfl) (l := [(iv p.wide), (iv p.long), (iv p.saw), vw]) rfl rfl), ?_⟩
  refine ⟨fun a w D hA hS hd => gv1 (c_2 rfl ty_60 (hA.ev rfl) (hS.bk 0 rfl) (l := [(iv p.wide), (iv p.long), (iv p.saw), vw]) rfl rfl), ?_⟩
  refine ⟨fun a w D hA hS hd => gx1 (b_5 rfl en_23 (ev1 (gu hd 1)) (whole_ok p vw _ (hS.sk 1 rfl))), ?_⟩
  refine ⟨fun a w D hA hS hd => e_7 rfl (vblt rfl (pv1 (gu hd 2)) r_0 j_9 ze_88 (by decide) (cs := [(iv 0), (iv 0), (iv p.wide), (iv p.long)]) (bs_88_1_0iiiia _ _ _ _) rfl (by decide) (fun _ => And.intro trivial rfl)), ?_⟩
  refine ⟨fun a w D hA hS hd => e_7 rfl (vblt rfl (pv1 (evc _ _)) h_2 ty_4 ze_4 (by decide) (cs := [(Value.bool false)]) (o_0 _) rfl (by decide) (fun _ => And.intro trivial rfl)), ?_⟩
  trivial
 intro Bd DK D rsf38 Bf Q Ar; clear Be Aq
 obtain ⟨B1, Cj⟩ := Q 3 (by decide)
 obtain ⟨Ch, Bz⟩ := Cj
 obtain ⟨B2, Ck⟩ := Q 4 (by decide)
 obtain ⟨Ci, B0⟩ := Ck
 have AY : Sep NoB w DK [(row (D 3) 88 4 1 [(iv 0), (iv 0), (iv p.wide), (iv p.long)]), (row (D 4) 4 1 1 [(Value.bool false)]), (blk E 60 [(iv p.wide), (iv p.long), (iv p.saw), vw]), (sl vw 8 p.wants.length (recC d_6 p.wants)), (sl vc 3 cuts.length (recC cutC cuts))] := by rw [show catR rsf38 0 5 = ([(row (D 3) 88 4 1 [(iv 0), (iv 0), (iv p.wide), (iv p.long)]), (row (D 4) 4 1 1 [(Value.bool false)])] : List Res) by (try simp only [catR, gr (Q 0 (by decide)), gr (Q 1 (by decide)), gr (Q 2 (by decide)), Bz, B0]); (try rfl)] at Ar; exact Ar
 have Bg := Bf.add (gs (Q 0 (by decide))); clear Bf
 have Bh : Fr 108 [] [(24, (D 3)), (21, (Value.agg #[(iv p.wide), (iv p.long), (iv p.saw), vw])), (2, (bptr E 0)), (1, vc)] Bd := Bg.add (j_5 B1 rfl); clear Bg
 have g : Fr 108 [] [(25, (D 4)), (24, (D 3)), (21, (Value.agg #[(iv p.wide), (iv p.long), (iv p.saw), vw])), (2, (bptr E 0)), (1, vc)] Bd := Bh.add (j_5 B2 rfl); clear Bh
 clear Q Ar B1 B2
 clear Bz
 clear Ch
 clear B0
 clear Ci
 refine s1 g (e_8 rfl (pv3 g.e g.e g.e) (bd_92_0iiiva_1s_2s _ _ _ _ _ (SlAt.isSl (SlAt.b_4 (AY.b_7 0 rfl))) _ (SlAt.isSl (SlAt.b_4 (AY.b_7 1 rfl))))) fun Cz Aj => ?_; clear g Bd
 refine s2 Aj (e_5 AY rfl Aj.e (cs := [(iv p.wide), (iv p.long), (iv p.saw), vw, (D 3), (D 4)]) rfl) ?_
 rintro C0 _ Dp ⟨A, rfl, As⟩ Ak; clear Aj AY Cz
 refine s1 Ak (a_1 rfl Ak.e) fun C1 Al => ?_; clear Ak C0
 refine n2 (m2 (s1 Al (a_0 rfl Al.e) fun C2 Am => ?_)); clear Al C1
 refine s1 Am (d_7 rfl un_61 Am.e (As.sk 5 rfl)) fun C3 Bi => ?_; clear Am C2
 refine s1 Bi (a_0 rfl (evc _ _)) fun C4 Bj => ?_; clear Bi C3
 refine n1 (c_9 ?_)
 have Bk := Bj.as [(30, (iv 0)), (29, (iv (cuts.length : Int))), (28, vc), (7, (bptr A 0)), (2, (bptr E 0))] rfl; clear Bj
 refine g_6 (G := Nat) (fun (k : Nat) a_ w_ => ∃ vp_ : Value, ∃ vk_ : Value, ∃ pk : List Quad, ∃ ck : List Bool, Fr 108 [] [(30, (iv (k : Int))), (29, (iv (cuts.length : Int))), (28, vc), (7, (bptr A 0)), (2, (bptr E 0))] a_ ∧ Sep NoB w w_ [(blk A 92 [(iv p.wide), (iv p.long), (iv p.saw), vw, vp_, vk_]), (row vp_ 88 4 pk.length (recC d_5 pk)), (row vk_ 4 1 ck.length (d_1 ck)), (blk E 60 [(iv p.wide), (iv p.long), (iv p.saw), vw]), (sl vw 8 p.wants.length (recC d_6 p.wants)), (sl vc 3 cuts.length (recC cutC cuts))] ∧ (k ≤ cuts.length) ∧ (h_8 p cuts k = some (pk, ck))) (fun k => cuts.length - k) 0 ⟨(D 3), (D 4), [(⟨0, 0, p.wide, p.long⟩ : Quad)], [false], Bk.as _ rfl, ((As.c_5 (i := 1) rfl (n' := [(⟨0, 0, p.wide, p.long⟩ : Quad)].length) (xs' := (recC d_5 ([(⟨0, 0, p.wide, p.long⟩ : Quad)]))) rfl rfl).c_5 (i := 2) rfl (n' := [false].length) (xs' := (d_1 ([false]))) rfl rfl), Nat.zero_le _, rfl⟩ ?_
 clear Bk As C4
 rintro k C5 Dq ⟨vp_, vk_, pk, ck, AP, n, hk, hu_⟩
 have hpc := pieces_V hV k _ hu_; have hps : ck.length = pk.length := hpc.same; have hpf : pk.length ≤ 2 * k + 1 := hpc.few; have hpp : 1 ≤ pk.length := hpc.pos
 refine m2 (s1 AP (e_2 rfl AP.e AP.e) fun CB K => ?_); clear AP C5
 refine n2 ?_
 by_cases By : (k : Int) < (cuts.length : Int)
 ·skip
  rw [decide_eq_true By] at K
  have hcp := hcb k (by omega); have hok := pieces_at hd (by omega) hu_; have hin : 0 ≤ (cuts.getD k c0).piece ∧ (cuts.getD k c0).piece ≤ (pk.length : Int) - 1 := hok.1; have hqv : n_7 (pk.getD (cuts.getD k c0).piece.toNat q0) := hpc.quad (cuts.getD k c0).piece.toNat (show (cuts.getD k c0).piece.toNat < pk.length by omega)
  refine c_1 K rfl (c_0 (b_0 (b_6 (c_9 (m2 (s1 K (b_8 rfl un_61 ty_109 K.e (i := k) K.e (n.sk 5 rfl) (by decide) (by omega)) fun C6 An => ?_)))))); clear K CB
  refine s1 An (e_1 rfl ty_109 An.e (n.sk 5 rfl) (cut_all (by omega)) rfl (by decide)) fun C7 Bl => ?_; clear An C6
  refine s2 Bl (e_6 n rfl ze_109 (cs := [(iv 0), (Value.bool false), (iv 0)]) rfl) ?_
  rintro Dj _ Dr ⟨H, rfl, Bv⟩ AQ; clear Bl n C7
  refine s7 AQ (d_8 Bv rfl ty_109 AQ.e AQ.e (i := 0) rfl (vs := [(iv ((cuts.getD k c0).piece)), (Value.bool ((cuts.getD k c0).across)), (iv ((cuts.getD k c0).pos))]) rfl rfl rfl (Nat.le_of_ble_eq_true rfl)) ?_
  intro _ DL Bw Bm; clear AQ
  have Bx : Sep NoB w DL [(blk H 109 [(iv ((cuts.getD k c0).piece)), (Value.bool ((cuts.getD k c0).across)), (iv ((cuts.getD k c0).pos))]), (blk A 92 [(iv p.wide), (iv p.long), (iv p.saw), vw, vp_, vk_]), (row vp_ 88 4 pk.length (recC d_5 pk)), (row vk_ 4 1 ck.length (d_1 ck)), (blk E 60 [(iv p.wide), (iv p.long), (iv p.saw), vw]), (sl vw 8 p.wants.length (recC d_6 p.wants)), (sl vc 3 cuts.length (recC cutC cuts))] := Bw; clear Bw Bv
  refine n2 (b_6 ?_)
  have Bn := Bm.as [(9, (bptr H 0)), (30, (iv (k : Int))), (29, (iv (cuts.length : Int))), (28, vc), (7, (bptr A 0)), (2, (bptr E 0))] rfl; clear Bm
  refine h_7 mixed Bn Bx 17 [[], [0], [], [2], [3], [4], [5], [6], [1, 7], [8], [9], [10], [10, 11], [10, 12], [10, 13], [10], [10, 15]] [(Yd.val (bptr H 0)), (Yd.val (iv ((cuts.getD k c0).piece))), (Yd.val (bptr A 0)), (Yd.val (bptr A 0)), (Yd.val (bptr A 4)), (Yd.val vp_), (Yd.val (iv (pk.length : Int))), (Yd.val (iv ((pk.length : Int) - 1))), (Yd.val (Value.bool true)), (Yd.val (Value.bool (!true))), (Yd.val (Value.bool (!true))), (Yd.val (bptr A 0)), (Yd.val (bptr A 0)), (Yd.val (bptr A 5)), (Yd.val vk_), (Yd.val (bptr H 0)), (Yd.val (iv ((cuts.getD k c0).piece)))] (by decide +kernel) rfl rfl ?_ ?_
  ·skip
   refine dq (fun a w hA hS hd => a_2 rfl fd_109_0 hA.e) ?_
   refine dq (fun a w hA hS hd => a_3 rfl ty_3 (hq hd 0) (hS.bk 0 rfl) rfl) ?_
   refine dq (fun a w hA hS hd => a_0 rfl hA.e) ?_
   refine dq (fun a w hA hS hd => f_4 rfl (hq hd 2)) ?_
   refine dq (fun a w hA hS hd => a_2 rfl fd_92_1 (hq hd 3)) ?_
   refine dq (fun a w hA hS hd => a_3 rfl s_3 (hq hd 4) (hS.bk 1 rfl) rfl) ?_
   refine dq (fun a w hA hS hd => d_7 rfl r_0 (hq hd 5) (SlAt.b_4 (hS.b_7 2 rfl))) ?_
   refine dq (fun a w hA hS hd => f_9 rfl (hq hd 6) (evc _ _) (by omega) (by omega)) ?_
   refine ⟨fun a w hA hS hd => by have e1 := hx hd 1; have e7 := hx hd 7; exact e_7 rfl (dv (b_5 rfl en_35 (ev3 (e_0 e1) (evc _ _) (e_0 e7)) (l_1 _ _ _ _)) hS (by show Value.bool _ = _; simp only [(show (inB ((cuts.getD k c0).piece) 0 ((pk.length : Int) - 1)) = true from (g_3.2 hok.1)), decide_true, decide_false, Bool.not_true, Bool.not_false])), ?_⟩
   refine dq (fun a w hA hS hd => e_4 rfl (hq hd 8)) ?_
   refine dq (fun a w hA hS hd => a_0 rfl (hq hd 9)) ?_
   refine dy 10 (fun a w hA hS hd => a_0 rfl hA.e) ?_
   refine dy 10 (fun a w hA hS hd => f_4 rfl (hq hd 11)) ?_
   refine dy 10 (fun a w hA hS hd => a_2 rfl fd_92_2 (hq hd 12)) ?_
   refine dy 10 (fun a w hA hS hd => a_3 rfl ty_39 (hq hd 13) (hS.bk 1 rfl) rfl) ?_
   refine dy 10 (fun a w hA hS hd => a_2 rfl fd_109_0 hA.e) ?_
   refine dy 10 (fun a w hA hS hd => a_3 rfl ty_3 (hq hd 15) (hS.bk 0 rfl) rfl) ?_
   trivial
  intro C8 Ds Bo AZ AT; clear Bn Bx
  have Bp := Bo.add (hz AT 10); clear Bo
  have Bq := Bp.add (hz AT 14); clear Bp
  have AR := Bq.add (hz AT 16); clear Bq
  clear AT
  refine s5 AR (b_8 rfl h_2 ty_4 AR.e (i := ((cuts.getD k c0).piece).toNat) (AR.e.trans (i_8 (by omega))) (SlAt.b_4 (AZ.b_7 3 rfl)) (by decide) (by omega)) fun C9 Ao => ?_; clear AR C8
  refine s5 Ao (d_3 rfl ty_4 Ao.e (SlAt.b_4 (AZ.b_7 3 rfl)) (h_6 (by omega))) fun DA m => ?_; clear Ao C9
  have Cf : (ck.getD (((cuts.getD k c0).piece).toNat) false) = false := hok.2.1
  rw [Cf] at m
  refine s1 m (a_8 rfl m.e m.e) fun Dk Ap => ?_; clear m DA
  refine n1 (b_3 Ap rfl (c_0 (b_0 (b_6 ?_))))
  have Bs := Ap.as [(9, (bptr H 0)), (30, (iv (k : Int))), (29, (iv (cuts.length : Int))), (28, vc), (7, (bptr A 0)), (2, (bptr E 0))] rfl; clear Ap
  have Bt := Bs.as [(9, (bptr H 0)), (30, (iv (k : Int))), (29, (iv (cuts.length : Int))), (28, vc), (7, (bptr A 0)), (2, (bptr E 0))] rfl; clear Bs
  refine h_7 mixed Bt AZ 14 [[], [0], [], [2], [3], [4], [], [6], [5, 7], [8], [], [10], [], [12]] [(Yd.val (Value.agg #[(iv ((cuts.getD k c0).piece)), (Value.bool ((cuts.getD k c0).across)), (iv ((cuts.getD k c0).pos))])), (Yd.val (Value.agg #[(Value.func (.func (fwA ((cuts.getD k c0).across))) #[] #[]), (Value.func (.func (fpA ((cuts.getD k c0).across))) #[] #[])])), (Yd.val (bptr A 0)), (Yd.val (bptr A 0)), (Yd.val (bptr A 4)), (Yd.val vp_), (Yd.val (bptr H 0)), (Yd.val (iv ((cuts.getD k c0).piece))), (Yd.val (eptr vp_ (((cuts.getD k c0).piece).toNat * 4))), (Yd.val (Value.agg #[(iv ((pk.getD (((cuts.getD k c0).piece).toNat) q0).x)), (iv ((pk.getD (((cuts.getD k c0).piece).toNat) q0).y)), (iv ((pk.getD (((cuts.getD k c0).piece).toNat) q0).w)), (iv ((pk.getD (((cuts.getD k c0).piece).toNat) q0).l))])), (Yd.val (bptr H 2)), (Yd.val (iv ((cuts.getD k c0).pos))), (Yd.val (bptr E 2)), (Yd.val (iv p.saw))] (by decide +kernel) rfl rfl ?_ ?_
  ·skip
   refine dq (fun a w hA hS hd => c_2 rfl ty_109 (hA.ev rfl) (hS.bk 0 rfl) (l := [(iv ((cuts.getD k c0).piece)), (Value.bool ((cuts.getD k c0).across)), (iv ((cuts.getD k c0).pos))]) rfl rfl) ?_
   refine ⟨fun a w hA hS hd => by have e0 := hx hd 0; exact e_7 rfl (dx (b_5 rfl en_43 (ev1 (e_0 e0)) (of_ok (cuts.getD k c0) _)) hS (fun _ => rfl)), ?_⟩
   refine dq (fun a w hA hS hd => a_0 rfl hA.e) ?_
   refine dq (fun a w hA hS hd => f_4 rfl (hq hd 2)) ?_
   refine dq (fun a w hA hS hd => a_2 rfl fd_92_1 (hq hd 3)) ?_
   refine dq (fun a w hA hS hd => a_3 rfl s_3 (hq hd 4) (hS.bk 1 rfl) rfl) ?_
   refine dq (fun a w hA hS hd => a_2 rfl fd_109_0 hA.e) ?_
   refine dq (fun a w hA hS hd => a_3 rfl ty_3 (hq hd 6) (hS.bk 0 rfl) rfl) ?_
   refine dq (fun a w hA hS hd => b_8 rfl r_0 j_9 (hq hd 5) (i := ((cuts.getD k c0).piece).toNat) ((hq hd 7).trans (i_8 (by omega))) (SlAt.b_4 (hS.b_7 2 rfl)) (by decide) (by omega)) ?_
   refine dq (fun a w hA hS hd => e_1 rfl j_9 (hq hd 8) (SlAt.b_4 (hS.b_7 2 rfl)) (k_6 (by omega)) rfl (by decide)) ?_
   refine dq (fun a w hA hS hd => a_2 rfl fd_109_2 hA.e) ?_
   refine dq (fun a w hA hS hd => a_3 rfl ty_3 (hq hd 10) (hS.bk 0 rfl) rfl) ?_
   refine dq (fun a w hA hS hd => a_2 rfl fd_60_2 hA.e) ?_
   refine dq (fun a w hA hS hd => a_3 rfl ty_3 (hq hd 12) (hS.bk 4 rfl) rfl) ?_
   trivial
  intro DB Dc Au BH R; clear Bt AZ
  have Av := Au.add (hz R 1); clear Au
  have Aw := Av.add (hz R 9); clear Av
  have Ax := Aw.add (hz R 11); clear Aw
  have M := Ax.add (hz R 13); clear Ax
  clear R
  refine s2 M (b_5 rfl en_44 (ev4 M.e M.e M.e M.e) (parts4_ok ((cuts.getD k c0).across) (pk.getD (((cuts.getD k c0).piece).toNat) q0) ((cuts.getD k c0).pos) p.saw _)) ?_
  rintro CF _ Cl ⟨ib111, ib112, ib113, ib114, rfl, BU⟩ o; have N : Sep NoB w Cl [(blk ib111 117 [(Value.func (.func (fwA ((cuts.getD k c0).across))) #[] #[]), (Value.func (.func (fpA ((cuts.getD k c0).across))) #[] #[])]), (blk ib112 88 [(iv ((pk.getD (((cuts.getD k c0).piece).toNat) q0).x)), (iv ((pk.getD (((cuts.getD k c0).piece).toNat) q0).y)), (iv ((pk.getD (((cuts.getD k c0).piece).toNat) q0).w)), (iv ((pk.getD (((cuts.getD k c0).piece).toNat) q0).l))]), (blk ib113 3 [(iv ((cuts.getD k c0).pos))]), (blk ib114 3 [(iv p.saw)]), (blk H 109 [(iv ((cuts.getD k c0).piece)), (Value.bool ((cuts.getD k c0).across)), (iv ((cuts.getD k c0).pos))]), (blk A 92 [(iv p.wide), (iv p.long), (iv p.saw), vw, vp_, vk_]), (row vp_ 88 4 pk.length (recC d_5 pk)), (row vk_ 4 1 ck.length (d_1 ck)), (blk E 60 [(iv p.wide), (iv p.long), (iv p.saw), vw]), (sl vw 8 p.wants.length (recC d_6 p.wants)), (sl vc 3 cuts.length (recC cutC cuts))] := BH.q_1 BU rfl; clear BU M BH DB
  refine s2 o (b_5 rfl en_42 (ev1 o.e) (collect_ok ((cuts.getD k c0).across) (pk.getD (((cuts.getD k c0).piece).toNat) q0) ((cuts.getD k c0).pos) p.saw ib111 ib112 ib113 ib114 _ (N.bk 0 rfl) (N.bk 1 rfl) (N.bk 2 rfl) (N.bk 3 rfl) hqv (by omega) (by omega))) ?_
  rintro CG B Dd ⟨BG, hO121⟩ r; have AU := N.new_row BG hO121; clear BG hO121 o N CF
  refine s1 r (a_1 rfl r.e) fun CH Ay => ?_; clear r CG
  refine n2 (b_6 ?_)
  have s := Ay.as [(10, B), (9, (bptr H 0)), (30, (iv (k : Int))), (29, (iv (cuts.length : Int))), (28, vc), (7, (bptr A 0)), (2, (bptr E 0))] rfl; clear Ay
  refine a_5 (s1 s (a_0 rfl s.e) fun CI t => ?_); clear s CH
  refine s1 t (d_7 rfl r_0 t.e (SlAt.b_4 (AU.b_7 0 rfl))) fun CJ u => ?_; clear t CI
  refine s1 u (f_5 rfl u.e (evc _ _)) fun DN T => ?_; clear u CJ
  have CA : ¬ (((a_7 (pk.getD (((cuts.getD k c0).piece).toNat) q0) ((cuts.getD k c0).across) ((cuts.getD k c0).pos) p.saw).length : Int) = 0) := (parts_ne hok.2.2)
  rw [decide_eq_false CA] at T
  refine n1 (b_3 T rfl (c_0 (b_0 (b_6 ?_))))
  have Az := T.as [(10, B), (9, (bptr H 0)), (30, (iv (k : Int))), (29, (iv (cuts.length : Int))), (28, vc), (7, (bptr A 0)), (2, (bptr E 0))] rfl; clear T
  refine h_7 mixed Az AU 6 [[], [0], [1], [2], [], [4]] [(Yd.val (bptr A 0)), (Yd.val (bptr A 0)), (Yd.val (bptr A 5)), (Yd.val vk_), (Yd.val (bptr H 0)), (Yd.val (iv ((cuts.getD k c0).piece)))] (by decide +kernel) rfl rfl ?_ ?_
  ·skip
   refine dq (fun a w hA hS hd => a_0 rfl hA.e) ?_
   refine dq (fun a w hA hS hd => f_4 rfl (hq hd 0)) ?_
   refine dq (fun a w hA hS hd => a_2 rfl fd_92_2 (hq hd 1)) ?_
   refine dq (fun a w hA hS hd => a_3 rfl ty_39 (hq hd 2) (hS.bk 6 rfl) rfl) ?_
   refine dq (fun a w hA hS hd => a_2 rfl fd_109_0 hA.e) ?_
   refine dq (fun a w hA hS hd => a_3 rfl ty_3 (hq hd 4) (hS.bk 5 rfl) rfl) ?_
   trivial
  intro CK De A0 AV AS; clear Az AU
  have A1 := A0.add (hz AS 3); clear A0
  have U := A1.add (hz AS 5); clear A1
  clear AS
  refine s1 U (b_8 rfl h_2 ty_4 U.e (i := ((cuts.getD k c0).piece).toNat) (U.e.trans (i_8 (by omega))) (SlAt.b_4 (AV.b_7 8 rfl)) (by decide) (by omega)) fun CL z => ?_; clear U CK
  refine s7 z (o_2 AV rfl ty_4 z.e (evc _ _) (i := 8) rfl (vs := [(Value.bool true)]) rfl rfl rfl (by rw [n_1]; omega) (by decide)) ?_
  intro _ Df BI AA; have AW := BI.c_5 (i := 8) rfl (n' := (ck.set (((cuts.getD k c0).piece).toNat) true).length) (xs' := (d_1 (ck.set (((cuts.getD k c0).piece).toNat) true))) (by simp) (by simp [m_7, d_1, List.map_set]); clear BI z AV
  refine n4 (s1 AA (a_0 rfl AA.e) fun CM AB => ?_); clear AA CL
  refine s1 AB (d_7 rfl r_0 AB.e (SlAt.b_4 (AW.b_7 0 rfl))) fun CN A2 => ?_; clear AB CM
  refine s1 A2 (a_0 rfl (evc _ _)) fun CO A3 => ?_; clear A2 CN
  refine n1 (c_9 ?_)
  have A4 := A3.as [(82, (iv 0)), (81, (iv ((a_7 (pk.getD (((cuts.getD k c0).piece).toNat) q0) ((cuts.getD k c0).across) ((cuts.getD k c0).pos) p.saw).length : Int))), (80, B), (30, (iv (k : Int))), (29, (iv (cuts.length : Int))), (28, vc), (7, (bptr A 0)), (2, (bptr E 0))] rfl; clear A3
  refine g_6 (G := Nat) (fun (j : Nat) a_ w_ => ∃ vp2_ : Value, ∃ vk2_ : Value, Fr 108 [] [(82, (iv (j : Int))), (81, (iv ((a_7 (pk.getD (((cuts.getD k c0).piece).toNat) q0) ((cuts.getD k c0).across) ((cuts.getD k c0).pos) p.saw).length : Int))), (80, B), (30, (iv (k : Int))), (29, (iv (cuts.length : Int))), (28, vc), (7, (bptr A 0)), (2, (bptr E 0))] a_ ∧ Sep NoB w w_ [(row B 88 4 ((a_7 (pk.getD (((cuts.getD k c0).piece).toNat) q0) ((cuts.getD k c0).across) ((cuts.getD k c0).pos) p.saw).length) (recC d_5 (a_7 (pk.getD (((cuts.getD k c0).piece).toNat) q0) ((cuts.getD k c0).across) ((cuts.getD k c0).pos) p.saw))), (blk ib111 117 [(Value.func (.func (fwA ((cuts.getD k c0).across))) #[] #[]), (Value.func (.func (fpA ((cuts.getD k c0).across))) #[] #[])]), (blk ib112 88 [(iv ((pk.getD (((cuts.getD k c0).piece).toNat) q0).x)), (iv ((pk.getD (((cuts.getD k c0).piece).toNat) q0).y)), (iv ((pk.getD (((cuts.getD k c0).piece).toNat) q0).w)), (iv ((pk.getD (((cuts.getD k c0).piece).toNat) q0).l))]), (blk ib113 3 [(iv ((cuts.getD k c0).pos))]), (blk ib114 3 [(iv p.saw)]), (blk H 109 [(iv ((cuts.getD k c0).piece)), (Value.bool ((cuts.getD k c0).across)), (iv ((cuts.getD k c0).pos))]), (blk A 92 [(iv p.wide), (iv p.long), (iv p.saw), vw, vp2_, vk2_]), (row vp2_ 88 4 ((pk ++ (a_7 (pk.getD (cuts.getD k c0).piece.toNat q0) (cuts.getD k c0).across (cuts.getD k c0).pos p.saw).take j).length) (recC d_5 (pk ++ (a_7 (pk.getD (cuts.getD k c0).piece.toNat q0) (cuts.getD k c0).across (cuts.getD k c0).pos p.saw).take j))), (row vk2_ 4 1 ((ck.set (cuts.getD k c0).piece.toNat true ++ List.replicate j false).length) (d_1 (ck.set (cuts.getD k c0).piece.toNat true ++ List.replicate j false))), (blk E 60 [(iv p.wide), (iv p.long), (iv p.saw), vw]), (sl vw 8 p.wants.length (recC d_6 p.wants)), (sl vc 3 cuts.length (recC cutC cuts))] ∧ (j ≤ (a_7 (pk.getD (cuts.getD k c0).piece.toNat q0) (cuts.getD k c0).across (cuts.getD k c0).pos p.saw).length)) (fun j => (a_7 (pk.getD (cuts.getD k c0).piece.toNat q0) (cuts.getD k c0).across (cuts.getD k c0).pos p.saw).length - j) 0 ⟨vp_, vk_, A4.as _ rfl, ((AW.c_5 (i := 7) rfl (n' := (pk ++ (a_7 (pk.getD (cuts.getD k c0).piece.toNat q0) (cuts.getD k c0).across (cuts.getD k c0).pos p.saw).take 0).length) (xs' := (recC d_5 (pk ++ (a_7 (pk.getD (cuts.getD k c0).piece.toNat q0) (cuts.getD k c0).across (cuts.getD k c0).pos p.saw).take 0))) (by rw [List.take_zero, List.append_nil]) (by rw [List.take_zero, List.append_nil])).c_5 (i := 8) rfl (n' := (ck.set (cuts.getD k c0).piece.toNat true ++ List.replicate 0 false).length) (xs' := (d_1 (ck.set (cuts.getD k c0).piece.toNat true ++ List.replicate 0 false))) (by rw [List.replicate_zero, List.append_nil]) (by rw [List.replicate_zero, List.append_nil])), Nat.zero_le _⟩ ?_
  clear A4 AW CO
  rintro j CP Dg ⟨vp2_, vk2_, V, O, hj⟩
  have hpl := parts_len (q := pk.getD (cuts.getD k c0).piece.toNat q0) (a := (cuts.getD k c0).across) (pos := (cuts.getD k c0).pos) (saw := p.saw); have Dm : (pk ++ (a_7 (pk.getD (cuts.getD k c0).piece.toNat q0) (cuts.getD k c0).across (cuts.getD k c0).pos p.saw).take j).length ≤ 2 * k + 3 := (by rw [List.length_append, List.length_take]; omega); have Dn : (ck.set (cuts.getD k c0).piece.toNat true ++ List.replicate j false).length ≤ 2 * k + 3 := (by rw [List.length_append, List.length_set, List.length_replicate]; omega)
  refine m2 (s1 V (e_2 rfl V.e V.e) fun Bc I => ?_); clear V CP
  refine n2 ?_
  by_cases BX : (j : Int) < ((a_7 (pk.getD (((cuts.getD k c0).piece).toNat) q0) ((cuts.getD k c0).across) ((cuts.getD k c0).pos) p.saw).length : Int)
  ·skip
   rw [decide_eq_true BX] at I
   refine c_1 I rfl (c_0 (b_0 (b_6 (c_9 (m2 (s1 I (b_8 rfl r_0 j_9 I.e (i := j) I.e (SlAt.b_4 (O.b_7 0 rfl)) (by decide) (by omega)) fun CQ AC => ?_)))))); clear I Bc
   refine s1 AC (e_1 rfl j_9 AC.e (SlAt.b_4 (O.b_7 0 rfl)) (k_6 (by omega)) rfl (by decide)) fun CR A5 => ?_; clear AC CQ
   refine s2 A5 (e_6 O rfl ze_88 (cs := [(iv 0), (iv 0), (iv 0), (iv 0)]) rfl) ?_
   rintro DO _ Dh ⟨J, rfl, BJ⟩ W; clear A5 O CR
   refine s7 W (d_8 BJ rfl j_9 W.e W.e (i := 0) rfl (vs := [(iv (((a_7 (pk.getD (((cuts.getD k c0).piece).toNat) q0) ((cuts.getD k c0).across) ((cuts.getD k c0).pos) p.saw).getD j q0).x)), (iv (((a_7 (pk.getD (((cuts.getD k c0).piece).toNat) q0) ((cuts.getD k c0).across) ((cuts.getD k c0).pos) p.saw).getD j q0).y)), (iv (((a_7 (pk.getD (((cuts.getD k c0).piece).toNat) q0) ((cuts.getD k c0).across) ((cuts.getD k c0).pos) p.saw).getD j q0).w)), (iv (((a_7 (pk.getD (((cuts.getD k c0).piece).toNat) q0) ((cuts.getD k c0).across) ((cuts.getD k c0).pos) p.saw).getD j q0).l))]) rfl rfl rfl (Nat.le_of_ble_eq_true rfl)) ?_
   intro _ At BK A6; clear W
   have AX : Sep NoB w At [(blk J 88 [(iv (((a_7 (pk.getD (((cuts.getD k c0).piece).toNat) q0) ((cuts.getD k c0).across) ((cuts.getD k c0).pos) p.saw).getD j q0).x)), (iv (((a_7 (pk.getD (((cuts.getD k c0).piece).toNat) q0) ((cuts.getD k c0).across) ((cuts.getD k c0).pos) p.saw).getD j q0).y)), (iv (((a_7 (pk.getD (((cuts.getD k c0).piece).toNat) q0) ((cuts.getD k c0).across) ((cuts.getD k c0).pos) p.saw).getD j q0).w)), (iv (((a_7 (pk.getD (((cuts.getD k c0).piece).toNat) q0) ((cuts.getD k c0).across) ((cuts.getD k c0).pos) p.saw).getD j q0).l))]), (row B 88 4 ((a_7 (pk.getD (((cuts.getD k c0).piece).toNat) q0) ((cuts.getD k c0).across) ((cuts.getD k c0).pos) p.saw).length) (recC d_5 (a_7 (pk.getD (((cuts.getD k c0).piece).toNat) q0) ((cuts.getD k c0).across) ((cuts.getD k c0).pos) p.saw))), (blk ib111 117 [(Value.func (.func (fwA ((cuts.getD k c0).across))) #[] #[]), (Value.func (.func (fpA ((cuts.getD k c0).across))) #[] #[])]), (blk ib112 88 [(iv ((pk.getD (((cuts.getD k c0).piece).toNat) q0).x)), (iv ((pk.getD (((cuts.getD k c0).piece).toNat) q0).y)), (iv ((pk.getD (((cuts.getD k c0).piece).toNat) q0).w)), (iv ((pk.getD (((cuts.getD k c0).piece).toNat) q0).l))]), (blk ib113 3 [(iv ((cuts.getD k c0).pos))]), (blk ib114 3 [(iv p.saw)]), (blk H 109 [(iv ((cuts.getD k c0).piece)), (Value.bool ((cuts.getD k c0).across)), (iv ((cuts.getD k c0).pos))]), (blk A 92 [(iv p.wide), (iv p.long), (iv p.saw), vw, vp2_, vk2_]), (row vp2_ 88 4 ((pk ++ (a_7 (pk.getD (cuts.getD k c0).piece.toNat q0) (cuts.getD k c0).across (cuts.getD k c0).pos p.saw).take j).length) (recC d_5 (pk ++ (a_7 (pk.getD (cuts.getD k c0).piece.toNat q0) (cuts.getD k c0).across (cuts.getD k c0).pos p.saw).take j))), (row vk2_ 4 1 ((ck.set (cuts.getD k c0).piece.toNat true ++ List.replicate j false).length) (d_1 (ck.set (cuts.getD k c0).piece.toNat true ++ List.replicate j false))), (blk E 60 [(iv p.wide), (iv p.long), (iv p.saw), vw]), (sl vw 8 p.wants.length (recC d_6 p.wants)), (sl vc 3 cuts.length (recC cutC cuts))] := BK; clear BK BJ
   refine n1 ?_
   have A7 := A6.as [(12, (bptr J 0)), (82, (iv (j : Int))), (81, (iv ((a_7 (pk.getD (((cuts.getD k c0).piece).toNat) q0) ((cuts.getD k c0).across) ((cuts.getD k c0).pos) p.saw).length : Int))), (80, B), (30, (iv (k : Int))), (29, (iv (cuts.length : Int))), (28, vc), (7, (bptr A 0)), (2, (bptr E 0))] rfl; clear A6
   have A8 := A7.as [(12, (bptr J 0)), (82, (iv (j : Int))), (81, (iv ((a_7 (pk.getD (((cuts.getD k c0).piece).toNat) q0) ((cuts.getD k c0).across) ((cuts.getD k c0).pos) p.saw).length : Int))), (80, B), (30, (iv (k : Int))), (29, (iv (cuts.length : Int))), (28, vc), (7, (bptr A 0)), (2, (bptr E 0))] rfl; clear A7
   have B6 := AX.below
   refine c_drawA2F mixed A8 AX 17 1 rfl rfl [[], [], [], [2], [3], [4], [], [6], [5, 7], [], [9], [10], [11], [], [12, 13], [0], [15]] [(Yd.val (bptr A 0)), (Yd.val (bptr A 0)), (Yd.val (bptr A 0)), (Yd.val (bptr A 0)), (Yd.val (bptr A 4)), (Yd.val vp2_), (Yd.val (Value.agg #[(iv (((a_7 (pk.getD (((cuts.getD k c0).piece).toNat) q0) ((cuts.getD k c0).across) ((cuts.getD k c0).pos) p.saw).getD j q0).x)), (iv (((a_7 (pk.getD (((cuts.getD k c0).piece).toNat) q0) ((cuts.getD k c0).across) ((cuts.getD k c0).pos) p.saw).getD j q0).y)), (iv (((a_7 (pk.getD (((cuts.getD k c0).piece).toNat) q0) ((cuts.getD k c0).across) ((cuts.getD k c0).pos) p.saw).getD j q0).w)), (iv (((a_7 (pk.getD (((cuts.getD k c0).piece).toNat) q0) ((cuts.getD k c0).across) ((cuts.getD k c0).pos) p.saw).getD j q0).l))])), (Yd.blt At.heap.size 88 1 [(iv (((a_7 (pk.getD (((cuts.getD k c0).piece).toNat) q0) ((cuts.getD k c0).across) ((cuts.getD k c0).pos) p.saw).getD j q0).x)), (iv (((a_7 (pk.getD (((cuts.getD k c0).piece).toNat) q0) ((cuts.getD k c0).across) ((cuts.getD k c0).pos) p.saw).getD j q0).y)), (iv (((a_7 (pk.getD (((cuts.getD k c0).piece).toNat) q0) ((cuts.getD k c0).across) ((cuts.getD k c0).pos) p.saw).getD j q0).w)), (iv (((a_7 (pk.getD (((cuts.getD k c0).piece).toNat) q0) ((cuts.getD k c0).across) ((cuts.getD k c0).pos) p.saw).getD j q0).l))]), Yd.any, (Yd.val (bptr A 0)), (Yd.val (bptr A 0)), (Yd.val (bptr A 5)), (Yd.val vk2_), (Yd.blt At.heap.size 4 1 [(Value.bool false)]), Yd.any, (Yd.val (bptr A 0)), (Yd.val (bptr A 4))] (by decide +kernel) (by decide +kernel) (by decide +kernel) rfl rfl ⟨8, 8, vp2_, 88, 4, (pk ++ (a_7 (pk.getD (cuts.getD k c0).piece.toNat q0) (cuts.getD k c0).across (cuts.getD k c0).pos p.saw).take j).length, (recC d_5 (pk ++ (a_7 (pk.getD (cuts.getD k c0).piece.toNat q0) (cuts.getD k c0).across (cuts.getD k c0).pos p.saw).take j)), 1, ((recC d_5 (pk ++ (a_7 (pk.getD (cuts.getD k c0).piece.toNat q0) (cuts.getD k c0).across (cuts.getD k c0).pos p.saw).take j)) ++ [(iv (((a_7 (pk.getD (((cuts.getD k c0).piece).toNat) q0) ((cuts.getD k c0).across) ((cuts.getD k c0).pos) p.saw).getD j q0).x)), (iv (((a_7 (pk.getD (((cuts.getD k c0).piece).toNat) q0) ((cuts.getD k c0).across) ((cuts.getD k c0).pos) p.saw).getD j q0).y)), (iv (((a_7 (pk.getD (((cuts.getD k c0).piece).toNat) q0) ((cuts.getD k c0).across) ((cuts.getD k c0).pos) p.saw).getD j q0).w)), (iv (((a_7 (pk.getD (((cuts.getD k c0).piece).toNat) q0) ((cuts.getD k c0).across) ((cuts.getD k c0).pos) p.saw).getD j q0).l))])⟩ ⟨14, 9, vk2_, 4, 1, (ck.set (cuts.getD k c0).piece.toNat true ++ List.replicate j false).length, (d_1 (ck.set (cuts.getD k c0).piece.toNat true ++ List.replicate j false)), 1, ((d_1 (ck.set (cuts.getD k c0).piece.toNat true ++ List.replicate j false)) ++ [(Value.bool false)])⟩ (show (8 : Nat) ≠ 14 by decide) (show (8 : Nat) ≠ 9 by decide) rfl rfl rfl ⟨l_2 _ _, l_2 _ _, l_2 _ _, l_2 _ _, l_2 _ _, l_2 _ _, l_2 _ _, ydb_blt _ _ _ _, ydb_any _, l_2 _ _, l_2 _ _, l_2 _ _, l_2 _ _, ydb_blt _ _ _ _, ydb_any _, l_2 _ _, l_2 _ _, trivial⟩ ?_ ?_ (show (8 : Nat) ≠ 1 by decide) (show (14 : Nat) ≠ 1 by decide) (show (8 : Nat) < 17 by decide) (show (14 : Nat) < 17 by decide)
   ·skip
    refine ⟨⟨fun _ _ a w hA hS hz hd => ?_, fun e_ => absurd (show (0 : Nat) = 8 from e_) (by decide), fun e_ => absurd (show (0 : Nat) = 14 from e_) (by decide)⟩, ?_⟩
    ·skip
     exact e_7 rfl (dv (a_0 rfl hA.e) hS rfl)
    refine ⟨⟨fun _ _ a w hA hS hz hd => ?_, fun e_ => absurd (show (1 : Nat) = 8 from e_) (by decide), fun e_ => absurd (show (1 : Nat) = 14 from e_) (by decide)⟩, ?_⟩
    ·skip
     exact e_7 rfl (dv (a_0 rfl hA.e) hS rfl)
    refine ⟨⟨fun _ _ a w hA hS hz hd => ?_, fun e_ => absurd (show (2 : Nat) = 8 from e_) (by decide), fun e_ => absurd (show (2 : Nat) = 14 from e_) (by decide)⟩, ?_⟩
    ·skip
     exact e_7 rfl (dv (a_0 rfl hA.e) hS rfl)
    refine ⟨⟨fun _ _ a w hA hS hz hd => ?_, fun e_ => absurd (show (3 : Nat) = 8 from e_) (by decide), fun e_ => absurd (show (3 : Nat) = 14 from e_) (by decide)⟩, ?_⟩
    ·skip
     have e2 := j_6 (hd 2 (by decide)) rfl (fun _ h => h)
     exact e_7 rfl (dv (f_4 rfl (e_0 e2)) hS rfl)
    refine ⟨⟨fun _ _ a w hA hS hz hd => ?_, fun e_ => absurd (show (4 : Nat) = 8 from e_) (by decide), fun e_ => absurd (show (4 : Nat) = 14 from e_) (by decide)⟩, ?_⟩
    ·skip
     have e3 := j_6 (hd 3 (by decide)) rfl (fun _ h => h)
     exact e_7 rfl (dv (a_2 rfl fd_92_1 (e_0 e3)) hS rfl)
    refine ⟨⟨fun _ _ a w hA hS hz hd => ?_, fun e_ => absurd (show (5 : Nat) = 8 from e_) (by decide), fun e_ => absurd (show (5 : Nat) = 14 from e_) (by decide)⟩, ?_⟩
    ·skip
     have e4 := j_6 (hd 4 (by decide)) rfl (fun _ h => h)
     exact e_7 rfl (dv (a_3 rfl s_3 (e_0 e4) (hS.bk 7 rfl) rfl) hS rfl)
    refine ⟨⟨fun _ _ a w hA hS hz hd => ?_, fun e_ => absurd (show (6 : Nat) = 8 from e_) (by decide), fun e_ => absurd (show (6 : Nat) = 14 from e_) (by decide)⟩, ?_⟩
    ·skip
     exact e_7 rfl (dv (c_2 rfl j_9 (hA.ev rfl) (hS.bk 0 rfl) (l := [(iv (((a_7 (pk.getD (((cuts.getD k c0).piece).toNat) q0) ((cuts.getD k c0).across) ((cuts.getD k c0).pos) p.saw).getD j q0).x)), (iv (((a_7 (pk.getD (((cuts.getD k c0).piece).toNat) q0) ((cuts.getD k c0).across) ((cuts.getD k c0).pos) p.saw).getD j q0).y)), (iv (((a_7 (pk.getD (((cuts.getD k c0).piece).toNat) q0) ((cuts.getD k c0).across) ((cuts.getD k c0).pos) p.saw).getD j q0).w)), (iv (((a_7 (pk.getD (((cuts.getD k c0).piece).toNat) q0) ((cuts.getD k c0).across) ((cuts.getD k c0).pos) p.saw).getD j q0).l))]) rfl rfl) hS rfl)
    refine ⟨⟨fun _ _ a w hA hS hz hd => ?_, fun e_ => absurd (show (7 : Nat) = 8 from e_) (by decide), fun e_ => absurd (show (7 : Nat) = 14 from e_) (by decide)⟩, ?_⟩
    ·skip
     have e6 := j_6 (hd 6 (by decide)) rfl (fun _ h => h)
     exact e_7 rfl (dbltZ hS hz rfl (pv1 (e_0 e6)) r_0 j_9 ze_88 (by decide) (cs := [(iv (((a_7 (pk.getD (((cuts.getD k c0).piece).toNat) q0) ((cuts.getD k c0).across) ((cuts.getD k c0).pos) p.saw).getD j q0).x)), (iv (((a_7 (pk.getD (((cuts.getD k c0).piece).toNat) q0) ((cuts.getD k c0).across) ((cuts.getD k c0).pos) p.saw).getD j q0).y)), (iv (((a_7 (pk.getD (((cuts.getD k c0).piece).toNat) q0) ((cuts.getD k c0).across) ((cuts.getD k c0).pos) p.saw).getD j q0).w)), (iv (((a_7 (pk.getD (((cuts.getD k c0).piece).toNat) q0) ((cuts.getD k c0).across) ((cuts.getD k c0).pos) p.saw).getD j q0).l))]) (bs_88_1_0iiiia _ _ _ _) (fun _ _ h => h))
    refine ⟨⟨fun e_ _ => absurd rfl e_, fun _ a w hA hS hz hd => ?_, fun e_ => absurd (show (8 : Nat) = 14 from e_) (by decide)⟩, ?_⟩
    ·skip
     dsimp only
     have e5 := j_6 (hd 5 (by decide)) rfl (fun _ h => h)
     obtain ⟨_, e7, b7, rfl, DH, _⟩ := has_get (hd 7 (by decide)) rfl
     exact e_7 rfl (op_appendL hS hz rfl r_0 el_88 (e_0 e5) (e_0 e7) (i := 8) rfl (SlAt.h_3 DH rfl (by decide)) (by decide) rfl (by simp only [maxLen]; omega) (by omega))
    refine ⟨⟨fun _ _ a w hA hS hz hd => ?_, fun e_ => absurd (show (9 : Nat) = 8 from e_) (by decide), fun e_ => absurd (show (9 : Nat) = 14 from e_) (by decide)⟩, ?_⟩
    ·skip
     exact e_7 rfl (dv (a_0 rfl hA.e) hS rfl)
    refine ⟨⟨fun _ _ a w hA hS hz hd => ?_, fun e_ => absurd (show (10 : Nat) = 8 from e_) (by decide), fun e_ => absurd (show (10 : Nat) = 14 from e_) (by decide)⟩, ?_⟩
    ·skip
     have e9 := j_6 (hd 9 (by decide)) rfl (fun _ h => h)
     exact e_7 rfl (dv (f_4 rfl (e_0 e9)) hS rfl)
    refine ⟨⟨fun _ _ a w hA hS hz hd => ?_, fun e_ => absurd (show (11 : Nat) = 8 from e_) (by decide), fun e_ => absurd (show (11 : Nat) = 14 from e_) (by decide)⟩, ?_⟩
    ·skip
     have DC := j_6 (hd 10 (by decide)) rfl (fun _ h => h)
     exact e_7 rfl (dv (a_2 rfl fd_92_2 (e_0 DC)) hS rfl)
    refine ⟨⟨fun _ _ a w hA hS hz hd => ?_, fun e_ => absurd (show (12 : Nat) = 8 from e_) (by decide), fun e_ => absurd (show (12 : Nat) = 14 from e_) (by decide)⟩, ?_⟩
    ·skip
     have DD := j_6 (hd 11 (by decide)) rfl (fun _ h => h)
     exact e_7 rfl (dv (a_3 rfl ty_39 (e_0 DD) (hS.bk 7 rfl) rfl) hS rfl)
    refine ⟨⟨fun _ _ a w hA hS hz hd => ?_, fun e_ => absurd (show (13 : Nat) = 8 from e_) (by decide), fun e_ => absurd (show (13 : Nat) = 14 from e_) (by decide)⟩, ?_⟩
    ·skip
     exact e_7 rfl (dbltZ hS hz rfl (pv1 (evc _ _)) h_2 ty_4 ze_4 (by decide) (cs := [(Value.bool false)]) (o_0 _) (fun _ _ h => h))
    refine ⟨⟨fun _ e_ => absurd rfl e_, fun e_ => absurd (show (14 : Nat) = 8 from e_) (by decide), fun _ a w hA hS hz hd => ?_⟩, ?_⟩
    ·skip
     dsimp only
     have DE := j_6 (hd 12 (by decide)) rfl (fun _ h => h)
     obtain ⟨_, DF, Dl, rfl, Cg, _⟩ := has_get (hd 13 (by decide)) rfl
     exact e_7 rfl (op_appendL hS hz rfl h_2 el_4 (e_0 DE) (e_0 DF) (i := 9) rfl (SlAt.h_3 Cg rfl (by decide)) (by decide) rfl (by simp only [maxLen]; omega) (by omega))
    refine ⟨⟨fun _ _ a w hA hS hz hd => ?_, fun e_ => absurd (show (15 : Nat) = 8 from e_) (by decide), fun e_ => absurd (show (15 : Nat) = 14 from e_) (by decide)⟩, ?_⟩
    ·skip
     have e0 := j_6 (hd 0 (by decide)) rfl (fun _ h => h)
     exact e_7 rfl (dv (f_4 rfl (e_0 e0)) hS rfl)
    refine ⟨⟨fun _ _ a w hA hS hz hd => ?_, fun e_ => absurd (show (16 : Nat) = 8 from e_) (by decide), fun e_ => absurd (show (16 : Nat) = 14 from e_) (by decide)⟩, ?_⟩
    ·skip
     have DG := j_6 (hd 15 (by decide)) rfl (fun _ h => h)
     exact e_7 rfl (dv (a_2 rfl fd_92_1 (e_0 DG)) hS rfl)
    trivial
   intro bb186 P Cm A9 BL S BY BZ; clear A8 AX
   obtain ⟨C, Ba, BV⟩ := has_get BY rfl
   obtain ⟨F, Bb, BW⟩ := has_get BZ rfl
   clear BY BZ
   have BM := appL_two BL ⟨8, 8, vp2_, 88, 4, (pk ++ (a_7 (pk.getD (cuts.getD k c0).piece.toNat q0) (cuts.getD k c0).across (cuts.getD k c0).pos p.saw).take j).length, (recC d_5 (pk ++ (a_7 (pk.getD (cuts.getD k c0).piece.toNat q0) (cuts.getD k c0).across (cuts.getD k c0).pos p.saw).take j)), 1, ((recC d_5 (pk ++ (a_7 (pk.getD (cuts.getD k c0).piece.toNat q0) (cuts.getD k c0).across (cuts.getD k c0).pos p.saw).take j)) ++ [(iv (((a_7 (pk.getD (((cuts.getD k c0).piece).toNat) q0) ((cuts.getD k c0).across) ((cuts.getD k c0).pos) p.saw).getD j q0).x)), (iv (((a_7 (pk.getD (((cuts.getD k c0).piece).toNat) q0) ((cuts.getD k c0).across) ((cuts.getD k c0).pos) p.saw).getD j q0).y)), (iv (((a_7 (pk.getD (((cuts.getD k c0).piece).toNat) q0) ((cuts.getD k c0).across) ((cuts.getD k c0).pos) p.saw).getD j q0).w)), (iv (((a_7 (pk.getD (((cuts.getD k c0).piece).toNat) q0) ((cuts.getD k c0).across) ((cuts.getD k c0).pos) p.saw).getD j q0).l))])⟩ ⟨14, 9, vk2_, 4, 1, (ck.set (cuts.getD k c0).piece.toNat true ++ List.replicate j false).length, (d_1 (ck.set (cuts.getD k c0).piece.toNat true ++ List.replicate j false)), 1, ((d_1 (ck.set (cuts.getD k c0).piece.toNat true ++ List.replicate j false)) ++ [(Value.bool false)])⟩ B6 (show (8 : Nat) ≠ 9 by decide) (show (88 : Nat) ≠ 4 by decide) rfl rfl BV BW
   have L : Sep NoB w Cm [(blk J 88 [(iv (((a_7 (pk.getD (((cuts.getD k c0).piece).toNat) q0) ((cuts.getD k c0).across) ((cuts.getD k c0).pos) p.saw).getD j q0).x)), (iv (((a_7 (pk.getD (((cuts.getD k c0).piece).toNat) q0) ((cuts.getD k c0).across) ((cuts.getD k c0).pos) p.saw).getD j q0).y)), (iv (((a_7 (pk.getD (((cuts.getD k c0).piece).toNat) q0) ((cuts.getD k c0).across) ((cuts.getD k c0).pos) p.saw).getD j q0).w)), (iv (((a_7 (pk.getD (((cuts.getD k c0).piece).toNat) q0) ((cuts.getD k c0).across) ((cuts.getD k c0).pos) p.saw).getD j q0).l))]), (row B 88 4 ((a_7 (pk.getD (((cuts.getD k c0).piece).toNat) q0) ((cuts.getD k c0).across) ((cuts.getD k c0).pos) p.saw).length) (recC d_5 (a_7 (pk.getD (((cuts.getD k c0).piece).toNat) q0) ((cuts.getD k c0).across) ((cuts.getD k c0).pos) p.saw))), (blk ib111 117 [(Value.func (.func (fwA ((cuts.getD k c0).across))) #[] #[]), (Value.func (.func (fpA ((cuts.getD k c0).across))) #[] #[])]), (blk ib112 88 [(iv ((pk.getD (((cuts.getD k c0).piece).toNat) q0).x)), (iv ((pk.getD (((cuts.getD k c0).piece).toNat) q0).y)), (iv ((pk.getD (((cuts.getD k c0).piece).toNat) q0).w)), (iv ((pk.getD (((cuts.getD k c0).piece).toNat) q0).l))]), (blk ib113 3 [(iv ((cuts.getD k c0).pos))]), (blk ib114 3 [(iv p.saw)]), (blk H 109 [(iv ((cuts.getD k c0).piece)), (Value.bool ((cuts.getD k c0).across)), (iv ((cuts.getD k c0).pos))]), (blk A 92 [(iv p.wide), (iv p.long), (iv p.saw), vw, vp2_, vk2_]), (row C 88 4 (((pk ++ (a_7 (pk.getD (cuts.getD k c0).piece.toNat q0) (cuts.getD k c0).across (cuts.getD k c0).pos p.saw).take j) ++ [((a_7 (pk.getD (((cuts.getD k c0).piece).toNat) q0) ((cuts.getD k c0).across) ((cuts.getD k c0).pos) p.saw).getD j q0)]).length) (recC d_5 ((pk ++ (a_7 (pk.getD (cuts.getD k c0).piece.toNat q0) (cuts.getD k c0).across (cuts.getD k c0).pos p.saw).take j) ++ [((a_7 (pk.getD (((cuts.getD k c0).piece).toNat) q0) ((cuts.getD k c0).across) ((cuts.getD k c0).pos) p.saw).getD j q0)]))), (row F 4 1 (((ck.set (cuts.getD k c0).piece.toNat true ++ List.replicate j false) ++ [false]).length) (d_1 ((ck.set (cuts.getD k c0).piece.toNat true ++ List.replicate j false) ++ [false]))), (blk E 60 [(iv p.wide), (iv p.long), (iv p.saw), vw]), (sl vw 8 p.wants.length (recC d_6 p.wants)), (sl vc 3 cuts.length (recC cutC cuts))] := ((BM.c_5 (i := 8) rfl (n' := ((pk ++ (a_7 (pk.getD (cuts.getD k c0).piece.toNat q0) (cuts.getD k c0).across (cuts.getD k c0).pos p.saw).take j) ++ [((a_7 (pk.getD (((cuts.getD k c0).piece).toNat) q0) ((cuts.getD k c0).across) ((cuts.getD k c0).pos) p.saw).getD j q0)]).length) (xs' := (recC d_5 ((pk ++ (a_7 (pk.getD (cuts.getD k c0).piece.toNat q0) (cuts.getD k c0).across (cuts.getD k c0).pos p.saw).take j) ++ [((a_7 (pk.getD (((cuts.getD k c0).piece).toNat) q0) ((cuts.getD k c0).across) ((cuts.getD k c0).pos) p.saw).getD j q0)]))) (g_4 (pk ++ (a_7 (pk.getD (cuts.getD k c0).piece.toNat q0) (cuts.getD k c0).across (cuts.getD k c0).pos p.saw).take j) ((a_7 (pk.getD (((cuts.getD k c0).piece).toNat) q0) ((cuts.getD k c0).across) ((cuts.getD k c0).pos) p.saw).getD j q0)) (g_9 d_5 (pk ++ (a_7 (pk.getD (cuts.getD k c0).piece.toNat q0) (cuts.getD k c0).across (cuts.getD k c0).pos p.saw).take j) ((a_7 (pk.getD (((cuts.getD k c0).piece).toNat) q0) ((cuts.getD k c0).across) ((cuts.getD k c0).pos) p.saw).getD j q0))).c_5 (i := 9) rfl (n' := ((ck.set (cuts.getD k c0).piece.toNat true ++ List.replicate j false) ++ [false]).length) (xs' := (d_1 ((ck.set (cuts.getD k c0).piece.toNat true ++ List.replicate j false) ++ [false]))) (g_4 (ck.set (cuts.getD k c0).piece.toNat true ++ List.replicate j false) false) (boolC_snoc (ck.set (cuts.getD k c0).piece.toNat true ++ List.replicate j false) false)); clear BM BL
   have BA : Fr 108 [] [(94, C), (12, (bptr J 0)), (82, (iv (j : Int))), (81, (iv ((a_7 (pk.getD (((cuts.getD k c0).piece).toNat) q0) ((cuts.getD k c0).across) ((cuts.getD k c0).pos) p.saw).length : Int))), (80, B), (30, (iv (k : Int))), (29, (iv (cuts.length : Int))), (28, vc), (7, (bptr A 0)), (2, (bptr E 0))] P := A9.add Ba; clear A9
   have X : Fr 108 [] [(100, F), (94, C), (12, (bptr J 0)), (82, (iv (j : Int))), (81, (iv ((a_7 (pk.getD (((cuts.getD k c0).piece).toNat) q0) ((cuts.getD k c0).across) ((cuts.getD k c0).pos) p.saw).length : Int))), (80, B), (30, (iv (k : Int))), (29, (iv (cuts.length : Int))), (28, vc), (7, (bptr A 0)), (2, (bptr E 0))] P := BA.add Bb; clear BA
   clear Ba BV Bb BW
   cases bb186
   ·skip
    have BB : Fr 108 [] [(87, (bptr A 0)), (100, F), (94, C), (12, (bptr J 0)), (82, (iv (j : Int))), (81, (iv ((a_7 (pk.getD (((cuts.getD k c0).piece).toNat) q0) ((cuts.getD k c0).across) ((cuts.getD k c0).pos) p.saw).length : Int))), (80, B), (30, (iv (k : Int))), (29, (iv (cuts.length : Int))), (28, vc), (7, (bptr A 0)), (2, (bptr E 0))] P := X.add (j_6 (S 1 (show (1 : Nat) < 17 by decide) (show (1 : Nat) ≠ 8 by decide) (show (1 : Nat) ≠ 14 by decide) (fun e_ => by cases e_)) rfl (fun _ h => h)); clear X
    have Y : Fr 108 [] [(102, (bptr A 4)), (87, (bptr A 0)), (100, F), (94, C), (12, (bptr J 0)), (82, (iv (j : Int))), (81, (iv ((a_7 (pk.getD (((cuts.getD k c0).piece).toNat) q0) ((cuts.getD k c0).across) ((cuts.getD k c0).pos) p.saw).length : Int))), (80, B), (30, (iv (k : Int))), (29, (iv (cuts.length : Int))), (28, vc), (7, (bptr A 0)), (2, (bptr E 0))] P := BB.add (j_6 (S 16 (show (16 : Nat) < 17 by decide) (show (16 : Nat) ≠ 8 by decide) (show (16 : Nat) ≠ 14 by decide) (fun e_ => by cases e_)) rfl (fun _ h => h)); clear BB
    rw [if_neg (by decide)]; clear S
    refine s7 Y (d_8 L rfl s_3 Y.e Y.e (i := 7) rfl (vs := [C]) (i_3 (SlAt.isSl (SlAt.b_4 (L.b_7 8 rfl)))) rfl (j_8 (SlAt.one (SlAt.b_4 (L.b_7 8 rfl))) p_2) (Nat.le_of_ble_eq_true rfl)) ?_
    intro _ Cn BN AD; clear Y
    have d : Sep NoB w Cn [(blk J 88 [(iv (((a_7 (pk.getD (((cuts.getD k c0).piece).toNat) q0) ((cuts.getD k c0).across) ((cuts.getD k c0).pos) p.saw).getD j q0).x)), (iv (((a_7 (pk.getD (((cuts.getD k c0).piece).toNat) q0) ((cuts.getD k c0).across) ((cuts.getD k c0).pos) p.saw).getD j q0).y)), (iv (((a_7 (pk.getD (((cuts.getD k c0).piece).toNat) q0) ((cuts.getD k c0).across) ((cuts.getD k c0).pos) p.saw).getD j q0).w)), (iv (((a_7 (pk.getD (((cuts.getD k c0).piece).toNat) q0) ((cuts.getD k c0).across) ((cuts.getD k c0).pos) p.saw).getD j q0).l))]), (row B 88 4 ((a_7 (pk.getD (((cuts.getD k c0).piece).toNat) q0) ((cuts.getD k c0).across) ((cuts.getD k c0).pos) p.saw).length) (recC d_5 (a_7 (pk.getD (((cuts.getD k c0).piece).toNat) q0) ((cuts.getD k c0).across) ((cuts.getD k c0).pos) p.saw))), (blk ib111 117 [(Value.func (.func (fwA ((cuts.getD k c0).across))) #[] #[]), (Value.func (.func (fpA ((cuts.getD k c0).across))) #[] #[])]), (blk ib112 88 [(iv ((pk.getD (((cuts.getD k c0).piece).toNat) q0).x)), (iv ((pk.getD (((cuts.getD k c0).piece).toNat) q0).y)), (iv ((pk.getD (((cuts.getD k c0).piece).toNat) q0).w)), (iv ((pk.getD (((cuts.getD k c0).piece).toNat) q0).l))]), (blk ib113 3 [(iv ((cuts.getD k c0).pos))]), (blk ib114 3 [(iv p.saw)]), (blk H 109 [(iv ((cuts.getD k c0).piece)), (Value.bool ((cuts.getD k c0).across)), (iv ((cuts.getD k c0).pos))]), (blk A 92 [(iv p.wide), (iv p.long), (iv p.saw), vw, C, vk2_]), (row C 88 4 (((pk ++ (a_7 (pk.getD (cuts.getD k c0).piece.toNat q0) (cuts.getD k c0).across (cuts.getD k c0).pos p.saw).take j) ++ [((a_7 (pk.getD (((cuts.getD k c0).piece).toNat) q0) ((cuts.getD k c0).across) ((cuts.getD k c0).pos) p.saw).getD j q0)]).length) (recC d_5 ((pk ++ (a_7 (pk.getD (cuts.getD k c0).piece.toNat q0) (cuts.getD k c0).across (cuts.getD k c0).pos p.saw).take j) ++ [((a_7 (pk.getD (((cuts.getD k c0).piece).toNat) q0) ((cuts.getD k c0).across) ((cuts.getD k c0).pos) p.saw).getD j q0)]))), (row F 4 1 (((ck.set (cuts.getD k c0).piece.toNat true ++ List.replicate j false) ++ [false]).length) (d_1 ((ck.set (cuts.getD k c0).piece.toNat true ++ List.replicate j false) ++ [false]))), (blk E 60 [(iv p.wide), (iv p.long), (iv p.saw), vw]), (sl vw 8 p.wants.length (recC d_6 p.wants)), (sl vc 3 cuts.length (recC cutC cuts))] := BN; clear BN L
    refine s1 AD (f_4 rfl AD.e) fun CS AE => ?_; clear AD P
    refine s1 AE (a_2 rfl fd_92_2 AE.e) fun CT Z => ?_; clear AE CS
    refine s7 Z (d_8 d rfl ty_39 Z.e Z.e (i := 7) rfl (vs := [F]) (i_3 (SlAt.isSl (SlAt.b_4 (d.b_7 9 rfl)))) rfl (j_8 (SlAt.one (SlAt.b_4 (d.b_7 9 rfl))) p_2) (Nat.le_of_ble_eq_true rfl)) ?_
    intro _ Co BO BC; clear Z
    have BP : Sep NoB w Co [(blk J 88 [(iv (((a_7 (pk.getD (((cuts.getD k c0).piece).toNat) q0) ((cuts.getD k c0).across) ((cuts.getD k c0).pos) p.saw).getD j q0).x)), (iv (((a_7 (pk.getD (((cuts.getD k c0).piece).toNat) q0) ((cuts.getD k c0).across) ((cuts.getD k c0).pos) p.saw).getD j q0).y)), (iv (((a_7 (pk.getD (((cuts.getD k c0).piece).toNat) q0) ((cuts.getD k c0).across) ((cuts.getD k c0).pos) p.saw).getD j q0).w)), (iv (((a_7 (pk.getD (((cuts.getD k c0).piece).toNat) q0) ((cuts.getD k c0).across) ((cuts.getD k c0).pos) p.saw).getD j q0).l))]), (row B 88 4 ((a_7 (pk.getD (((cuts.getD k c0).piece).toNat) q0) ((cuts.getD k c0).across) ((cuts.getD k c0).pos) p.saw).length) (recC d_5 (a_7 (pk.getD (((cuts.getD k c0).piece).toNat) q0) ((cuts.getD k c0).across) ((cuts.getD k c0).pos) p.saw))), (blk ib111 117 [(Value.func (.func (fwA ((cuts.getD k c0).across))) #[] #[]), (Value.func (.func (fpA ((cuts.getD k c0).across))) #[] #[])]), (blk ib112 88 [(iv ((pk.getD (((cuts.getD k c0).piece).toNat) q0).x)), (iv ((pk.getD (((cuts.getD k c0).piece).toNat) q0).y)), (iv ((pk.getD (((cuts.getD k c0).piece).toNat) q0).w)), (iv ((pk.getD (((cuts.getD k c0).piece).toNat) q0).l))]), (blk ib113 3 [(iv ((cuts.getD k c0).pos))]), (blk ib114 3 [(iv p.saw)]), (blk H 109 [(iv ((cuts.getD k c0).piece)), (Value.bool ((cuts.getD k c0).across)), (iv ((cuts.getD k c0).pos))]), (blk A 92 [(iv p.wide), (iv p.long), (iv p.saw), vw, C, F]), (row C 88 4 (((pk ++ (a_7 (pk.getD (cuts.getD k c0).piece.toNat q0) (cuts.getD k c0).across (cuts.getD k c0).pos p.saw).take j) ++ [((a_7 (pk.getD (((cuts.getD k c0).piece).toNat) q0) ((cuts.getD k c0).across) ((cuts.getD k c0).pos) p.saw).getD j q0)]).length) (recC d_5 ((pk ++ (a_7 (pk.getD (cuts.getD k c0).piece.toNat q0) (cuts.getD k c0).across (cuts.getD k c0).pos p.saw).take j) ++ [((a_7 (pk.getD (((cuts.getD k c0).piece).toNat) q0) ((cuts.getD k c0).across) ((cuts.getD k c0).pos) p.saw).getD j q0)]))), (row F 4 1 (((ck.set (cuts.getD k c0).piece.toNat true ++ List.replicate j false) ++ [false]).length) (d_1 ((ck.set (cuts.getD k c0).piece.toNat true ++ List.replicate j false) ++ [false]))), (blk E 60 [(iv p.wide), (iv p.long), (iv p.saw), vw]), (sl vw 8 p.wants.length (recC d_6 p.wants)), (sl vc 3 cuts.length (recC cutC cuts))] := BO; clear BO d
    refine d_0 (f_8 (b_0 ?_))
    have AF := BC.as [(82, (iv (j : Int))), (81, (iv ((a_7 (pk.getD (((cuts.getD k c0).piece).toNat) q0) ((cuts.getD k c0).across) ((cuts.getD k c0).pos) p.saw).length : Int))), (80, B), (30, (iv (k : Int))), (29, (iv (cuts.length : Int))), (28, vc), (7, (bptr A 0)), (2, (bptr E 0))] rfl; clear BC
    refine a_5 (s1 AF (c_6 rfl AF.e (evc _ _) (by omega) (by omega)) fun CU AG => ?_); clear AF CT
    refine s1 AG (a_0 rfl AG.e) fun DP B3 => ?_; clear AG CU
    refine d_0 ?_
    have B7 := BP.gkp (gpc 1 (gpc 2 (gpc 3 (gpc 4 (gpc 5 (gpc 6 (gpc 7 (gpc 8 (gpc 9 (gpc 10 (gpc 11 (gpc 12 gpn)))))))))))); clear BP
    exact b_0 ⟨j + 1, ⟨C, F, B3.as _ rfl, ((B7.c_5 (i := 7) rfl (n' := (pk ++ (a_7 (pk.getD (cuts.getD k c0).piece.toNat q0) (cuts.getD k c0).across (cuts.getD k c0).pos p.saw).take (j + 1)).length) (xs' := (recC d_5 (pk ++ (a_7 (pk.getD (cuts.getD k c0).piece.toNat q0) (cuts.getD k c0).across (cuts.getD k c0).pos p.saw).take (j + 1)))) (by rw [m_8 _ _ _ (by omega)]) (by rw [m_8 _ _ _ (by omega)])).c_5 (i := 8) rfl (n' := (ck.set (cuts.getD k c0).piece.toNat true ++ List.replicate (j + 1) false).length) (xs' := (d_1 (ck.set (cuts.getD k c0).piece.toNat true ++ List.replicate (j + 1) false))) (by rw [rep_snoc]) (by rw [rep_snoc])), by omega⟩, by omega⟩
   skip
   have b : Fr 108 [] [(102, (bptr A 4)), (100, F), (94, C), (12, (bptr J 0)), (82, (iv (j : Int))), (81, (iv ((a_7 (pk.getD (((cuts.getD k c0).piece).toNat) q0) ((cuts.getD k c0).across) ((cuts.getD k c0).pos) p.saw).length : Int))), (80, B), (30, (iv (k : Int))), (29, (iv (cuts.length : Int))), (28, vc), (7, (bptr A 0)), (2, (bptr E 0))] P := X.add (j_6 (S 16 (show (16 : Nat) < 17 by decide) (show (16 : Nat) ≠ 8 by decide) (show (16 : Nat) ≠ 14 by decide) (fun _ => show (16 : Nat) ≠ 1 by decide)) rfl (fun _ h => h)); clear X
   rw [if_pos rfl]; clear S
   refine s7 b (d_8 L rfl s_3 b.e b.e (i := 7) rfl (vs := [C]) (i_3 (SlAt.isSl (SlAt.b_4 (L.b_7 8 rfl)))) rfl (j_8 (SlAt.one (SlAt.b_4 (L.b_7 8 rfl))) p_2) (Nat.le_of_ble_eq_true rfl)) ?_
   intro _ Cp BQ AH; clear b
   have f : Sep NoB w Cp [(blk J 88 [(iv (((a_7 (pk.getD (((cuts.getD k c0).piece).toNat) q0) ((cuts.getD k c0).across) ((cuts.getD k c0).pos) p.saw).getD j q0).x)), (iv (((a_7 (pk.getD (((cuts.getD k c0).piece).toNat) q0) ((cuts.getD k c0).across) ((cuts.getD k c0).pos) p.saw).getD j q0).y)), (iv (((a_7 (pk.getD (((cuts.getD k c0).piece).toNat) q0) ((cuts.getD k c0).across) ((cuts.getD k c0).pos) p.saw).getD j q0).w)), (iv (((a_7 (pk.getD (((cuts.getD k c0).piece).toNat) q0) ((cuts.getD k c0).across) ((cuts.getD k c0).pos) p.saw).getD j q0).l))]), (row B 88 4 ((a_7 (pk.getD (((cuts.getD k c0).piece).toNat) q0) ((cuts.getD k c0).across) ((cuts.getD k c0).pos) p.saw).length) (recC d_5 (a_7 (pk.getD (((cuts.getD k c0).piece).toNat) q0) ((cuts.getD k c0).across) ((cuts.getD k c0).pos) p.saw))), (blk ib111 117 [(Value.func (.func (fwA ((cuts.getD k c0).across))) #[] #[]), (Value.func (.func (fpA ((cuts.getD k c0).across))) #[] #[])]), (blk ib112 88 [(iv ((pk.getD (((cuts.getD k c0).piece).toNat) q0).x)), (iv ((pk.getD (((cuts.getD k c0).piece).toNat) q0).y)), (iv ((pk.getD (((cuts.getD k c0).piece).toNat) q0).w)), (iv ((pk.getD (((cuts.getD k c0).piece).toNat) q0).l))]), (blk ib113 3 [(iv ((cuts.getD k c0).pos))]), (blk ib114 3 [(iv p.saw)]), (blk H 109 [(iv ((cuts.getD k c0).piece)), (Value.bool ((cuts.getD k c0).across)), (iv ((cuts.getD k c0).pos))]), (blk A 92 [(iv p.wide), (iv p.long), (iv p.saw), vw, C, vk2_]), (row C 88 4 (((pk ++ (a_7 (pk.getD (cuts.getD k c0).piece.toNat q0) (cuts.getD k c0).across (cuts.getD k c0).pos p.saw).take j) ++ [((a_7 (pk.getD (((cuts.getD k c0).piece).toNat) q0) ((cuts.getD k c0).across) ((cuts.getD k c0).pos) p.saw).getD j q0)]).length) (recC d_5 ((pk ++ (a_7 (pk.getD (cuts.getD k c0).piece.toNat q0) (cuts.getD k c0).across (cuts.getD k c0).pos p.saw).take j) ++ [((a_7 (pk.getD (((cuts.getD k c0).piece).toNat) q0) ((cuts.getD k c0).across) ((cuts.getD k c0).pos) p.saw).getD j q0)]))), (row F 4 1 (((ck.set (cuts.getD k c0).piece.toNat true ++ List.replicate j false) ++ [false]).length) (d_1 ((ck.set (cuts.getD k c0).piece.toNat true ++ List.replicate j false) ++ [false]))), (blk E 60 [(iv p.wide), (iv p.long), (iv p.saw), vw]), (sl vw 8 p.wants.length (recC d_6 p.wants)), (sl vc 3 cuts.length (recC cutC cuts))] := BQ; clear BQ L
   refine s1 AH (a_0 rfl AH.e) fun CV AI => ?_; clear AH P
   refine s1 AI (f_4 rfl AI.e) fun CW AJ => ?_; clear AI CV
   refine s1 AJ (a_2 rfl fd_92_2 AJ.e) fun CX c => ?_; clear AJ CW
   refine s7 c (d_8 f rfl ty_39 c.e c.e (i := 7) rfl (vs := [F]) (i_3 (SlAt.isSl (SlAt.b_4 (f.b_7 9 rfl)))) rfl (j_8 (SlAt.one (SlAt.b_4 (f.b_7 9 rfl))) p_2) (Nat.le_of_ble_eq_true rfl)) ?_
   intro _ Cq BR BD; clear c
   have BS : Sep NoB w Cq [(blk J 88 [(iv (((a_7 (pk.getD (((cuts.getD k c0).piece).toNat) q0) ((cuts.getD k c0).across) ((cuts.getD k c0).pos) p.saw).getD j q0).x)), (iv (((a_7 (pk.getD (((cuts.getD k c0).piece).toNat) q0) ((cuts.getD k c0).across) ((cuts.getD k c0).pos) p.saw).getD j q0).y)), (iv (((a_7 (pk.getD (((cuts.getD k c0).piece).toNat) q0) ((cuts.getD k c0).across) ((cuts.getD k c0).pos) p.saw).getD j q0).w)), (iv (((a_7 (pk.getD (((cuts.getD k c0).piece).toNat) q0) ((cuts.getD k c0).across) ((cuts.getD k c0).pos) p.saw).getD j q0).l))]), (row B 88 4 ((a_7 (pk.getD (((cuts.getD k c0).piece).toNat) q0) ((cuts.getD k c0).across) ((cuts.getD k c0).pos) p.saw).length) (recC d_5 (a_7 (pk.getD (((cuts.getD k c0).piece).toNat) q0) ((cuts.getD k c0).across) ((cuts.getD k c0).pos) p.saw))), (blk ib111 117 [(Value.func (.func (fwA ((cuts.getD k c0).across))) #[] #[]), (Value.func (.func (fpA ((cuts.getD k c0).across))) #[] #[])]), (blk ib112 88 [(iv ((pk.getD (((cuts.getD k c0).piece).toNat) q0).x)), (iv ((pk.getD (((cuts.getD k c0).piece).toNat) q0).y)), (iv ((pk.getD (((cuts.getD k c0).piece).toNat) q0).w)), (iv ((pk.getD (((cuts.getD k c0).piece).toNat) q0).l))]), (blk ib113 3 [(iv ((cuts.getD k c0).pos))]), (blk ib114 3 [(iv p.saw)]), (blk H 109 [(iv ((cuts.getD k c0).piece)), (Value.bool ((cuts.getD k c0).across)), (iv ((cuts.getD k c0).pos))]), (blk A 92 [(iv p.wide), (iv p.long), (iv p.saw), vw, C, F]), (row C 88 4 (((pk ++ (a_7 (pk.getD (cuts.getD k c0).piece.toNat q0) (cuts.getD k c0).across (cuts.getD k c0).pos p.saw).take j) ++ [((a_7 (pk.getD (((cuts.getD k c0).piece).toNat) q0) ((cuts.getD k c0).across) ((cuts.getD k c0).pos) p.saw).getD j q0)]).length) (recC d_5 ((pk ++ (a_7 (pk.getD (cuts.getD k c0).piece.toNat q0) (cuts.getD k c0).across (cuts.getD k c0).pos p.saw).take j) ++ [((a_7 (pk.getD (((cuts.getD k c0).piece).toNat) q0) ((cuts.getD k c0).across) ((cuts.getD k c0).pos) p.saw).getD j q0)]))), (row F 4 1 (((ck.set (cuts.getD k c0).piece.toNat true ++ List.replicate j false) ++ [false]).length) (d_1 ((ck.set (cuts.getD k c0).piece.toNat true ++ List.replicate j false) ++ [false]))), (blk E 60 [(iv p.wide), (iv p.long), (iv p.saw), vw]), (sl vw 8 p.wants.length (recC d_6 p.wants)), (sl vc 3 cuts.length (recC cutC cuts))] := BR; clear BR f
   refine d_0 (f_8 (b_0 ?_))
   have AK := BD.as [(82, (iv (j : Int))), (81, (iv ((a_7 (pk.getD (((cuts.getD k c0).piece).toNat) q0) ((cuts.getD k c0).across) ((cuts.getD k c0).pos) p.saw).length : Int))), (80, B), (30, (iv (k : Int))), (29, (iv (cuts.length : Int))), (28, vc), (7, (bptr A 0)), (2, (bptr E 0))] rfl; clear BD
   refine a_5 (s1 AK (c_6 rfl AK.e (evc _ _) (by omega) (by omega)) fun CY AL => ?_); clear AK CX
   refine s1 AL (a_0 rfl AL.e) fun DQ B4 => ?_; clear AL CY
   refine d_0 ?_
   have B8 := BS.gkp (gpc 1 (gpc 2 (gpc 3 (gpc 4 (gpc 5 (gpc 6 (gpc 7 (gpc 8 (gpc 9 (gpc 10 (gpc 11 (gpc 12 gpn)))))))))))); clear BS
   exact b_0 ⟨j + 1, ⟨C, F, B4.as _ rfl, ((B8.c_5 (i := 7) rfl (n' := (pk ++ (a_7 (pk.getD (cuts.getD k c0).piece.toNat q0) (cuts.getD k c0).across (cuts.getD k c0).pos p.saw).take (j + 1)).length) (xs' := (recC d_5 (pk ++ (a_7 (pk.getD (cuts.getD k c0).piece.toNat q0) (cuts.getD k c0).across (cuts.getD k c0).pos p.saw).take (j + 1)))) (by rw [m_8 _ _ _ (by omega)]) (by rw [m_8 _ _ _ (by omega)])).c_5 (i := 8) rfl (n' := (ck.set (cuts.getD k c0).piece.toNat true ++ List.replicate (j + 1) false).length) (xs' := (d_1 (ck.set (cuts.getD k c0).piece.toNat true ++ List.replicate (j + 1) false))) (by rw [rep_snoc]) (by rw [rep_snoc])), by omega⟩, by omega⟩
  skip
  rw [decide_eq_false BX] at I
  refine b_3 I rfl (g_5 (b_9 (b_9 (f_1 (f_8 (b_0 (a_5 (s1 I (c_6 rfl I.e (evc _ _) (by omega) (by omega)) fun CZ AM => ?_)))))))); clear I Bc
  refine s1 AM (a_0 rfl AM.e) fun DR B5 => ?_; clear AM CZ
  refine d_0 ?_
  have B9 := O.gkp (gpc 6 (gpc 7 (gpc 8 (gpc 9 (gpc 10 (gpc 11 gpn)))))); clear O
  exact b_0 ⟨k + 1, ⟨vp2_, vk2_, (nextPC (pk, ck) p.saw (cuts.getD k c0)).1, (nextPC (pk, ck) p.saw (cuts.getD k c0)).2, B5.as _ rfl, ((B9.c_5 (i := 1) rfl (n' := (nextPC (pk, ck) p.saw (cuts.getD k c0)).1.length) (xs' := (recC d_5 ((nextPC (pk, ck) p.saw (cuts.getD k c0)).1))) (by rw [show j = (a_7 (pk.getD (cuts.getD k c0).piece.toNat q0) (cuts.getD k c0).across (cuts.getD k c0).pos p.saw).length by omega, List.take_length]; rfl) (by rw [show j = (a_7 (pk.getD (cuts.getD k c0).piece.toNat q0) (cuts.getD k c0).across (cuts.getD k c0).pos p.saw).length by omega, List.take_length]; rfl)).c_5 (i := 2) rfl (n' := (nextPC (pk, ck) p.saw (cuts.getD k c0)).2.length) (xs' := (d_1 ((nextPC (pk, ck) p.saw (cuts.getD k c0)).2))) (by rw [show j = (a_7 (pk.getD (cuts.getD k c0).piece.toNat q0) (cuts.getD k c0).across (cuts.getD k c0).pos p.saw).length by omega]; rfl) (by rw [show j = (a_7 (pk.getD (cuts.getD k c0).piece.toNat q0) (cuts.getD k c0).across (cuts.getD k c0).pos p.saw).length by omega]; rfl)), by omega, (pieces_yes hu_ hok)⟩, by omega⟩
 skip
 rw [decide_eq_false By] at K
 refine b_3 K rfl (g_5 (b_9 (b_9 (f_1 (b_0 (m2 (s1 K (a_0 rfl K.e) fun Ca AN => ?_))))))); clear K CB
 refine s1 AN (a_1 rfl AN.e) fun Cb BE => ?_; clear AN Ca
 refine s1 BE (a_1 rfl (evc _ _)) fun DS BF => ?_; clear BE Cb
 refine n1 (c_3 (a_9 BF (.inl rfl) (n_5 BF rfl (.tmp rfl) (.tmp rfl)) ?_))
 obtain ⟨rfl, rfl⟩ : pk = ps ∧ ck = cs := by
  have hz_ := hd
  unfold l_7 at hz_
  rw [show cuts.length = k by omega, hu_] at hz_
  cases hz_; exact ⟨rfl, rfl⟩
 exact ⟨_, _, _, rfl, n.keep [0, 1, 2] (by decide) _ rfl rfl⟩
end Go.Proofs.Ytphkmnaohimdbaa

namespace Go.Proofs.Ytphkmnaohimdbaa
open Go.RowKit Go.Shelf Go.Eng Go.Top
theorem ty_85 : tyK Try.prog 85 = some (false, 1) := by kernel_rfl
theorem fd_63_0 : fldK Try.prog 63 0 = some 0 := by kernel_rfl
theorem ty_61 : tyK Try.prog 61 = some (false, 1) := by kernel_rfl
theorem en_32 : ∀ args w, (callFunc 32 args).run Try.prog w = .ok (.enter 32 args) w := enters_of Try.func32 (by kernel_rfl) rfl
theorem ze_85 : (Try.prog.info? 85).bind (·.zero) = some (Value.pointer none) := by kernel_rfl
theorem fd_63_1 : fldK Try.prog 63 1 = some 1 := by kernel_rfl
theorem en_34 : ∀ args w, (callFunc 34 args).run Try.prog w = .ok (.enter 34 args) w := enters_of Try.func34 (by kernel_rfl) rfl
theorem en_33 : ∀ args w, (callFunc 33 args).run Try.prog w = .ok (.enter 33 args) w := enters_of Try.func33 (by kernel_rfl) rfl
theorem un_104 : Try.prog.underlying 104 = some (.map 3 4) := by kernel_rfl
theorem un_3 : Try.prog.underlying 3 = some (.int .i64) := by kernel_rfl
theorem en_36 : ∀ args w, (callFunc 36 args).run Try.prog w = .ok (.enter 36 args) w := enters_of Try.func36 (by kernel_rfl) rfl
theorem en_22 : ∀ args w, (callFunc 22 args).run Try.prog w = .ok (.enter 22 args) w := enters_of Try.func22 (by kernel_rfl) rfl
theorem fd_92_0 : fldK Try.prog 92 0 = some 0 := by kernel_rfl
theorem en_24 : ∀ args w, (callFunc 24 args).run Try.prog w = .ok (.enter 24 args) w := enters_of Try.func24 (by kernel_rfl) rfl
theorem en_25 : ∀ args w, (callFunc 25 args).run Try.prog w = .ok (.enter 25 args) w := enters_of Try.func25 (by kernel_rfl) rfl
def UsedK (uses : List Int) (k : Nat) (key val : Value) : Prop := val = .bool true ∧ ∃ j, j < k ∧ key = .int .i64 (uses.getD j 0) ∧ uses.getD j 0 ≠ -1
theorem usedK_int (uses : List Int) (k : Nat) : IntKeys (UsedK uses k) := fun _ _ h => by obtain ⟨_, j, _, e, _⟩ := h; exact ⟨_, e⟩
theorem usedK_up {uses : List Int} {k : Nat} : ∀ key val, UsedK uses k key val → UsedK uses (k + 1) key val := fun _ _ h => by obtain ⟨e, j, hj, A⟩ := h; exact ⟨e, j, by omega, A⟩
theorem usedK_no {p : g_2} {cuts : List CutD} {uses : List Int} {ps : List Quad} {cs : List Bool} {k : Nat} (h : PlanOk p cuts uses ps cs) (hk : k < uses.length) (hn : ¬ uses.getD k 0 = -1) (u : Value) : ¬ UsedK uses k (.int .i64 (uses.getD k 0)) u := fun g => by
 obtain ⟨_, j, hj, e, _⟩ := g
 simp only [Value.int.injEq, true_and] at e
 exact hn (h.once j k hj hk e.symm)
theorem memo_up {X : Nat → Prop} {w0 w : World} {L : List Res} {i bm : Nat} {K K' : Value → Value → Prop} (h : Sep X w0 w L) (hi : L[i]? = some (memo bm K)) (hK : ∀ k v, K k v → K' k v) : Sep X w0 w (L.set i (memo bm K')) :=
 h.say hi (by obtain ⟨es, c, A, B⟩ := h.ok i _ hi; exact ⟨es, c, A, fun e he => hK _ _ (B e he)⟩) (fun _ hb => hb) (fun _ => rfl)
theorem use_in {p : g_2} {cuts : List CutD} {uses : List Int} {ps : List Quad} {cs : List Bool} (h : PlanOk p cuts uses ps cs) (i : Nat) (hi : i < uses.length) : inB (uses.getD i 0) (-1) ((ps.length : Int) - 1) = true := by
 rw [g_3]
 rcases h.use i hi with e | e
 ·rw [e]; omega
 omega
theorem useclo_ok (n : Int) (M bw : Nat) (p : g_2) (vw N T : Value) (ps : List Quad) (w : World) (Z : (blk M 85 [bptr bw 0]).p w) (a : (blk bw 92 [.int .i64 p.wide, .int .i64 p.long, .int .i64 p.saw, vw, N, T]).p w) (hu : SlAt w N 4 ps.length (recC d_5 ps)) (hpl : ps.length ≤ 1000) :
  Calls Try.prog 34 #[(iv n), (bptr M 0)] w (Ret fun v w' => v = .bool (inB n (-1) ((ps.length : Int) - 1)) ∧ Ext NoB w w') := by
 refine b_2 Try.func34 rfl fun O F => ?_
 replace F : Fr 12 [] [(0, (iv n)), (1, (bptr M 0))] O := F
 have G : Sep NoB w w [(rob M 85 [(bptr bw 0)]), (rob bw 92 [(iv p.wide), (iv p.long), (iv p.saw), vw, N, T]), (sl N 4 ps.length (recC d_5 ps))] := f_7 ⟨rfl, Z, rfl, a, rfl, hu, trivial⟩
 refine m2 (s1 F (a_1 rfl (evc _ _)) fun U H => ?_); clear F O
 refine n4 (s1 H (a_0 rfl H.e) fun V J => ?_); clear H U
 refine s1 J (a_3 rfl ty_85 J.e (G.rk 0 rfl) rfl) fun W K => ?_; clear J V
 refine s1 K (f_4 rfl K.e) fun X L => ?_; clear K W
 refine s1 L (a_2 rfl fd_92_1 L.e) fun Y B => ?_; clear L X
 refine s1 B (a_3 rfl s_3 B.e (G.rk 1 rfl) rfl) fun P C => ?_; clear B Y
 refine s1 C (d_7 rfl r_0 C.e (G.sk 2 rfl)) fun Q D => ?_; clear C P
 refine s1 D (f_9 rfl D.e (evc _ _) (by omega) (by omega)) fun R A => ?_; clear D Q
 refine s2 A (b_5 rfl en_35 (ev3 A.e (evc _ _) A.e) (l_1 _ _ _ _)) ?_
 rintro S _ W_ ⟨rfl, hW_⟩ E; have hW2_ := hW_.symm; subst hW2_; clear hW_ A R
 refine s1 E (a_1 rfl E.e) fun b I => ?_; clear E S
 exact n1 (c_3 (a_9 I (.inl rfl) (a_4 I rfl (.tmp rfl)) (⟨rfl, G.ext⟩)))
set_option maxHeartbeats 4000000 in
theorem planned_ok (p : g_2) (vw : Value) (w : World) (hvw : SlAt w vw 8 p.wants.length (recC d_6 p.wants)) (cuts : List CutD) (vc : Value) (hvc : SlAt w vc 3 cuts.length (recC cutC cuts)) (uses : List Int) (vu : Value) (hvu : SlAt w vu 1 uses.length (ints uses)) (hV : n_0 p) (ps : List Quad) (cs : List Bool) (hok : PlanOk p cuts uses ps cs) :
  Calls Try.prog 22 #[(Value.agg #[(iv p.wide), (iv p.long), (iv p.saw), vw]), (Value.agg #[vc, vu])] w (Ret fun v w' => ∃ bw u1 u2, v = .tuple #[bptr bw 0, .int .i64 0] ∧ Sep NoB w w' [blk bw 92 [.int .i64 p.wide, .int .i64 p.long, .int .i64 p.saw, vw, u1, u2], row u1 88 4 ps.length (recC d_5 ps), row u2 4 1 cs.length (d_1 cs)]) := by
 refine b_2 Try.func22 rfl fun a0 z => ?_
 replace z : Fr 78 [] [(0, (Value.agg #[(iv p.wide), (iv p.long), (iv p.saw), vw])), (1, (Value.agg #[vc, vu]))] a0 := z
 have hul := hok.ulen; have CE := hV.few; have hfw := hok.few; have hpc := pieces_V hV _ _ hok.done; have hps : cs.length = ps.length := hpc.same; have hpf : ps.length ≤ 2 * cuts.length + 1 := hpc.few
 have A5 : Sep NoB w w [(sl vw 8 p.wants.length (recC d_6 p.wants)), (sl vc 3 cuts.length (recC cutC cuts)), (sl vu 1 uses.length (ints uses))] := f_7 ⟨rfl, hvw, rfl, hvc, rfl, hvu, trivial⟩
 refine m2 (s2 z (e_5 A5 rfl z.e (cs := [(iv p.wide), (iv p.long), (iv p.saw), vw]) rfl) ?_)
 rintro a1 _ w3 ⟨I, rfl, A6⟩ Am; clear z A5 a0
 refine s2 Am (e_5 A6 rfl Am.e (cs := [vc, vu]) rfl) ?_
 rintro a6 _ w8 ⟨b9, rfl, J⟩ A4; clear Am A6 a1
 refine s1 A4 (a_1 rfl (evc _ _)) fun BT Al => ?_; clear A4 a6
 refine s1 Al (a_1 rfl (evc _ _)) fun BU AA => ?_; clear Al BT
 refine n4 (s1 AA (c_2 rfl ty_60 (AA.ev rfl) (J.bk 1 rfl) (l := [(iv p.wide), (iv p.long), (iv p.saw), vw]) rfl rfl) fun BV AB => ?_); clear AA BU
 refine s1 AB (a_2 rfl fd_63_0 AB.e) fun BW AC => ?_; clear AB BV
 refine s1 AC (a_3 rfl ty_61 AC.e (J.bk 0 rfl) rfl) fun BX j => ?_; clear AC BW
 refine s2 j (b_5 rfl en_32 (ev2 j.e j.e) (do_ok p vw _ (J.sk 2 rfl) cuts vc (J.sk 3 rfl) hV hok.few hok.pos ps cs hok.done)) ?_
 rintro BY _ B2 ⟨bw24, F, H, rfl, Ay⟩ AD; have Au : Sep NoB w B2 [(blk bw24 92 [(iv p.wide), (iv p.long), (iv p.saw), vw, F, H]), (row F 88 4 ps.length (recC d_5 ps)), (row H 4 1 cs.length (d_1 cs)), (blk b9 63 [vc, vu]), (blk I 60 [(iv p.wide), (iv p.long), (iv p.saw), vw]), (sl vw 8 p.wants.length (recC d_6 p.wants)), (sl vc 3 cuts.length (recC cutC cuts)), (sl vu 1 uses.length (ints uses))] := J.q_1 Ay rfl; clear Ay j J BX
 refine s1 AD (a_0 rfl AD.e) fun BZ AE => ?_; clear AD BY
 refine s1 AE (c_4 rfl AE.e rfl) fun Ba AF => ?_; clear AE BZ
 refine s1 AF (c_4 rfl AF.e rfl) fun Bb An => ?_; clear AF Ba
 refine s2 An (e_6 Au rfl ze_85 (cs := [(Value.pointer none)]) rfl) ?_
 rintro Bc _ CF ⟨E, rfl, Av⟩ m; clear An Au Bb
 refine s7 m (d_8 Av rfl ty_85 m.e m.e (i := 0) rfl (vs := [(bptr bw24 0)]) rfl rfl rfl (Nat.le_of_ble_eq_true rfl)) ?_
 intro _ B3 Aw AG; clear m
 have B : Sep NoB w B3 [(blk E 85 [(bptr bw24 0)]), (blk bw24 92 [(iv p.wide), (iv p.long), (iv p.saw), vw, F, H]), (row F 88 4 ps.length (recC d_5 ps)), (row H 4 1 cs.length (d_1 cs)), (blk b9 63 [vc, vu]), (blk I 60 [(iv p.wide), (iv p.long), (iv p.saw), vw]), (sl vw 8 p.wants.length (recC d_6 p.wants)), (sl vc 3 cuts.length (recC cutC cuts)), (sl vu 1 uses.length (ints uses))] := Aw; clear Aw Av
 refine s1 AG (a_1 rfl AG.e) fun Bd Ao => ?_; clear AG Bc
 refine n2 (b_6 ?_)
 have AH := Ao.as [(7, (iv 0)), (6, (bptr E 0)), (3, (bptr b9 0)), (2, (bptr I 0))] rfl; clear Ao
 refine a_5 (s1 AH (a_0 rfl AH.e) fun Be AI => ?_); clear AH Bd
 refine s1 AI (j_7 rfl AI.e (evc _ _)) fun Bf n => ?_; clear AI Be
 refine n1 (b_3 n rfl (c_0 (b_0 (b_6 (m2 (s1 n (a_2 rfl fd_63_1 n.e) fun Bg AJ => ?_)))))); clear n Bf
 refine s1 AJ (a_3 rfl l_8 AJ.e (B.bk 4 rfl) rfl) fun Bh AK => ?_; clear AJ Bg
 refine s1 AK (d_7 rfl k_0 AK.e (B.sk 8 rfl)) fun Bi AL => ?_; clear AK Bh
 refine s1 AL (a_2 rfl fd_60_3 AL.e) fun Bj AM => ?_; clear AL Bi
 refine s1 AM (a_3 rfl ty_58 AM.e (B.bk 5 rfl) rfl) fun Bk AN => ?_; clear AM Bj
 refine s1 AN (d_7 rfl un_58 AN.e (B.sk 6 rfl)) fun Bl o => ?_; clear AN Bk
 refine s1 o (j_7 rfl o.e o.e) fun Bm q => ?_; clear o Bl
 have BQ : (uses.length : Int) = (p.wants.length : Int) := (by have := hok.ulen; omega)
 rw [decide_eq_true BQ] at q
 refine s1 q (a_0 rfl q.e) fun Bn AO => ?_; clear q Bm
 refine s5 AO (a_2 rfl fd_63_1 AO.e) fun Bo AP => ?_; clear AO Bn
 refine s5 AP (a_3 rfl l_8 AP.e (B.bk 4 rfl) rfl) fun Bp AQ => ?_; clear AP Bo
 refine s5 AQ (m_3 rfl ev0 (ev1 AQ.e)) fun Bq r => ?_; clear AQ Bp
 refine s6 r (b_5 rfl en_33 (ev2 r.e r.e) (callsB (all_int uses _ 34 #[] #[(bptr E 0)] (fun i => inB (uses.getD i 0) (-1) ((ps.length : Int) - 1)) _ (B.sk 8 rfl) (by omega) ⟨en_34, fun i hi W hW => useclo_ok _ _ _ p _ _ _ ps W ((B.step hW).bk 0 rfl) ((B.step hW).bk 1 rfl) (SlAt.b_4 ((B.step hW).b_7 2 rfl)) (by omega)⟩) true (all_true _ _ (use_in hok)))) ?_
 rintro Br _ CG ⟨rfl, At⟩ AR; have Ax := B.step At; clear At r B Bq
 refine s5 AR (e_4 rfl AR.e) fun Bs s => ?_; clear AR Br
 refine s1 s (a_8 rfl s.e s.e) fun Bt AS => ?_; clear s Bs
 refine n1 (b_3 AS rfl (c_0 (b_0 (b_6 ?_))))
 have Ap := AS.as [(6, (bptr E 0)), (3, (bptr b9 0)), (2, (bptr I 0))] rfl; clear AS
 refine a_5 (s2 Ap (op_makeMap Ax (UsedK uses 0) rfl) ?_)
 rintro Bu _ CH ⟨bm87, rfl, t⟩ AT; clear Ap Ax Bt
 refine s1 AT (a_1 rfl AT.e) fun Bv AU => ?_; clear AT Bu
 refine n2 (m2 (s1 AU (a_2 rfl fd_63_1 AU.e) fun Bw AV => ?_)); clear AU Bv
 refine s1 AV (a_3 rfl l_8 AV.e (t.bk 5 rfl) rfl) fun Bx AW => ?_; clear AV Bw
 refine s1 AW (d_7 rfl k_0 AW.e (t.sk 9 rfl)) fun By Aq => ?_; clear AW Bx
 refine s1 Aq (a_0 rfl (evc _ _)) fun Bz Ar => ?_; clear Aq By
 refine n1 (c_9 ?_)
 have As := Ar.as [(39, (iv 0)), (38, (iv (uses.length : Int))), (37, vu), (8, (Value.map (some bm87))), (6, (bptr E 0)), (2, (bptr I 0))] rfl; clear Ar
 refine g_6 (G := Nat) (fun (k : Nat) a_ w_ => Fr 78 [] [(39, (iv (k : Int))), (38, (iv (uses.length : Int))), (37, vu), (8, (Value.map (some bm87))), (6, (bptr E 0)), (2, (bptr I 0))] a_ ∧ Sep NoB w w_ [(memo bm87 (UsedK uses k)), (blk E 85 [(bptr bw24 0)]), (blk bw24 92 [(iv p.wide), (iv p.long), (iv p.saw), vw, F, H]), (row F 88 4 ps.length (recC d_5 ps)), (row H 4 1 cs.length (d_1 cs)), (blk b9 63 [vc, vu]), (blk I 60 [(iv p.wide), (iv p.long), (iv p.saw), vw]), (sl vw 8 p.wants.length (recC d_6 p.wants)), (sl vc 3 cuts.length (recC cutC cuts)), (sl vu 1 uses.length (ints uses))] ∧ (k ≤ uses.length)) (fun k => uses.length - k) 0 ⟨As.as _ rfl, t, Nat.zero_le _⟩ ?_
 clear As t Bz
 rintro k A8 CB ⟨K, D, hk⟩
 refine m2 (s1 K (e_2 rfl K.e K.e) fun Ak A => ?_); clear K A8
 refine n2 ?_
 by_cases Ai : (k : Int) < (uses.length : Int)
 ·skip
  rw [decide_eq_true Ai] at A
  have huk := hok.use k (by omega)
  refine c_1 A rfl (c_0 (b_0 (b_6 (c_9 (m2 (s1 A (a_0 rfl A.e) fun A9 L => ?_)))))); clear A Ak
  refine s1 L (b_8 rfl k_0 ty_3 L.e (i := k) L.e (D.sk 9 rfl) (by decide) (by omega)) fun BA R => ?_; clear L A9
  refine s1 R (d_3 rfl ty_3 R.e (D.sk 9 rfl) (ints_at (by omega))) fun BB S => ?_; clear R BA
  refine s1 S (a_1 rfl S.e) fun BC T => ?_; clear S BB
  refine s1 T (a_1 rfl T.e) fun BD U => ?_; clear T BC
  refine n2 (m2 (s1 U (a_0 rfl U.e) fun BE V => ?_)); clear U BD
  refine s1 V (f_5 rfl V.e (evc _ _)) fun BF C => ?_; clear V BE
  refine n1 ?_
  by_cases u : (uses.getD k 0) = (-1)
  ·skip
   rw [decide_eq_true u] at C
   refine c_1 C rfl (g_5 (b_9 (f_1 (b_0 ?_))))
   have X := C.as [(39, (iv (k : Int))), (38, (iv (uses.length : Int))), (37, vu), (8, (Value.map (some bm87))), (6, (bptr E 0)), (2, (bptr I 0))] rfl; clear C
   refine a_5 (s1 X (c_6 rfl X.e (evc _ _) (by omega) (by omega)) fun BG Y => ?_); clear X BF
   refine s1 Y (a_0 rfl Y.e) fun B5 Az => ?_; clear Y BG
   refine d_0 ?_
   have A1 := memo_up D (i := 0) rfl usedK_up; clear D
   exact b_0 ⟨k + 1, ⟨Az.as _ rfl, A1, by omega⟩, by omega⟩
  skip
  rw [decide_eq_false u] at C
  have A7 := huk.resolve_left u; have hqv := hpc.quad (uses.getD k 0).toNat (show (uses.getD k 0).toNat < ps.length by omega)
  refine b_3 C rfl (c_0 (b_0 (b_6 (b_6 ?_))))
  have AX := C.as [(10, (iv (uses.getD k 0))), (9, (iv (k : Int))), (39, (iv (k : Int))), (38, (iv (uses.length : Int))), (37, vu), (8, (Value.map (some bm87))), (6, (bptr E 0)), (2, (bptr I 0))] rfl; clear C
  have AY := AX.as [(10, (iv (uses.getD k 0))), (9, (iv (k : Int))), (39, (iv (k : Int))), (38, (iv (uses.length : Int))), (37, vu), (8, (Value.map (some bm87))), (6, (bptr E 0)), (2, (bptr I 0))] rfl; clear AX
  refine h_7 mixed AY D 25 [[], [], [0, 1], [2], [3], [3, 4], [3, 5], [3, 6], [3], [3, 7, 8], [3, 9], [3, 10], [11], [12], [12, 13], [12], [12, 14, 15], [12, 16], [12], [12, 18], [12, 19], [12, 20], [12], [12, 21, 22], [12, 23]] [(Yd.val (Value.map (some bm87))), (Yd.val (iv (uses.getD k 0))), (Yd.val (Value.bool false)), (Yd.val (Value.bool false)), (Yd.val (bptr bw24 0)), (Yd.val (bptr bw24 0)), (Yd.val (bptr bw24 5)), (Yd.val H), (Yd.val (iv (uses.getD k 0))), (Yd.val (eptr H ((uses.getD k 0).toNat * 1))), (Yd.val (Value.bool false)), (Yd.val (Value.bool false)), (Yd.val (Value.bool false)), (Yd.val (bptr I 3)), (Yd.val vw), (Yd.val (iv (k : Int))), (Yd.val (eptr vw (k * 8))), (Yd.val (Value.agg #[(iv ((p.wants.getD k w0).w)), (iv ((p.wants.getD k w0).l)), (Value.bool ((p.wants.getD k w0).turn)), (iv ((p.wants.getD k w0).worth)), (iv ((p.wants.getD k w0).xl)), (iv ((p.wants.getD k w0).xh)), (iv ((p.wants.getD k w0).yl)), (iv ((p.wants.getD k w0).yh))])), (Yd.val (bptr bw24 0)), (Yd.val (bptr bw24 0)), (Yd.val (bptr bw24 4)), (Yd.val F), (Yd.val (iv (uses.getD k 0))), (Yd.val (eptr F ((uses.getD k 0).toNat * 4))), (Yd.val (Value.agg #[(iv ((ps.getD ((uses.getD k 0).toNat) q0).x)), (iv ((ps.getD ((uses.getD k 0).toNat) q0).y)), (iv ((ps.getD ((uses.getD k 0).toNat) q0).w)), (iv ((ps.getD ((uses.getD k 0).toNat) q0).l))]))] (by decide +kernel) rfl rfl ?_ ?_
  ·skip
   refine dq (fun a w hA hS hd => a_0 rfl hA.e) ?_
   refine dq (fun a w hA hS hd => a_0 rfl hA.e) ?_
   refine dq (fun a w hA hS hd => op_lookupI hS rfl un_104 un_3 ze_4 (hq hd 0) (hq hd 1) (i := 0) rfl (usedK_int _ _) (usedK_no hok (by omega) (by assumption))) ?_
   refine dq (fun a w hA hS hd => a_0 rfl (hq hd 2)) ?_
   refine dy 3 (fun a w hA hS hd => a_3 rfl ty_85 hA.e (hS.bk 1 rfl) rfl) ?_
   refine dy 3 (fun a w hA hS hd => f_4 rfl (hq hd 4)) ?_
   refine dy 3 (fun a w hA hS hd => a_2 rfl fd_92_2 (hq hd 5)) ?_
   refine dy 3 (fun a w hA hS hd => a_3 rfl ty_39 (hq hd 6) (hS.bk 2 rfl) rfl) ?_
   refine dy 3 (fun a w hA hS hd => a_0 rfl hA.e) ?_
   refine dy 3 (fun a w hA hS hd => b_8 rfl h_2 ty_4 (hq hd 7) (i := (uses.getD k 0).toNat) ((hq hd 8).trans (i_8 (by omega))) (SlAt.b_4 (hS.b_7 4 rfl)) (by decide) (by omega)) ?_
   refine ⟨fun a w hA hS hd => by have e3 := hx hd 3; have e9 := hx hd 9; exact k_3 rfl rfl e3 (dv (d_3 rfl ty_4 (e_0 e9) (SlAt.b_4 (hS.b_7 4 rfl)) (h_6 (by omega))) hS (by show Value.bool _ = _; simp only [(show (cs.getD ((uses.getD k 0).toNat) false) = false from A7.2.1), decide_true, decide_false, Bool.not_true, Bool.not_false])), ?_⟩
   refine dq (fun a w hA hS hd => a_8 rfl (hq hd 3) (hq hd 10)) ?_
   refine dq (fun a w hA hS hd => a_0 rfl (hq hd 11)) ?_
   refine dy 12 (fun a w hA hS hd => a_2 rfl fd_60_3 hA.e) ?_
   refine dy 12 (fun a w hA hS hd => a_3 rfl ty_58 (hq hd 13) (hS.bk 6 rfl) rfl) ?_
   refine dy 12 (fun a w hA hS hd => a_0 rfl hA.e) ?_
   refine dy 12 (fun a w hA hS hd => b_8 rfl un_58 ty_57 (hq hd 14) (i := k) (hq hd 15) (hS.sk 7 rfl) (by decide) (by omega)) ?_
   refine dy 12 (fun a w hA hS hd => e_1 rfl ty_57 (hq hd 16) (hS.sk 7 rfl) (n_6 (by omega)) rfl (by decide)) ?_
   refine dy 12 (fun a w hA hS hd => a_3 rfl ty_85 hA.e (hS.bk 1 rfl) rfl) ?_
   refine dy 12 (fun a w hA hS hd => f_4 rfl (hq hd 18)) ?_
   refine dy 12 (fun a w hA hS hd => a_2 rfl fd_92_1 (hq hd 19)) ?_
   refine dy 12 (fun a w hA hS hd => a_3 rfl s_3 (hq hd 20) (hS.bk 2 rfl) rfl) ?_
   refine dy 12 (fun a w hA hS hd => a_0 rfl hA.e) ?_
   refine dy 12 (fun a w hA hS hd => b_8 rfl r_0 j_9 (hq hd 21) (i := (uses.getD k 0).toNat) ((hq hd 22).trans (i_8 (by omega))) (SlAt.b_4 (hS.b_7 3 rfl)) (by decide) (by omega)) ?_
   refine dy 12 (fun a w hA hS hd => e_1 rfl j_9 (hq hd 23) (SlAt.b_4 (hS.b_7 3 rfl)) (k_6 (by omega)) rfl (by decide)) ?_
   trivial
  intro BH CC AZ Af Q; clear AY D
  have Aa := AZ.add (hz Q 12); clear AZ
  have Ab := Aa.add (hz Q 17); clear Aa
  have M := Ab.add (hz Q 24); clear Ab
  clear Q
  refine s6 M (b_5 rfl en_36 (ev2 M.e M.e) (pfits_ok (p.wants.getD k w0) (ps.getD ((uses.getD k 0).toNat) q0) hqv _)) ?_
  rintro BI _ CD ⟨rfl, Ae⟩ N; have Ag := Af.step Ae; clear Ae M Af BH
  have A3 : (i_1 (p.wants.getD k w0) (ps.getD ((uses.getD k 0).toNat) q0)) = true := A7.2.2
  rw [A3] at N
  refine s5 N (e_4 rfl N.e) fun BJ O => ?_; clear N BI
  refine s1 O (a_8 rfl O.e O.e) fun BK Z => ?_; clear O BJ
  refine n1 (b_3 Z rfl (c_0 (b_0 ?_)))
  have b := Z.as [(10, (iv (uses.getD k 0))), (39, (iv (k : Int))), (38, (iv (uses.length : Int))), (37, vu), (8, (Value.map (some bm87))), (6, (bptr E 0)), (2, (bptr I 0))] rfl; clear Z
  refine a_5 (s1 b (a_0 rfl b.e) fun BL c => ?_); clear b BK
  refine s1 c (a_0 rfl c.e) fun BM P => ?_; clear c BL
  refine s7 P (op_updI (K' := UsedK uses (k + 1)) Ag rfl un_104 un_3 P.e P.e (evc _ _) (i := 0) rfl (usedK_int _ _) usedK_up ⟨rfl, k, Nat.lt_succ_self k, rfl, by omega⟩) ?_
  intro _ BR Ah d; have A2 : Sep NoB w BR [(memo bm87 (UsedK uses (k + 1))), (blk E 85 [(bptr bw24 0)]), (blk bw24 92 [(iv p.wide), (iv p.long), (iv p.saw), vw, F, H]), (row F 88 4 ps.length (recC d_5 ps)), (row H 4 1 cs.length (d_1 cs)), (blk b9 63 [vc, vu]), (blk I 60 [(iv p.wide), (iv p.long), (iv p.saw), vw]), (sl vw 8 p.wants.length (recC d_6 p.wants)), (sl vc 3 cuts.length (recC cutC cuts)), (sl vu 1 uses.length (ints uses))] := Ah; clear Ah P Ag
  refine d_0 (f_8 (b_0 (a_5 (s1 d (c_6 rfl d.e (evc _ _) (by omega) (by omega)) fun BN f => ?_)))); clear d BM
  refine s1 f (a_0 rfl f.e) fun B6 A0 => ?_; clear f BN
  refine d_0 ?_
  exact b_0 ⟨k + 1, ⟨A0.as _ rfl, A2, by omega⟩, by omega⟩
 skip
 rw [decide_eq_false Ai] at A
 refine b_3 A rfl (g_5 (b_9 (b_9 (f_1 (b_0 (b_6 ?_))))))
 have g := A.as [(6, (bptr E 0))] rfl; clear A
 refine a_5 (s1 g (a_3 rfl ty_85 g.e (D.bk 1 rfl) rfl) fun BO h => ?_); clear g Ak
 refine s1 h (a_1 rfl h.e) fun BP Ac => ?_; clear h BO
 refine s1 Ac (a_1 rfl (evc _ _)) fun B7 Ad => ?_; clear Ac BP
 exact n1 (c_3 (a_9 Ad (.inl rfl) (n_5 Ad rfl (.tmp rfl) (.tmp rfl)) (⟨_, _, _, rfl, D.keep [2, 3, 4] (by decide) _ rfl rfl⟩)))
theorem cov_whole {p : g_2} {ux uy : Int} (hux : 0 ≤ ux ∧ ux < p.wide) (huy : 0 ≤ uy ∧ uy < p.long) : covB ⟨0, 0, p.wide, p.long⟩ ux uy = true := by
 unfold covB; rw [Bool.and_eq_true, g_3, g_3]; dsimp only; omega
set_option maxHeartbeats 4000000 in
theorem trace_ok (p : g_2) (vw : Value) (w : World) (hvw : SlAt w vw 8 p.wants.length (recC d_6 p.wants)) (cuts : List CutD) (vc : Value) (hvc : SlAt w vc 3 cuts.length (recC cutC cuts)) (uses : List Int) (vu : Value) (hvu : SlAt w vu 1 uses.length (ints uses)) (hV : n_0 p) (ps : List Quad) (cs : List Bool) (hok : PlanOk p cuts uses ps cs) (ux uy : Int) (hux : 0 ≤ ux ∧ ux < p.wide) (huy : 0 ≤ uy ∧ uy < p.long) :
  Calls Try.prog 13 #[(Value.agg #[(iv p.wide), (iv p.long), (iv p.saw), vw]), (Value.agg #[vc, vu]), (iv ux), (iv uy)] w (Ret fun v w' => v = .tuple #[.int .i64 (p_8 ps cs ux uy), .int .i64 (wanF ps cs uses ux uy), .int .i64 0] ∧ Ext NoB w w') := by
 refine b_2 Try.func13 rfl fun a0 AO => ?_
 replace AO : Fr 67 [] [(0, (Value.agg #[(iv p.wide), (iv p.long), (iv p.saw), vw])), (1, (Value.agg #[vc, vu])), (2, (iv ux)), (3, (iv uy))] a0 := AO
 have hul := hok.ulen; have Cv := hV.few; have hfw := hok.few; have hvx := hV.wide; have hvy := hV.long; have hpc := pieces_V hV _ _ hok.done; have hps : cs.length = ps.length := hpc.same; have hpf : ps.length ≤ 2 * cuts.length + 1 := hpc.few; have B9 := (PCV.zero hV).quad 0 (Nat.lt_succ_self 0)
 have BS : Sep NoB w w [(sl vw 8 p.wants.length (recC d_6 p.wants)), (sl vc 3 cuts.length (recC cutC cuts)), (sl vu 1 uses.length (ints uses))] := f_7 ⟨rfl, hvw, rfl, hvc, rfl, hvu, trivial⟩
 refine m2 (s2 AO (e_5 BS rfl AO.e (cs := [(iv p.wide), (iv p.long), (iv p.saw), vw]) rfl) ?_)
 rintro a1 _ w3 ⟨b4, rfl, BT⟩ BA; clear AO BS a0
 refine s2 BA (e_5 BT rfl BA.e (cs := [vc, vu]) rfl) ?_
 rintro a6 _ w8 ⟨O, rfl, I⟩ BR; clear BA BT a1
 refine s1 BR (a_1 rfl (evc _ _)) fun CC A8 => ?_; clear BR a6
 refine s1 A8 (a_1 rfl (evc _ _)) fun CD A9 => ?_; clear A8 CC
 refine s1 A9 (a_1 rfl (evc _ _)) fun CE AP => ?_; clear A9 CD
 refine n1 (c_scope (m2 (s1 AP (c_2 rfl ty_60 (AP.ev rfl) (I.bk 1 rfl) (l := [(iv p.wide), (iv p.long), (iv p.saw), vw]) rfl rfl) fun CF AQ => ?_))); clear AP CE
 refine s1 AQ (c_2 rfl ty_63 (AQ.ev rfl) (I.bk 0 rfl) (l := [vc, vu]) rfl rfl) fun CG AB => ?_; clear AQ CF
 refine s2 AB (b_5 rfl en_22 (ev2 AB.e AB.e) (planned_ok p vw _ (I.sk 2 rfl) cuts vc (I.sk 3 rfl) uses vu (I.sk 4 rfl) hV ps cs hok)) ?_
 rintro CH _ Ck ⟨bw24, H, R, rfl, BJ⟩ AR; have AK : Sep NoB w Ck [(blk bw24 92 [(iv p.wide), (iv p.long), (iv p.saw), vw, H, R]), (row H 88 4 ps.length (recC d_5 ps)), (row R 4 1 cs.length (d_1 cs)), (blk O 63 [vc, vu]), (blk b4 60 [(iv p.wide), (iv p.long), (iv p.saw), vw]), (sl vw 8 p.wants.length (recC d_6 p.wants)), (sl vc 3 cuts.length (recC cutC cuts)), (sl vu 1 uses.length (ints uses))] := I.q_1 BJ rfl; clear BJ AB I CG
 refine s1 AR (a_0 rfl AR.e) fun CI AS => ?_; clear AR CH
 refine s1 AS (c_4 rfl AS.e rfl) fun CJ AT => ?_; clear AS CI
 refine s1 AT (c_4 rfl AT.e rfl) fun CK AU => ?_; clear AT CJ
 refine s1 AU (a_1 rfl AU.e) fun CL AV => ?_; clear AU CK
 refine s1 AV (a_1 rfl AV.e) fun CM BB => ?_; clear AV CL
 refine n2 (c_9 (b_6 ?_))
 have AW := BB.as [(10, (iv 0)), (11, (bptr bw24 0)), (5, (bptr O 0)), (2, (iv ux)), (3, (iv uy))] rfl; clear BB
 refine a_5 (s1 AW (a_0 rfl AW.e) fun CN AX => ?_); clear AW CM
 refine s1 AX (j_7 rfl AX.e (evc _ _)) fun CO AY => ?_; clear AX CN
 refine s1 AY (a_1 rfl AY.e) fun CP AG => ?_; clear AY CO
 refine n1 (b_3 AG rfl (m2 (s1 AG (a_0 rfl AG.e) fun CQ AZ => ?_))); clear AG CP
 refine s1 AZ (f_4 rfl AZ.e) fun CR Aa => ?_; clear AZ CQ
 refine s1 Aa (a_2 rfl fd_92_0 Aa.e) fun CS Ab => ?_; clear Aa CR
 refine s1 Ab (c_2 rfl ty_60 (Ab.ev rfl) (AK.bk 0 rfl) (l := [(iv p.wide), (iv p.long), (iv p.saw), vw]) rfl rfl) fun CT Ac => ?_; clear Ab CS
 refine s2 Ac (b_5 rfl en_23 (ev1 Ac.e) (whole_ok p vw _ (AK.sk 5 rfl))) ?_
 rintro CU _ Cw ⟨rfl, BG⟩ Ad; have BI := AK.step BG; clear BG Ac AK CT
 refine s1 Ad (a_0 rfl Ad.e) fun CV Ae => ?_; clear Ad CU
 refine s1 Ae (a_0 rfl Ae.e) fun CW P => ?_; clear Ae CV
 refine s2 P (b_5 rfl en_24 (ev3 P.e P.e P.e) (covers_ok (⟨0, 0, p.wide, p.long⟩ : Quad) ux uy B9 (by omega) (by omega) _)) ?_
 rintro CX _ Cx ⟨rfl, BH⟩ AH; have AL := BI.step BH; clear BH P BI CW
 have B8 : (covB (⟨0, 0, p.wide, p.long⟩ : Quad) ux uy) = true := (cov_whole hux huy)
 rw [B8] at AH
 refine s1 AH (e_4 rfl AH.e) fun CY Af => ?_; clear AH CX
 refine s1 Af (a_1 rfl Af.e) fun CZ Ag => ?_; clear Af CY
 refine n1 (b_3 Ag rfl (c_0 (f_8 (b_0 (b_6 ?_)))))
 have BC := Ag.as [(11, (bptr bw24 0)), (5, (bptr O 0)), (2, (iv ux)), (3, (iv uy))] rfl; clear Ag
 refine a_5 (s1 BC (a_1 rfl (evc _ _)) fun Ca Ah => ?_); clear BC CZ
 refine n2 (c_label (b_0 (b_6 (m2 (s1 Ah (a_0 rfl Ah.e) fun Cb Ai => ?_))))); clear Ah Ca
 refine s1 Ai (f_4 rfl Ai.e) fun Cc Aj => ?_; clear Ai Cb
 refine s1 Aj (a_2 rfl fd_92_1 Aj.e) fun Cd Ak => ?_; clear Aj Cc
 refine s1 Ak (a_3 rfl s_3 Ak.e (AL.bk 0 rfl) rfl) fun Ce Al => ?_; clear Ak Cd
 refine s1 Al (d_7 rfl r_0 Al.e (SlAt.b_4 (AL.b_7 1 rfl))) fun Cf BD => ?_; clear Al Ce
 refine s1 BD (a_0 rfl (evc _ _)) fun Cg BE => ?_; clear BD Cf
 refine n1 (c_9 ?_)
 have BF := BE.as [(39, (iv 0)), (38, (iv (ps.length : Int))), (37, H), (8, (iv (-1))), (11, (bptr bw24 0)), (5, (bptr O 0)), (2, (iv ux)), (3, (iv uy))] rfl; clear BE
 refine g_6 (G := Nat) (fun (k : Nat) a_ w_ => Fr 67 [] [(39, (iv (k : Int))), (38, (iv (ps.length : Int))), (37, H), (8, (iv (-1))), (11, (bptr bw24 0)), (5, (bptr O 0)), (2, (iv ux)), (3, (iv uy))] a_ ∧ Sep NoB w w_ [(blk bw24 92 [(iv p.wide), (iv p.long), (iv p.saw), vw, H, R]), (row H 88 4 ps.length (recC d_5 ps)), (row R 4 1 cs.length (d_1 cs)), (blk O 63 [vc, vu]), (blk b4 60 [(iv p.wide), (iv p.long), (iv p.saw), vw]), (sl vw 8 p.wants.length (recC d_6 p.wants)), (sl vc 3 cuts.length (recC cutC cuts)), (sl vu 1 uses.length (ints uses))] ∧ (k ≤ ps.length) ∧ (∀ i, i < k → (!cs.getD i false && covB (ps.getD i q0) ux uy) = false)) (fun k => ps.length - k) 0 ⟨BF.as _ rfl, AL, Nat.zero_le _, (fun _ h => absurd h (Nat.not_lt_zero _))⟩ ?_
 clear BF AL Cg
 rintro k Ch Cy ⟨AI, Q, hk, hn⟩
 refine m2 (s1 AI (e_2 rfl AI.e AI.e) fun BQ E => ?_); clear AI Ch
 refine n2 ?_
 by_cases BK : (k : Int) < (ps.length : Int)
 ·skip
  rw [decide_eq_true BK] at E
  have hqv := hpc.quad k (show k < ps.length by omega)
  refine c_1 E rfl (c_0 (b_0 (b_6 (c_9 (m2 (s1 E (a_0 rfl E.e) fun Ci AJ => ?_)))))); clear E BQ
  refine s1 AJ (b_8 rfl r_0 j_9 AJ.e (i := k) AJ.e (SlAt.b_4 (Q.b_7 1 rfl)) (by decide) (by omega)) fun Cj Am => ?_; clear AJ Ci
  refine s1 Am (e_1 rfl j_9 Am.e (SlAt.b_4 (Q.b_7 1 rfl)) (k_6 (by omega)) rfl (by decide)) fun BU An => ?_; clear Am Cj
  refine s2 An (e_6 Q rfl ze_88 (cs := [(iv 0), (iv 0), (iv 0), (iv 0)]) rfl) ?_
  rintro BV _ Cs ⟨B6, rfl, A2⟩ S; clear An Q BU
  refine s1 S (a_1 rfl S.e) fun BW K => ?_; clear S BV
  refine s7 K (d_8 A2 rfl j_9 K.e K.e (i := 0) rfl (vs := [(iv ((ps.getD k q0).x)), (iv ((ps.getD k q0).y)), (iv ((ps.getD k q0).w)), (iv ((ps.getD k q0).l))]) rfl rfl rfl (Nat.le_of_ble_eq_true rfl)) ?_
  intro _ CA A3 T; clear K
  have C : Sep NoB w CA [(blk B6 88 [(iv ((ps.getD k q0).x)), (iv ((ps.getD k q0).y)), (iv ((ps.getD k q0).w)), (iv ((ps.getD k q0).l))]), (blk bw24 92 [(iv p.wide), (iv p.long), (iv p.saw), vw, H, R]), (row H 88 4 ps.length (recC d_5 ps)), (row R 4 1 cs.length (d_1 cs)), (blk O 63 [vc, vu]), (blk b4 60 [(iv p.wide), (iv p.long), (iv p.saw), vw]), (sl vw 8 p.wants.length (recC d_6 p.wants)), (sl vc 3 cuts.length (recC cutC cuts)), (sl vu 1 uses.length (ints uses))] := A3; clear A3 A2
  refine n4 (s1 T (a_0 rfl T.e) fun BX U => ?_); clear T BW
  refine s1 U (f_4 rfl U.e) fun BY V => ?_; clear U BX
  refine s1 V (a_2 rfl fd_92_2 V.e) fun BZ W => ?_; clear V BY
  refine s1 W (a_3 rfl ty_39 W.e (C.bk 1 rfl) rfl) fun Ba X => ?_; clear W BZ
  refine s1 X (a_0 rfl X.e) fun Bb L => ?_; clear X Ba
  refine s1 L (b_8 rfl h_2 ty_4 L.e (i := k) L.e (SlAt.b_4 (C.b_7 3 rfl)) (by decide) (by omega)) fun Bc Y => ?_; clear L Bb
  refine s1 Y (d_3 rfl ty_4 Y.e (SlAt.b_4 (C.b_7 3 rfl)) (h_6 (by omega))) fun Bd Z => ?_; clear Y Bc
  refine s1 Z (e_4 rfl Z.e) fun Be a => ?_; clear Z Bd
  refine s1 a (a_0 rfl a.e) fun A5 D => ?_; clear a Be
  rcases Bool.eq_false_or_eq_true ((cs.getD k false)) with AM | AM
  ·skip
   rw [AM] at D
   refine s3 D fun Bf Ao => ?_; clear D A5
   refine s3 Ao fun Bg Ap => ?_; clear Ao Bf
   refine s3 Ap fun Bh Aq => ?_; clear Ap Bg
   refine s3 Aq fun Bi b => ?_; clear Aq Bh
   refine s1 b (a_8 rfl b.e (evc _ _)) fun Bj c => ?_; clear b Bi
   refine n1 (b_3 c rfl (c_0 (f_8 (b_0 ?_))))
   have d := c.as [(39, (iv (k : Int))), (38, (iv (ps.length : Int))), (37, H), (8, (iv (-1))), (11, (bptr bw24 0)), (5, (bptr O 0)), (2, (iv ux)), (3, (iv uy))] rfl; clear c
   refine a_5 (s1 d (c_6 rfl d.e (evc _ _) (by omega) (by omega)) fun Bk f => ?_); clear d Bj
   refine s1 f (a_0 rfl f.e) fun Cm BL => ?_; clear f Bk
   refine d_0 ?_
   have BN := C.gkp (gpc 1 (gpc 2 (gpc 3 (gpc 4 (gpc 5 (gpc 6 (gpc 7 (gpc 8 gpn)))))))); clear C
   exact b_0 ⟨k + 1, ⟨BL.as _ rfl, BN, by omega, (fun i hi => by rcases Nat.lt_succ_iff_lt_or_eq.1 hi with h | h; exact hn i h; subst h; simp only [*, Bool.not_true, Bool.not_false, Bool.false_and, Bool.true_and])⟩, by omega⟩
  skip
  rw [AM] at D
  refine s5 D (c_2 rfl j_9 (D.ev rfl) (C.bk 0 rfl) (l := [(iv ((ps.getD k q0).x)), (iv ((ps.getD k q0).y)), (iv ((ps.getD k q0).w)), (iv ((ps.getD k q0).l))]) rfl rfl) fun Bl g => ?_; clear D A5
  refine s5 g (a_0 rfl g.e) fun Bm j => ?_; clear g Bl
  refine s5 j (a_0 rfl j.e) fun Bn J => ?_; clear j Bm
  refine s6 J (b_5 rfl en_24 (ev3 J.e J.e J.e) (covers_ok (ps.getD k q0) ux uy hqv (by omega) (by omega) _)) ?_
  rintro Bo _ Ct ⟨rfl, A0⟩ M; have F := C.step A0; clear A0 J C Bn
  refine s1 M (a_6 rfl M.e M.e) fun A6 B => ?_; clear M Bo
  refine n1 ?_
  rcases Bool.eq_false_or_eq_true ((covB (ps.getD k q0) ux uy)) with AN | AN
  ·skip
   rw [AN] at B
   refine c_1 B rfl (b_6 ?_)
   have m := B.as [(12, (iv (k : Int))), (5, (bptr O 0))] rfl; clear B
   refine a_5 (s1 m (a_0 rfl m.e) fun Bp n => ?_); clear m A6
   refine s1 n (a_1 rfl n.e) fun Bq o => ?_; clear n Bp
   refine n1 (g_5 (blk_miss (by decide) (b_9 (b_9 (f_1 (b_0 (b_6 (m2 (s1 o (a_0 rfl o.e) fun Br q => ?_))))))))); clear o Bq
   refine s1 q (f_5 rfl q.e (evc _ _)) fun A7 A => ?_; clear q Br
   refine n1 ?_
   by_cases A4 : (k : Int) = (-1)
   ·skip
    rw [decide_eq_true A4] at A
    refine c_1 A rfl (b_6 ?_)
    have Ar := A.as [] rfl; clear A
    refine a_5 (s1 Ar (a_1 rfl (evc _ _)) fun Bs As => ?_); clear Ar A7
    refine s1 As (a_1 rfl (evc _ _)) fun Bt At => ?_; clear As Bs
    refine s1 At (a_1 rfl (evc _ _)) fun Cn Au => ?_; clear At Bt
    refine n1 (c_3 (b_1 (ng_ret (a_9 Au (.inl rfl) (g_0 Au rfl (.tmp rfl) (.tmp rfl) (.tmp rfl)) ?_))))
    have ht : p_8 ps cs ux uy = -1 := i_0 (fun i hi => hn i (by omega))
    exact ⟨by unfold wanF; rw [ht, if_pos rfl], F.ext⟩
   skip
   rw [decide_eq_false A4] at A
   refine b_3 A rfl (c_0 (b_0 (m2 (s1 A (a_0 rfl A.e) fun Bu r => ?_)))); clear A A7
   refine s1 r (a_2 rfl fd_63_1 r.e) fun Bv s => ?_; clear r Bu
   refine s1 s (a_3 rfl l_8 s.e (F.bk 4 rfl) rfl) fun Bw t => ?_; clear s Bv
   refine s1 t (a_0 rfl t.e) fun Bx N => ?_; clear t Bw
   refine s2 N (b_5 rfl en_25 (ev2 N.e N.e) (index_ok uses _ (k : Int) _ (F.sk 8 rfl) (by omega))) ?_
   rintro By _ Cu ⟨rfl, A1⟩ u; have BO := F.step A1; clear A1 N F Bx
   refine s1 u (a_1 rfl u.e) fun Bz z => ?_; clear u By
   refine s1 z (a_1 rfl z.e) fun B0 Av => ?_; clear z Bz
   refine s1 Av (a_1 rfl (evc _ _)) fun Co Aw => ?_; clear Av B0
   refine n1 (c_3 (ng_ret (a_9 Aw (.inl rfl) (g_0 Aw rfl (.tmp rfl) (.tmp rfl) (.tmp rfl)) ?_)))
   have ht : p_8 ps cs ux uy = (k : Int) := k_2 (by omega) hn (by simp only [*, Bool.not_false, Bool.true_and])
   exact ⟨by unfold wanF; rw [ht, if_neg (by omega)], BO.ext⟩
  skip
  rw [AN] at B
  refine b_3 B rfl (c_0 (f_8 (b_0 ?_)))
  have AA := B.as [(39, (iv (k : Int))), (38, (iv (ps.length : Int))), (37, H), (8, (iv (-1))), (11, (bptr bw24 0)), (5, (bptr O 0)), (2, (iv ux)), (3, (iv uy))] rfl; clear B
  refine a_5 (s1 AA (c_6 rfl AA.e (evc _ _) (by omega) (by omega)) fun B1 AC => ?_); clear AA A6
  refine s1 AC (a_0 rfl AC.e) fun Cp BM => ?_; clear AC B1
  refine d_0 ?_
  have BP := F.gkp (gpc 1 (gpc 2 (gpc 3 (gpc 4 (gpc 5 (gpc 6 (gpc 7 (gpc 8 gpn)))))))); clear F
  exact b_0 ⟨k + 1, ⟨BM.as _ rfl, BP, by omega, (fun i hi => by rcases Nat.lt_succ_iff_lt_or_eq.1 hi with h | h; exact hn i h; subst h; simp only [*, Bool.not_true, Bool.not_false, Bool.false_and, Bool.true_and])⟩, by omega⟩
 skip
 rw [decide_eq_false BK] at E
 refine b_3 E rfl (g_5 (b_9 (b_9 (f_1 (b_0 (b_6 (b_6 ?_)))))))
 have AD := E.as [(8, (iv (-1))), (5, (bptr O 0))] rfl; clear E
 refine a_5 (s1 AD (a_0 rfl AD.e) fun B2 AE => ?_); clear AD BQ
 refine s1 AE (f_5 rfl AE.e (evc _ _)) fun B3 AF => ?_; clear AE B2
 refine n1 (c_1 AF rfl (m2 (s1 AF (a_1 rfl (evc _ _)) fun B4 Ax => ?_))); clear AF B3
 refine s1 Ax (a_1 rfl (evc _ _)) fun B5 Ay => ?_; clear Ax B4
 refine s1 Ay (a_1 rfl (evc _ _)) fun Cq Az => ?_; clear Ay B5
 refine n1 (c_3 (b_1 (ng_ret (a_9 Az (.inl rfl) (g_0 Az rfl (.tmp rfl) (.tmp rfl) (.tmp rfl)) ?_))))
 have ht : p_8 ps cs ux uy = -1 := i_0 (fun i hi => hn i (by omega))
 exact ⟨by unfold wanF; rw [ht, if_pos rfl], Q.ext⟩
end Go.Proofs.Ytphkmnaohimdbaa

namespace Go.Proofs.Ytphkmnaohimdbaa
open Go.RowKit Go.Shelf Go.Eng Go.Top
theorem k_1 : fldK Try.prog 28 1 = some 1 := by kernel_rfl
theorem q_7 : tyK Try.prog 26 = some (false, 1) := by kernel_rfl
theorem q_9 : Try.prog.underlying 26 = some (.slice 45) := by kernel_rfl
theorem fd_28_0 : fldK Try.prog 28 0 = some 0 := by kernel_rfl
theorem en_12 : ∀ args w, (callFunc 12 args).run Try.prog w = .ok (.enter 12 args) w := enters_of Try.func12 (by kernel_rfl) rfl
theorem s_2 : tyK Try.prog 45 = some (true, 3) := by kernel_rfl
theorem ze_45 : (Try.prog.info? 45).bind (·.zero) = some (Value.agg #[(iv 0), (iv 0), (iv 0)]) := by kernel_rfl
theorem fd_45_0 : fldK Try.prog 45 0 = some 0 := by kernel_rfl
theorem o_3 : fldK Try.prog 45 1 = some 1 := by kernel_rfl
theorem o_4 : fldK Try.prog 45 2 = some 2 := by kernel_rfl
theorem fd_66_0 : fldK Try.prog 66 0 = some 0 := by kernel_rfl
theorem fd_69_1 : fldK Try.prog 69 1 = some 1 := by kernel_rfl
theorem ty_67 : tyK Try.prog 67 = some (false, 1) := by kernel_rfl
theorem fd_69_0 : fldK Try.prog 69 0 = some 0 := by kernel_rfl
theorem en_37 : ∀ args w, (callFunc 37 args).run Try.prog w = .ok (.enter 37 args) w := enters_of Try.func37 (by kernel_rfl) rfl
theorem en_39 : ∀ args w, (callFunc 39 args).run Try.prog w = .ok (.enter 39 args) w := enters_of Try.func39 (by kernel_rfl) rfl
theorem en_38 : ∀ args w, (callFunc 38 args).run Try.prog w = .ok (.enter 38 args) w := enters_of Try.func38 (by kernel_rfl) rfl
theorem bd_66_0i_1i_2i (x0_0 : Int) (x1_0 : Int) (x2_0 : Int) (w : World) : (Instr.build 66 #[(0, (.int .i64 x0_0)), (1, (.int .i64 x1_0)), (2, (.int .i64 x2_0))]).run Try.prog w = .ok (.agg #[(.int .i64 x0_0), (.int .i64 x1_0), (.int .i64 x2_0)]) w := by kernel_rfl
theorem ze_66 : (Try.prog.info? 66).bind (·.zero) = some (Value.agg #[(iv 0), (iv 0), (iv 0)]) := by kernel_rfl
theorem fd_66_1 : fldK Try.prog 66 1 = some 1 := by kernel_rfl
theorem fd_66_2 : fldK Try.prog 66 2 = some 2 := by kernel_rfl
theorem ze_69 : (Try.prog.info? 69).bind (·.zero) = some (Value.agg #[(iv 0), (Value.slice none 0 0)]) := by kernel_rfl
theorem bd_69_0i (x0_0 : Int) (w : World) : (Instr.build 69 #[(0, (.int .i64 x0_0))]).run Try.prog w = .ok (.agg #[(.int .i64 x0_0), (Value.slice none 0 0)]) w := by kernel_rfl
theorem ty_69 : tyK Try.prog 69 = some (true, 2) := by kernel_rfl
theorem bs_66_1_0iiia (x0_0 : Int) (x0_1 : Int) (x0_2 : Int) : Instr.fill (fun i => some (i * 3, 3)) ((Array.range (1 * 3)).map ((Value.agg #[(iv 0), (iv 0), (iv 0)]).cells[· % (Value.agg #[(iv 0), (iv 0), (iv 0)]).cells.size]!)) [(0, .agg #[(.int .i64 x0_0), (.int .i64 x0_1), (.int .i64 x0_2)])] = some (([(.int .i64 x0_0), (.int .i64 x0_1), (.int .i64 x0_2)] : List Value).toArray) := by kernel_rfl
theorem el_66 : elK Try.prog 66 = some ((Value.agg #[(iv 0), (iv 0), (iv 0)]), 3, 24) := by kernel_rfl
theorem en_26 : ∀ args w, (callFunc 26 args).run Try.prog w = .ok (.enter 26 args) w := enters_of Try.func26 (by kernel_rfl) rfl
theorem en_27 : ∀ args w, (callFunc 27 args).run Try.prog w = .ok (.enter 27 args) w := enters_of Try.func27 (by kernel_rfl) rfl
theorem thin_ok (q : PlD) (vs : Value) (w : World) (hvs : SlAt w vs 3 q.stages.length (recC d_9 q.stages)) :
  Calls Try.prog 5 #[(Value.agg #[(iv q.lot), vs])] w (Ret fun v w' => v = .bool (decide ((q.stages.length : Int) ≤ 5)) ∧ Ext NoB w w') := by
 refine b_2 Try.func5 rfl fun K A => ?_
 replace A : Fr 7 [] [(0, (Value.agg #[(iv q.lot), vs]))] K := A
 have J : Sep NoB w w [(sl vs 3 q.stages.length (recC d_9 q.stages))] := f_7 ⟨rfl, hvs, trivial⟩
 refine m2 (s2 A (e_5 J rfl A.e (cs := [(iv q.lot), vs]) rfl) ?_)
 rintro O _ T ⟨S, rfl, H⟩ I; clear A J K
 refine s1 I (a_1 rfl (evc _ _)) fun P F => ?_; clear I O
 refine n4 (s1 F (a_2 rfl k_1 F.e) fun Q G => ?_); clear F P
 refine s1 G (a_3 rfl q_7 G.e (H.bk 0 rfl) rfl) fun L B => ?_; clear G Q
 refine s1 B (d_7 rfl q_9 B.e (H.sk 1 rfl)) fun M C => ?_; clear B L
 refine s1 C (j_3 rfl C.e (evc _ _)) fun N D => ?_; clear C M
 refine s1 D (a_1 rfl D.e) fun R E => ?_; clear D N
 exact n1 (c_3 (a_9 E (.inl rfl) (a_4 E rfl (.tmp rfl)) (⟨rfl, H.ext⟩)))
set_option maxHeartbeats 4000000 in
theorem fault9_ok (q : PlD) (vs : Value) (w : World) (hvs : SlAt w vs 3 q.stages.length (recC d_9 q.stages)) :
  Calls Try.prog 6 #[(Value.agg #[(iv q.lot), vs])] w (Ret fun v w' => ∃ n : Int, v = .int .i64 n ∧ (n = 0 → PlV q) ∧ Ext NoB w w') := by
 refine b_2 Try.func6 rfl fun a0 BS => ?_
 replace BS : Fr 107 [] [(0, (Value.agg #[(iv q.lot), vs]))] a0 := BS
 have Dp : Sep NoB w w [(sl vs 3 q.stages.length (recC d_9 q.stages))] := f_7 ⟨rfl, hvs, trivial⟩
 refine m2 (s2 BS (e_5 Dp rfl BS.e (cs := [(iv q.lot), vs]) rfl) ?_)
 rintro a1 _ w3 ⟨D, rfl, T⟩ Do; clear BS Dp a0
 refine s1 Do (a_1 rfl (evc _ _)) fun a6 DR => ?_; clear Do a1
 refine n2 (m2 (s1 DR (a_2 rfl k_1 DR.e) fun a8 DU => ?_)); clear DR a6
 refine s1 DU (a_3 rfl q_7 DU.e (T.bk 0 rfl) rfl) fun Fn BT => ?_; clear DU a8
 refine s1 BT (d_7 rfl q_9 BT.e (T.sk 1 rfl)) fun Fo BU => ?_; clear BT Fn
 refine s1 BU (h_4 rfl BU.e (evc _ _)) fun Dj Q => ?_; clear BU Fo
 refine n1 ?_
 by_cases DX : 3 < (q.stages.length : Int)
 ·skip
  rw [decide_eq_true DX] at Q
  refine c_1 Q rfl (b_6 ?_)
  have DJ := Q.as [] rfl; clear Q
  refine a_5 (s1 DJ (a_1 rfl (evc _ _)) fun Gb DK => ?_); clear DJ Dj
  exact n1 (c_3 (b_1 (a_9 DK (.inl rfl) (a_4 DK rfl (.tmp rfl)) (⟨3, rfl, fun h => absurd h (by decide), T.ext⟩))))
 skip
 rw [decide_eq_false DX] at Q
 refine b_3 Q rfl (c_0 (b_0 (b_6 (b_6 ?_))))
 have BV := Q.as [(1, (bptr D 0))] rfl; clear Q
 refine a_5 (s1 BV (a_2 rfl fd_28_0 BV.e) fun Fp BW => ?_); clear BV Dj
 refine s1 BW (a_3 rfl ty_3 BW.e (T.bk 0 rfl) rfl) fun Fq BX => ?_; clear BW Fp
 refine s2 BX (b_5 rfl en_12 (ev3 BX.e (evc _ _) (evc _ _)) (in9_ok _ _ _ _)) ?_
 rintro Fs _ W_ ⟨rfl, hW_⟩ BY; have hW2_ := hW_.symm; subst hW2_; clear hW_ BX Fq
 refine s1 BY (e_4 rfl BY.e) fun Ft BZ => ?_; clear BY Fs
 refine s1 BZ (a_0 rfl BZ.e) fun Dk U => ?_; clear BZ Ft
 rcases Bool.eq_false_or_eq_true ((inB q.lot 1 30)) with BQ | BQ
 ·skip
  rw [BQ] at U
  have hlb := g_3.1 BQ
  refine s5 U (a_2 rfl k_1 U.e) fun Fu Ba => ?_; clear U Dk
  refine s5 Ba (a_3 rfl q_7 Ba.e (T.bk 0 rfl) rfl) fun Fv Bb => ?_; clear Ba Fu
  refine s5 Bb (d_7 rfl q_9 Bb.e (T.sk 1 rfl)) fun Fw Bc => ?_; clear Bb Fv
  refine s5 Bc (f_5 rfl Bc.e (evc _ _)) fun Fx BF => ?_; clear Bc Fw
  refine s1 BF (a_8 rfl BF.e BF.e) fun Dl R => ?_; clear BF Fx
  refine n1 ?_
  by_cases DY : (q.stages.length : Int) = 0
  ·skip
   rw [decide_eq_true DY] at R
   refine c_1 R rfl (b_6 ?_)
   have DL := R.as [] rfl; clear R
   refine a_5 (s1 DL (a_1 rfl (evc _ _)) fun Gc DM => ?_); clear DL Dl
   exact n1 (c_3 (b_1 (a_9 DM (.inl rfl) (a_4 DM rfl (.tmp rfl)) (⟨1, rfl, fun h => absurd h (by decide), T.ext⟩))))
  skip
  rw [decide_eq_false DY] at R
  refine b_3 R rfl (c_0 (b_0 (b_6 ?_)))
  have DN := R.as [(1, (bptr D 0))] rfl; clear R
  refine a_5 (s1 DN (a_1 rfl (evc _ _)) fun Fy DO => ?_); clear DN Dl
  refine n2 (m2 (s1 DO (a_1 rfl (evc _ _)) fun Fz DP => ?_)); clear DO Fy
  refine n1 (c_9 ?_)
  have DQ := DP.as [(4, (iv 0)), (3, (iv 0)), (1, (bptr D 0))] rfl; clear DP
  refine g_6 (G := Nat) (fun (k : Nat) a_ w_ => Fr 107 [] [(4, (iv (k : Int))), (3, (iv (tknU q.stages k))), (1, (bptr D 0))] a_ ∧ Sep NoB w w_ [(blk D 28 [(iv q.lot), vs]), (sl vs 3 q.stages.length (recC d_9 q.stages))] ∧ (k ≤ q.stages.length) ∧ (0 ≤ tknU q.stages k ∧ tknU q.stages k ≤ 30) ∧ (∀ i, i < k → StV q i)) (fun k => q.stages.length - k) 0 ⟨DQ.as _ rfl, T, Nat.zero_le _, ⟨Int.le_refl _, by show (0 : Int) ≤ 30; decide⟩, (fun _ h => absurd h (Nat.not_lt_zero _))⟩ ?_
  clear DQ T Fz
  rintro k F0 Gd ⟨Bd, S, hk, htb, hW⟩
  refine b_6 (m2 (s1 Bd (a_0 rfl Bd.e) fun F1 Be => ?_)); clear Bd F0
  refine s1 Be (a_2 rfl k_1 Be.e) fun F2 Bf => ?_; clear Be F1
  refine s1 Bf (a_3 rfl q_7 Bf.e (S.bk 0 rfl) rfl) fun F3 Bg => ?_; clear Bf F2
  refine s1 Bg (d_7 rfl q_9 Bg.e (S.sk 1 rfl)) fun F4 BM => ?_; clear Bg F3
  refine s1 BM (e_2 rfl BM.e BM.e) fun Dm P => ?_; clear BM F4
  refine n1 ?_
  by_cases DZ : (k : Int) < (q.stages.length : Int)
  ·skip
   rw [decide_eq_true DZ] at P
   refine c_1 P rfl (c_0 (b_0 (b_6 (c_9 (m2 (s1 P (a_2 rfl k_1 P.e) fun F5 Bh => ?_)))))); clear P Dm
   refine s1 Bh (a_3 rfl q_7 Bh.e (S.bk 0 rfl) rfl) fun F6 Bi => ?_; clear Bh F5
   refine s1 Bi (a_0 rfl Bi.e) fun F7 BN => ?_; clear Bi F6
   refine s1 BN (b_8 rfl q_9 s_2 BN.e (i := k) BN.e (S.sk 1 rfl) (by decide) (by omega)) fun F8 Bj => ?_; clear BN F7
   refine s1 Bj (e_1 rfl s_2 Bj.e (S.sk 1 rfl) (stage_all (by omega)) rfl (by decide)) fun F9 DS => ?_; clear Bj F8
   refine s2 DS (e_6 S rfl ze_45 (cs := [(iv 0), (iv 0), (iv 0)]) rfl) ?_
   rintro GA _ Ge ⟨E, rfl, DV⟩ BO; clear DS S F9
   refine s7 BO (d_8 DV rfl s_2 BO.e BO.e (i := 0) rfl (vs := [(iv ((q.stages.getD k s0).take)), (iv ((q.stages.getD k s0).acc)), (iv ((q.stages.getD k s0).rej))]) rfl rfl rfl (Nat.le_of_ble_eq_true rfl)) ?_
   intro _ GF DW DT; clear BO
   have A : Sep NoB w GF [(blk E 45 [(iv ((q.stages.getD k s0).take)), (iv ((q.stages.getD k s0).acc)), (iv ((q.stages.getD k s0).rej))]), (blk D 28 [(iv q.lot), vs]), (sl vs 3 q.stages.length (recC d_9 q.stages))] := DW; clear DW DV
   refine n2 (b_6 ?_)
   have Bk := DT.as [(5, (bptr E 0)), (4, (iv (k : Int))), (3, (iv (tknU q.stages k))), (1, (bptr D 0))] rfl; clear DT
   refine a_5 (s1 Bk (a_2 rfl fd_45_0 Bk.e) fun GB Bl => ?_); clear Bk GA
   refine s1 Bl (a_3 rfl ty_3 Bl.e (A.bk 0 rfl) rfl) fun GC Bm => ?_; clear Bl GB
   refine s2 Bm (b_5 rfl en_12 (ev3 Bm.e (evc _ _) (evc _ _)) (in9_ok _ _ _ _)) ?_
   rintro GD _ W_ ⟨rfl, hW_⟩ Bn; have hW2_ := hW_.symm; subst hW2_; clear hW_ Bm GC
   refine s1 Bn (e_4 rfl Bn.e) fun GE Bo => ?_; clear Bn GD
   refine s1 Bo (a_0 rfl Bo.e) fun Dn V => ?_; clear Bo GE
   rcases Bool.eq_false_or_eq_true ((inB ((q.stages.getD k s0).take) 1 30)) with BR | BR
   ·skip
    rw [BR] at V
    have hin100 := g_3.1 BR
    refine s5 V (a_0 rfl V.e) fun Dq AD => ?_; clear V Dn
    refine s5 AD (a_2 rfl fd_45_0 AD.e) fun Dr AE => ?_; clear AD Dq
    refine s5 AE (a_3 rfl ty_3 AE.e (A.bk 0 rfl) rfl) fun Ds Z => ?_; clear AE Dr
    refine s5 Z (c_6 rfl Z.e Z.e (by omega) (by omega)) fun Dt AF => ?_; clear Z Ds
    refine s5 AF (a_2 rfl fd_28_0 AF.e) fun Du AG => ?_; clear AF Dt
    refine s5 AG (a_3 rfl ty_3 AG.e (A.bk 1 rfl) rfl) fun Dv b => ?_; clear AG Du
    refine s5 b (h_4 rfl b.e b.e) fun Dw c => ?_; clear b Dv
    refine s1 c (a_8 rfl c.e c.e) fun C9 F => ?_; clear c Dw
    refine n1 ?_
    by_cases C0 : q.lot < ((tknU q.stages k) + ((q.stages.getD k s0).take))
    ·skip
     rw [decide_eq_true C0] at F
     refine c_1 F rfl (b_6 ?_)
     have Bp := F.as [] rfl; clear F
     refine a_5 (s1 Bp (a_1 rfl (evc _ _)) fun GH Bq => ?_); clear Bp C9
     exact n1 (c_3 (b_1 (d_2 (b_1 (b_1 (d_2 (b_1 (a_9 Bq (.inl rfl) (a_4 Bq rfl (.tmp rfl)) (⟨1, rfl, fun h => absurd h (by decide), A.ext⟩)))))))))
    skip
    rw [decide_eq_false C0] at F
    refine b_3 F rfl (c_0 (b_0 (b_6 ?_)))
    have AH := F.as [(5, (bptr E 0)), (4, (iv (k : Int))), (3, (iv (tknU q.stages k))), (1, (bptr D 0))] rfl; clear F
    refine a_5 (s1 AH (a_0 rfl AH.e) fun Dx AI => ?_); clear AH C9
    refine s1 AI (a_2 rfl fd_45_0 AI.e) fun Dy AJ => ?_; clear AI Dx
    refine s1 AJ (a_3 rfl ty_3 AJ.e (A.bk 0 rfl) rfl) fun Dz d => ?_; clear AJ Dy
    refine s1 d (c_6 rfl d.e d.e (by omega) (by omega)) fun D0 AK => ?_; clear d Dz
    refine s1 AK (a_1 rfl AK.e) fun D1 AL => ?_; clear AK D0
    refine n2 (m2 (s1 AL (a_2 rfl o_3 AL.e) fun D2 AM => ?_)); clear AL D1
    refine s1 AM (a_3 rfl ty_3 AM.e (A.bk 0 rfl) rfl) fun D3 AN => ?_; clear AM D2
    refine s2 AN (b_5 rfl en_12 (ev3 AN.e (evc _ _) (evc _ _)) (in9_ok _ _ _ _)) ?_
    rintro D4 _ W_ ⟨rfl, hW_⟩ AO; have hW2_ := hW_.symm; subst hW2_; clear hW_ AN D3
    refine s1 AO (e_4 rfl AO.e) fun D5 AP => ?_; clear AO D4
    refine s1 AP (a_0 rfl AP.e) fun DA L => ?_; clear AP D5
    rcases Bool.eq_false_or_eq_true ((inB ((q.stages.getD k s0).acc) (-1) 30)) with AC | AC
    ·skip
     rw [AC] at L
     have hin144 := g_3.1 AC
     refine s5 L (a_2 rfl o_4 L.e) fun D6 AQ => ?_; clear L DA
     refine s5 AQ (a_3 rfl ty_3 AQ.e (A.bk 0 rfl) rfl) fun D7 AR => ?_; clear AQ D6
     refine s5 AR (a_2 rfl o_3 AR.e) fun D8 AS => ?_; clear AR D7
     refine s5 AS (a_3 rfl ty_3 AS.e (A.bk 0 rfl) rfl) fun D9 f => ?_; clear AS D8
     refine s5 f (j_3 rfl f.e f.e) fun EA g => ?_; clear f D9
     refine s1 g (a_8 rfl g.e g.e) fun EB AT => ?_; clear g EA
     refine s1 AT (a_0 rfl AT.e) fun DB M => ?_; clear AT EB
     by_cases C1 : ((q.stages.getD k s0).rej) ≤ ((q.stages.getD k s0).acc)
     ·skip
      rw [decide_eq_true C1] at M
      refine s3 M fun EC Br => ?_; clear M DB
      refine s3 Br fun ED Bs => ?_; clear Br EC
      refine s3 Bs fun EE Bt => ?_; clear Bs ED
      refine s3 Bt fun EF Bu => ?_; clear Bt EE
      refine s3 Bu fun EG AU => ?_; clear Bu EF
      refine s1 AU (a_6 rfl AU.e (evc _ _)) fun EH AV => ?_; clear AU EG
      refine n1 (c_1 AV rfl (b_6 ?_))
      have Bv := AV.as [] rfl; clear AV
      refine a_5 (s1 Bv (a_1 rfl (evc _ _)) fun GI Bw => ?_); clear Bv EH
      exact n1 (c_3 (b_1 (d_2 (b_1 (b_1 (d_2 (b_1 (a_9 Bw (.inl rfl) (a_4 Bw rfl (.tmp rfl)) (⟨1, rfl, fun h => absurd h (by decide), A.ext⟩)))))))))
     skip
     rw [decide_eq_false C1] at M
     refine s5 M (a_2 rfl o_4 M.e) fun EI AW => ?_; clear M DB
     refine s5 AW (a_3 rfl ty_3 AW.e (A.bk 0 rfl) rfl) fun EJ AX => ?_; clear AW EI
     refine s5 AX (a_0 rfl AX.e) fun EK AY => ?_; clear AX EJ
     refine s5 AY (c_6 rfl AY.e (evc _ _) (by omega) (by omega)) fun EL j => ?_; clear AY EK
     refine s5 j (h_4 rfl j.e j.e) fun EM l => ?_; clear j EL
     refine s1 l (a_8 rfl l.e l.e) fun EN H => ?_; clear l EM
     refine n1 ?_
     by_cases C2 : (((tknU q.stages k) + ((q.stages.getD k s0).take)) + 1) < ((q.stages.getD k s0).rej)
     ·skip
      rw [decide_eq_true C2] at H
      refine c_1 H rfl (b_6 ?_)
      have Bx := H.as [] rfl; clear H
      refine a_5 (s1 Bx (a_1 rfl (evc _ _)) fun GJ By => ?_); clear Bx EN
      exact n1 (c_3 (b_1 (d_2 (b_1 (b_1 (d_2 (b_1 (a_9 By (.inl rfl) (a_4 By rfl (.tmp rfl)) (⟨1, rfl, fun h => absurd h (by decide), A.ext⟩)))))))))
     skip
     rw [decide_eq_false C2] at H
     refine b_3 H rfl (c_0 (b_0 (b_6 (b_6 ?_))))
     have Bz := H.as [(3, (iv ((tknU q.stages k) + ((q.stages.getD k s0).take)))), (5, (bptr E 0)), (4, (iv (k : Int))), (1, (bptr D 0))] rfl; clear H
     have m := Bz.as [(3, (iv ((tknU q.stages k) + ((q.stages.getD k s0).take)))), (5, (bptr E 0)), (4, (iv (k : Int))), (1, (bptr D 0))] rfl; clear Bz
     by_cases BP : 0 < (k : Int)
     ·skip
      have o := m.as [(3, (iv ((tknU q.stages k) + ((q.stages.getD k s0).take)))), (5, (bptr E 0)), (4, (iv (k : Int))), (1, (bptr D 0))] rfl; clear m
      by_cases C3 : ((q.stages.getD k s0).acc) < ((q.stages.getD (((k : Int) - 1).toNat) s0).acc)
      ·skip
       have B0 := o.as [(3, (iv ((tknU q.stages k) + ((q.stages.getD k s0).take)))), (5, (bptr E 0)), (4, (iv (k : Int))), (1, (bptr D 0))] rfl; clear o
       refine h_7 mixed B0 A 23 [[], [0], [1], [2], [2, 3], [2], [2, 5], [2], [2, 7], [2, 6, 8], [2, 9], [2, 10], [2, 4, 11], [2, 12], [13], [13, 14], [13], [13, 16], [13], [13, 18], [13, 17, 19], [13, 20], [13, 21]] [(Yd.val (iv (k : Int))), (Yd.val (Value.bool true)), (Yd.val (Value.bool true)), (Yd.val (bptr E 1)), (Yd.val (iv ((q.stages.getD k s0).acc))), (Yd.val (bptr D 1)), (Yd.val vs), (Yd.val (iv (k : Int))), (Yd.val (iv ((k : Int) - 1))), (Yd.val (eptr vs (((k : Int) - 1).toNat * 3))), (Yd.val (eptr vs (((k : Int) - 1).toNat * 3 + 1))), (Yd.val (iv ((q.stages.getD (((k : Int) - 1).toNat) s0).acc))), (Yd.val (Value.bool true)), (Yd.val (Value.bool true)), (Yd.val undef), (Yd.val undef), (Yd.val undef), (Yd.val undef), (Yd.val undef), (Yd.val undef), (Yd.val undef), (Yd.val undef), (Yd.val undef)] (by decide +kernel) rfl rfl ?_ ?_
       ·skip
        refine dq (fun a w hA hS hd => a_0 rfl hA.e) ?_
        refine ⟨fun a w hA hS hd => by have e0 := hx hd 0; exact e_7 rfl (dv (h_4 rfl (e_0 e0) (evc _ _)) hS (by show Value.bool _ = _; simp only [decide_eq_true BP, decide_true, decide_false, Bool.not_true, Bool.not_false])), ?_⟩
        refine dq (fun a w hA hS hd => a_0 rfl (hq hd 1)) ?_
        refine dy 2 (fun a w hA hS hd => a_2 rfl o_3 hA.e) ?_
        refine dy 2 (fun a w hA hS hd => a_3 rfl ty_3 (hq hd 3) (hS.bk 0 rfl) rfl) ?_
        refine dy 2 (fun a w hA hS hd => a_2 rfl k_1 hA.e) ?_
        refine dy 2 (fun a w hA hS hd => a_3 rfl q_7 (hq hd 5) (hS.bk 1 rfl) rfl) ?_
        refine dy 2 (fun a w hA hS hd => a_0 rfl hA.e) ?_
        refine dy 2 (fun a w hA hS hd => f_9 rfl (hq hd 7) (evc _ _) (by omega) (by omega)) ?_
        refine dy 2 (fun a w hA hS hd => b_8 rfl q_9 s_2 (hq hd 6) (i := ((k : Int) - 1).toNat) ((hq hd 8).trans (i_8 (by omega))) (hS.sk 2 rfl) (by decide) (by omega)) ?_
        refine dy 2 (fun a w hA hS hd => l_5 rfl o_3 (hq hd 9) (hS.sk 2 rfl) (by rw [((hS.sk 2 rfl)).1]; first | omega | (simp only [List.length_set]; omega))) ?_
        refine dy 2 (fun a w hA hS hd => d_3 rfl ty_3 (hq hd 10) (hS.sk 2 rfl) (stage_at1 (by omega))) ?_
        refine ⟨fun a w hA hS hd => by have e2 := hx hd 2; have e4 := hx hd 4; have DI := hx hd 11; exact k_3 rfl rfl e2 (dv (e_2 rfl (e_0 e4) (e_0 DI)) hS (by show Value.bool _ = _; simp only [decide_eq_true C3, decide_true, decide_false, Bool.not_true, Bool.not_false])), ?_⟩
        refine dy 2 (fun a w hA hS hd => a_0 rfl (hq hd 12)) ?_
        refine dn 13 (dn 13 (dn 13 (dn 13 (dn 13 (dn 13 (dn 13 (dn 13 (dn 13 ?_))))))))
        trivial
       intro EO GY B1 De W; clear B0 A
       have B2 := B1.add (hz W 2); clear B1
       have B3 := B2.add (hz W 13); clear B2
       have B4 := B3.add (hz W 15); clear B3
       have B5 := B4.add (hz W 22); clear B4
       clear W
       refine s3 B5 fun EP AZ => ?_; clear B5 EO
       refine s5 AZ (a_6 rfl AZ.e (evc _ _)) fun EQ p => ?_; clear AZ EP
       refine s1 p (a_6 rfl p.e p.e) fun ER Aa => ?_; clear p EQ
       refine n1 (c_1 Aa rfl (b_6 ?_))
       have B6 := Aa.as [] rfl; clear Aa
       refine a_5 (s1 B6 (a_1 rfl (evc _ _)) fun GK B7 => ?_); clear B6 ER
       exact n1 (c_3 (b_1 (d_2 (b_1 (b_1 (d_2 (b_1 (a_9 B7 (.inl rfl) (a_4 B7 rfl (.tmp rfl)) (⟨1, rfl, fun h => absurd h (by decide), De.ext⟩)))))))))
      skip
      have B8 := o.as [(3, (iv ((tknU q.stages k) + ((q.stages.getD k s0).take)))), (5, (bptr E 0)), (4, (iv (k : Int))), (1, (bptr D 0))] rfl; clear o
      refine h_7 mixed B8 A 23 [[], [0], [1], [2], [2, 3], [2], [2, 5], [2], [2, 7], [2, 6, 8], [2, 9], [2, 10], [2, 4, 11], [2, 12], [13], [13, 14], [13], [13, 16], [13], [13, 18], [13, 17, 19], [13, 20], [13, 21]] [(Yd.val (iv (k : Int))), (Yd.val (Value.bool true)), (Yd.val (Value.bool true)), (Yd.val (bptr E 1)), (Yd.val (iv ((q.stages.getD k s0).acc))), (Yd.val (bptr D 1)), (Yd.val vs), (Yd.val (iv (k : Int))), (Yd.val (iv ((k : Int) - 1))), (Yd.val (eptr vs (((k : Int) - 1).toNat * 3))), (Yd.val (eptr vs (((k : Int) - 1).toNat * 3 + 1))), (Yd.val (iv ((q.stages.getD (((k : Int) - 1).toNat) s0).acc))), (Yd.val (Value.bool false)), (Yd.val (Value.bool false)), (Yd.val (bptr E 2)), (Yd.val (iv ((q.stages.getD k s0).rej))), (Yd.val (bptr D 1)), (Yd.val vs), (Yd.val (iv (k : Int))), (Yd.val (iv ((k : Int) - 1))), (Yd.val (eptr vs (((k : Int) - 1).toNat * 3))), (Yd.val (eptr vs (((k : Int) - 1).toNat * 3 + 2))), (Yd.val (iv ((q.stages.getD (((k : Int) - 1).toNat) s0).rej)))] (by decide +kernel) rfl rfl ?_ ?_
      ·skip
       refine dq (fun a w hA hS hd => a_0 rfl hA.e) ?_
       refine ⟨fun a w hA hS hd => by have e0 := hx hd 0; exact e_7 rfl (dv (h_4 rfl (e_0 e0) (evc _ _)) hS (by show Value.bool _ = _; simp only [decide_eq_true BP, decide_true, decide_false, Bool.not_true, Bool.not_false])), ?_⟩
       refine dq (fun a w hA hS hd => a_0 rfl (hq hd 1)) ?_
       refine dy 2 (fun a w hA hS hd => a_2 rfl o_3 hA.e) ?_
       refine dy 2 (fun a w hA hS hd => a_3 rfl ty_3 (hq hd 3) (hS.bk 0 rfl) rfl) ?_
       refine dy 2 (fun a w hA hS hd => a_2 rfl k_1 hA.e) ?_
       refine dy 2 (fun a w hA hS hd => a_3 rfl q_7 (hq hd 5) (hS.bk 1 rfl) rfl) ?_
       refine dy 2 (fun a w hA hS hd => a_0 rfl hA.e) ?_
       refine dy 2 (fun a w hA hS hd => f_9 rfl (hq hd 7) (evc _ _) (by omega) (by omega)) ?_
       refine dy 2 (fun a w hA hS hd => b_8 rfl q_9 s_2 (hq hd 6) (i := ((k : Int) - 1).toNat) ((hq hd 8).trans (i_8 (by omega))) (hS.sk 2 rfl) (by decide) (by omega)) ?_
       refine dy 2 (fun a w hA hS hd => l_5 rfl o_3 (hq hd 9) (hS.sk 2 rfl) (by rw [((hS.sk 2 rfl)).1]; first | omega | (simp only [List.length_set]; omega))) ?_
       refine dy 2 (fun a w hA hS hd => d_3 rfl ty_3 (hq hd 10) (hS.sk 2 rfl) (stage_at1 (by omega))) ?_
       refine ⟨fun a w hA hS hd => by have e2 := hx hd 2; have e4 := hx hd 4; have DI := hx hd 11; exact k_3 rfl rfl e2 (dv (e_2 rfl (e_0 e4) (e_0 DI)) hS (by show Value.bool _ = _; simp only [decide_eq_false C3, decide_true, decide_false, Bool.not_true, Bool.not_false])), ?_⟩
       refine dy 2 (fun a w hA hS hd => a_0 rfl (hq hd 12)) ?_
       refine dy 13 (fun a w hA hS hd => a_2 rfl o_4 hA.e) ?_
       refine dy 13 (fun a w hA hS hd => a_3 rfl ty_3 (hq hd 14) (hS.bk 0 rfl) rfl) ?_
       refine dy 13 (fun a w hA hS hd => a_2 rfl k_1 hA.e) ?_
       refine dy 13 (fun a w hA hS hd => a_3 rfl q_7 (hq hd 16) (hS.bk 1 rfl) rfl) ?_
       refine dy 13 (fun a w hA hS hd => a_0 rfl hA.e) ?_
       refine dy 13 (fun a w hA hS hd => f_9 rfl (hq hd 18) (evc _ _) (by omega) (by omega)) ?_
       refine dy 13 (fun a w hA hS hd => b_8 rfl q_9 s_2 (hq hd 17) (i := ((k : Int) - 1).toNat) ((hq hd 19).trans (i_8 (by omega))) (hS.sk 2 rfl) (by decide) (by omega)) ?_
       refine dy 13 (fun a w hA hS hd => l_5 rfl o_4 (hq hd 20) (hS.sk 2 rfl) (by rw [((hS.sk 2 rfl)).1]; first | omega | (simp only [List.length_set]; omega))) ?_
       refine dy 13 (fun a w hA hS hd => d_3 rfl ty_3 (hq hd 21) (hS.sk 2 rfl) (stage_at2 (by omega))) ?_
       trivial
      intro ES GZ B9 B X; clear B8 A
      have CA := B9.add (hz X 2); clear B9
      have CB := CA.add (hz X 13); clear CA
      have CC := CB.add (hz X 15); clear CB
      have r := CC.add (hz X 22); clear CC
      clear X
      refine s5 r (e_2 rfl r.e r.e) fun ET s => ?_; clear r ES
      refine s5 s (a_8 rfl s.e s.e) fun EU t => ?_; clear s ET
      refine s1 t (a_6 rfl t.e t.e) fun DC I => ?_; clear t EU
      refine n1 ?_
      by_cases C4 : ((q.stages.getD k s0).rej) < ((q.stages.getD (((k : Int) - 1).toNat) s0).rej)
      ·skip
       rw [decide_eq_true C4] at I
       refine c_1 I rfl (b_6 ?_)
       have CD := I.as [] rfl; clear I
       refine a_5 (s1 CD (a_1 rfl (evc _ _)) fun GL CE => ?_); clear CD DC
       exact n1 (c_3 (b_1 (d_2 (b_1 (b_1 (d_2 (b_1 (a_9 CE (.inl rfl) (a_4 CE rfl (.tmp rfl)) (⟨1, rfl, fun h => absurd h (by decide), B.ext⟩)))))))))
      skip
      rw [decide_eq_false C4] at I
      refine b_3 I rfl (c_0 (b_0 (b_6 ?_)))
      have Ab := I.as [(3, (iv ((tknU q.stages k) + ((q.stages.getD k s0).take)))), (5, (bptr E 0)), (4, (iv (k : Int))), (1, (bptr D 0))] rfl; clear I
      refine a_5 (s1 Ab (a_0 rfl Ab.e) fun EV Ac => ?_); clear Ab DC
      refine s1 Ac (a_2 rfl k_1 Ac.e) fun EW Ad => ?_; clear Ac EV
      refine s1 Ad (a_3 rfl q_7 Ad.e (B.bk 1 rfl) rfl) fun EX Ae => ?_; clear Ad EW
      refine s1 Ae (d_7 rfl q_9 Ae.e (B.sk 2 rfl)) fun EY Af => ?_; clear Ae EX
      refine s1 Af (f_9 rfl Af.e (evc _ _) (by omega) (by omega)) fun EZ u => ?_; clear Af EY
      refine s1 u (f_5 rfl u.e u.e) fun Ea Ag => ?_; clear u EZ
      refine s1 Ag (a_0 rfl Ag.e) fun DD N => ?_; clear Ag Ea
      by_cases C5 : (k : Int) = ((q.stages.length : Int) - 1)
      ·skip
       rw [decide_eq_true C5] at N
       refine s5 N (a_2 rfl o_4 N.e) fun Eb Ah => ?_; clear N DD
       refine s5 Ah (a_3 rfl ty_3 Ah.e (B.bk 0 rfl) rfl) fun Ec Ai => ?_; clear Ah Eb
       refine s5 Ai (a_2 rfl o_3 Ai.e) fun Ed Aj => ?_; clear Ai Ec
       refine s5 Aj (a_3 rfl ty_3 Aj.e (B.bk 0 rfl) rfl) fun Ee Ak => ?_; clear Aj Ed
       refine s5 Ak (c_6 rfl Ak.e (evc _ _) (by omega) (by omega)) fun Ef x => ?_; clear Ak Ee
       refine s5 x (j_7 rfl x.e x.e) fun Eg y => ?_; clear x Ef
       refine s1 y (a_6 rfl y.e y.e) fun DE J => ?_; clear y Eg
       refine n1 ?_
       by_cases C6 : ((q.stages.getD k s0).rej) = (((q.stages.getD k s0).acc) + 1)
       ·skip
        rw [decide_eq_true C6] at J
        refine b_3 J rfl (c_0 (f_8 (b_0 ?_)))
        have Al := J.as [(3, (iv ((tknU q.stages k) + ((q.stages.getD k s0).take)))), (4, (iv (k : Int))), (1, (bptr D 0))] rfl; clear J
        refine a_5 (s1 Al (a_0 rfl Al.e) fun Eh Am => ?_); clear Al DE
        refine s1 Am (c_6 rfl Am.e (evc _ _) (by omega) (by omega)) fun Ei An => ?_; clear Am Eh
        refine s1 An (a_1 rfl An.e) fun GM Da => ?_; clear An Ei
        refine d_0 ?_
        have Df := B.gkp (gpc 1 (gpc 2 gpn)); clear B
        exact b_0 ⟨k + 1, ⟨Da.as _ rfl, Df, by omega, (by rw [tknU]; omega), (fun i hi => by rcases Nat.lt_succ_iff_lt_or_eq.1 hi with h | h; exact hW i h; subst h; exact st_V (by assumption) (by omega) (by assumption) (by omega) (by omega) (fun h0_ => by omega) (fun h0_ => by omega))⟩, by omega⟩
       skip
       rw [decide_eq_false C6] at J
       refine c_1 J rfl (b_6 ?_)
       have CF := J.as [] rfl; clear J
       refine a_5 (s1 CF (a_1 rfl (evc _ _)) fun GN CG => ?_); clear CF DE
       exact n1 (c_3 (d_2 (b_1 (b_1 (d_2 (b_1 (a_9 CG (.inl rfl) (a_4 CG rfl (.tmp rfl)) (⟨1, rfl, fun h => absurd h (by decide), B.ext⟩))))))))
      skip
      rw [decide_eq_false C5] at N
      refine s3 N fun Ej CH => ?_; clear N DD
      refine s3 CH fun Ek CI => ?_; clear CH Ej
      refine s3 CI fun El CJ => ?_; clear CI Ek
      refine s3 CJ fun Em CK => ?_; clear CJ El
      refine s3 CK fun En CL => ?_; clear CK Em
      refine s3 CL fun Eo Ao => ?_; clear CL En
      refine s1 Ao (a_8 rfl Ao.e (evc _ _)) fun Ep Ap => ?_; clear Ao Eo
      refine n1 (b_3 Ap rfl (c_0 (f_8 (b_0 ?_))))
      have Aq := Ap.as [(3, (iv ((tknU q.stages k) + ((q.stages.getD k s0).take)))), (4, (iv (k : Int))), (1, (bptr D 0))] rfl; clear Ap
      refine a_5 (s1 Aq (a_0 rfl Aq.e) fun Eq Ar => ?_); clear Aq Ep
      refine s1 Ar (c_6 rfl Ar.e (evc _ _) (by omega) (by omega)) fun Er As => ?_; clear Ar Eq
      refine s1 As (a_1 rfl As.e) fun GO Db => ?_; clear As Er
      refine d_0 ?_
      have Dg := B.gkp (gpc 1 (gpc 2 gpn)); clear B
      exact b_0 ⟨k + 1, ⟨Db.as _ rfl, Dg, by omega, (by rw [tknU]; omega), (fun i hi => by rcases Nat.lt_succ_iff_lt_or_eq.1 hi with h | h; exact hW i h; subst h; exact st_V (by assumption) (by omega) (by assumption) (by omega) (by omega) (fun h0_ => by omega) (fun h0_ => by omega))⟩, by omega⟩
     skip
     have CM := m.as [(3, (iv ((tknU q.stages k) + ((q.stages.getD k s0).take)))), (5, (bptr E 0)), (4, (iv (k : Int))), (1, (bptr D 0))] rfl; clear m
     refine h_7 mixed CM A 23 [[], [0], [1], [2], [2, 3], [2], [2, 5], [2], [2, 7], [2, 6, 8], [2, 9], [2, 10], [2, 4, 11], [2, 12], [13], [13, 14], [13], [13, 16], [13], [13, 18], [13, 17, 19], [13, 20], [13, 21]] [(Yd.val (iv (k : Int))), (Yd.val (Value.bool false)), (Yd.val (Value.bool false)), (Yd.val undef), (Yd.val undef), (Yd.val undef), (Yd.val undef), (Yd.val undef), (Yd.val undef), (Yd.val undef), (Yd.val undef), (Yd.val undef), (Yd.val undef), (Yd.val undef), (Yd.val undef), (Yd.val undef), (Yd.val undef), (Yd.val undef), (Yd.val undef), (Yd.val undef), (Yd.val undef), (Yd.val undef), (Yd.val undef)] (by decide +kernel) rfl rfl ?_ ?_
     ·skip
      refine dq (fun a w hA hS hd => a_0 rfl hA.e) ?_
      refine ⟨fun a w hA hS hd => by have e0 := hx hd 0; exact e_7 rfl (dv (h_4 rfl (e_0 e0) (evc _ _)) hS (by show Value.bool _ = _; simp only [decide_eq_false BP, decide_true, decide_false, Bool.not_true, Bool.not_false])), ?_⟩
      refine dq (fun a w hA hS hd => a_0 rfl (hq hd 1)) ?_
      refine dn 2 (dn 2 (dn 2 (dn 2 (dn 2 (dn 2 (dn 2 (dn 2 (dn 2 (dn 2 (dn 2 (du 13 (du 13 ?_))))))))))))
      refine du 13 (du 13 (du 13 (du 13 (du 13 (du 13 (du 13 ?_))))))
      trivial
     intro Es Ga CN C Y; clear CM A
     have CO := CN.add (hz Y 2); clear CN
     have CP := CO.add (hz Y 13); clear CO
     have CQ := CP.add (hz Y 15); clear CP
     have CR := CQ.add (hz Y 22); clear CQ
     clear Y
     refine s4 CR fun Et CS => ?_; clear CR Es
     refine s3 CS fun Eu At => ?_; clear CS Et
     refine s1 At (a_8 rfl At.e (evc _ _)) fun Ev Au => ?_; clear At Eu
     refine n1 (b_3 Au rfl (c_0 (b_0 (b_6 ?_))))
     have Av := Au.as [(3, (iv ((tknU q.stages k) + ((q.stages.getD k s0).take)))), (5, (bptr E 0)), (4, (iv (k : Int))), (1, (bptr D 0))] rfl; clear Au
     refine a_5 (s1 Av (a_0 rfl Av.e) fun Ew Aw => ?_); clear Av Ev
     refine s1 Aw (a_2 rfl k_1 Aw.e) fun Ex Ax => ?_; clear Aw Ew
     refine s1 Ax (a_3 rfl q_7 Ax.e (C.bk 1 rfl) rfl) fun Ey Ay => ?_; clear Ax Ex
     refine s1 Ay (d_7 rfl q_9 Ay.e (C.sk 2 rfl)) fun Ez Az => ?_; clear Ay Ey
     refine s1 Az (f_9 rfl Az.e (evc _ _) (by omega) (by omega)) fun E0 z => ?_; clear Az Ez
     refine s1 z (f_5 rfl z.e z.e) fun E1 A0 => ?_; clear z E0
     refine s1 A0 (a_0 rfl A0.e) fun DF O => ?_; clear A0 E1
     by_cases C7 : (k : Int) = ((q.stages.length : Int) - 1)
     ·skip
      rw [decide_eq_true C7] at O
      refine s5 O (a_2 rfl o_4 O.e) fun E2 A1 => ?_; clear O DF
      refine s5 A1 (a_3 rfl ty_3 A1.e (C.bk 0 rfl) rfl) fun E3 A2 => ?_; clear A1 E2
      refine s5 A2 (a_2 rfl o_3 A2.e) fun E4 A3 => ?_; clear A2 E3
      refine s5 A3 (a_3 rfl ty_3 A3.e (C.bk 0 rfl) rfl) fun E5 A4 => ?_; clear A3 E4
      refine s5 A4 (c_6 rfl A4.e (evc _ _) (by omega) (by omega)) fun E6 AA => ?_; clear A4 E5
      refine s5 AA (j_7 rfl AA.e AA.e) fun E7 AB => ?_; clear AA E6
      refine s1 AB (a_6 rfl AB.e AB.e) fun DG K => ?_; clear AB E7
      refine n1 ?_
      by_cases C8 : ((q.stages.getD k s0).rej) = (((q.stages.getD k s0).acc) + 1)
      ·skip
       rw [decide_eq_true C8] at K
       refine b_3 K rfl (c_0 (f_8 (b_0 ?_)))
       have A5 := K.as [(3, (iv ((tknU q.stages k) + ((q.stages.getD k s0).take)))), (4, (iv (k : Int))), (1, (bptr D 0))] rfl; clear K
       refine a_5 (s1 A5 (a_0 rfl A5.e) fun E8 A6 => ?_); clear A5 DG
       refine s1 A6 (c_6 rfl A6.e (evc _ _) (by omega) (by omega)) fun E9 A7 => ?_; clear A6 E8
       refine s1 A7 (a_1 rfl A7.e) fun GP Dc => ?_; clear A7 E9
       refine d_0 ?_
       have Dh := C.gkp (gpc 1 (gpc 2 gpn)); clear C
       exact b_0 ⟨k + 1, ⟨Dc.as _ rfl, Dh, by omega, (by rw [tknU]; omega), (fun i hi => by rcases Nat.lt_succ_iff_lt_or_eq.1 hi with h | h; exact hW i h; subst h; exact st_V (by assumption) (by omega) (by assumption) (by omega) (by omega) (fun h0_ => by omega) (fun h0_ => by omega))⟩, by omega⟩
      skip
      rw [decide_eq_false C8] at K
      refine c_1 K rfl (b_6 ?_)
      have CT := K.as [] rfl; clear K
      refine a_5 (s1 CT (a_1 rfl (evc _ _)) fun GQ CU => ?_); clear CT DG
      exact n1 (c_3 (d_2 (b_1 (b_1 (d_2 (b_1 (a_9 CU (.inl rfl) (a_4 CU rfl (.tmp rfl)) (⟨1, rfl, fun h => absurd h (by decide), C.ext⟩))))))))
     skip
     rw [decide_eq_false C7] at O
     refine s3 O fun FA CV => ?_; clear O DF
     refine s3 CV fun FB CW => ?_; clear CV FA
     refine s3 CW fun FC CX => ?_; clear CW FB
     refine s3 CX fun FD CY => ?_; clear CX FC
     refine s3 CY fun FE CZ => ?_; clear CY FD
     refine s3 CZ fun FF A8 => ?_; clear CZ FE
     refine s1 A8 (a_8 rfl A8.e (evc _ _)) fun FG A9 => ?_; clear A8 FF
     refine n1 (b_3 A9 rfl (c_0 (f_8 (b_0 ?_))))
     have BA := A9.as [(3, (iv ((tknU q.stages k) + ((q.stages.getD k s0).take)))), (4, (iv (k : Int))), (1, (bptr D 0))] rfl; clear A9
     refine a_5 (s1 BA (a_0 rfl BA.e) fun FH BB => ?_); clear BA FG
     refine s1 BB (c_6 rfl BB.e (evc _ _) (by omega) (by omega)) fun FI BC => ?_; clear BB FH
     refine s1 BC (a_1 rfl BC.e) fun GR Dd => ?_; clear BC FI
     refine d_0 ?_
     have Di := C.gkp (gpc 1 (gpc 2 gpn)); clear C
     exact b_0 ⟨k + 1, ⟨Dd.as _ rfl, Di, by omega, (by rw [tknU]; omega), (fun i hi => by rcases Nat.lt_succ_iff_lt_or_eq.1 hi with h | h; exact hW i h; subst h; exact st_V (by assumption) (by omega) (by assumption) (by omega) (by omega) (fun h0_ => by omega) (fun h0_ => by omega))⟩, by omega⟩
    skip
    rw [AC] at L
    refine s3 L fun FJ Ca => ?_; clear L DA
    refine s3 Ca fun FK Cb => ?_; clear Ca FJ
    refine s3 Cb fun FL Cc => ?_; clear Cb FK
    refine s3 Cc fun FM Cd => ?_; clear Cc FL
    refine s3 Cd fun FN BD => ?_; clear Cd FM
    refine s1 BD (a_6 rfl BD.e (evc _ _)) fun FO BE => ?_; clear BD FN
    refine s1 BE (a_0 rfl BE.e) fun FP Ce => ?_; clear BE FO
    refine s3 Ce fun FQ Cf => ?_; clear Ce FP
    refine s3 Cf fun FSa Cg => ?_; clear Cf FQ
    refine s3 Cg fun FT Ch => ?_; clear Cg FSa
    refine s3 Ch fun FU Ci => ?_; clear Ch FT
    refine s3 Ci fun FV BG => ?_; clear Ci FU
    refine s1 BG (a_6 rfl BG.e (evc _ _)) fun FW BH => ?_; clear BG FV
    refine n1 (c_1 BH rfl (b_6 ?_))
    have Cj := BH.as [] rfl; clear BH
    refine a_5 (s1 Cj (a_1 rfl (evc _ _)) fun GS Ck => ?_); clear Cj FW
    exact n1 (c_3 (b_1 (d_2 (b_1 (b_1 (d_2 (b_1 (a_9 Ck (.inl rfl) (a_4 Ck rfl (.tmp rfl)) (⟨1, rfl, fun h => absurd h (by decide), A.ext⟩)))))))))
   skip
   rw [BR] at V
   refine s3 V fun FX Cl => ?_; clear V Dn
   refine s3 Cl fun FY Cm => ?_; clear Cl FX
   refine s3 Cm fun FZ Cn => ?_; clear Cm FY
   refine s3 Cn fun Fa Co => ?_; clear Cn FZ
   refine s3 Co fun Fb Cp => ?_; clear Co Fa
   refine s3 Cp fun Fc Cq => ?_; clear Cp Fb
   refine s3 Cq fun Fd BI => ?_; clear Cq Fc
   refine s1 BI (a_6 rfl BI.e (evc _ _)) fun Fe BJ => ?_; clear BI Fd
   refine n1 (c_1 BJ rfl (b_6 ?_))
   have Cr := BJ.as [] rfl; clear BJ
   refine a_5 (s1 Cr (a_1 rfl (evc _ _)) fun GT Cs => ?_); clear Cr Fe
   exact n1 (c_3 (b_1 (d_2 (b_1 (b_1 (d_2 (b_1 (a_9 Cs (.inl rfl) (a_4 Cs rfl (.tmp rfl)) (⟨1, rfl, fun h => absurd h (by decide), A.ext⟩)))))))))
  skip
  rw [decide_eq_false DZ] at P
  refine b_3 P rfl (g_5 (b_9 (b_9 (f_1 (b_0 (b_6 ?_))))))
  have Ct := P.as [] rfl; clear P
  refine a_5 (s1 Ct (a_1 rfl (evc _ _)) fun GU Cu => ?_); clear Ct Dm
  exact n1 (c_3 (a_9 Cu (.inl rfl) (a_4 Cu rfl (.tmp rfl)) (⟨0, rfl, fun _ => pl_V (by assumption) (by assumption) (by assumption) hW (by omega), S.ext⟩)))
 skip
 rw [BQ] at U
 refine s3 U fun Ff Cv => ?_; clear U Dk
 refine s3 Cv fun Fg Cw => ?_; clear Cv Ff
 refine s3 Cw fun Fh Cx => ?_; clear Cw Fg
 refine s3 Cx fun Fi BK => ?_; clear Cx Fh
 refine s1 BK (a_6 rfl BK.e (evc _ _)) fun Fj BL => ?_; clear BK Fi
 refine n1 (c_1 BL rfl (b_6 ?_))
 have Cy := BL.as [] rfl; clear BL
 refine a_5 (s1 Cy (a_1 rfl (evc _ _)) fun GV Cz => ?_); clear Cy Fj
 exact n1 (c_3 (b_1 (a_9 Cz (.inl rfl) (a_4 Cz rfl (.tmp rfl)) (⟨1, rfl, fun h => absurd h (by decide), T.ext⟩))))
theorem takes_ok (s : g_1) (h : 1 ≤ s.take) (w : World) :
  Calls Try.prog 39 #[(Value.agg #[(iv s.take), (iv s.acc), (iv s.rej)])] w (Ret fun v w' => v = .bool true ∧ Ext NoB w w') := by
 refine b_2 Try.func39 rfl fun K B => ?_
 replace B : Fr 6 [] [(0, (Value.agg #[(iv s.take), (iv s.acc), (iv s.rej)]))] K := B
 have H : Sep NoB w w [] := Sep.start _ _
 refine m2 (s2 B (e_5 H rfl B.e (cs := [(iv s.take), (iv s.acc), (iv s.rej)]) rfl) ?_)
 rintro N _ S ⟨R, rfl, I⟩ G; clear B H K
 refine s1 G (a_1 rfl (evc _ _)) fun O E => ?_; clear G N
 refine n4 (s1 E (a_2 rfl fd_66_0 E.e) fun P F => ?_); clear E O
 refine s1 F (a_3 rfl ty_3 F.e (I.bk 0 rfl) rfl) fun L C => ?_; clear F P
 refine s1 C (l_9 rfl C.e (evc _ _)) fun M A => ?_; clear C L
 have J : 1 ≤ s.take := (by omega)
 rw [decide_eq_true J] at A
 refine s1 A (a_1 rfl A.e) fun Q D => ?_; clear A M
 exact n1 (c_3 (a_9 D (.inl rfl) (a_4 D rfl (.tmp rfl)) (⟨congrArg Value.bool (by first | rfl | exact decide_eq_true (by omega)), I.ext⟩)))
set_option maxHeartbeats 4000000 in
theorem check9_ok (q : PlD) (vs : Value) (w : World) (hvs : SlAt w vs 3 q.stages.length (recC d_9 q.stages)) (hV : PlV q) :
  Calls Try.prog 26 #[(Value.agg #[(iv q.lot), vs])] w (Ret fun v w' => v = .int .i64 0 ∧ Ext NoB w w') := by
 refine b_2 Try.func26 rfl fun a0 AT => ?_
 replace AT : Fr 79 [] [(0, (Value.agg #[(iv q.lot), vs]))] a0 := AT
 have hfew := hV.few; have hone := hV.one; have hlot := hV.lot
 have BK : Sep NoB w w [(sl vs 3 q.stages.length (recC d_9 q.stages))] := f_7 ⟨rfl, hvs, trivial⟩
 refine m2 (s2 AT (e_5 BK rfl AT.e (cs := [(iv q.lot), vs]) rfl) ?_)
 rintro a1 _ w3 ⟨V, rfl, H⟩ BJ; clear AT BK a0
 refine s1 BJ (a_1 rfl (evc _ _)) fun a6 Az => ?_; clear BJ a1
 refine n2 (c_9 (m2 (s1 Az (a_2 rfl fd_69_1 Az.e) fun a8 A3 => ?_))); clear Az a6
 refine s1 A3 (a_3 rfl ty_67 A3.e (H.bk 0 rfl) rfl) fun B7 AU => ?_; clear A3 a8
 refine s1 AU (d_7 rfl s_4 AU.e (H.sk 1 rfl)) fun B8 AV => ?_; clear AU B7
 refine s1 AV (h_4 rfl AV.e (evc _ _)) fun B9 t => ?_; clear AV B8
 have B2 : ¬ (3 < (q.stages.length : Int)) := (by omega)
 rw [decide_eq_false B2] at t
 refine s1 t (a_1 rfl t.e) fun CA AW => ?_; clear t B9
 refine n1 (b_3 AW rfl (b_6 ?_))
 have AX := AW.as [(1, (bptr V 0))] rfl; clear AW
 refine a_5 (s1 AX (a_2 rfl fd_69_0 AX.e) fun CB AY => ?_); clear AX CA
 refine s1 AY (a_3 rfl ty_3 AY.e (H.bk 0 rfl) rfl) fun CC AZ => ?_; clear AY CB
 refine s2 AZ (b_5 rfl en_37 (ev3 AZ.e (evc _ _) (evc _ _)) (within9_ok _ _ _ _)) ?_
 rintro CD _ W_ ⟨rfl, hW_⟩ AN; have hW2_ := hW_.symm; subst hW2_; clear hW_ AZ CC
 have B3 : (inB q.lot 1 30) = true := (g_3.2 (by omega))
 rw [B3] at AN
 refine s1 AN (e_4 rfl AN.e) fun CE Aa => ?_; clear AN CD
 refine s1 Aa (a_0 rfl Aa.e) fun CF Ab => ?_; clear Aa CE
 refine s5 Ab (a_2 rfl fd_69_1 Ab.e) fun CG Ac => ?_; clear Ab CF
 refine s5 Ac (a_3 rfl ty_67 Ac.e (H.bk 0 rfl) rfl) fun CH Ad => ?_; clear Ac CG
 refine s5 Ad (d_7 rfl s_4 Ad.e (H.sk 1 rfl)) fun CI Ae => ?_; clear Ad CH
 refine s5 Ae (f_5 rfl Ae.e (evc _ _)) fun CJ U => ?_; clear Ae CI
 have B4 : ¬ ((q.stages.length : Int) = 0) := (by omega)
 rw [decide_eq_false B4] at U
 refine s1 U (a_8 rfl U.e U.e) fun CK Af => ?_; clear U CJ
 refine s1 Af (a_0 rfl Af.e) fun CL Ag => ?_; clear Af CK
 refine s5 Ag (a_2 rfl fd_69_1 Ag.e) fun CM Ah => ?_; clear Ag CL
 refine s5 Ah (a_3 rfl ty_67 Ah.e (H.bk 0 rfl) rfl) fun CN Ai => ?_; clear Ah CM
 refine s6 Ai (b_5 rfl en_38 (ev2 Ai.e (evf _ _)) (callsB (all_stage q.stages _ 39 #[] #[] (fun _ => true) _ (H.sk 1 rfl) (by omega) ⟨en_39, fun i hi W hW => takes_ok _ (hV.st i hi).take.1 W⟩) true (all_true _ _ (fun _ _ => rfl)))) ?_
 rintro CO _ Co ⟨rfl, A5⟩ Aj; have A6 := H.step A5; clear A5 Ai H CN
 refine s5 Aj (e_4 rfl Aj.e) fun CP AO => ?_; clear Aj CO
 refine s1 AO (a_8 rfl AO.e AO.e) fun CQ Ak => ?_; clear AO CP
 refine s1 Ak (a_1 rfl Ak.e) fun CR Al => ?_; clear Ak CQ
 refine n1 (b_3 Al rfl (c_0 (f_8 (b_0 (b_6 ?_)))))
 have Aw := Al.as [(1, (bptr V 0))] rfl; clear Al
 refine a_5 (s1 Aw (a_1 rfl (evc _ _)) fun CS Ax => ?_); clear Aw CR
 refine n4 (s1 Ax (e_8 rfl (pv3 (evc _ _) (evc _ _) (evc _ _)) (bd_66_0i_1i_2i _ _ _)) fun CT Ay => ?_); clear Ax CS
 refine s2 Ay (e_6 A6 rfl ze_66 (cs := [(iv 0), (iv 0), (iv 0)]) rfl) ?_
 rintro CU _ Cp ⟨D, rfl, A7⟩ AP; clear Ay A6 CT
 refine s7 AP (d_8 A7 rfl q_2 AP.e AP.e (i := 0) rfl (vs := [(iv 0), (iv (-1)), (iv 0)]) rfl rfl rfl (Nat.le_of_ble_eq_true rfl)) ?_
 intro _ Ce A8 Am; clear AP
 have AS : Sep NoB w Ce [(blk D 66 [(iv 0), (iv (-1)), (iv 0)]), (blk V 69 [(iv q.lot), vs]), (sl vs 3 q.stages.length (recC d_9 q.stages))] := A8; clear A8 A7
 refine n2 (m2 (s1 Am (a_2 rfl fd_69_1 Am.e) fun CV An => ?_)); clear Am CU
 refine s1 An (a_3 rfl ty_67 An.e (AS.bk 1 rfl) rfl) fun CW Ao => ?_; clear An CV
 refine s1 Ao (d_7 rfl s_4 Ao.e (AS.sk 2 rfl)) fun CX A0 => ?_; clear Ao CW
 refine s1 A0 (a_0 rfl (evc _ _)) fun CY A1 => ?_; clear A0 CX
 refine n1 (c_9 ?_)
 have A2 := A1.as [(33, (iv 0)), (32, (iv (q.stages.length : Int))), (31, vs), (4, (bptr D 0)), (3, (iv 0)), (1, (bptr V 0))] rfl; clear A1
 refine g_6 (G := Nat) (fun (k : Nat) a_ w_ => Fr 79 [] [(33, (iv (k : Int))), (32, (iv (q.stages.length : Int))), (31, vs), (4, (bptr D 0)), (3, (iv (tknU q.stages k))), (1, (bptr V 0))] a_ ∧ Sep NoB w w_ [(blk D 66 [(iv ((p_9 q.stages k).take)), (iv ((p_9 q.stages k).acc)), (iv ((p_9 q.stages k).rej))]), (blk V 69 [(iv q.lot), vs]), (sl vs 3 q.stages.length (recC d_9 q.stages))] ∧ (k ≤ q.stages.length)) (fun k => q.stages.length - k) 0 ⟨A2.as _ rfl, AS, Nat.zero_le _⟩ ?_
 clear A2 AS CY
 rintro k CZ Cq ⟨AQ, C, hk⟩
 have hlb9 := last_bd hV hk
 refine m2 (s1 AQ (e_2 rfl AQ.e AQ.e) fun BI B => ?_); clear AQ CZ
 refine n2 ?_
 by_cases BA : (k : Int) < (q.stages.length : Int)
 ·skip
  rw [decide_eq_true BA] at B
  have hst := hV.st k (by omega); have Cl := tkn_step hV (k := k) (by omega); have Cm := hst.acc; have Cd := hst.rej; have Cn := hst.rise; rw [tknU] at Cd
  refine c_1 B rfl (c_0 (b_0 (b_6 (c_9 (m2 (s1 B (b_8 rfl s_4 q_2 B.e (i := k) B.e (C.sk 2 rfl) (by decide) (by omega)) fun Ca Ap => ?_)))))); clear B BI
  refine s1 Ap (e_1 rfl q_2 Ap.e (C.sk 2 rfl) (stage_all (by omega)) rfl (by decide)) fun Cb A4 => ?_; clear Ap Ca
  refine s2 A4 (e_6 C rfl ze_66 (cs := [(iv 0), (iv 0), (iv 0)]) rfl) ?_
  rintro Cc _ Cr ⟨Aq, rfl, A9⟩ AR; clear A4 C Cb
  refine s7 AR (d_8 A9 rfl q_2 AR.e AR.e (i := 0) rfl (vs := [(iv ((q.stages.getD k s0).take)), (iv ((q.stages.getD k s0).acc)), (iv ((q.stages.getD k s0).rej))]) rfl rfl rfl (Nat.le_of_ble_eq_true rfl)) ?_
  intro _ Cf At X; clear AR
  have A : Sep NoB w Cf [(blk Aq 66 [(iv ((q.stages.getD k s0).take)), (iv ((q.stages.getD k s0).acc)), (iv ((q.stages.getD k s0).rej))]), (blk D 66 [(iv ((p_9 q.stages k).take)), (iv ((p_9 q.stages k).acc)), (iv ((p_9 q.stages k).rej))]), (blk V 69 [(iv q.lot), vs]), (sl vs 3 q.stages.length (recC d_9 q.stages))] := At; clear At A9
  refine n2 (m2 (s1 X (a_2 rfl fd_66_0 X.e) fun BL Y => ?_)); clear X Cc
  refine s1 Y (a_3 rfl ty_3 Y.e (A.bk 0 rfl) rfl) fun BM Z => ?_; clear Y BL
  refine s1 Z (a_2 rfl fd_69_0 Z.e) fun BN a => ?_; clear Z BM
  refine s1 a (a_3 rfl ty_3 a.e (A.bk 2 rfl) rfl) fun BO b => ?_; clear a BN
  refine s1 b (a_0 rfl b.e) fun BP I => ?_; clear b BO
  refine s1 I (f_9 rfl I.e I.e (by omega) (by omega)) fun BQ J => ?_; clear I BP
  refine s1 J (h_4 rfl J.e J.e) fun BR K => ?_; clear J BQ
  have BD : ¬ ((q.lot - (tknU q.stages k)) < ((q.stages.getD k s0).take)) := (by omega)
  rw [decide_eq_false BD] at K
  refine n1 (b_3 K rfl (c_0 (b_0 (b_6 ?_))))
  have c := K.as [(6, (bptr Aq 0)), (33, (iv (k : Int))), (32, (iv (q.stages.length : Int))), (31, vs), (4, (bptr D 0)), (3, (iv (tknU q.stages k))), (1, (bptr V 0))] rfl; clear K
  refine a_5 (s1 c (a_0 rfl c.e) fun BS d => ?_); clear c BR
  refine s1 d (a_2 rfl fd_66_0 d.e) fun BT f => ?_; clear d BS
  refine s1 f (a_3 rfl ty_3 f.e (A.bk 0 rfl) rfl) fun BU L => ?_; clear f BT
  refine s1 L (c_6 rfl L.e L.e (by omega) (by omega)) fun BV g => ?_; clear L BU
  refine s1 g (a_1 rfl g.e) fun BW h => ?_; clear g BV
  refine n2 (m2 (s1 h (a_2 rfl fd_66_1 h.e) fun BX j => ?_)); clear h BW
  refine s1 j (a_3 rfl ty_3 j.e (A.bk 0 rfl) rfl) fun BY m => ?_; clear j BX
  refine s1 m (a_2 rfl fd_66_1 m.e) fun BZ n => ?_; clear m BY
  refine s1 n (a_3 rfl ty_3 n.e (A.bk 1 rfl) rfl) fun Ba M => ?_; clear n BZ
  refine s1 M (e_2 rfl M.e M.e) fun Bb N => ?_; clear M Ba
  have BE : ¬ (((q.stages.getD k s0).acc) < ((p_9 q.stages k).acc)) := (by omega)
  rw [decide_eq_false BE] at N
  refine s1 N (a_0 rfl N.e) fun Bc o => ?_; clear N Bb
  refine s5 o (a_2 rfl fd_66_2 o.e) fun Bd p => ?_; clear o Bc
  refine s5 p (a_3 rfl ty_3 p.e (A.bk 0 rfl) rfl) fun Be r => ?_; clear p Bd
  refine s5 r (a_2 rfl fd_66_2 r.e) fun Bf s => ?_; clear r Be
  refine s5 s (a_3 rfl ty_3 s.e (A.bk 1 rfl) rfl) fun Bg O => ?_; clear s Bf
  refine s5 O (e_2 rfl O.e O.e) fun Bh E => ?_; clear O Bg
  have BF : ¬ (((q.stages.getD k s0).rej) < ((p_9 q.stages k).rej)) := (by omega)
  rw [decide_eq_false BF] at E
  refine s1 E (a_8 rfl E.e E.e) fun Bi u => ?_; clear E Bh
  refine s1 u (a_0 rfl u.e) fun Bj x => ?_; clear u Bi
  refine s5 x (a_2 rfl fd_66_2 x.e) fun Bk y => ?_; clear x Bj
  refine s5 y (a_3 rfl ty_3 y.e (A.bk 0 rfl) rfl) fun Bl z => ?_; clear y Bk
  refine s5 z (a_2 rfl fd_66_1 z.e) fun Bm AA => ?_; clear z Bl
  refine s5 AA (a_3 rfl ty_3 AA.e (A.bk 0 rfl) rfl) fun Bn AB => ?_; clear AA Bm
  refine s5 AB (c_6 rfl AB.e (evc _ _) (by omega) (by omega)) fun Bo AC => ?_; clear AB Bn
  refine s5 AC (a_0 rfl AC.e) fun Bp AD => ?_; clear AC Bo
  refine s5 AD (c_6 rfl AD.e (evc _ _) (by omega) (by omega)) fun Bq F => ?_; clear AD Bp
  refine s6 F (b_5 rfl en_37 (ev3 F.e F.e F.e) (within9_ok _ _ _ _)) ?_
  rintro Br _ W_ ⟨rfl, hW_⟩ P; have hW2_ := hW_.symm; subst hW2_; clear hW_ F Bq
  have BG : (inB ((q.stages.getD k s0).rej) (((q.stages.getD k s0).acc) + 1) (((tknU q.stages k) + ((q.stages.getD k s0).take)) + 1)) = true := (g_3.2 (by omega))
  rw [BG] at P
  refine s5 P (e_4 rfl P.e) fun Bs Q => ?_; clear P Br
  refine s1 Q (a_8 rfl Q.e Q.e) fun Bt AE => ?_; clear Q Bs
  refine n1 (b_3 AE rfl (c_0 (b_0 ?_)))
  have AF := AE.as [(3, (iv ((tknU q.stages k) + ((q.stages.getD k s0).take)))), (6, (bptr Aq 0)), (33, (iv (k : Int))), (32, (iv (q.stages.length : Int))), (31, vs), (4, (bptr D 0)), (1, (bptr V 0))] rfl; clear AE
  refine a_5 (s1 AF (c_2 rfl q_2 (AF.ev rfl) (A.bk 0 rfl) (l := [(iv ((q.stages.getD k s0).take)), (iv ((q.stages.getD k s0).acc)), (iv ((q.stages.getD k s0).rej))]) rfl rfl) fun Bu R => ?_); clear AF Bt
  refine s7 R (d_8 A rfl q_2 R.e R.e (i := 1) rfl (vs := [(iv ((q.stages.getD k s0).take)), (iv ((q.stages.getD k s0).acc)), (iv ((q.stages.getD k s0).rej))]) rfl rfl rfl (Nat.le_of_ble_eq_true rfl)) ?_
  intro _ B5 Au AG; clear R
  have Av : Sep NoB w B5 [(blk Aq 66 [(iv ((q.stages.getD k s0).take)), (iv ((q.stages.getD k s0).acc)), (iv ((q.stages.getD k s0).rej))]), (blk D 66 [(iv ((q.stages.getD k s0).take)), (iv ((q.stages.getD k s0).acc)), (iv ((q.stages.getD k s0).rej))]), (blk V 69 [(iv q.lot), vs]), (sl vs 3 q.stages.length (recC d_9 q.stages))] := Au; clear Au A
  refine d_0 (f_8 (b_0 (a_5 (s1 AG (c_6 rfl AG.e (evc _ _) (by omega) (by omega)) fun Bv AH => ?_)))); clear AG Bu
  refine s1 AH (a_0 rfl AH.e) fun Ch BB => ?_; clear AH Bv
  refine d_0 ?_
  have BC := Av.gkp (gpc 1 (gpc 2 (gpc 3 gpn))); clear Av
  exact b_0 ⟨k + 1, ⟨BB.as _ rfl, BC, by omega⟩, by omega⟩
 skip
 rw [decide_eq_false BA] at B
 have hlv := last_V hV (k := k) (by omega)
 refine b_3 B rfl (g_5 (b_9 (b_9 (f_1 (b_0 (b_6 (b_6 ?_)))))))
 have AI := B.as [(4, (bptr D 0))] rfl; clear B
 refine a_5 (s1 AI (a_2 rfl fd_66_2 AI.e) fun Bw AJ => ?_); clear AI BI
 refine s1 AJ (a_3 rfl ty_3 AJ.e (C.bk 0 rfl) rfl) fun Bx AK => ?_; clear AJ Bw
 refine s1 AK (a_2 rfl fd_66_1 AK.e) fun By AL => ?_; clear AK Bx
 refine s1 AL (a_3 rfl ty_3 AL.e (C.bk 0 rfl) rfl) fun Bz AM => ?_; clear AL By
 refine s1 AM (c_6 rfl AM.e (evc _ _) (by omega) (by omega)) fun B0 S => ?_; clear AM Bz
 refine s1 S (j_7 rfl S.e S.e) fun B1 T => ?_; clear S B0
 have BH : ((p_9 q.stages k).rej) = (((p_9 q.stages k).acc) + 1) := (by omega)
 rw [decide_eq_true BH] at T
 refine n1 (b_3 T rfl (c_0 (b_0 (b_6 ?_))))
 have Ar := T.as [] rfl; clear T
 refine a_5 (s1 Ar (a_1 rfl (evc _ _)) fun Ci As => ?_); clear Ar B1
 exact n1 (c_3 (a_9 As (.inl rfl) (a_4 As rfl (.tmp rfl)) (⟨rfl, C.ext⟩)))
theorem says_ok (s : g_1) (n : Int) (w : World) :
  Calls Try.prog 27 #[(Value.agg #[(iv s.take), (iv s.acc), (iv s.rej)]), (iv n)] w (Ret fun v w' => v = .int .u8 (i_2 s n) ∧ Ext NoB w w') := by
 refine b_2 Try.func27 rfl fun a E => ?_
 replace E : Fr 15 [] [(0, (Value.agg #[(iv s.take), (iv s.acc), (iv s.rej)])), (1, (iv n))] a := E
 have Z : Sep NoB w w [] := Sep.start _ _
 refine m2 (s2 E (e_5 Z rfl E.e (cs := [(iv s.take), (iv s.acc), (iv s.rej)]) rfl) ?_)
 rintro j _ r ⟨m, rfl, F⟩ Y; clear E Z a
 refine s1 Y (a_1 rfl (evc _ _)) fun k S => ?_; clear Y j
 refine n2 (c_9 (m2 (s1 S (a_0 rfl S.e) fun l T => ?_))); clear S k
 refine s1 T (a_2 rfl fd_66_1 T.e) fun b G => ?_; clear T l
 refine s1 G (a_3 rfl ty_3 G.e (F.bk 0 rfl) rfl) fun c C => ?_; clear G b
 refine s1 C (j_3 rfl C.e C.e) fun d H => ?_; clear C c
 refine s1 H (a_1 rfl H.e) fun W A => ?_; clear H d
 refine n1 ?_
 by_cases U : n ≤ s.acc
 ·skip
  rw [decide_eq_true U] at A
  refine c_1 A rfl (b_6 ?_)
  have M := A.as [] rfl; clear A
  refine a_5 (s1 M (a_1 rfl (evc _ _)) fun o N => ?_); clear M W
  refine n1 (c_3 (d_2 (b_1 (a_9 N (.inl rfl) (a_4 N rfl (.tmp rfl)) ?_))))
  exact ⟨ret_int (by unfold i_2; simp [*]), F.ext⟩
 skip
 rw [decide_eq_false U] at A
 refine b_3 A rfl (b_6 ?_)
 have I := A.as [(2, (bptr m 0)), (1, (iv n))] rfl; clear A
 refine a_5 (s1 I (a_0 rfl I.e) fun f J => ?_); clear I W
 refine s1 J (a_2 rfl fd_66_2 J.e) fun g K => ?_; clear J f
 refine s1 K (a_3 rfl ty_3 K.e (F.bk 0 rfl) rfl) fun h D => ?_; clear K g
 refine s1 D (l_9 rfl D.e D.e) fun i L => ?_; clear D h
 refine s1 L (a_1 rfl L.e) fun X B => ?_; clear L i
 refine n1 ?_
 by_cases V : s.rej ≤ n
 ·skip
  rw [decide_eq_true V] at B
  refine c_1 B rfl (b_6 ?_)
  have O := B.as [] rfl; clear B
  refine a_5 (s1 O (a_1 rfl (evc _ _)) fun p P => ?_); clear O X
  refine n1 (c_3 (d_2 (b_1 (a_9 P (.inl rfl) (a_4 P rfl (.tmp rfl)) ?_))))
  exact ⟨ret_int (by unfold i_2; simp [*]), F.ext⟩
 skip
 rw [decide_eq_false V] at B
 refine b_3 B rfl (c_0 (f_8 (b_0 (b_6 ?_))))
 have Q := B.as [] rfl; clear B
 refine a_5 (s1 Q (a_1 rfl (evc _ _)) fun q R => ?_); clear Q X
 refine n1 (c_3 (a_9 R (.inl rfl) (a_4 R rfl (.tmp rfl)) ?_))
 exact ⟨ret_int (by unfold i_2; simp [*]), F.ext⟩
set_option maxHeartbeats 4000000 in
theorem plan9_ok (q : PlD) (vs : Value) (w : World) (hvs : SlAt w vs 3 q.stages.length (recC d_9 q.stages)) (hls : q.stages.length ≤ 1000000) :
  Calls Try.prog 21 #[(Value.agg #[(iv q.lot), vs])] w (Ret fun v w' => ∃ u, v = .agg #[.int .i64 q.lot, u] ∧ Sep NoB w w' [row u 66 3 q.stages.length (recC d_9 q.stages)]) := by
 refine b_2 Try.func21 rfl fun a0 U => ?_
 replace U : Fr 34 [] [(0, (Value.agg #[(iv q.lot), vs]))] a0 := U
 have Aa : Sep NoB w w [(sl vs 3 q.stages.length (recC d_9 q.stages))] := f_7 ⟨rfl, hvs, trivial⟩
 refine m2 (s2 U (e_5 Aa rfl U.e (cs := [(iv q.lot), vs]) rfl) ?_)
 rintro a1 _ w3 ⟨I, rfl, Ab⟩ AZ; clear U Aa a0
 refine s2 AZ (e_6 Ab rfl ze_69 (cs := [(iv 0), (Value.slice none 0 0)]) rfl) ?_
 rintro a6 _ w8 ⟨H, rfl, x⟩ AK; clear AZ Ab a1
 refine n4 (s1 AK (a_2 rfl fd_28_0 AK.e) fun Ag V => ?_); clear AK a6
 refine s1 V (a_3 rfl ty_3 V.e (x.bk 1 rfl) rfl) fun Ah W => ?_; clear V Ag
 refine s1 W (e_8 rfl (pv1 W.e) (bd_69_0i _)) fun Ai AE => ?_; clear W Ah
 refine s2 AE (e_6 x rfl ze_69 (cs := [(iv 0), (Value.slice none 0 0)]) rfl) ?_
 rintro Aj _ BG ⟨C, rfl, AM⟩ N; clear AE x Ai
 refine s7 N (d_8 AM rfl ty_69 N.e N.e (i := 0) rfl (vs := [(iv q.lot), (Value.slice none 0 0)]) rfl rfl (j_8 rfl (j_8 rfl p_2)) (Nat.le_of_ble_eq_true rfl)) ?_
 intro _ A9 AN AF; clear N
 have AO : Sep NoB w A9 [(blk C 69 [(iv q.lot), (Value.slice none 0 0)]), (blk H 69 [(iv 0), (Value.slice none 0 0)]), (blk I 28 [(iv q.lot), vs]), (sl vs 3 q.stages.length (recC d_9 q.stages))] := AN; clear AN AM
 refine n2 (m2 (s1 AF (a_1 rfl (evc _ _)) fun Ak AG => ?_)); clear AF Aj
 refine n1 (c_9 ?_)
 have AP := AO.i_4 66 3; clear AO
 have AH := AG.as [(4, (iv 0)), (3, (bptr C 0)), (2, (bptr H 0)), (1, (bptr I 0))] rfl; clear AG
 refine g_6 (G := Nat) (fun (k : Nat) a_ w_ => ∃ vn66_ : Value, Fr 34 [] [(4, (iv (k : Int))), (3, (bptr C 0)), (2, (bptr H 0)), (1, (bptr I 0))] a_ ∧ Sep NoB w w_ [(row vn66_ 66 3 ((q.stages.take k).length) (recC d_9 (q.stages.take k))), (blk C 69 [(iv q.lot), vn66_]), (blk H 69 [(iv 0), (Value.slice none 0 0)]), (blk I 28 [(iv q.lot), vs]), (sl vs 3 q.stages.length (recC d_9 q.stages))] ∧ (k ≤ q.stages.length)) (fun k => q.stages.length - k) 0 ⟨(Value.slice none 0 0), AH.as _ rfl, (AP.c_5 (i := 0) rfl (by rfl) (by rfl)), (Nat.zero_le _)⟩ ?_
 clear AH AP Ak
 rintro k Al BH ⟨vn66_, X, A, hkk⟩
 have hul_k : (q.stages.take k).length = k := by rw [List.length_take]; omega
 refine b_6 (m2 (s1 X (a_0 rfl X.e) fun Am Y => ?_)); clear X Al
 refine s1 Y (a_2 rfl k_1 Y.e) fun An Z => ?_; clear Y Am
 refine s1 Z (a_3 rfl q_7 Z.e (A.bk 3 rfl) rfl) fun Ao a => ?_; clear Z An
 refine s1 a (d_7 rfl q_9 a.e (A.sk 4 rfl)) fun Ap O => ?_; clear a Ao
 refine s1 O (e_2 rfl O.e O.e) fun AY B => ?_; clear O Ap
 refine n1 ?_
 by_cases AV : (k : Int) < (q.stages.length : Int)
 ·skip
  rw [decide_eq_true AV] at B
  refine c_1 B rfl (c_0 (b_0 (b_6 (c_9 (m2 (s1 B (a_2 rfl k_1 B.e) fun Aq b => ?_)))))); clear B AY
  refine s1 b (a_3 rfl q_7 b.e (A.bk 3 rfl) rfl) fun Ar c => ?_; clear b Aq
  refine s1 c (a_0 rfl c.e) fun As P => ?_; clear c Ar
  refine s1 P (b_8 rfl q_9 s_2 P.e (i := k) P.e (A.sk 4 rfl) (by decide) (by omega)) fun At d => ?_; clear P As
  refine s1 d (e_1 rfl s_2 d.e (A.sk 4 rfl) (stage_all (by omega)) rfl (by decide)) fun Au AI => ?_; clear d At
  refine s2 AI (e_6 A rfl ze_45 (cs := [(iv 0), (iv 0), (iv 0)]) rfl) ?_
  rintro Av _ BI ⟨AD, rfl, AQ⟩ Q; clear AI A Au
  refine s7 Q (d_8 AQ rfl s_2 Q.e Q.e (i := 0) rfl (vs := [(iv ((q.stages.getD k s0).take)), (iv ((q.stages.getD k s0).acc)), (iv ((q.stages.getD k s0).rej))]) rfl rfl rfl (Nat.le_of_ble_eq_true rfl)) ?_
  intro _ BA AR AJ; clear Q
  have D : Sep NoB w BA [(blk AD 45 [(iv ((q.stages.getD k s0).take)), (iv ((q.stages.getD k s0).acc)), (iv ((q.stages.getD k s0).rej))]), (row vn66_ 66 3 ((q.stages.take k).length) (recC d_9 (q.stages.take k))), (blk C 69 [(iv q.lot), vn66_]), (blk H 69 [(iv 0), (Value.slice none 0 0)]), (blk I 28 [(iv q.lot), vs]), (sl vs 3 q.stages.length (recC d_9 q.stages))] := AR; clear AR AQ
  refine n1 ?_
  have f := AJ.as [(5, (bptr AD 0)), (4, (iv (k : Int))), (3, (bptr C 0)), (2, (bptr H 0)), (1, (bptr I 0))] rfl; clear AJ
  refine a_5 (s1 f (a_2 rfl fd_69_1 f.e) fun Aw g => ?_); clear f Av
  refine s1 g (a_3 rfl ty_67 g.e (D.bk 2 rfl) rfl) fun Ax h => ?_; clear g Aw
  refine s1 h (a_2 rfl fd_45_0 h.e) fun Ay j => ?_; clear h Ax
  refine s1 j (a_3 rfl ty_3 j.e (D.bk 0 rfl) rfl) fun Az m => ?_; clear j Ay
  refine s1 m (a_2 rfl o_3 m.e) fun A0 o => ?_; clear m Az
  refine s1 o (a_3 rfl ty_3 o.e (D.bk 0 rfl) rfl) fun A1 p => ?_; clear o A0
  refine s1 p (a_2 rfl o_4 p.e) fun A2 r => ?_; clear p A1
  refine s1 r (a_3 rfl ty_3 r.e (D.bk 0 rfl) rfl) fun A3 F => ?_; clear r A2
  refine s1 F (e_8 rfl (pv3 F.e F.e F.e) (bd_66_0i_1i_2i _ _ _)) fun A4 s => ?_; clear F A3
  refine s2 s (c_7 D rfl (pv1 s.e) s_4 q_2 ze_66 (by decide) (cs := [(iv ((q.stages.getD k s0).take)), (iv ((q.stages.getD k s0).acc)), (iv ((q.stages.getD k s0).rej))]) (bs_66_1_0iiia _ _ _)) ?_
  rintro A5 _ BJ ⟨A8, rfl, y⟩ R; clear s D A4
  refine s2 R (e_9 y rfl s_4 el_66 R.e R.e (i := 2) rfl (SlAt.h_3 (n := 1) (y.bk 0 rfl) rfl (Nat.le_of_ble_eq_true rfl)) rfl (by simp only [maxLen]; omega) (by omega)) ?_
  intro A6 AC BK AS t
  have T := AS.c_5 (i := 2) rfl (n' := ((q.stages.take k) ++ [(q.stages.getD k s0)]).length) (xs' := (recC d_9 ((q.stages.take k) ++ [(q.stages.getD k s0)]))) (g_4 (q.stages.take k) (q.stages.getD k s0)) (g_9 d_9 (q.stages.take k) (q.stages.getD k s0)); clear AS R y A5
  refine s1 t (a_2 rfl fd_69_1 t.e) fun A7 S => ?_; clear t A6
  refine s7 S (d_8 T rfl ty_67 S.e S.e (i := 3) rfl (vs := [AC]) (i_3 (SlAt.isSl (SlAt.b_4 (T.b_7 2 rfl)))) rfl (j_8 (SlAt.one (SlAt.b_4 (T.b_7 2 rfl))) p_2) (Nat.le_of_ble_eq_true rfl)) ?_
  intro _ BB AT AL; clear S
  have AU : Sep NoB w BB [(blk A8 66 [(iv ((q.stages.getD k s0).take)), (iv ((q.stages.getD k s0).acc)), (iv ((q.stages.getD k s0).rej))]), (blk AD 45 [(iv ((q.stages.getD k s0).take)), (iv ((q.stages.getD k s0).acc)), (iv ((q.stages.getD k s0).rej))]), (row AC 66 3 (((q.stages.take k) ++ [(q.stages.getD k s0)]).length) (recC d_9 ((q.stages.take k) ++ [(q.stages.getD k s0)]))), (blk C 69 [(iv q.lot), AC]), (blk H 69 [(iv 0), (Value.slice none 0 0)]), (blk I 28 [(iv q.lot), vs]), (sl vs 3 q.stages.length (recC d_9 q.stages))] := AT; clear AT T
  refine d_0 (f_8 (b_0 ?_))
  have J := AL.as [(4, (iv (k : Int))), (3, (bptr C 0)), (2, (bptr H 0)), (1, (bptr I 0))] rfl; clear AL
  refine a_5 (s1 J (a_0 rfl J.e) fun Ac K => ?_); clear J A7
  refine s1 K (c_6 rfl K.e (evc _ _) (by omega) (by omega)) fun Ad L => ?_; clear K Ac
  refine s1 L (a_1 rfl L.e) fun BD AW => ?_; clear L Ad
  refine d_0 ?_
  have AX := AU.gkp (gpc 2 (gpc 3 (gpc 4 (gpc 5 (gpc 6 gpn))))); clear AU
  exact b_0 ⟨k + 1, ⟨AC, AW.as _ rfl, (AX.c_5 (i := 0) rfl (by rw [take_one q.stages _ (by omega)]) (by rw [take_one q.stages _ (by omega)])), by omega⟩, by omega⟩
 skip
 rw [decide_eq_false AV] at B
 refine b_3 B rfl (g_5 (b_9 (b_9 (f_1 (b_0 (b_6 ?_))))))
 have M := B.as [(3, (bptr C 0)), (2, (bptr H 0))] rfl; clear B
 refine a_5 (s1 M (c_2 rfl ty_69 (M.ev rfl) (A.bk 1 rfl) (l := [(iv q.lot), vn66_]) rfl rfl) fun BE E => ?_); clear M AY
 refine s7 E (d_8 A rfl ty_69 E.e E.e (i := 2) rfl (vs := [(iv q.lot), vn66_]) rfl rfl (j_8 rfl (j_8 (SlAt.one (SlAt.b_4 (A.b_7 0 rfl))) p_2)) (Nat.le_of_ble_eq_true rfl)) ?_
 intro _ Ae AA z; clear E
 have AB : Sep NoB w Ae [(row vn66_ 66 3 ((q.stages.take k).length) (recC d_9 (q.stages.take k))), (blk C 69 [(iv q.lot), vn66_]), (blk H 69 [(iv q.lot), vn66_]), (blk I 28 [(iv q.lot), vs]), (sl vs 3 q.stages.length (recC d_9 q.stages))] := AA; clear AA A
 refine n1 (c_3 (a_9 z (.inl rfl) (a_4 z rfl (.cellA rfl ty_69 (AB.bk 2 rfl) (l := [(iv q.lot), vn66_]) rfl rfl)) ?_))
 have hz := AB.c_5 (i := 0) rfl (n' := q.stages.length) (xs' := recC d_9 q.stages) (by rw [take_all (by omega)]) (by rw [take_all (by omega)])
 exact ⟨_, rfl, hz.keep [0] (by decide) _ rfl rfl⟩
set_option maxHeartbeats 4000000 in
theorem play_ok (q : PlD) (vs : Value) (w : World) (hvs : SlAt w vs 3 q.stages.length (recC d_9 q.stages)) (r : List Bool) (vr : Value) (hvr : SlAt w vr 1 r.length (d_1 r)) (hlr : r.length ≤ 1000000) (hV : PlV q) :
  Calls Try.prog 14 #[(Value.agg #[(iv q.lot), vs]), vr] w (Ret fun v w' => v = .tuple #[.int .u8 (p_0 q.stages r), .int .i64 (r_2 q.stages r), .int .i64 (q_5 q.stages r)] ∧ Ext NoB w w') := by
 refine b_2 Try.func14 rfl fun a0 AI => ?_
 replace AI : Fr 71 [] [(0, (Value.agg #[(iv q.lot), vs])), (1, vr)] a0 := AI
 have hfew := hV.few; have hone := hV.one; have hlot := hV.lot
 have BP : Sep NoB w w [(sl vs 3 q.stages.length (recC d_9 q.stages)), (sl vr 1 r.length (d_1 r))] := f_7 ⟨rfl, hvs, rfl, hvr, trivial⟩
 refine m2 (s2 AI (e_5 BP rfl AI.e (cs := [(iv q.lot), vs]) rfl) ?_)
 rintro a1 _ w3 ⟨b4, rfl, As⟩ BM; clear AI BP a0
 refine s1 BM (a_1 rfl (evc _ _)) fun a6 BN => ?_; clear BM a1
 refine s1 BN (a_1 rfl (evc _ _)) fun a8 BO => ?_; clear BN a6
 refine s1 BO (a_1 rfl (evc _ _)) fun By AJ => ?_; clear BO a8
 refine n1 (c_scope (b_6 (m2 (s1 AJ (c_2 rfl ty_69 (AJ.ev rfl) (As.bk 0 rfl) (l := [(iv q.lot), vs]) rfl rfl) fun Bz AK => ?_)))); clear AJ By
 refine s2 AK (b_5 rfl en_26 (ev1 AK.e) (check9_ok q vs _ (As.sk 1 rfl) hV)) ?_
 rintro B0 _ Cg ⟨rfl, BC⟩ AL; have AG := As.step BC; clear BC AK As Bz
 refine s1 AL (a_1 rfl AL.e) fun B1 AM => ?_; clear AL B0
 refine n4 (s1 AM (a_0 rfl AM.e) fun B2 AN => ?_); clear AM B1
 refine s1 AN (j_7 rfl AN.e (evc _ _)) fun B3 AO => ?_; clear AN B2
 refine n1 (b_3 AO rfl (c_0 (b_0 (b_6 ?_))))
 have A0 := AO.as [(4, (Value.int .u8 0)), (2, (bptr b4 0)), (1, vr)] rfl; clear AO
 refine a_5 (s1 A0 (a_1 rfl (evc _ _)) fun B4 A1 => ?_); clear A0 B3
 refine s1 A1 (a_1 rfl (evc _ _)) fun B5 AP => ?_; clear A1 B4
 refine n2 (c_label (b_0 (b_6 (m2 (s1 AP (a_2 rfl fd_69_1 AP.e) fun B6 AQ => ?_))))); clear AP B5
 refine s1 AQ (a_3 rfl ty_67 AQ.e (AG.bk 0 rfl) rfl) fun B7 AR => ?_; clear AQ B6
 refine s1 AR (d_7 rfl s_4 AR.e (AG.sk 1 rfl)) fun B8 A2 => ?_; clear AR B7
 refine s1 A2 (a_0 rfl (evc _ _)) fun B9 A3 => ?_; clear A2 B8
 refine n1 (c_9 ?_)
 have A4 := A3.as [(22, (iv 0)), (21, (iv (q.stages.length : Int))), (20, vs), (9, (iv 0)), (8, (iv 0)), (4, (Value.int .u8 0)), (1, vr)] rfl; clear A3
 refine g_6 (G := Nat) (fun (k : Nat) a_ w_ => ∃ cq : Int, ∃ vq : Int, Fr 71 [] [(22, (iv (k : Int))), (21, (iv (q.stages.length : Int))), (20, vs), (9, (iv cq)), (8, (iv (tknU q.stages k))), (4, (Value.int .u8 vq)), (1, vr)] a_ ∧ Sep NoB w w_ [(blk b4 69 [(iv q.lot), vs]), (sl vs 3 q.stages.length (recC d_9 q.stages)), (sl vr 1 r.length (d_1 r))] ∧ (k ≤ q.stages.length) ∧ (cq = ((cntT r (tknU q.stages k).toNat : Nat) : Int) ∧ 0 ≤ cq ∧ cq ≤ 30) ∧ (decF q.stages r = decU q.stages r (q.stages.length - k) k) ∧ (r_2 q.stages r = nU q.stages r (q.stages.length - k) k) ∧ (∀ i, i < k → i_2 (q.stages.getD i s0) (cntT r (tknU q.stages (i + 1)).toNat) = 3)) (fun k => q.stages.length - k) 0 ⟨0, 0, A4.as _ rfl, AG, Nat.zero_le _, ⟨rfl, Int.le_refl _, by decide⟩, rfl, rfl, (fun _ h => absurd h (Nat.not_lt_zero _))⟩ ?_
 clear A4 AG B9
 rintro k CA Ch ⟨cq, vq, AB, AH, hk, hcq, hdf, hnf, hsy⟩
 refine m2 (s1 AB (e_2 rfl AB.e AB.e) fun CB M => ?_); clear AB CA
 have Bw : (k : Int) < (q.stages.length : Int) := (play_go hV hk hsy)
 rw [decide_eq_true Bw] at M
 refine n2 (c_1 M rfl (c_0 (b_0 (b_6 (c_9 (m2 (s1 M (b_8 rfl s_4 q_2 M.e (i := k) M.e (AH.sk 1 rfl) (by decide) (by omega)) fun CC AS => ?_))))))); clear M CB
 refine s1 AS (e_1 rfl q_2 AS.e (AH.sk 1 rfl) (stage_all (by omega)) rfl (by decide)) fun CD A5 => ?_; clear AS CC
 refine s2 A5 (e_6 AH rfl ze_66 (cs := [(iv 0), (iv 0), (iv 0)]) rfl) ?_
 rintro CE _ Ci ⟨I, rfl, BD⟩ AC; clear A5 AH CD
 refine s7 AC (d_8 BD rfl q_2 AC.e AC.e (i := 0) rfl (vs := [(iv ((q.stages.getD k s0).take)), (iv ((q.stages.getD k s0).acc)), (iv ((q.stages.getD k s0).rej))]) rfl rfl rfl (Nat.le_of_ble_eq_true rfl)) ?_
 intro _ CU BE AT; clear AC
 have F : Sep NoB w CU [(blk I 66 [(iv ((q.stages.getD k s0).take)), (iv ((q.stages.getD k s0).acc)), (iv ((q.stages.getD k s0).rej))]), (blk b4 69 [(iv q.lot), vs]), (sl vs 3 q.stages.length (recC d_9 q.stages)), (sl vr 1 r.length (d_1 r))] := BE; clear BE BD
 refine n2 (b_6 ?_)
 have hts := tkn_step hV (k := k) (by have := play_go hV hk hsy; omega)
 refine a_5 (s1 AT (a_0 rfl AT.e) fun CF AU => ?_); clear AT CE
 refine s1 AU (d_7 rfl h_2 AU.e (F.sk 3 rfl)) fun CG AV => ?_; clear AU CF
 refine s1 AV (a_0 rfl AV.e) fun CH AW => ?_; clear AV CG
 refine s1 AW (a_2 rfl fd_66_0 AW.e) fun CI AX => ?_; clear AW CH
 refine s1 AX (a_3 rfl ty_3 AX.e (F.bk 0 rfl) rfl) fun CJ AD => ?_; clear AX CI
 refine s1 AD (c_6 rfl AD.e AD.e (by omega) (by omega)) fun CK AE => ?_; clear AD CJ
 refine s1 AE (e_2 rfl AE.e AE.e) fun CL H => ?_; clear AE CK
 refine n1 ?_
 by_cases BF : (r.length : Int) < ((tknU q.stages k) + ((q.stages.getD k s0).take))
 ·skip
  rw [decide_eq_true BF] at H
  refine c_1 H rfl (b_6 ?_)
  have A6 := H.as [(11, (bptr I 0)), (8, (iv (tknU q.stages k))), (1, vr)] rfl; clear H
  have A7 := A6.as [(11, (bptr I 0)), (8, (iv (tknU q.stages k))), (1, vr)] rfl; clear A6
  refine h_7 mixed A7 F 8 [[], [], [1], [0, 2], [], [4], [3, 5], []] [(Yd.val (iv (tknU q.stages k))), (Yd.val (bptr I 0)), (Yd.val (iv ((q.stages.getD k s0).take))), (Yd.val (iv ((tknU q.stages k) + ((q.stages.getD k s0).take)))), (Yd.val vr), (Yd.val (iv (r.length : Int))), (Yd.val (iv (((tknU q.stages k) + ((q.stages.getD k s0).take)) - (r.length : Int)))), (Yd.val (Value.int .u8 3))] (by decide +kernel) rfl rfl ?_ ?_
  ·skip
   refine dq (fun a w hA hS hd => a_0 rfl hA.e) ?_
   refine dq (fun a w hA hS hd => a_2 rfl fd_66_0 hA.e) ?_
   refine dq (fun a w hA hS hd => a_3 rfl ty_3 (hq hd 1) (hS.bk 0 rfl) rfl) ?_
   refine dq (fun a w hA hS hd => c_6 rfl (hq hd 0) (hq hd 2) (by omega) (by omega)) ?_
   refine dq (fun a w hA hS hd => a_0 rfl hA.e) ?_
   refine dq (fun a w hA hS hd => d_7 rfl h_2 (hq hd 4) (hS.sk 3 rfl)) ?_
   refine dq (fun a w hA hS hd => f_9 rfl (hq hd 3) (hq hd 5) (by omega) (by omega)) ?_
   refine dq (fun a w hA hS hd => a_1 rfl (evc _ _)) ?_
   trivial
  intro CM Cj A8 Bv Ae; clear A7 F
  have A9 := A8.add (hz Ae 6); clear A8
  have AY := A9.add (hz Ae 7); clear A9
  clear Ae
  refine s1 AY (a_1 rfl AY.e) fun CN BA => ?_; clear AY CM
  refine s1 BA (a_1 rfl (evc _ _)) fun Cf BB => ?_; clear BA CN
  refine n1 (c_3 (b_1 (d_2 (b_1 (b_1 (d_2 (b_1 (ng_ret (a_9 BB (.inl rfl) (g_0 BB rfl (.tmp rfl) (.tmp rfl) (.tmp rfl)) ?_)))))))))
  have hz := play_none (dec_open hdf (show (r.length : Int) < tknU q.stages (k + 1) by rw [tknU]; omega))
  have hzn := n_open2 (by have := play_go hV hk hsy; omega) hnf (by omega)
  exact ⟨by rw [hz.1, hz.2, hzn], Bv.ext⟩
 skip
 rw [decide_eq_false BF] at H
 refine b_3 H rfl (c_0 (b_0 (b_6 (b_6 ?_))))
 have AZ := H.as [(11, (bptr I 0)), (22, (iv (k : Int))), (21, (iv (q.stages.length : Int))), (20, vs), (9, (iv cq)), (8, (iv (tknU q.stages k))), (1, vr)] rfl; clear H
 refine a_5 (s1 AZ (a_0 rfl AZ.e) fun CO Aa => ?_); clear AZ CL
 refine s1 Aa (a_0 rfl Aa.e) fun CP Ab => ?_; clear Aa CO
 refine s1 Ab (a_0 rfl Ab.e) fun CQ Ac => ?_; clear Ab CP
 refine s1 Ac (a_2 rfl fd_66_0 Ac.e) fun CR Ad => ?_; clear Ac CQ
 refine s1 Ad (a_3 rfl ty_3 Ad.e (F.bk 0 rfl) rfl) fun CS AF => ?_; clear Ad CR
 refine s1 AF (c_6 rfl AF.e AF.e (by omega) (by omega)) fun CT J => ?_; clear AF CS
 refine s1 J (op_sliceLH rfl h_2 ty_4 J.e (l := (tknU q.stages k).toNat) (J.e.trans (i_8 (by omega))) (h := ((tknU q.stages k) + ((q.stages.getD k s0).take)).toNat) (J.e.trans (congrArg (Value.int .i64) (show ((tknU q.stages k) + ((q.stages.getD k s0).take) : Int) = ((((tknU q.stages k) + ((q.stages.getD k s0).take)).toNat : Nat) : Int) by omega))) (F.sk 3 rfl) (by omega) (by omega)) fun BQ R => ?_; clear J CT
 refine s1 R (d_7 rfl h_2 R.e (SlAt.say (n' := ((((tknU q.stages k) + ((q.stages.getD k s0).take)).toNat) - ((tknU q.stages k).toNat))) (cs' := (((d_1 r).drop (((tknU q.stages k).toNat) * 1)).take (((((tknU q.stages k) + ((q.stages.getD k s0).take)).toNat) - ((tknU q.stages k).toNat)) * 1))) (SlAt.cut (F.sk 3 rfl) (by omega) (by omega)) rfl rfl)) fun BR Af => ?_; clear R BQ
 refine s1 Af (a_0 rfl (evc _ _)) fun BS Ag => ?_; clear Af BR
 refine n1 (c_9 ?_)
 have Ah := Ag.as [(48, (iv 0)), (47, (iv ((((((tknU q.stages k) + ((q.stages.getD k s0).take)).toNat) - ((tknU q.stages k).toNat)) : Nat) : Int))), (46, (slcut vr ((tknU q.stages k).toNat) (((tknU q.stages k) + ((q.stages.getD k s0).take)).toNat) 1)), (11, (bptr I 0)), (22, (iv (k : Int))), (21, (iv (q.stages.length : Int))), (20, vs), (9, (iv cq)), (8, (iv (tknU q.stages k))), (1, vr)] rfl; clear Ag
 refine g_6 (G := Nat) (fun (j : Nat) a_ w_ => ∃ cc : Int, Fr 71 [] [(48, (iv (j : Int))), (47, (iv ((((((tknU q.stages k) + ((q.stages.getD k s0).take)).toNat) - ((tknU q.stages k).toNat)) : Nat) : Int))), (46, (slcut vr ((tknU q.stages k).toNat) (((tknU q.stages k) + ((q.stages.getD k s0).take)).toNat) 1)), (11, (bptr I 0)), (22, (iv (k : Int))), (21, (iv (q.stages.length : Int))), (20, vs), (9, (iv cc)), (8, (iv (tknU q.stages k))), (1, vr)] a_ ∧ Sep NoB w w_ [(blk I 66 [(iv ((q.stages.getD k s0).take)), (iv ((q.stages.getD k s0).acc)), (iv ((q.stages.getD k s0).rej))]), (blk b4 69 [(iv q.lot), vs]), (sl vs 3 q.stages.length (recC d_9 q.stages)), (sl vr 1 r.length (d_1 r))] ∧ (j ≤ (tknU q.stages k + (q.stages.getD k s0).take).toNat - (tknU q.stages k).toNat) ∧ (cc = ((cntT r ((tknU q.stages k).toNat + j) : Nat) : Int) ∧ 0 ≤ cc ∧ cc ≤ cq + j)) (fun j => ((tknU q.stages k + (q.stages.getD k s0).take).toNat - (tknU q.stages k).toNat) - j) 0 ⟨cq, Ah.as _ rfl, F, Nat.zero_le _, ⟨by rw [Nat.add_zero]; exact hcq.1, hcq.2.1, by omega⟩⟩ ?_
 clear Ah F BS
 rintro j BT Cd ⟨cc, N, E, hj, hcj⟩
 refine m2 (s1 N (e_2 rfl N.e N.e) fun Aw A => ?_); clear N BT
 refine n2 ?_
 by_cases At : (j : Int) < ((((((tknU q.stages k) + ((q.stages.getD k s0).take)).toNat) - ((tknU q.stages k).toNat)) : Nat) : Int)
 ·skip
  rw [decide_eq_true At] at A
  refine c_1 A rfl (c_0 (b_0 (b_6 (c_9 (m2 (s1 A (b_8 rfl h_2 ty_4 A.e (i := j) A.e (SlAt.say (n' := ((((tknU q.stages k) + ((q.stages.getD k s0).take)).toNat) - ((tknU q.stages k).toNat))) (cs' := (((d_1 r).drop (((tknU q.stages k).toNat) * 1)).take (((((tknU q.stages k) + ((q.stages.getD k s0).take)).toNat) - ((tknU q.stages k).toNat)) * 1))) (SlAt.cut (E.sk 3 rfl) (by omega) (by omega)) rfl rfl) (by decide) (by omega)) fun BU S => ?_)))))); clear A Aw
  refine s1 S (d_3 rfl ty_4 S.e (SlAt.say (n' := ((((tknU q.stages k) + ((q.stages.getD k s0).take)).toNat) - ((tknU q.stages k).toNat))) (cs' := (((d_1 r).drop (((tknU q.stages k).toNat) * 1)).take (((((tknU q.stages k) + ((q.stages.getD k s0).take)).toNat) - ((tknU q.stages k).toNat)) * 1))) (SlAt.cut (E.sk 3 rfl) (by omega) (by omega)) rfl rfl) (boolC_sub (by omega) (by omega))) fun BV T => ?_; clear S BU
  refine s1 T (a_1 rfl T.e) fun BW U => ?_; clear T BV
  refine n4 (s1 U (a_0 rfl U.e) fun Ax B => ?_); clear U BW
  refine n1 ?_
  rcases Bool.eq_false_or_eq_true ((r.getD (((tknU q.stages k).toNat) + j) false)) with L | L
  ·skip
   rw [L] at B
   have hcy := cnt_y (r := r) (n := (tknU q.stages k).toNat + j) (by omega) L
   rw [Nat.add_assoc] at hcy
   refine c_1 B rfl (a_5 (s1 B (a_0 rfl B.e) fun BX V => ?_)); clear B Ax
   refine s1 V (c_6 rfl V.e (evc _ _) (by omega) (by omega)) fun BY W => ?_; clear V BX
   refine s1 W (a_1 rfl W.e) fun BZ Ai => ?_; clear W BY
   refine d_0 (f_8 (b_0 ?_))
   have X := Ai.as [(9, (iv (cc + 1))), (48, (iv (j : Int))), (47, (iv ((((((tknU q.stages k) + ((q.stages.getD k s0).take)).toNat) - ((tknU q.stages k).toNat)) : Nat) : Int))), (46, (slcut vr ((tknU q.stages k).toNat) (((tknU q.stages k) + ((q.stages.getD k s0).take)).toNat) 1)), (11, (bptr I 0)), (22, (iv (k : Int))), (21, (iv (q.stages.length : Int))), (20, vs), (8, (iv (tknU q.stages k))), (1, vr)] rfl; clear Ai
   refine a_5 (s1 X (c_6 rfl X.e (evc _ _) (by omega) (by omega)) fun Ba Y => ?_); clear X BZ
   refine s1 Y (a_0 rfl Y.e) fun CW BI => ?_; clear Y Ba
   refine d_0 ?_
   exact b_0 ⟨j + 1, ⟨cc + 1, BI.as _ rfl, E, by omega, ⟨by omega, by omega, by omega⟩⟩, by omega⟩
  skip
  rw [L] at B
  have hcy := cnt_n (r := r) (n := (tknU q.stages k).toNat + j) (by omega) L
  rw [Nat.add_assoc] at hcy
  refine b_3 B rfl (c_0 (f_8 (b_0 (a_5 (s1 B (c_6 rfl B.e (evc _ _) (by omega) (by omega)) fun Bb Z => ?_))))); clear B Ax
  refine s1 Z (a_0 rfl Z.e) fun CX BJ => ?_; clear Z Bb
  refine d_0 ?_
  exact b_0 ⟨j + 1, ⟨cc, BJ.as _ rfl, E, by omega, ⟨by omega, by omega, by omega⟩⟩, by omega⟩
 skip
 rw [decide_eq_false At] at A
 refine b_3 A rfl (g_5 (b_9 (b_9 (f_1 (b_0 (b_6 ?_))))))
 have hcc : cc = ((cntT r (tknU q.stages k + (q.stages.getD k s0).take).toNat : Nat) : Int) := by rw [hcj.1, show (tknU q.stages k).toNat + j = (tknU q.stages k + (q.stages.getD k s0).take).toNat by omega]
 have hcb := cnt_le r (tknU q.stages k + (q.stages.getD k s0).take).toNat
 refine a_5 (s1 A (a_0 rfl A.e) fun Bc b => ?_); clear A Aw
 refine s1 b (a_2 rfl fd_66_0 b.e) fun Bd c => ?_; clear b Bc
 refine s1 c (a_3 rfl ty_3 c.e (E.bk 0 rfl) rfl) fun Be O => ?_; clear c Bd
 refine s1 O (c_6 rfl O.e O.e (by omega) (by omega)) fun Bf d => ?_; clear O Be
 refine s1 d (a_1 rfl d.e) fun Bg Aj => ?_; clear d Bf
 refine n2 ?_
 have f := Aj.as [(8, (iv ((tknU q.stages k) + ((q.stages.getD k s0).take)))), (11, (bptr I 0)), (22, (iv (k : Int))), (21, (iv (q.stages.length : Int))), (20, vs), (9, (iv cc)), (1, vr)] rfl; clear Aj
 refine a_5 (s1 f (c_2 rfl q_2 (f.ev rfl) (E.bk 0 rfl) (l := [(iv ((q.stages.getD k s0).take)), (iv ((q.stages.getD k s0).acc)), (iv ((q.stages.getD k s0).rej))]) rfl rfl) fun Bh g => ?_); clear f Bg
 refine s1 g (a_0 rfl g.e) fun Bi P => ?_; clear g Bh
 refine s2 P (b_5 rfl en_27 (ev2 P.e P.e) (says_ok (q.stages.getD k s0) cc _)) ?_
 rintro Bj _ Ce ⟨rfl, Ar⟩ m; have K := E.step Ar; clear Ar P E Bi
 refine s1 m (a_1 rfl m.e) fun Bk o => ?_; clear m Bj
 refine n4 (s1 o (a_0 rfl o.e) fun Bl p => ?_); clear o Bk
 refine s1 p (j_7 rfl p.e (evc _ _)) fun Ay C => ?_; clear p Bl
 refine n1 ?_
 by_cases Au : (i_2 (q.stages.getD k s0) cc) = 3
 ·skip
  rw [decide_eq_true Au] at C
  refine b_3 C rfl (c_0 (f_8 (b_0 ?_)))
  have s := C.as [(4, (Value.int .u8 (i_2 (q.stages.getD k s0) cc))), (8, (iv ((tknU q.stages k) + ((q.stages.getD k s0).take)))), (22, (iv (k : Int))), (21, (iv (q.stages.length : Int))), (20, vs), (9, (iv cc)), (1, vr)] rfl; clear C
  refine a_5 (s1 s (c_6 rfl s.e (evc _ _) (by omega) (by omega)) fun Bm t => ?_); clear s Ay
  refine s1 t (a_0 rfl t.e) fun CY BK => ?_; clear t Bm
  refine d_0 ?_
  have BL := K.gkp (gpc 1 (gpc 2 (gpc 3 gpn))); clear K
  exact b_0 ⟨k + 1, ⟨cc, (i_2 (q.stages.getD k s0) cc), BK.as _ rfl, BL, by omega, (by rw [show tknU q.stages (k + 1) = tknU q.stages k + (q.stages.getD k s0).take from rfl]; exact ⟨hcc, by omega, by omega⟩), dec_next2 (by omega) hdf (by omega) hcc (by assumption), n_next2 (by omega) hnf (by omega) hcc (by assumption), (says_up hsy hcc (by assumption))⟩, by omega⟩
 skip
 rw [decide_eq_false Au] at C
 refine c_1 C rfl (g_5 (blk_miss (by decide) (b_9 (b_9 (f_1 (b_0 (b_6 (b_6 ?_))))))))
 have u := C.as [(4, (Value.int .u8 (i_2 (q.stages.getD k s0) cc))), (8, (iv ((tknU q.stages k) + ((q.stages.getD k s0).take)))), (1, vr)] rfl; clear C
 refine a_5 (s1 u (a_0 rfl u.e) fun Bn x => ?_); clear u Ay
 refine s1 x (d_7 rfl h_2 x.e (K.sk 3 rfl)) fun Bo y => ?_; clear x Bn
 refine s1 y (a_0 rfl y.e) fun Bp Q => ?_; clear y Bo
 refine s1 Q (h_4 rfl Q.e Q.e) fun Az D => ?_; clear Q Bp
 refine n1 ?_
 by_cases Av : ((tknU q.stages k) + ((q.stages.getD k s0).take)) < (r.length : Int)
 ·skip
  rw [decide_eq_true Av] at D
  refine c_1 D rfl (b_6 ?_)
  have Ak := D.as [] rfl; clear D
  refine a_5 (s1 Ak (a_1 rfl (evc _ _)) fun Bq Al => ?_); clear Ak Az
  refine s1 Al (a_1 rfl (evc _ _)) fun Br Am => ?_; clear Al Bq
  refine s1 Am (a_1 rfl (evc _ _)) fun CZ An => ?_; clear Am Br
  refine n1 (c_3 (b_1 (ng_ret (a_9 An (.inl rfl) (g_0 An rfl (.tmp rfl) (.tmp rfl) (.tmp rfl)) ?_))))
  have BG := dec_says2 (by have := play_go hV hk hsy; omega) hdf (by omega) hcc (by assumption)
  have hz := play_more BG (by dsimp only; omega)
  have hzn := n_says2 (by have := play_go hV hk hsy; omega) hnf (by omega) hcc (by assumption)
  exact ⟨by rw [hz.1, hz.2, hzn], K.ext⟩
 skip
 rw [decide_eq_false Av] at D
 refine b_3 D rfl (c_0 (b_0 (b_6 ?_)))
 have z := D.as [(4, (Value.int .u8 (i_2 (q.stages.getD k s0) cc)))] rfl; clear D
 refine a_5 (s1 z (a_0 rfl z.e) fun Bs AA => ?_); clear z Az
 refine s1 AA (a_1 rfl AA.e) fun Bt Ao => ?_; clear AA Bs
 refine s1 Ao (a_1 rfl (evc _ _)) fun Bu Ap => ?_; clear Ao Bt
 refine s1 Ap (a_1 rfl (evc _ _)) fun Ca Aq => ?_; clear Ap Bu
 refine n1 (c_3 (ng_ret (a_9 Aq (.inl rfl) (g_0 Aq rfl (.tmp rfl) (.tmp rfl) (.tmp rfl)) ?_)))
 have BG := dec_says2 (by have := play_go hV hk hsy; omega) hdf (by omega) hcc (by assumption)
 have hz := play_done BG (by dsimp only; omega)
 have hzn := n_says2 (by have := play_go hV hk hsy; omega) hnf (by omega) hcc (by assumption)
 exact ⟨by rw [hz.1, hz.2, hzn], K.ext⟩
end Go.Proofs.Ytphkmnaohimdbaa

namespace Go.Proofs.Ytphkmnaohimdbaa
open Go.RowKit Go.Shelf Go.Eng Go.Top
theorem ty_28 : tyK Try.prog 28 = some (true, 2) := by kernel_rfl
theorem en_21 : ∀ args w, (callFunc 21 args).run Try.prog w = .ok (.enter 21 args) w := enters_of Try.func21 (by kernel_rfl) rfl
theorem en_14 : ∀ args w, (callFunc 14 args).run Try.prog w = .ok (.enter 14 args) w := enters_of Try.func14 (by kernel_rfl) rfl
theorem bd_57_0i_1i_4iia_5iia (x0_0 : Int) (x1_0 : Int) (x2_0 : Int) (x2_1 : Int) (x3_0 : Int) (x3_1 : Int) (w : World) : (Instr.build 57 #[(0, (.int .i64 x0_0)), (1, (.int .i64 x1_0)), (4, .agg #[(.int .i64 x2_0), (.int .i64 x2_1)]), (5, .agg #[(.int .i64 x3_0), (.int .i64 x3_1)])]).run Try.prog w = .ok (.agg #[(.int .i64 x0_0), (.int .i64 x1_0), (Value.bool false), (iv 0), (.int .i64 x2_0), (.int .i64 x2_1), (.int .i64 x3_0), (.int .i64 x3_1)]) w := by kernel_rfl
theorem bd_60_0i_1i_3s (x0_0 : Int) (x1_0 : Int) (x2_0 : Value) (hx2_0 : IsSl x2_0) (w : World) : (Instr.build 60 #[(0, (.int .i64 x0_0)), (1, (.int .i64 x1_0)), (3, x2_0)]).run Try.prog w = .ok (.agg #[(.int .i64 x0_0), (.int .i64 x1_0), (iv 0), x2_0]) w := by obtain ⟨Ax2_0, Bx2_0, Cx2_0, rfl⟩ := hx2_0; kernel_rfl
theorem bs_3_1_0i (x0_0 : Int) : Instr.fill (fun i => some (i * 1, 1)) ((Array.range (1 * 1)).map ((iv 0).cells[· % (iv 0).cells.size]!)) [(0, (.int .i64 x0_0))] = some (([(.int .i64 x0_0)] : List Value).toArray) := by kernel_rfl
theorem bd_63_1s (x0_0 : Value) (hx0_0 : IsSl x0_0) (w : World) : (Instr.build 63 #[(1, x0_0)]).run Try.prog w = .ok (.agg #[(Value.slice none 0 0), x0_0]) w := by obtain ⟨Ax0_0, Bx0_0, Cx0_0, rfl⟩ := hx0_0; kernel_rfl
theorem en_13 : ∀ args w, (callFunc 13 args).run Try.prog w = .ok (.enter 13 args) w := enters_of Try.func13 (by kernel_rfl) rfl
theorem bd_69_0i_1s (x0_0 : Int) (x1_0 : Value) (hx1_0 : IsSl x1_0) (w : World) : (Instr.build 69 #[(0, (.int .i64 x0_0)), (1, x1_0)]).run Try.prog w = .ok (.agg #[(.int .i64 x0_0), x1_0]) w := by obtain ⟨Ax1_0, Bx1_0, Cx1_0, rfl⟩ := hx1_0; kernel_rfl
set_option maxHeartbeats 4000000 in
theorem verdict_ok (q : PlD) (vs : Value) (w : World) (hvs : SlAt w vs 3 q.stages.length (recC d_9 q.stages)) (r : List Bool) (vr : Value) (hvr : SlAt w vr 1 r.length (d_1 r)) (hlr : r.length ≤ 1000000) (hV : PlV q) :
  Calls Try.prog 10 #[(Value.agg #[(iv q.lot), vs]), vr] w (Ret fun v w' => v = .tuple #[.int .u8 (j_1 q.stages r), .bool true] ∧ Ext NoB w w') := by
 refine b_2 Try.func10 rfl fun a0 Q => ?_
 replace Q : Fr 38 [] [(0, (Value.agg #[(iv q.lot), vs])), (1, vr)] a0 := Q
 have hfew := hV.few; have hone := hV.one; have hlot := hV.lot
 have AY : Sep NoB w w [(sl vs 3 q.stages.length (recC d_9 q.stages)), (sl vr 1 r.length (d_1 r))] := f_7 ⟨rfl, hvs, rfl, hvr, trivial⟩
 refine m2 (s2 Q (e_5 AY rfl Q.e (cs := [(iv q.lot), vs]) rfl) ?_)
 rintro a1 _ w3 ⟨z, rfl, AZ⟩ AV; clear Q AY a0
 refine s1 AV (a_1 rfl (evc _ _)) fun a6 AW => ?_; clear AV a1
 refine s1 AW (a_1 rfl (evc _ _)) fun a8 AX => ?_; clear AW a6
 refine n2 (m2 (s1 AX (a_1 rfl (evc _ _)) fun An AA => ?_)); clear AX a8
 refine n1 (c_9 ?_)
 have AB := AA.as [(6, (iv 0)), (2, (bptr z 0)), (1, vr)] rfl; clear AA
 refine g_6 (G := Nat) (fun (n : Nat) a_ w_ => Fr 38 [] [(6, (iv (n : Int))), (2, (bptr z 0)), (1, vr)] a_ ∧ Sep NoB w w_ [(blk z 28 [(iv q.lot), vs]), (sl vs 3 q.stages.length (recC d_9 q.stages)), (sl vr 1 r.length (d_1 r))] ∧ (n ≤ r.length) ∧ (∀ x, decF q.stages r = some x → ((n : Nat) : Int) ≤ x.2)) (fun n => r.length + 1 - n) 0 ⟨AB.as _ rfl, AZ, Nat.zero_le _, (fun x h => by have := dec_nn hV h; omega)⟩ ?_
 clear AB AZ An
 rintro n Ao Ba ⟨S, s, hn, hD⟩
 have hva := verd_at hV hn hD; have hul : (r.take n).length = n := by rw [List.length_take]; omega
 refine b_6 (m2 (s1 S (a_0 rfl S.e) fun Ap T => ?_)); clear S Ao
 refine s1 T (a_0 rfl T.e) fun Aq U => ?_; clear T Ap
 refine s1 U (d_7 rfl h_2 U.e (s.sk 2 rfl)) fun Ar K => ?_; clear U Aq
 refine s1 K (j_3 rfl K.e K.e) fun BU L => ?_; clear K Ar
 have Ab : (n : Int) ≤ (r.length : Int) := (by omega)
 rw [decide_eq_true Ab] at L
 refine n1 (c_1 L rfl (c_0 (b_0 (b_6 (c_9 (b_6 ?_))))))
 have AC := L.as [(6, (iv (n : Int))), (2, (bptr z 0)), (1, vr)] rfl; clear L
 refine c_drawV mixed AC s 13 [[], [0], [], [], [2, 3], [4], [1, 5], [6], [7], [7], [7], [8], [9]] [(yw (Value.agg #[(iv q.lot), vs])), (fun (A : Nat → Value) (v_ : Value) (rs_ : List Res) => ∃ (u1_ : Value), v_ = (Value.agg #[(iv q.lot), u1_]) ∧ rs_ = [(row u1_ 66 3 q.stages.length (recC d_9 q.stages))]), (yw vr), (yw (iv (n : Int))), (yw (slcut vr 0 n 1)), (fun (A : Nat → Value) (v_ : Value) (rs_ : List Res) => True ∧ rs_ = [(row v_ 4 1 ((r.take n).length) (d_1 (r.take n)))]), (yw (Value.tuple #[(Value.int .u8 (p_0 q.stages (r.take n))), (iv (r_2 q.stages (r.take n))), (iv (q_5 q.stages (r.take n)))])), (yw (Value.tuple #[(Value.int .u8 (p_0 q.stages (r.take n))), (iv (r_2 q.stages (r.take n))), (iv (q_5 q.stages (r.take n)))])), (yw (Value.int .u8 (p_0 q.stages (r.take n)))), (yw (iv (r_2 q.stages (r.take n)))), (yw (iv (q_5 q.stages (r.take n)))), (yw (Value.int .u8 (p_0 q.stages (r.take n)))), (yw (iv (r_2 q.stages (r.take n))))] (by decide +kernel) (by decide +kernel) rfl rfl ⟨dw, (fun _ _ _ _ _ h_ => h_), dw, dw, dw, (fun _ _ _ _ _ h_ => h_), dw, dw, dw, dw, dw, dw, dw, trivial⟩ ?_ ?_
 ·skip
  refine ⟨fun a w A hA hS hd => gv1 (c_2 rfl ty_28 (hA.ev rfl) (hS.bk 0 rfl) (l := [(iv q.lot), vs]) rfl rfl), ?_⟩
  refine ⟨fun a w A hA hS hd => e_7 rfl (vn (b_5 rfl en_21 (ev1 (gu hd 0)) (plan9_ok q vs _ (hS.sk 1 rfl) (by omega))) (fun v w' h => by obtain ⟨u, rfl, hT⟩ := h; exact ⟨_, ⟨u, rfl, rfl⟩, hT, rfl⟩)), ?_⟩
  refine ⟨fun a w A hA hS hd => gv1 (a_0 rfl hA.e), ?_⟩
  refine ⟨fun a w A hA hS hd => gv1 (a_0 rfl hA.e), ?_⟩
  refine ⟨fun a w A hA hS hd => gv1 (op_sliceHi rfl h_2 ty_4 (gu hd 2) (h := n) (gu hd 3) (hS.sk 2 rfl) (by omega)), ?_⟩
  refine ⟨fun a w A hA hS hd => e_7 rfl (vn (e_9 ((Sep.start NoB _).i_4 4 1) rfl h_2 el_4 (evc _ _) (gu hd 4) (i := 0) rfl (SlAt.say (n' := (r.take n).length) (cs' := (d_1 (r.take n))) (SlAt.cut (hS.sk 2 rfl) (Nat.zero_le _) (by omega)) (by rw [List.length_take]; omega) (boolC_cutHi _ _)) (boolC_one _) (by simp only [maxLen]; omega) (by omega)) (fun v_ w_ h_ => ⟨_, And.intro trivial rfl, h_.c_5 (i := 0) rfl (n' := (r.take n).length) (xs' := (d_1 (r.take n))) (by simp only [Nat.zero_add]) (List.nil_append _), rfl⟩)), ?_⟩
  refine ⟨fun a w A hA hS hd => ?_, ?_⟩
  ·skip
   obtain ⟨e1, BY, BM, BI⟩ := hd 1 (by decide)
   obtain ⟨u1_, y, BK⟩ := BM; subst BK
   rw [y] at e1
   have hp1_0 := BI _ (List.mem_of_getElem? (i := 0) rfl)
   obtain ⟨e5, BZ, BN, BJ⟩ := hd 5 (by decide)
   obtain ⟨BX, BL⟩ := BN; subst BL
   have hp5_0 := BJ _ (List.mem_of_getElem? (i := 0) rfl)
   exact gx1 (b_5 rfl en_14 (ev2 (e_0 (j_5 e1 rfl)) (e_0 (j_5 e5 rfl))) (play_ok q u1_ _ (SlAt.b_4 hp1_0) (r.take n) _ (SlAt.b_4 hp5_0) (by first | omega | (simp only [List.length_take]; omega)) hV))
  refine ⟨fun a w A hA hS hd => gv1 (a_0 rfl (gu hd 6)), ?_⟩
  refine ⟨fun a w A hA hS hd => gv1 (c_4 rfl (gu hd 7) rfl), ?_⟩
  refine ⟨fun a w A hA hS hd => gv1 (c_4 rfl (gu hd 7) rfl), ?_⟩
  refine ⟨fun a w A hA hS hd => gv1 (c_4 rfl (gu hd 7) rfl), ?_⟩
  refine ⟨fun a w A hA hS hd => gv1 (a_1 rfl (gu hd 8)), ?_⟩
  refine ⟨fun a w A hA hS hd => gv1 (a_1 rfl (gu hd 9)), ?_⟩
  trivial
 intro As BO A rsf33 AD B t; clear AC s
 obtain ⟨Ag, Ak⟩ := B 1 (by decide)
 obtain ⟨u1_, Ai, AP⟩ := Ak
 obtain ⟨Ah, Al⟩ := B 5 (by decide)
 obtain ⟨Aj, AQ⟩ := Al
 have H : Sep NoB w BO [(row u1_ 66 3 q.stages.length (recC d_9 q.stages)), (row (A 5) 4 1 ((r.take n).length) (d_1 (r.take n))), (blk z 28 [(iv q.lot), vs]), (sl vs 3 q.stages.length (recC d_9 q.stages)), (sl vr 1 r.length (d_1 r))] := by rw [show catR rsf33 0 13 = ([(row u1_ 66 3 q.stages.length (recC d_9 q.stages)), (row (A 5) 4 1 ((r.take n).length) (d_1 (r.take n)))] : List Res) by (try simp only [catR, gr (B 0 (by decide)), AP, gr (B 2 (by decide)), gr (B 3 (by decide)), gr (B 4 (by decide)), AQ, gr (B 6 (by decide)), gr (B 7 (by decide)), gr (B 8 (by decide)), gr (B 9 (by decide)), gr (B 10 (by decide)), gr (B 11 (by decide)), gr (B 12 (by decide))]); (try rfl)] at t; exact t
 have AE := AD.add (gs (B 10 (by decide))); clear AD
 have V := AE.add (gs (B 11 (by decide))); clear AE
 clear B t Ag Ah
 clear AP
 clear Ai
 clear AQ
 clear Aj
 refine s1 V (a_1 rfl V.e) fun AT D => ?_; clear V As
 refine n2 (b_6 ?_)
 rcases hva with ⟨hve, ⟨y, R⟩ | ⟨R, AN⟩⟩
 ·skip
  refine a_5 (s1 D (a_0 rfl D.e) fun At W => ?_); clear D AT
  refine s1 W (j_7 rfl W.e (evc _ _)) fun Au E => ?_; clear W At
  have Ac : (q_5 q.stages (r.take n)) = 0 := hve
  rw [decide_eq_true Ac] at E
  refine n1 (b_3 E rfl (c_0 (b_0 (m2 (s1 E (a_0 rfl E.e) fun Av X => ?_))))); clear E Au
  refine s1 X (j_7 rfl X.e (evc _ _)) fun Aw M => ?_; clear X Av
  have Ad : ¬ ((p_0 q.stages (r.take n)) = 3) := R
  rw [decide_eq_false Ad] at M
  refine s1 M (a_0 rfl M.e) fun Ax AF => ?_; clear M Aw
  refine s3 AF fun Ay AG => ?_; clear AF Ax
  refine s3 AG fun Az AH => ?_; clear AG Ay
  refine s3 AH fun A0 AI => ?_; clear AH Az
  refine s3 AI fun A1 Y => ?_; clear AI A0
  refine s1 Y (a_6 rfl Y.e (evc _ _)) fun A2 Z => ?_; clear Y A1
  refine n1 (c_1 Z rfl (b_6 ?_))
  have b := Z.as [(7, (Value.int .u8 (p_0 q.stages (r.take n))))] rfl; clear Z
  refine a_5 (s1 b (a_0 rfl b.e) fun A3 c => ?_); clear b A2
  refine s1 c (a_1 rfl c.e) fun A4 AJ => ?_; clear c A3
  refine s1 AJ (a_1 rfl (evc _ _)) fun BV AK => ?_; clear AJ A4
  refine n1 (c_3 (d_2 (b_1 (b_1 (d_2 (b_1 (a_9 AK (.inl rfl) (n_5 AK rfl (.tmp rfl) (.tmp rfl)) ?_)))))))
  exact ⟨by first | rw [y] | rw [R, verd_end (by rw [show r.length = n by omega]; exact AN)], H.ext⟩
 skip
 refine a_5 (s1 D (a_0 rfl D.e) fun A5 d => ?_); clear D AT
 refine s1 d (j_7 rfl d.e (evc _ _)) fun A6 F => ?_; clear d A5
 have Ae : (q_5 q.stages (r.take n)) = 0 := hve
 rw [decide_eq_true Ae] at F
 refine n1 (b_3 F rfl (c_0 (b_0 (m2 (s1 F (a_0 rfl F.e) fun A7 f => ?_))))); clear F A6
 refine s1 f (j_7 rfl f.e (evc _ _)) fun A8 N => ?_; clear f A7
 have Af : (p_0 q.stages (r.take n)) = 3 := R
 rw [decide_eq_true Af] at N
 refine s1 N (a_0 rfl N.e) fun A9 g => ?_; clear N A8
 refine s5 g (a_0 rfl g.e) fun BA j => ?_; clear g A9
 refine s5 j (a_0 rfl j.e) fun BB k => ?_; clear j BA
 refine s5 k (d_7 rfl h_2 k.e (H.sk 4 rfl)) fun BC O => ?_; clear k BB
 refine s5 O (f_5 rfl O.e O.e) fun BD P => ?_; clear O BC
 refine s1 P (a_8 rfl P.e P.e) fun AU C => ?_; clear P BD
 refine n1 ?_
 by_cases AO : (n : Int) = (r.length : Int)
 ·skip
  rw [decide_eq_true AO] at C
  refine c_1 C rfl (b_6 ?_)
  have m := C.as [(7, (Value.int .u8 (p_0 q.stages (r.take n))))] rfl; clear C
  refine a_5 (s1 m (a_0 rfl m.e) fun BE o => ?_); clear m AU
  refine s1 o (a_1 rfl o.e) fun BF AL => ?_; clear o BE
  refine s1 AL (a_1 rfl (evc _ _)) fun BW AM => ?_; clear AL BF
  refine n1 (c_3 (d_2 (b_1 (b_1 (d_2 (b_1 (a_9 AM (.inl rfl) (n_5 AM rfl (.tmp rfl) (.tmp rfl)) ?_)))))))
  exact ⟨by first | rw [y] | rw [R, verd_end (by rw [show r.length = n by omega]; exact AN)], H.ext⟩
 skip
 rw [decide_eq_false AO] at C
 refine b_3 C rfl (c_0 (f_8 (b_0 ?_)))
 have p := C.as [(6, (iv (n : Int))), (2, (bptr z 0)), (1, vr)] rfl; clear C
 refine a_5 (s1 p (a_0 rfl p.e) fun BG I => ?_); clear p AU
 refine s1 I (c_6 rfl I.e (evc _ _) (by omega) (by omega)) fun Aa J => ?_; clear I BG
 refine s1 J (a_1 rfl J.e) fun BQ AR => ?_; clear J Aa
 refine d_0 ?_
 have AS := H.gkp (gpc 2 (gpc 3 (gpc 4 gpn))); clear H
 exact b_0 ⟨n + 1, ⟨AR.as _ rfl, AS, by omega, AN⟩, by omega⟩
def d7 : p_1 := ⟨2, 1, false, 0, 0, 7, 0, 7⟩
def p7 : g_2 := ⟨2, 1, 0, [d7]⟩
def q7 : PlD := ⟨3, [⟨1, 0, 1⟩]⟩
theorem p7_V : n_0 p7 := ⟨by decide, by decide, by decide, by decide, fun i hi => by
 have hi : i < 1 := hi
 obtain rfl : i = 0 := by omega
 exact ⟨by decide, by decide, by decide, by decide, by decide⟩⟩
theorem p7_ok : PlanOk p7 [] [0] [⟨0, 0, 2, 1⟩] [false] := ⟨rfl, by decide, fun i hi => absurd hi (Nat.not_lt_zero _), rfl, fun i hi => by
 have hi : i < 1 := hi
 obtain rfl : i = 0 := by omega
 exact .inr ⟨by decide, by decide, by decide⟩, fun i j B A => by
 have A : j < 1 := A
 omega⟩
theorem q7_V : PlV q7 := ⟨by decide, by decide, by decide, fun i hi => by
 have hi : i < 1 := hi
 obtain rfl : i = 0 := by omega
 exact ⟨by decide, by decide, by decide, by decide, by decide, by decide⟩⟩
theorem t7 : p_8 [⟨0, 0, 2, 1⟩] [false] 1 0 = 0 ∧ wanF [⟨0, 0, 2, 1⟩] [false] [0] 1 0 = 0 := by decide
theorem v7 : p_0 q7.stages [false] = 1 ∧ r_2 q7.stages [false] = 0 ∧ q_5 q7.stages [false] = 0 := by decide
theorem slat_nil (w : World) (sz : Nat) : SlAt w (.slice none 0 0) sz 0 [] := ⟨by simp, none, 0, rfl, Nat.le_refl _, by simp, fun h => absurd rfl h⟩
theorem callsR {f : FuncId} {args : Array Value} {w : World} {A B : Value} (k : Calls Try.prog f args w (Ret fun v w' => v = A ∧ Ext NoB w w')) (h : A = B) : Calls Try.prog f args w (Ret fun v w' => v = B ∧ Ext NoB w w') := by subst h; exact k
theorem m_0 (w : World) :
  Calls Try.prog 7 #[] w (Ret fun v w' => v = .bool true ∧ Ext NoB w w') := by
 refine b_2 Try.func7 rfl fun a0 r => ?_
 replace r : Fr 46 [] [] a0 := r
 have AJ : Sep NoB w w [] := Sep.start _ _
 refine m2 (s1 r (a_1 rfl (evc _ _)) fun a1 AH => ?_); clear r a0
 refine n4 (s1 AH (e_8 rfl (pv2 (evc _ _) (evc _ _)) (bd_55_0i_1i _ _)) fun a3 AI => ?_); clear AH a1
 refine s1 AI (e_8 rfl (pv2 (evc _ _) (evc _ _)) (bd_55_0i_1i _ _)) fun a5 t => ?_; clear AI a3
 refine s1 t (e_8 rfl (pv4 (evc _ _) (evc _ _) t.e t.e) (bd_57_0i_1i_4iia_5iia _ _ _ _ _ _)) fun a7 AB => ?_; clear t a5
 refine s2 AB (c_7 AJ rfl (pv1 AB.e) un_58 ty_57 ze_57 (by decide) (cs := [(iv 2), (iv 1), (Value.bool false), (iv 0), (iv 0), (iv 7), (iv 0), (iv 7)]) (bs_57_1_0iibiiiiia _ _ _ _ _ _ _ _)) ?_
 rintro a9 _ BB ⟨A7, rfl, AE⟩ N; clear AB AJ a7
 refine s1 N (e_8 rfl (pv3 (evc _ _) (evc _ _) N.e) (bd_60_0i_1i_3s _ _ _ ⟨_, _, _, rfl⟩)) fun AS u => ?_; clear N a9
 refine s2 u (c_7 AE rfl (pv1 (evc _ _)) k_0 ty_3 ze_3 (by decide) (cs := [(iv 0)]) (bs_3_1_0i _)) ?_
 rintro AT _ BC ⟨A8, rfl, L⟩ O; clear u AE AS
 refine s1 O (e_8 rfl (pv1 O.e) (bd_63_1s _ ⟨_, _, _, rfl⟩)) fun AU H => ?_; clear O AT
 refine s2 H (b_5 rfl en_13 (ev4 H.e H.e (evc _ _) (evc _ _)) (callsR (trace_ok p7 _ _ (SlAt.h_3 (n := 1) (L.bk 1 rfl) rfl (Nat.le_of_ble_eq_true rfl)) [] _ (slat_nil _ 3) [0] _ (SlAt.h_3 (n := 1) (L.bk 0 rfl) rfl (Nat.le_of_ble_eq_true rfl)) p7_V _ _ p7_ok 1 0 (by decide) (by decide)) (by rw [t7.1, t7.2]))) ?_
 rintro AV _ BD ⟨rfl, AC⟩ P; have AF := L.step AC; clear AC H L AU
 refine s1 P (a_0 rfl P.e) fun AW Q => ?_; clear P AV
 refine s1 Q (c_4 rfl Q.e rfl) fun AX R => ?_; clear Q AW
 refine s1 R (c_4 rfl R.e rfl) fun AY S => ?_; clear R AX
 refine s1 S (c_4 rfl S.e rfl) fun AZ T => ?_; clear S AY
 refine s1 T (a_1 rfl T.e) fun Aa U => ?_; clear T AZ
 refine s1 U (a_1 rfl U.e) fun Ab V => ?_; clear U Aa
 refine s1 V (a_1 rfl V.e) fun Ac x => ?_; clear V Ab
 refine n2 ?_
 have y := x.as [(3, (iv 0)), (2, (iv 0)), (1, (iv 0))] rfl; clear x
 refine a_5 (s1 y (e_8 rfl (pv3 (evc _ _) (evc _ _) (evc _ _)) (bd_66_0i_1i_2i _ _ _)) fun Ad W => ?_); clear y Ac
 refine s2 W (c_7 AF rfl (pv1 W.e) s_4 q_2 ze_66 (by decide) (cs := [(iv 1), (iv 0), (iv 1)]) (bs_66_1_0iiia _ _ _)) ?_
 rintro Ae _ BE ⟨A9, rfl, AG⟩ X; clear W AF Ad
 refine s1 X (e_8 rfl (pv2 (evc _ _) X.e) (bd_69_0i_1s _ _ ⟨_, _, _, rfl⟩)) fun Af z => ?_; clear X Ae
 refine s2 z (c_7 AG rfl (pv1 (evc _ _)) h_2 ty_4 ze_4 (by decide) (cs := [(Value.bool false)]) (o_0 _)) ?_
 rintro Ag _ BF ⟨BA, rfl, M⟩ I; clear z AG Af
 refine s2 I (b_5 rfl en_14 (ev2 I.e I.e) (callsR (play_ok q7 _ _ (SlAt.h_3 (n := 1) (M.bk 1 rfl) rfl (Nat.le_of_ble_eq_true rfl)) [false] _ (SlAt.h_3 (n := 1) (M.bk 0 rfl) rfl (Nat.le_of_ble_eq_true rfl)) (by decide) q7_V) (by rw [v7.1, v7.2.1, v7.2.2]))) ?_
 rintro Ah _ BG ⟨rfl, AD⟩ Y; have AQ := M.step AD; clear AD I M Ag
 refine s1 Y (a_0 rfl Y.e) fun Ai Z => ?_; clear Y Ah
 refine s1 Z (c_4 rfl Z.e rfl) fun Aj a => ?_; clear Z Ai
 refine s1 a (c_4 rfl a.e rfl) fun Ak b => ?_; clear a Aj
 refine s1 b (c_4 rfl b.e rfl) fun Al c => ?_; clear b Ak
 refine s1 c (a_1 rfl c.e) fun Am d => ?_; clear c Al
 refine s1 d (a_1 rfl d.e) fun An f => ?_; clear d Am
 refine s1 f (a_1 rfl f.e) fun Ao AA => ?_; clear f An
 refine n2 ?_
 have g := AA.as [(6, (iv 0)), (4, (Value.int .u8 1)), (3, (iv 0)), (2, (iv 0)), (1, (iv 0))] rfl; clear AA
 refine a_5 (s1 g (a_0 rfl g.e) fun Ap h => ?_); clear g Ao
 refine s1 h (f_5 rfl h.e (evc _ _)) fun Aq i => ?_; clear h Ap
 refine s1 i (a_0 rfl i.e) fun Ar j => ?_; clear i Aq
 refine s5 j (a_0 rfl j.e) fun As k => ?_; clear j Ar
 refine s5 k (f_5 rfl k.e (evc _ _)) fun At J => ?_; clear k As
 refine s1 J (a_6 rfl J.e J.e) fun Au l => ?_; clear J At
 refine s1 l (a_0 rfl l.e) fun Av m => ?_; clear l Au
 refine s5 m (a_0 rfl m.e) fun Aw o => ?_; clear m Av
 refine s5 o (f_5 rfl o.e (evc _ _)) fun Ax K => ?_; clear o Aw
 refine s1 K (a_6 rfl K.e K.e) fun Ay p => ?_; clear K Ax
 refine s1 p (a_0 rfl p.e) fun Az q => ?_; clear p Ay
 refine s5 q (a_0 rfl q.e) fun A0 C => ?_; clear q Az
 refine s5 C (f_5 rfl C.e (evc _ _)) fun AK A => ?_; clear C A0
 refine s1 A (a_6 rfl A.e A.e) fun AL D => ?_; clear A AK
 refine s1 D (a_0 rfl D.e) fun AM E => ?_; clear D AL
 refine s5 E (a_0 rfl E.e) fun AN F => ?_; clear E AM
 refine s5 F (f_5 rfl F.e (evc _ _)) fun AO B => ?_; clear F AN
 refine s1 B (a_6 rfl B.e B.e) fun AP G => ?_; clear B AO
 refine s1 G (a_1 rfl G.e) fun A2 s => ?_; clear G AP
 exact n1 (c_3 (a_9 s (.inl rfl) (a_4 s rfl (.tmp rfl)) (⟨rfl, AQ.ext⟩)))
end Go.Proofs.Ytphkmnaohimdbaa

namespace Go.Top
open Go.RowKit Go.Eng
structure BadI (p : g_2) (ps : List Quad) (cs : List Bool) (uses : List Int) (X : Nat) (bl : List Bool) (ux uy : Nat) : Prop where
  len : bl.length = uses.length
  iff : ∀ i, i < uses.length → (bl.getD i false = true ↔ ∃ x y : Nat, (x < ux ∧ y < p.long.toNat ∨ x = ux ∧ y < uy) ∧ wanF ps cs uses x y = (i : Int) ∧ X.testBit (8 * x + y) = true)
def BesI (ps : List Quad) (cs : List Bool) (uses : List Int) (B : Nat) : Prop := B < 18446744073709551616 ∧ ∀ j, B.testBit j = true → ∃ x y : Nat, j = 8 * x + y ∧ y < 8 ∧ wanF ps cs uses x y < 0
def outU (uses : List Int) (bl : List Bool) : Nat → List Bool
  | 0 => []
  | k + 1 => if 0 ≤ uses.getD k 0 then outU uses bl k ++ [bl.getD k false] else outU uses bl k
theorem outU_y {uses : List Int} {bl : List Bool} {k : Nat} (h : 0 ≤ uses.getD k 0) : outU uses bl k ++ [bl.getD k false] = outU uses bl (k + 1) := by rw [outU, if_pos h]
theorem outU_n {uses : List Int} {bl : List Bool} {k : Nat} (h : ¬ 0 ≤ uses.getD k 0) : outU uses bl k = outU uses bl (k + 1) := by rw [outU, if_neg h]
theorem outU_len (uses : List Int) (bl : List Bool) : ∀ k, (outU uses bl k).length ≤ k
  | 0 => Nat.le_refl _
  | k + 1 => by
    have := outU_len uses bl k
    rw [outU]; split
    · rw [List.length_append, List.length_singleton]; omega
    · omega
section
variable {p : g_2} {ps : List Quad} {cs : List Bool} {uses : List Int} {X B kk : Nat} {bl : List Bool} {ux uy : Nat}
theorem BadI.zero : BadI p ps cs uses X (List.replicate uses.length false) 0 0 :=
  ⟨List.length_replicate, fun i hi => by
    constructor
    · intro h
      simp [List.getD, hi] at h
    · rintro ⟨x, y, h, _⟩; omega⟩
theorem BadI.row (h : BadI p ps cs uses X bl ux uy) (hy : uy = p.long.toNat) : BadI p ps cs uses X bl (ux + 1) 0 :=
  ⟨h.len, fun i hi => by
    rw [h.iff i hi]
    constructor
    · rintro ⟨x, y, h1, h2⟩; exact ⟨x, y, by omega, h2⟩
    · rintro ⟨x, y, h1, h2⟩; exact ⟨x, y, by omega, h2⟩⟩
theorem BadI.skip (h : BadI p ps cs uses X bl ux uy) (hw : wanF ps cs uses ux uy < 0) : BadI p ps cs uses X bl ux (uy + 1) :=
  ⟨h.len, fun i hi => by
    rw [h.iff i hi]
    constructor
    · rintro ⟨x, y, h1, h2⟩; exact ⟨x, y, by omega, h2⟩
    · rintro ⟨x, y, h1, h2, h3⟩
      refine ⟨x, y, ?_, h2, h3⟩
      rcases h1 with h1 | ⟨h1, h4⟩
      · exact .inl h1
      · right
        refine ⟨h1, ?_⟩
        rcases Nat.lt_succ_iff_lt_or_eq.1 h4 with h4 | h4
        · exact h4
        · subst h1; subst h4; omega⟩
theorem BadI.set (h : BadI p ps cs uses X bl ux uy) {b : Bool} (hw : 0 ≤ wanF ps cs uses ux uy) (hk : kk = 8 * ux + uy) (hb : b = (bl.getD (wanF ps cs uses ux uy).toNat false || X.testBit kk)) : BadI p ps cs uses X (bl.set (wanF ps cs uses ux uy).toNat b) ux (uy + 1) := by
  have hl := wan_lt ps cs uses ux uy
  have hlen := h.len
  refine ⟨by rw [List.length_set]; exact h.len, fun i hi => ?_⟩
  rw [getD_set2 (by omega)]
  subst hk
  by_cases e : i = (wanF ps cs uses ux uy).toNat
  · rw [if_pos e, hb, Bool.or_eq_true, ← e, h.iff i hi]
    constructor
    · rintro (⟨x, y, h1, h2⟩ | h1)
      · exact ⟨x, y, by omega, h2⟩
      · exact ⟨ux, uy, by omega, by omega, h1⟩
    · rintro ⟨x, y, h1, h2, h3⟩
      by_cases e2 : x = ux ∧ y = uy
      · obtain ⟨rfl, rfl⟩ := e2; exact .inr h3
      · exact .inl ⟨x, y, by omega, h2, h3⟩
  · rw [if_neg e, h.iff i hi]
    constructor
    · rintro ⟨x, y, h1, h2⟩; exact ⟨x, y, by omega, h2⟩
    · rintro ⟨x, y, h1, h2, h3⟩
      by_cases e2 : x = ux ∧ y = uy
      · obtain ⟨rfl, rfl⟩ := e2; omega
      · exact ⟨x, y, by omega, h2, h3⟩
theorem BesI.zero : BesI ps cs uses 0 := ⟨by decide, fun j h => by rw [Nat.zero_testBit] at h; cases h⟩
theorem BesI.set (h : BesI ps cs uses B) (hw : wanF ps cs uses ux uy < 0) (hk : kk = 8 * ux + uy) (hx : ux < 8) (hy : uy < 8) : BesI ps cs uses (B ||| 2 ^ kk) :=
  ⟨or64_lt h.1 (r_5 (by omega)), fun j hj => by
    rw [Nat.testBit_or, Bool.or_eq_true] at hj
    rcases hj with hj | hj
    · exact h.2 j hj
    · rw [Nat.testBit_two_pow] at hj
      simp only [decide_eq_true_eq] at hj
      exact ⟨ux, uy, by omega, hy, hw⟩⟩
end
structure FlawI (p : g_2) (ps : List Quad) (cs : List Bool) (uses : List Int) (X : Nat) (l : List Bool) (B : Nat) : Prop where
  bad : ∃ bl, BadI p ps cs uses X bl p.wide.toNat 0 ∧ l = outU uses bl uses.length
  bes : BesI ps cs uses B
theorem flaw_len {p : g_2} {ps : List Quad} {cs : List Bool} {uses : List Int} {X B : Nat} {l : List Bool} (h : FlawI p ps cs uses X l B) : l.length ≤ uses.length := by
  obtain ⟨⟨bl, _, rfl⟩, _⟩ := h
  exact outU_len uses bl _
def LeB (l m : List Bool) : Prop := l.length = m.length ∧ ∀ i, l.getD i false = true → m.getD i false = true
theorem LeB.snoc {l m : List Bool} (h : LeB l m) {x y : Bool} (hx : x = true → y = true) : LeB (l ++ [x]) (m ++ [y]) := by
  refine ⟨by rw [List.length_append, List.length_append, h.1]; rfl, fun i => ?_⟩
  rw [o_1, o_1, h.1]
  split
  · exact h.2 i
  · generalize i - m.length = j
    cases j with
    | zero => exact hx
    | succ j => intro g; cases g
theorem cnt_past {r : List Bool} {n : Nat} (h : r.length ≤ n) : cntT r (n + 1) = cntT r n := by
  unfold cntT; rw [List.take_of_length_le h, List.take_of_length_le (by omega)]
theorem LeB.cnt {l m : List Bool} (h : LeB l m) : ∀ n, cntT l n ≤ cntT m n
  | 0 => Nat.le_refl _
  | n + 1 => by
    have ih := LeB.cnt h n
    rcases Nat.lt_or_ge n l.length with hn | hn
    · have hm : n < m.length := by rw [← h.1]; exact hn
      cases h1 : l.getD n false with
      | true => have := cnt_y hn h1; have := cnt_y hm (h.2 n h1); omega
      | false =>
        have := cnt_n hn h1
        cases h2 : m.getD n false with
        | true => have := cnt_y hm h2; omega
        | false => have := cnt_n hm h2; omega
    · rw [cnt_past hn, cnt_past (by rw [← h.1]; exact hn)]; exact ih
theorem outU_le {uses : List Int} {bl bm : List Bool} (h : ∀ i, i < uses.length → bl.getD i false = true → bm.getD i false = true) : ∀ k, k ≤ uses.length → LeB (outU uses bl k) (outU uses bm k)
  | 0, _ => ⟨rfl, fun _ h => h⟩
  | k + 1, hk => by
    have ih := outU_le h k (by omega)
    rw [outU, outU]
    split
    · exact ih.snoc (h k (by omega))
    · exact ih
theorem getD_ext {l m : List Bool} (h : l.length = m.length) (h2 : ∀ i, i < l.length → l.getD i false = m.getD i false) : l = m := by
  apply List.ext_getElem h
  intro i h3 h4
  have := h2 i h3
  rw [List.getD, List.getD, List.getElem?_eq_getElem h3, List.getElem?_eq_getElem h4] at this
  exact this
section
variable {p : g_2} {ps : List Quad} {cs : List Bool} {uses : List Int} {X Y B B2 : Nat} {l m : List Bool}
theorem flaw_more (h1 : FlawI p ps cs uses X l B) (h2 : FlawI p ps cs uses (X ||| Y) m B2) : LeB l m := by
  obtain ⟨⟨bl, hb, rfl⟩, _⟩ := h1
  obtain ⟨⟨bm, hm, rfl⟩, _⟩ := h2
  refine outU_le (fun i hi => ?_) _ (Nat.le_refl _)
  rw [hb.iff i hi, hm.iff i hi]
  rintro ⟨x, y, h1, h2, h3⟩
  exact ⟨x, y, h1, h2, by rw [Nat.testBit_or, h3, Bool.true_or]⟩
theorem flaw_eq (hl : p.long ≤ 8) (h1 : FlawI p ps cs uses X l B) (h2 : FlawI p ps cs uses (X ^^^ (Y &&& B)) m B2) : l = m := by
  obtain ⟨⟨bl, hb, rfl⟩, hB⟩ := h1
  obtain ⟨⟨bm, hm, rfl⟩, _⟩ := h2
  suffices h : bl = bm by rw [h]
  refine getD_ext (by rw [hb.len, hm.len]) fun i hi => ?_
  have hi : i < uses.length := by rw [← hb.len]; exact hi
  rw [Bool.eq_iff_iff, hb.iff i hi, hm.iff i hi]
  have key : ∀ x y : Nat, y < 8 → wanF ps cs uses x y = (i : Int) → (X ^^^ (Y &&& B)).testBit (8 * x + y) = X.testBit (8 * x + y) := by
    intro x y hy hw
    rw [Nat.testBit_xor, Nat.testBit_and]
    cases hb : B.testBit (8 * x + y) with
    | false => rw [Bool.and_false, Bool.xor_false]
    | true =>
      obtain ⟨x', y', e, hy', hw'⟩ := hB.2 _ hb
      obtain rfl : x = x' := by omega
      obtain rfl : y = y' := by omega
      omega
  constructor
  · rintro ⟨x, y, h1, h2, h3⟩
    exact ⟨x, y, h1, h2, by rw [key x y (by omega) h2]; exact h3⟩
  · rintro ⟨x, y, h1, h2, h3⟩
    exact ⟨x, y, h1, h2, by rw [key x y (by omega) h2] at h3; exact h3⟩
end
theorem dec_more {ss : List g_1} {r1 r2 : List Bool} (h : LeB r1 r2) : ∀ f k x y, decU ss r1 f k = some x → decU ss r2 f k = some y → ¬ (x.1 = 2 ∧ y.1 = 1)
  | 0, _, _, _, hx, _ => by rw [decU] at hx; cases hx
  | f + 1, k, x, y, hx, hy => by
    rw [decU] at hx hy
    have hc := h.cnt (tknU ss (k + 1)).toNat
    rw [← h.1] at hy
    split at hx
    · cases hx
    · rename_i h1
      rw [if_neg h1] at hy
      split at hx
      · rename_i h2
        cases hx
        rintro ⟨e1, e2⟩
        have e1 : i_2 (ss.getD k s0) (cntT r1 (tknU ss (k + 1)).toNat) = 2 := e1
        have g : i_2 (ss.getD k s0) (cntT r2 (tknU ss (k + 1)).toNat) = 2 := by
          unfold i_2 at e1 ⊢
          split at e1
          · cases e1
          · split at e1
            · rw [if_neg (by omega), if_pos (by omega)]
            · cases e1
        rw [g, if_pos (by decide)] at hy
        cases hy
        cases e2
      · rename_i h2
        have h2 : i_2 (ss.getD k s0) (cntT r1 (tknU ss (k + 1)).toNat) = 3 := Decidable.not_not.1 h2
        split at hy
        · rename_i h3
          cases hy
          rintro ⟨_, e2⟩
          have e2 : i_2 (ss.getD k s0) (cntT r2 (tknU ss (k + 1)).toNat) = 1 := e2
          unfold i_2 at h2 e2
          split at h2
          · cases h2
          · split at e2
            · omega
            · split at e2
              · cases e2
              · cases e2
        · exact dec_more h f (k + 1) x y hx hy
theorem verd_more {ss : List g_1} {r1 r2 : List Bool} (h : LeB r1 r2) : ¬ (j_1 ss r1 = 2 ∧ j_1 ss r2 = 1) := by
  rintro ⟨h1, h2⟩
  unfold j_1 at h1 h2
  cases hx : decF ss r1 with
  | none => rw [hx] at h1; cases h1
  | some x =>
    cases hy : decF ss r2 with
    | none => rw [hy] at h2; cases h2
    | some y => rw [hx] at h1; rw [hy] at h2; exact dec_more h _ _ x y hx hy ⟨h1, h2⟩
theorem cnt_none {r : List Bool} (h : ∀ i, i < r.length → r.getD i false = false) : ∀ n, cntT r n = 0
  | 0 => rfl
  | n + 1 => by
    have ih := cnt_none h n
    rcases Nat.lt_or_ge n r.length with hn | hn
    · have := cnt_n hn (h n hn); omega
    · rw [cnt_past hn]; exact ih
theorem rej_pos {q : PlD} (hV : PlV q) (h0 : 0 < (q.stages.getD 0 s0).rej) : ∀ k, k < q.stages.length → 0 < (q.stages.getD k s0).rej
  | 0, _ => h0
  | k + 1, hk => by
    have := rej_pos hV h0 k (by omega)
    have h1 : (q.stages.getD k s0).rej ≤ (q.stages.getD (k + 1) s0).rej := (hV.st (k + 1) hk).rise.2
    omega
theorem verd_none {q : PlD} (hV : PlV q) {r : List Bool} (h : ∀ i, i < r.length → r.getD i false = false) (h0 : 0 < (q.stages.getD 0 s0).rej) : j_1 q.stages r ≠ 2 := by
  have key : ∀ f k x, k + f ≤ q.stages.length → decU q.stages r f k = some x → x.1 ≠ 2 := by
    intro f
    induction f with
    | zero => intro k x _ hx; rw [decU] at hx; cases hx
    | succ f ih =>
      intro k x hk hx
      rw [decU] at hx
      split at hx
      · cases hx
      · split at hx
        · cases hx
          show i_2 _ _ ≠ 2
          have := rej_pos hV h0 k (by omega)
          rw [cnt_none h]
          unfold i_2
          split
          · decide
          · rw [if_neg (by omega)]; decide
        · exact ih (k + 1) x (by omega) hx
  unfold j_1
  cases hx : decF q.stages r with
  | none => decide
  | some x => exact key _ _ x (by omega) hx
end Go.Top

namespace Go.Proofs.Ytphkmnaohimdbaa
open Go.RowKit Go.Shelf Go.Eng Go.Top
theorem s_0 : tyK Try.prog 24 = some (true, 4) := by kernel_rfl
theorem s_1 : tyK Try.prog 37 = some (true, 2) := by kernel_rfl
theorem en_19 : ∀ args w, (callFunc 19 args).run Try.prog w = .ok (.enter 19 args) w := enters_of Try.func19 (by kernel_rfl) rfl
theorem en_20 : ∀ args w, (callFunc 20 args).run Try.prog w = .ok (.enter 20 args) w := enters_of Try.func20 (by kernel_rfl) rfl
theorem un_83 : Try.prog.underlying 83 = some (.int .u64) := by kernel_rfl
set_option maxHeartbeats 8000000 in
theorem flawed_ok (p : g_2) (vw : Value) (w : World) (hvw : SlAt w vw 8 p.wants.length (recC d_6 p.wants)) (cuts : List CutD) (vc : Value) (hvc : SlAt w vc 3 cuts.length (recC cutC cuts)) (uses : List Int) (vu : Value) (hvu : SlAt w vu 1 uses.length (ints uses)) (hV : n_0 p) (ps : List Quad) (cs : List Bool) (hok : PlanOk p cuts uses ps cs) (xf : Nat) (hxf : xf < 18446744073709551616) :
  Calls Try.prog 9 #[(Value.agg #[(iv p.wide), (iv p.long), (iv p.saw), vw]), (Value.agg #[vc, vu]), (Value.int .u64 (xf : Int))] w (Ret fun v w' => ∃ (l : List Bool) (bs : Nat) (u : Value), v = .tuple #[u, .int .u64 (bs : Int), .bool true] ∧ FlawI p ps cs uses xf l bs ∧ Sep NoB w w' [row u 4 1 l.length (d_1 l)]) := by
 refine b_2 Try.func9 rfl fun a0 Aw => ?_
 replace Aw : Fr 100 [] [(0, (Value.agg #[(iv p.wide), (iv p.long), (iv p.saw), vw])), (1, (Value.agg #[vc, vu])), (2, (Value.int .u64 (xf : Int)))] a0 := Aw
 have hul := hok.ulen; have EO := hV.few; have hfw := hok.few; have hvx := hV.wide; have hvy := hV.long
 have CG : Sep NoB w w [(sl vw 8 p.wants.length (recC d_6 p.wants)), (sl vc 3 cuts.length (recC cutC cuts)), (sl vu 1 uses.length (ints uses))] := f_7 ⟨rfl, hvw, rfl, hvc, rfl, hvu, trivial⟩
 refine m2 (s2 Aw (e_5 CG rfl Aw.e (cs := [(iv p.wide), (iv p.long), (iv p.saw), vw]) rfl) ?_)
 rintro a1 _ w3 ⟨N, rfl, CH⟩ Bn; clear Aw CG a0
 refine s2 Bn (e_5 CH rfl Bn.e (cs := [vc, vu]) rfl) ?_
 rintro a6 _ w8 ⟨J, rfl, As⟩ CF; clear Bn CH a1
 refine s1 CF (a_1 rfl (evc _ _)) fun DT Bl => ?_; clear CF a6
 refine s1 Bl (a_1 rfl (evc _ _)) fun DU Bm => ?_; clear Bl DT
 refine s1 Bm (a_1 rfl (evc _ _)) fun DV Ax => ?_; clear Bm DU
 refine n4 (s1 Ax (a_2 rfl k_9 Ax.e) fun DW Ay => ?_); clear Ax DV
 refine s1 Ay (a_3 rfl r_3 Ay.e (As.bk 1 rfl) rfl) fun DX Az => ?_; clear Ay DW
 refine s1 Az (d_7 rfl r_4 Az.e (As.sk 2 rfl)) fun DY AU => ?_; clear Az DX
 refine s2 AU (op_makeFull (n := p.wants.length) As rfl h_2 el_4 AU.e AU.e (mk_bool _) (by omega) (by omega) (by simp only [maxLen]; omega)) ?_
 intro DZ B ER By A0; clear AU As DY
 refine s1 A0 (a_1 rfl A0.e) fun Da Bo => ?_; clear A0 DZ
 refine n2 ?_
 have Bp := Bo.as [(9, B), (4, (bptr J 0)), (3, (bptr N 0)), (2, (Value.int .u64 (xf : Int)))] rfl; clear Bo
 refine a_5 (s1 Bp (a_1 rfl (evc _ _)) fun Db Bq => ?_); clear Bp Da
 refine n2 (m2 (s1 Bq (a_1 rfl (evc _ _)) fun Dc Br => ?_)); clear Bq Db
 refine n1 (c_9 ?_)
 have Bs := Br.as [(11, (iv 0)), (10, (Value.int .u64 0)), (9, B), (4, (bptr J 0)), (3, (bptr N 0)), (2, (Value.int .u64 (xf : Int)))] rfl; clear Br
 refine g_6 (G := Nat) (fun (ux : Nat) a_ w_ => ∃ bl0 : List Bool, ∃ bs0 : Nat, Fr 100 [] [(11, (iv (ux : Int))), (10, (Value.int .u64 (bs0 : Int))), (9, B), (4, (bptr J 0)), (3, (bptr N 0)), (2, (Value.int .u64 (xf : Int)))] a_ ∧ Sep NoB w w_ [(row B 4 1 bl0.length (d_1 bl0)), (blk J 37 [vc, vu]), (blk N 24 [(iv p.wide), (iv p.long), (iv p.saw), vw]), (sl vw 8 p.wants.length (recC d_6 p.wants)), (sl vc 3 cuts.length (recC cutC cuts)), (sl vu 1 uses.length (ints uses))] ∧ (ux ≤ p.wide.toNat) ∧ (BadI p ps cs uses xf bl0 ux 0) ∧ (BesI ps cs uses bs0)) (fun ux => p.wide.toNat - ux) 0 ⟨(List.replicate uses.length false), 0, Bs.as _ rfl, (By.c_5 (i := 0) rfl (by rw [List.length_replicate, hul]) (by rw [hul])), Nat.zero_le _, BadI.zero, BesI.zero⟩ ?_
 clear Bs By Dc
 rintro ux Dd ES ⟨bl0, bs0, A1, d, hkx, hbi, hbs⟩
 refine b_6 (m2 (s1 A1 (a_0 rfl A1.e) fun De A2 => ?_)); clear A1 Dd
 refine s1 A2 (a_2 rfl fd_24_0 A2.e) fun Df A3 => ?_; clear A2 De
 refine s1 A3 (a_3 rfl ty_3 A3.e (d.bk 2 rfl) rfl) fun Dg Ap => ?_; clear A3 Df
 refine s1 Ap (e_2 rfl Ap.e Ap.e) fun CE M => ?_; clear Ap Dg
 refine n1 ?_
 by_cases Bz : (ux : Int) < p.wide
 ·skip
  rw [decide_eq_true Bz] at M
  refine c_1 M rfl (c_0 (b_0 (b_6 (c_9 (m2 (s1 M (a_1 rfl (evc _ _)) fun Dh Bt => ?_)))))); clear M CE
  refine n1 (c_9 ?_)
  have Bu := Bt.as [(12, (iv 0)), (11, (iv (ux : Int))), (10, (Value.int .u64 (bs0 : Int))), (9, B), (4, (bptr J 0)), (3, (bptr N 0)), (2, (Value.int .u64 (xf : Int)))] rfl; clear Bt
  refine g_6 (G := Nat) (fun (uy : Nat) a_ w_ => ∃ bl1 : List Bool, ∃ bs1 : Nat, Fr 100 [] [(12, (iv (uy : Int))), (11, (iv (ux : Int))), (10, (Value.int .u64 (bs1 : Int))), (9, B), (4, (bptr J 0)), (3, (bptr N 0)), (2, (Value.int .u64 (xf : Int)))] a_ ∧ Sep NoB w w_ [(row B 4 1 bl1.length (d_1 bl1)), (blk J 37 [vc, vu]), (blk N 24 [(iv p.wide), (iv p.long), (iv p.saw), vw]), (sl vw 8 p.wants.length (recC d_6 p.wants)), (sl vc 3 cuts.length (recC cutC cuts)), (sl vu 1 uses.length (ints uses))] ∧ (uy ≤ p.long.toNat) ∧ (BadI p ps cs uses xf bl1 ux uy) ∧ (BesI ps cs uses bs1)) (fun uy => p.long.toNat - uy) 0 ⟨bl0, bs0, Bu.as _ rfl, d, Nat.zero_le _, hbi, hbs⟩ ?_
  clear Bu d Dh
  rintro uy Di ET ⟨bl1, bs1, A4, Au, hky, hbi1, hbs1⟩
  have hwl := wan_lt ps cs uses (ux : Int) (uy : Int); have hbl := hbi1.len; have hbb := hbs1.1
  refine b_6 (m2 (s1 A4 (a_0 rfl A4.e) fun Dj A5 => ?_)); clear A4 Di
  refine s1 A5 (a_2 rfl fd_24_1 A5.e) fun Dk A6 => ?_; clear A5 Dj
  refine s1 A6 (a_3 rfl ty_3 A6.e (Au.bk 2 rfl) rfl) fun Dl Aq => ?_; clear A6 Dk
  refine s1 Aq (e_2 rfl Aq.e Aq.e) fun Dm L => ?_; clear Aq Dl
  refine n1 ?_
  by_cases B0 : (uy : Int) < p.long
  ·skip
   rw [decide_eq_true B0] at L
   refine c_1 L rfl (c_0 (b_0 (b_6 (c_9 (b_6 ?_)))))
   have Bv := L.as [(12, (iv (uy : Int))), (11, (iv (ux : Int))), (10, (Value.int .u64 (bs1 : Int))), (9, B), (4, (bptr J 0)), (3, (bptr N 0)), (2, (Value.int .u64 (xf : Int)))] rfl; clear L
   refine c_drawV mixed Bv Au 13 [[], [0], [], [2], [], [], [1, 3, 4, 5], [6], [7], [7], [7], [8], [9]] [(yw (Value.agg #[(iv p.wide), (iv p.long), (iv p.saw), vw])), (fun (C : Nat → Value) (v_ : Value) (rs_ : List Res) => ∃ (u1_ : Value), v_ = (Value.agg #[(iv p.wide), (iv p.long), (iv p.saw), u1_]) ∧ rs_ = [(row u1_ 57 8 p.wants.length (recC d_6 p.wants))]), (yw (Value.agg #[vc, vu])), (fun (C : Nat → Value) (v_ : Value) (rs_ : List Res) => ∃ (u3_ : Value), ∃ (t3_ : Value), v_ = (Value.agg #[u3_, t3_]) ∧ rs_ = [(row u3_ 109 3 cuts.length (recC cutC cuts)), (row t3_ 3 1 uses.length (ints uses))]), (yw (iv (ux : Int))), (yw (iv (uy : Int))), (yw (Value.tuple #[(iv (p_8 ps cs (ux : Int) (uy : Int))), (iv (wanF ps cs uses (ux : Int) (uy : Int))), (iv 0)])), (yw (Value.tuple #[(iv (p_8 ps cs (ux : Int) (uy : Int))), (iv (wanF ps cs uses (ux : Int) (uy : Int))), (iv 0)])), (yw (iv (p_8 ps cs (ux : Int) (uy : Int)))), (yw (iv (wanF ps cs uses (ux : Int) (uy : Int)))), (yw (iv 0)), (yw (iv (p_8 ps cs (ux : Int) (uy : Int)))), (yw (iv (wanF ps cs uses (ux : Int) (uy : Int))))] (by decide +kernel) (by decide +kernel) rfl rfl ⟨dw, (fun _ _ _ _ _ h_ => h_), dw, (fun _ _ _ _ _ h_ => h_), dw, dw, dw, dw, dw, dw, dw, dw, dw, trivial⟩ ?_ ?_
   ·skip
    refine ⟨fun a w C hA hS hd => gv1 (c_2 rfl s_0 (hA.ev rfl) (hS.bk 2 rfl) (l := [(iv p.wide), (iv p.long), (iv p.saw), vw]) rfl rfl), ?_⟩
    refine ⟨fun a w C hA hS hd => e_7 rfl (vn (b_5 rfl en_19 (ev1 (gu hd 0)) (plate_ok p vw _ (hS.sk 3 rfl) (by omega))) (fun v w' h => by obtain ⟨u, rfl, hT⟩ := h; exact ⟨_, ⟨u, rfl, rfl⟩, hT, rfl⟩)), ?_⟩
    refine ⟨fun a w C hA hS hd => gv1 (c_2 rfl s_1 (hA.ev rfl) (hS.bk 1 rfl) (l := [vc, vu]) rfl rfl), ?_⟩
    refine ⟨fun a w C hA hS hd => e_7 rfl (vn (b_5 rfl en_20 (ev1 (gu hd 2)) (plan_ok _ cuts _ (hS.sk 4 rfl) uses _ (hS.sk 5 rfl) (by omega) (by omega))) (fun v w' h => by obtain ⟨u, t, rfl, hT⟩ := h; exact ⟨_, ⟨u, t, rfl, rfl⟩, hT, rfl⟩)), ?_⟩
    refine ⟨fun a w C hA hS hd => gv1 (a_0 rfl hA.e), ?_⟩
    refine ⟨fun a w C hA hS hd => gv1 (a_0 rfl hA.e), ?_⟩
    refine ⟨fun a w C hA hS hd => ?_, ?_⟩
    ·skip
     obtain ⟨e1, EP, D6, D1⟩ := hd 1 (by decide)
     obtain ⟨u1_, D4, D2⟩ := D6; subst D2
     rw [D4] at e1
     have hp1_0 := D1 _ (List.mem_of_getElem? (i := 0) rfl)
     obtain ⟨e3, EQ, D7, CI⟩ := hd 3 (by decide)
     obtain ⟨u3_, t3_, D5, D3⟩ := D7; subst D3
     rw [D5] at e3
     have hp3_0 := CI _ (List.mem_of_getElem? (i := 0) rfl)
     have hp3_1 := CI _ (List.mem_of_getElem? (i := 1) rfl)
     exact gx1 (b_5 rfl en_13 (ev4 (e_0 (j_5 e1 rfl)) (e_0 (j_5 e3 rfl)) (gu hd 4) (gu hd 5)) (trace_ok p u1_ _ (SlAt.b_4 hp1_0) cuts u3_ (SlAt.b_4 hp3_0) uses t3_ (SlAt.b_4 hp3_1) hV ps cs hok (ux : Int) (uy : Int) (by omega) (by omega)))
    refine ⟨fun a w C hA hS hd => gv1 (a_0 rfl (gu hd 6)), ?_⟩
    refine ⟨fun a w C hA hS hd => gv1 (c_4 rfl (gu hd 7) rfl), ?_⟩
    refine ⟨fun a w C hA hS hd => gv1 (c_4 rfl (gu hd 7) rfl), ?_⟩
    refine ⟨fun a w C hA hS hd => gv1 (c_4 rfl (gu hd 7) rfl), ?_⟩
    refine ⟨fun a w C hA hS hd => gv1 (a_1 rfl (gu hd 8)), ?_⟩
    refine ⟨fun a w C hA hS hd => gv1 (a_1 rfl (gu hd 9)), ?_⟩
    trivial
   intro Dn D8 C rsf72 Bw A BI; clear Bv Au
   obtain ⟨DM, DQ⟩ := A 1 (by decide)
   obtain ⟨u1_, DO, B1⟩ := DQ
   obtain ⟨DN, DR⟩ := A 3 (by decide)
   obtain ⟨u3_, t3_, DP, B2⟩ := DR
   have H : Sep NoB w D8 [(row u1_ 57 8 p.wants.length (recC d_6 p.wants)), (row u3_ 109 3 cuts.length (recC cutC cuts)), (row t3_ 3 1 uses.length (ints uses)), (row B 4 1 bl1.length (d_1 bl1)), (blk J 37 [vc, vu]), (blk N 24 [(iv p.wide), (iv p.long), (iv p.saw), vw]), (sl vw 8 p.wants.length (recC d_6 p.wants)), (sl vc 3 cuts.length (recC cutC cuts)), (sl vu 1 uses.length (ints uses))] := by rw [show catR rsf72 0 13 = ([(row u1_ 57 8 p.wants.length (recC d_6 p.wants)), (row u3_ 109 3 cuts.length (recC cutC cuts)), (row t3_ 3 1 uses.length (ints uses))] : List Res) by (try simp only [catR, gr (A 0 (by decide)), B1, gr (A 2 (by decide)), B2, gr (A 4 (by decide)), gr (A 5 (by decide)), gr (A 6 (by decide)), gr (A 7 (by decide)), gr (A 8 (by decide)), gr (A 9 (by decide)), gr (A 10 (by decide)), gr (A 11 (by decide)), gr (A 12 (by decide))]); (try rfl)] at BI; exact BI
   have Bx := Bw.add (gs (A 10 (by decide))); clear Bw
   have A7 := Bx.add (gs (A 12 (by decide))); clear Bx
   clear A BI DM DN
   clear B1
   clear DO
   clear B2
   clear DP
   refine s1 A7 (a_1 rfl A7.e) fun Do A8 => ?_; clear A7 Dn
   refine n2 (m2 (s1 A8 (a_0 rfl A8.e) fun Dp A9 => ?_)); clear A8 Do
   refine s1 A9 (j_7 rfl A9.e (evc _ _)) fun Dq BA => ?_; clear A9 Dp
   refine s1 BA (a_0 rfl BA.e) fun Dr BB => ?_; clear BA Dq
   refine s5 BB (a_0 rfl BB.e) fun Ds BC => ?_; clear BB Dr
   refine s5 BC (a_0 rfl BC.e) fun Dt BD => ?_; clear BC Ds
   refine s5 BD (d_7 rfl h_2 BD.e (SlAt.b_4 (H.b_7 3 rfl))) fun Du Ar => ?_; clear BD Dt
   refine s5 Ar (l_9 rfl Ar.e Ar.e) fun Dv c => ?_; clear Ar Du
   have DL : ¬ ((bl1.length : Int) ≤ (wanF ps cs uses (ux : Int) (uy : Int))) := (by omega)
   rw [decide_eq_false DL] at c
   refine s1 c (a_8 rfl c.e c.e) fun Dw BE => ?_; clear c Dv
   refine n1 (b_3 BE rfl (c_0 (b_0 (b_6 ?_))))
   have BF := BE.as [(14, (iv (wanF ps cs uses (ux : Int) (uy : Int)))), (12, (iv (uy : Int))), (11, (iv (ux : Int))), (10, (Value.int .u64 (bs1 : Int))), (9, B), (4, (bptr J 0)), (3, (bptr N 0)), (2, (Value.int .u64 (xf : Int)))] rfl; clear BE
   refine a_5 (s1 BF (a_0 rfl BF.e) fun Dx BG => ?_); clear BF Dw
   refine s1 BG (op_mul rfl (evc _ _) BG.e (by omega) (by omega)) fun Dy BH => ?_; clear BG Dx
   refine s1 BH (a_0 rfl BH.e) fun CJ O => ?_; clear BH Dy
   refine s1 O (c_6 rfl O.e O.e (by omega) (by omega)) fun CK f => ?_; clear O CJ
   refine s1 f (op_conv un_3 un_83 rfl f.e (v := (8 * (ux : Int)) + (uy : Int)) (wrap_u64 (by omega) (by omega))) fun CL g => ?_; clear f CK
   refine s1 g (op_shl64 rfl (evc _ _) (k := ((8 * (ux : Int)) + (uy : Int)).toNat) (g.e.trans (i_8 (by omega))) (by omega)) fun CM j => ?_; clear g CL
   refine s1 j (a_1 rfl j.e) fun CN BJ => ?_; clear j CM
   refine n2 ?_
   have o := BJ.as [(16, (Value.int .u64 ((2 ^ ((8 * (ux : Int)) + (uy : Int)).toNat : Nat) : Int))), (14, (iv (wanF ps cs uses (ux : Int) (uy : Int)))), (12, (iv (uy : Int))), (11, (iv (ux : Int))), (10, (Value.int .u64 (bs1 : Int))), (9, B), (4, (bptr J 0)), (3, (bptr N 0)), (2, (Value.int .u64 (xf : Int)))] rfl; clear BJ
   refine a_5 (s1 o (a_0 rfl o.e) fun CO q => ?_); clear o CN
   refine s1 q (l_9 rfl q.e (evc _ _)) fun Bh E => ?_; clear q CO
   refine n1 ?_
   by_cases Be : 0 ≤ (wanF ps cs uses (ux : Int) (uy : Int))
   ·skip
    rw [decide_eq_true Be] at E
    refine c_1 E rfl (a_5 (s1 E (a_0 rfl E.e) fun CP r => ?_)); clear E Bh
    refine s1 r (a_0 rfl r.e) fun CQ s => ?_; clear r CP
    refine s1 s (a_0 rfl s.e) fun CR x => ?_; clear s CQ
    refine s1 x (a_0 rfl x.e) fun CS P => ?_; clear x CR
    refine s1 P (b_8 rfl h_2 ty_4 P.e (i := (wanF ps cs uses (ux : Int) (uy : Int)).toNat) (P.e.trans (i_8 (by omega))) (SlAt.b_4 (H.b_7 3 rfl)) (by decide) (by omega)) fun CT y => ?_; clear P CS
    refine s1 y (d_3 rfl ty_4 y.e (SlAt.b_4 (H.b_7 3 rfl)) (h_6 (by omega))) fun CU z => ?_; clear y CT
    refine s1 z (a_0 rfl z.e) fun Bi K => ?_; clear z CU
    rcases Bool.eq_false_or_eq_true ((bl1.getD ((wanF ps cs uses (ux : Int) (uy : Int)).toNat) false)) with Av | Av
    ·skip
     rw [Av] at K
     refine s3 K fun CV BK => ?_; clear K Bi
     refine s3 BK fun CW BL => ?_; clear BK CV
     refine s3 BL fun CX BM => ?_; clear BL CW
     refine s3 BM fun CY AA => ?_; clear BM CX
     refine s1 AA (a_6 rfl AA.e (evc _ _)) fun CZ Q => ?_; clear AA CY
     refine s1 Q (b_8 rfl h_2 ty_4 Q.e (i := (wanF ps cs uses (ux : Int) (uy : Int)).toNat) (Q.e.trans (i_8 (by omega))) (SlAt.b_4 (H.b_7 3 rfl)) (by decide) (by omega)) fun Ca R => ?_; clear Q CZ
     refine s7 R (o_2 H rfl ty_4 R.e R.e (i := 3) rfl (vs := [(Value.bool true)]) rfl rfl rfl (by rw [n_1]; omega) (by decide)) ?_
     intro _ EJ BX BN; have BY := BX.c_5 (i := 3) rfl (n' := (bl1.set ((wanF ps cs uses (ux : Int) (uy : Int)).toNat) true).length) (xs' := (d_1 (bl1.set ((wanF ps cs uses (ux : Int) (uy : Int)).toNat) true))) (by simp) (by simp [m_7, d_1, List.map_set]); clear BX R H
     refine d_0 (f_8 (b_0 ?_))
     have AB := BN.as [(12, (iv (uy : Int))), (11, (iv (ux : Int))), (10, (Value.int .u64 (bs1 : Int))), (9, B), (4, (bptr J 0)), (3, (bptr N 0)), (2, (Value.int .u64 (xf : Int)))] rfl; clear BN
     refine a_5 (s1 AB (a_0 rfl AB.e) fun Cb AC => ?_); clear AB Ca
     refine s1 AC (c_6 rfl AC.e (evc _ _) (by omega) (by omega)) fun Cc AD => ?_; clear AC Cb
     refine s1 AD (a_1 rfl AD.e) fun EA B4 => ?_; clear AD Cc
     refine d_0 ?_
     have CA := BY.gkp (gpc 3 (gpc 4 (gpc 5 (gpc 6 (gpc 7 (gpc 8 gpn)))))); clear BY
     exact b_0 ⟨uy + 1, ⟨(bl1.set ((wanF ps cs uses (ux : Int) (uy : Int)).toNat) true), bs1, B4.as _ rfl, CA, by omega, (by first | exact hbi1.skip (by omega) | exact hbi1.set (kk := (8 * (ux : Int) + (uy : Int)).toNat) (by omega) (by omega) (by first | (simp only [*, Bool.true_or]; done) | exact (congrArg (· || _) (show bl1.getD _ false = false by assumption)).symm ▸ bit_ne | (rw [show bl1.getD (wanF ps cs uses ux uy).toNat false = false by assumption, Bool.false_or]; exact bit_ne))), (by first | exact hbs1 | exact hbs1.set (ux := ux) (uy := uy) (kk := (8 * (ux : Int) + (uy : Int)).toNat) (by omega) (by omega) (by omega) (by omega))⟩, by omega⟩
    skip
    rw [Av] at K
    refine s5 K (a_0 rfl K.e) fun Cd AE => ?_; clear K Bi
    refine s5 AE (a_0 rfl AE.e) fun Ce S => ?_; clear AE Cd
    refine s5 S (op_and64 rfl (m := xf) S.e (n := (2 ^ ((8 * (ux : Int)) + (uy : Int)).toNat : Nat)) S.e (by first | omega | exact r_5 (by omega) | exact i_5 (by omega)) (by first | omega | exact r_5 (by omega) | exact i_5 (by omega))) fun Cf AF => ?_; clear S Ce
    refine s5 AF (j_7 rfl AF.e (evc _ _)) fun Cg T => ?_; clear AF Cf
    refine s1 T (a_8 rfl T.e T.e) fun Ch U => ?_; clear T Cg
    refine s1 U (b_8 rfl h_2 ty_4 U.e (i := (wanF ps cs uses (ux : Int) (uy : Int)).toNat) (U.e.trans (i_8 (by omega))) (SlAt.b_4 (H.b_7 3 rfl)) (by decide) (by omega)) fun Ci V => ?_; clear U Ch
    refine s7 V (o_2 H rfl ty_4 V.e V.e (i := 3) rfl (vs := [(Value.bool (!(decide (((xf &&& (2 ^ ((8 * (ux : Int)) + (uy : Int)).toNat : Nat) : Nat) : Int) = 0))))]) rfl rfl rfl (by rw [n_1]; omega) (by decide)) ?_
    intro _ EK BZ BO; have Ba := BZ.c_5 (i := 3) rfl (n' := (bl1.set ((wanF ps cs uses (ux : Int) (uy : Int)).toNat) (!(decide (((xf &&& (2 ^ ((8 * (ux : Int)) + (uy : Int)).toNat : Nat) : Nat) : Int) = 0)))).length) (xs' := (d_1 (bl1.set ((wanF ps cs uses (ux : Int) (uy : Int)).toNat) (!(decide (((xf &&& (2 ^ ((8 * (ux : Int)) + (uy : Int)).toNat : Nat) : Nat) : Int) = 0)))))) (by simp) (by simp [m_7, d_1, List.map_set]); clear BZ V H
    refine d_0 (f_8 (b_0 ?_))
    have AG := BO.as [(12, (iv (uy : Int))), (11, (iv (ux : Int))), (10, (Value.int .u64 (bs1 : Int))), (9, B), (4, (bptr J 0)), (3, (bptr N 0)), (2, (Value.int .u64 (xf : Int)))] rfl; clear BO
    refine a_5 (s1 AG (a_0 rfl AG.e) fun Cj AH => ?_); clear AG Ci
    refine s1 AH (c_6 rfl AH.e (evc _ _) (by omega) (by omega)) fun Ck AI => ?_; clear AH Cj
    refine s1 AI (a_1 rfl AI.e) fun EB B5 => ?_; clear AI Ck
    refine d_0 ?_
    have CB := Ba.gkp (gpc 3 (gpc 4 (gpc 5 (gpc 6 (gpc 7 (gpc 8 gpn)))))); clear Ba
    exact b_0 ⟨uy + 1, ⟨(bl1.set ((wanF ps cs uses (ux : Int) (uy : Int)).toNat) (!(decide (((xf &&& (2 ^ ((8 * (ux : Int)) + (uy : Int)).toNat : Nat) : Nat) : Int) = 0)))), bs1, B5.as _ rfl, CB, by omega, (by first | exact hbi1.skip (by omega) | exact hbi1.set (kk := (8 * (ux : Int) + (uy : Int)).toNat) (by omega) (by omega) (by first | (simp only [*, Bool.true_or]; done) | exact (congrArg (· || _) (show bl1.getD _ false = false by assumption)).symm ▸ bit_ne | (rw [show bl1.getD (wanF ps cs uses ux uy).toNat false = false by assumption, Bool.false_or]; exact bit_ne))), (by first | exact hbs1 | exact hbs1.set (ux := ux) (uy := uy) (kk := (8 * (ux : Int) + (uy : Int)).toNat) (by omega) (by omega) (by omega) (by omega))⟩, by omega⟩
   skip
   rw [decide_eq_false Be] at E
   refine b_3 E rfl (a_5 (s1 E (a_0 rfl E.e) fun Cl AJ => ?_)); clear E Bh
   refine s1 AJ (a_0 rfl AJ.e) fun Cm W => ?_; clear AJ Cl
   refine s1 W (op_or64 rfl (m := bs1) W.e (n := (2 ^ ((8 * (ux : Int)) + (uy : Int)).toNat : Nat)) W.e (by first | omega | exact r_5 (by omega) | exact i_5 (by omega)) (by first | omega | exact r_5 (by omega) | exact i_5 (by omega))) fun Cn AK => ?_; clear W Cm
   refine s1 AK (a_1 rfl AK.e) fun Co BP => ?_; clear AK Cn
   refine d_0 (f_8 (b_0 ?_))
   have AL := BP.as [(10, (Value.int .u64 ((bs1 ||| (2 ^ ((8 * (ux : Int)) + (uy : Int)).toNat : Nat) : Nat) : Int))), (12, (iv (uy : Int))), (11, (iv (ux : Int))), (9, B), (4, (bptr J 0)), (3, (bptr N 0)), (2, (Value.int .u64 (xf : Int)))] rfl; clear BP
   refine a_5 (s1 AL (a_0 rfl AL.e) fun Cp AM => ?_); clear AL Co
   refine s1 AM (c_6 rfl AM.e (evc _ _) (by omega) (by omega)) fun Cq AN => ?_; clear AM Cp
   refine s1 AN (a_1 rfl AN.e) fun EC B6 => ?_; clear AN Cq
   refine d_0 ?_
   have CC := H.gkp (gpc 3 (gpc 4 (gpc 5 (gpc 6 (gpc 7 (gpc 8 gpn)))))); clear H
   exact b_0 ⟨uy + 1, ⟨bl1, (bs1 ||| (2 ^ ((8 * (ux : Int)) + (uy : Int)).toNat : Nat) : Nat), B6.as _ rfl, CC, by omega, (by first | exact hbi1.skip (by omega) | exact hbi1.set (kk := (8 * (ux : Int) + (uy : Int)).toNat) (by omega) (by omega) (by first | (simp only [*, Bool.true_or]; done) | exact (congrArg (· || _) (show bl1.getD _ false = false by assumption)).symm ▸ bit_ne | (rw [show bl1.getD (wanF ps cs uses ux uy).toNat false = false by assumption, Bool.false_or]; exact bit_ne))), (by first | exact hbs1 | exact hbs1.set (ux := ux) (uy := uy) (kk := (8 * (ux : Int) + (uy : Int)).toNat) (by omega) (by omega) (by omega) (by omega))⟩, by omega⟩
  skip
  rw [decide_eq_false B0] at L
  refine b_3 L rfl (g_5 (b_9 (b_9 (f_1 (f_8 (b_0 (a_5 (s1 L (a_0 rfl L.e) fun Cr AO => ?_)))))))); clear L Dm
  refine s1 AO (c_6 rfl AO.e (evc _ _) (by omega) (by omega)) fun Cs AP => ?_; clear AO Cr
  refine s1 AP (a_1 rfl AP.e) fun ED B7 => ?_; clear AP Cs
  refine d_0 ?_
  exact b_0 ⟨ux + 1, ⟨bl1, bs1, B7.as _ rfl, Au, by omega, (hbi1.row (by omega)), hbs1⟩, by omega⟩
 skip
 rw [decide_eq_false Bz] at M
 refine b_3 M rfl (g_5 (b_9 (b_9 (f_1 (b_0 (b_6 ?_))))))
 have BQ := M.as [(10, (Value.int .u64 (bs0 : Int))), (9, B), (4, (bptr J 0))] rfl; clear M
 refine a_5 (s1 BQ (a_1 rfl (evc _ _)) fun Ct BR => ?_); clear BQ CE
 have Bb := d.i_4 4 1; clear d
 refine n2 (m2 (s1 BR (a_1 rfl (evc _ _)) fun Cu BS => ?_)); clear BR Ct
 refine n1 (c_9 ?_)
 have BT := BS.as [(18, (iv 0)), (17, (Value.slice none 0 0)), (10, (Value.int .u64 (bs0 : Int))), (9, B), (4, (bptr J 0))] rfl; clear BS
 refine g_6 (G := Nat) (fun (k : Nat) a_ w_ => ∃ v17_ : Value, Fr 100 [] [(18, (iv (k : Int))), (17, v17_), (10, (Value.int .u64 (bs0 : Int))), (9, B), (4, (bptr J 0))] a_ ∧ Sep NoB w w_ [(row v17_ 4 1 ((outU uses bl0 k).length) (d_1 (outU uses bl0 k))), (row B 4 1 bl0.length (d_1 bl0)), (blk J 37 [vc, vu]), (blk N 24 [(iv p.wide), (iv p.long), (iv p.saw), vw]), (sl vw 8 p.wants.length (recC d_6 p.wants)), (sl vc 3 cuts.length (recC cutC cuts)), (sl vu 1 uses.length (ints uses))] ∧ (k ≤ uses.length)) (fun k => uses.length - k) 0 ⟨(Value.slice none 0 0), BT.as _ rfl, (Bb.c_5 (i := 0) rfl (by rfl) (by rfl)), by omega⟩ ?_
 clear BT Bb Cu
 rintro k Cv EL ⟨v17_, AQ, D, hkk⟩
 have hol := outU_len uses bl0 k; have hbl0 := hbi.len
 refine b_6 (m2 (s1 AQ (a_0 rfl AQ.e) fun Cw AR => ?_)); clear AQ Cv
 refine s1 AR (a_2 rfl g_8 AR.e) fun Cx AS => ?_; clear AR Cw
 refine s1 AS (a_3 rfl l_8 AS.e (D.bk 2 rfl) rfl) fun Cy AT => ?_; clear AS Cx
 refine s1 AT (d_7 rfl k_0 AT.e (D.sk 6 rfl)) fun Cz X => ?_; clear AT Cy
 refine s1 X (e_2 rfl X.e X.e) fun Bj F => ?_; clear X Cz
 refine n1 ?_
 by_cases Bf : (k : Int) < (uses.length : Int)
 ·skip
  rw [decide_eq_true Bf] at F
  refine c_1 F rfl (c_0 (b_0 (b_6 (c_9 (m2 (s1 F (a_2 rfl g_8 F.e) fun C0 AV => ?_)))))); clear F Bj
  refine s1 AV (a_3 rfl l_8 AV.e (D.bk 2 rfl) rfl) fun C1 AW => ?_; clear AV C0
  refine s1 AW (a_0 rfl AW.e) fun C2 Y => ?_; clear AW C1
  refine s1 Y (b_8 rfl k_0 ty_3 Y.e (i := k) Y.e (D.sk 6 rfl) (by decide) (by omega)) fun C3 AX => ?_; clear Y C2
  refine s1 AX (d_3 rfl ty_3 AX.e (D.sk 6 rfl) (ints_at (by omega))) fun C4 AY => ?_; clear AX C3
  refine s1 AY (l_9 rfl AY.e (evc _ _)) fun Bk I => ?_; clear AY C4
  refine n1 ?_
  by_cases Bg : 0 ≤ (uses.getD k 0)
  ·skip
   rw [decide_eq_true Bg] at I
   refine c_1 I rfl ?_
   have AZ := I.as [(18, (iv (k : Int))), (17, v17_), (10, (Value.int .u64 (bs0 : Int))), (9, B), (4, (bptr J 0))] rfl; clear I
   refine a_5 (s1 AZ (a_0 rfl AZ.e) fun C5 Aa => ?_); clear AZ Bk
   refine s1 Aa (a_0 rfl Aa.e) fun C6 Ab => ?_; clear Aa C5
   refine s1 Ab (a_0 rfl Ab.e) fun C7 Z => ?_; clear Ab C6
   refine s1 Z (b_8 rfl h_2 ty_4 Z.e (i := k) Z.e (SlAt.b_4 (D.b_7 1 rfl)) (by decide) (by omega)) fun C8 Ac => ?_; clear Z C7
   refine s1 Ac (d_3 rfl ty_4 Ac.e (SlAt.b_4 (D.b_7 1 rfl)) (h_6 (by omega))) fun C9 Ad => ?_; clear Ac C8
   refine s2 Ad (c_7 D rfl (pv1 Ad.e) h_2 ty_4 ze_4 (by decide) (cs := [(Value.bool (bl0.getD k false))]) (o_0 _)) ?_
   rintro DA _ EM ⟨EI, rfl, At⟩ b; clear Ad D C9
   refine s2 b (e_9 At rfl h_2 el_4 b.e b.e (i := 1) rfl (SlAt.h_3 (n := 1) (At.bk 0 rfl) rfl (Nat.le_of_ble_eq_true rfl)) rfl (by simp only [maxLen]; omega) (by omega)) ?_
   intro DB B3 EN Bc Ae
   have Bd := Bc.c_5 (i := 1) rfl (n' := ((outU uses bl0 k) ++ [(bl0.getD k false)]).length) (xs' := (d_1 ((outU uses bl0 k) ++ [(bl0.getD k false)]))) (g_4 (outU uses bl0 k) (bl0.getD k false)) (boolC_snoc (outU uses bl0 k) (bl0.getD k false)); clear Bc b At DA
   refine s1 Ae (a_1 rfl Ae.e) fun DC BU => ?_; clear Ae DB
   refine d_0 (f_8 (b_0 ?_))
   have Af := BU.as [(17, B3), (18, (iv (k : Int))), (10, (Value.int .u64 (bs0 : Int))), (9, B), (4, (bptr J 0))] rfl; clear BU
   refine a_5 (s1 Af (a_0 rfl Af.e) fun DD Ag => ?_); clear Af DC
   refine s1 Ag (c_6 rfl Ag.e (evc _ _) (by omega) (by omega)) fun DE Ah => ?_; clear Ag DD
   refine s1 Ah (a_1 rfl Ah.e) fun EE B8 => ?_; clear Ah DE
   refine d_0 ?_
   have CD := Bd.gkp (gpc 1 (gpc 2 (gpc 3 (gpc 4 (gpc 5 (gpc 6 (gpc 7 gpn))))))); clear Bd
   exact b_0 ⟨k + 1, ⟨B3, B8.as _ rfl, (CD.c_5 (i := 0) rfl (by first | rw [outU_y (by omega)] | rw [outU_n (by omega)]) (by first | rw [outU_y (by omega)] | rw [outU_n (by omega)])), by omega⟩, by omega⟩
  skip
  rw [decide_eq_false Bg] at I
  refine b_3 I rfl (c_0 (f_8 (b_0 ?_)))
  have Ai := I.as [(18, (iv (k : Int))), (17, v17_), (10, (Value.int .u64 (bs0 : Int))), (9, B), (4, (bptr J 0))] rfl; clear I
  refine a_5 (s1 Ai (a_0 rfl Ai.e) fun DF Aj => ?_); clear Ai Bk
  refine s1 Aj (c_6 rfl Aj.e (evc _ _) (by omega) (by omega)) fun DG Ak => ?_; clear Aj DF
  refine s1 Ak (a_1 rfl Ak.e) fun EF B9 => ?_; clear Ak DG
  refine d_0 ?_
  exact b_0 ⟨k + 1, ⟨v17_, B9.as _ rfl, (D.c_5 (i := 0) rfl (by first | rw [outU_y (by omega)] | rw [outU_n (by omega)]) (by first | rw [outU_y (by omega)] | rw [outU_n (by omega)])), by omega⟩, by omega⟩
 skip
 rw [decide_eq_false Bf] at F
 refine b_3 F rfl (g_5 (b_9 (b_9 (f_1 (b_0 (b_6 ?_))))))
 have Al := F.as [(17, v17_), (10, (Value.int .u64 (bs0 : Int)))] rfl; clear F
 refine a_5 (s1 Al (a_0 rfl Al.e) fun DH Am => ?_); clear Al Bj
 refine s1 Am (a_0 rfl Am.e) fun DI An => ?_; clear Am DH
 refine s1 An (a_1 rfl An.e) fun DJ Ao => ?_; clear An DI
 refine s1 Ao (a_1 rfl Ao.e) fun DK BV => ?_; clear Ao DJ
 refine s1 BV (a_1 rfl (evc _ _)) fun EG BW => ?_; clear BV DK
 refine n1 (c_3 (a_9 BW (.inl rfl) (g_0 BW rfl (.tmp rfl) (.tmp rfl) (.tmp rfl)) ?_))
 have hz := D.c_5 (i := 0) rfl (n' := (outU uses bl0 uses.length).length) (xs' := d_1 (outU uses bl0 uses.length)) (by rw [show k = uses.length by omega]) (by rw [show k = uses.length by omega])
 exact ⟨outU uses bl0 uses.length, bs0, _, rfl, ⟨⟨bl0, (by rw [← show ux = p.wide.toNat by omega]; exact hbi), rfl⟩, hbs⟩, hz.keep [0] (by decide) _ rfl rfl⟩
end Go.Proofs.Ytphkmnaohimdbaa
