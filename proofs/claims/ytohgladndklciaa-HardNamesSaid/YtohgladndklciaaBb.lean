/-
  When a table is one of a book: told by all its tests at once.
  The error of a book, told by the first thing that is not right; thin books.
  The errors of readings, of a machine's bias, of what a table makes of a range; which machines are off.
  The tables of a book by the scales that they convert: what the map of a bench holds.
  One pass over the tables, in the order of the scales that they lead to, and from: what is left to do.
-/
import Derived.Test.YtohgladndklciaaBa
import Derived.Test.YtohgladndklciaaEngb
set_option linter.unusedSimpArgs false
set_option linter.unusedVariables false
namespace Go.Proofs.Ytohgladndklciaa
open Go.RowKit Go.Shelf Go.Eng Go.Hard
theorem ze_4 : (Try.prog.info? 4).bind (·.zero) = some (Value.bool false) := by kernel_rfl
theorem ty_4 : tyK Try.prog 4 = some (false, 1) := by kernel_rfl
theorem en_116 : ∀ args w, (callFunc 116 args).run Try.prog w = .ok (.enter 116 args) w := enters_of Try.func116 (by kernel_rfl) rfl
theorem en_121 : ∀ args w, (callFunc 121 args).run Try.prog w = .ok (.enter 121 args) w := enters_of Try.func121 (by kernel_rfl) rfl
theorem fd_159_0 : fldK Try.prog 159 0 = some 0 := by kernel_rfl
theorem ty_154 : tyK Try.prog 154 = some (false, 1) := by kernel_rfl
theorem en_103 : ∀ args w, (callFunc 103 args).run Try.prog w = .ok (.enter 103 args) w := enters_of Try.func103 (by kernel_rfl) rfl
theorem bd_159_0f (x0_0 : Fn) (x0_0a x0_0b : Array Value) (w : World) : (Instr.build 159 #[(0, (.func x0_0 x0_0a x0_0b))]).run Try.prog w = .ok (.agg #[(.func x0_0 x0_0a x0_0b)]) w := by kernel_rfl
theorem en_101 : ∀ args w, (callFunc 101 args).run Try.prog w = .ok (.enter 101 args) w := enters_of Try.func101 (by kernel_rfl) rfl
theorem en_72 : ∀ args w, (callFunc 72 args).run Try.prog w = .ok (.enter 72 args) w := enters_of Try.func72 (by kernel_rfl) rfl
theorem w_1 : fldK Try.prog 106 4 = some 4 := by kernel_rfl
theorem makes_dn (t : TabD) (vr vb : Value) (w : World) (hr : SlAt w vr 2 t.rows.length (pairs t.rows)) (hb : SlAt w vb 1 t.brk.length (ints t.brk)) (hrl : t.rows.length ≤ 1000000) (hbl : t.brk.length ≤ 1000000) (n : Int) (hV : TabV n t) (x : Int) :
  Calls Try.prog 101 #[(Value.agg #[(iv t.frm), (iv t.dst), vr, vb, (iv t.err)]), (iv x), (Value.agg #[(Value.func (.func 102) #[] #[])])] w (Ret fun v w' => v = .tuple #[.int .i64 (d_8 t x).1, .bool (l_5 t x).isSome] ∧ Ext NoB w w') := by
 refine calls_enterM Try.func101 rfl fun a0 AF => ?_
 replace AF : Fr 62 (marks []) [(0, (Value.agg #[(iv t.frm), (iv t.dst), vr, vb, (iv t.err)])), (1, (iv x)), (2, (Value.agg #[(Value.func (.func 102) #[] #[])]))] a0 := AF
 have Ba : Sep NoB w w [(g_3 []), (sl vr 2 t.rows.length (pairs t.rows)), (sl vb 1 t.brk.length (ints t.brk))] := sep_marks (f_0 ⟨rfl, hr, rfl, hb, trivial⟩)
 refine m2 (s2 AF (f_3 Ba rfl AF.e (cs := [(iv t.frm), (iv t.dst), vr, vb, (iv t.err)]) rfl) ?_)
 rintro a1 _ w3 ⟨M, rfl, Bb⟩ A4; clear AF Ba a0
 refine s2 A4 (f_3 Bb rfl A4.e (cs := [(iv x)]) rfl) ?_
 rintro a6 _ w8 ⟨H, rfl, BC⟩ A9; clear A4 Bb a1
 refine s2 A9 (f_3 BC rfl A9.e (cs := [(Value.func (.func 102) #[] #[])]) rfl) ?_
 rintro B1 _ Cx ⟨A, rfl, BD⟩ A2; clear A9 BC a6
 refine s2 A2 (d_2 BD rfl ze_3 (cs := [(iv 0)]) rfl) ?_
 rintro B2 _ Cy ⟨B, rfl, BE⟩ A3; clear A2 BD B1
 refine s2 A3 (d_2 BE rfl ze_4 (cs := [(Value.bool false)]) rfl) ?_
 rintro B3 _ Cz ⟨C, rfl, AC⟩ AG; clear A3 BE B2
 refine n2 (m2 (s1 AG (a_4 rfl i_2 AG.e) fun B4 AH => ?_)); clear AG B3
 refine s1 AH (a_3 rfl o_3 AH.e (AC.bk 4 rfl) rfl) fun B5 AI => ?_; clear AH B4
 refine s1 AI (e_8 rfl j_0 AI.e (AC.sk 6 rfl)) fun B6 A5 => ?_; clear AI B5
 refine s1 A5 (a_1 rfl (evc _ _)) fun B7 A6 => ?_; clear A5 B6
 refine n1 (e_3 ?_)
 have A7 := A6.as [(15, (iv 0)), (14, (iv (t.rows.length : Int))), (13, vr), (7, (bptr C 0)), (6, (bptr B 0)), (5, (bptr A 0)), (4, (bptr H 0)), (3, (bptr M 0))] rfl; clear A6
 refine k_4 (G := Nat) (fun (k : Nat) a_ w_ => Fr 62 (marks []) [(15, (iv (k : Int))), (14, (iv (t.rows.length : Int))), (13, vr), (7, (bptr C 0)), (6, (bptr B 0)), (5, (bptr A 0)), (4, (bptr H 0)), (3, (bptr M 0))] a_ ∧ Sep NoB w w_ [(blk C 4 [(Value.bool false)]), (blk B 3 [(iv 0)]), (blk A 159 [(Value.func (.func 102) #[] #[])]), (blk H 3 [(iv x)]), (blk M 106 [(iv t.frm), (iv t.dst), vr, vb, (iv t.err)]), (g_3 []), (sl vr 2 t.rows.length (pairs t.rows)), (sl vb 1 t.brk.length (ints t.brk))] ∧ (k ≤ t.rows.length) ∧ (∀ i, i < k → ¬ tx t i = x)) (fun k => t.rows.length - k) 0 ⟨A7.as _ rfl, AC, by omega, (fun _ h => absurd h (Nat.not_lt_zero _))⟩ ?_
 clear A7 AC B7
 rintro k B8 C0 ⟨p, N, hkk, hrw⟩
 refine m2 (s1 p (h_8 rfl p.e p.e) fun BX F => ?_); clear p B8
 refine n2 ?_
 by_cases BQ : (k : Int) < (t.rows.length : Int)
 ·skip
  rw [decide_eq_true BQ] at F
  refine d_6 F rfl (e_1 (b_3 (d_3 (e_3 (m2 (s1 F (b_6 rfl j_0 h_2 F.e (i := k) F.e (N.sk 6 rfl) (by decide) (by omega)) fun B9 AJ => ?_)))))); clear F BX
  refine s1 AJ (e_7 rfl h_2 AJ.e (N.sk 6 rfl) (g_1 (by omega)) rfl (by decide)) fun CA A8 => ?_; clear AJ B9
  refine s2 A8 (d_2 N rfl v_6 (cs := [(iv 0), (iv 0)]) rfl) ?_
  rintro CB _ C1 ⟨AU, rfl, BF⟩ s; clear A8 N CA
  refine s7 s (b_4 BF rfl h_2 s.e s.e (i := 0) rfl (vs := [(iv ((t.rows.getD k (0, 0)).1)), (iv ((t.rows.getD k (0, 0)).2))]) rfl rfl rfl (Nat.le_of_ble_eq_true rfl)) ?_
  intro _ CS BG AK; clear s
  have O : Sep NoB w CS [(blk AU 107 [(iv ((t.rows.getD k (0, 0)).1)), (iv ((t.rows.getD k (0, 0)).2))]), (blk C 4 [(Value.bool false)]), (blk B 3 [(iv 0)]), (blk A 159 [(Value.func (.func 102) #[] #[])]), (blk H 3 [(iv x)]), (blk M 106 [(iv t.frm), (iv t.dst), vr, vb, (iv t.err)]), (g_3 []), (sl vr 2 t.rows.length (pairs t.rows)), (sl vb 1 t.brk.length (ints t.brk))] := BG; clear BG BF
  refine n4 (s1 AK (a_4 rfl h_9 AK.e) fun CC AL => ?_); clear AK CB
  refine s1 AL (a_3 rfl ty_3 AL.e (O.bk 0 rfl) rfl) fun CD AM => ?_; clear AL CC
  refine s1 AM (a_3 rfl ty_3 AM.e (O.bk 4 rfl) rfl) fun CE u => ?_; clear AM CD
  refine s1 u (j_8 rfl u.e u.e) fun BY K => ?_; clear u CE
  refine n1 ?_
  by_cases BR : ((t.rows.getD k (0, 0)).1) = x
  ·skip
   rw [decide_eq_true BR] at K
   refine d_6 K rfl (d_3 ?_)
   have AN := K.as [(9, (bptr AU 0)), (7, (bptr C 0)), (6, (bptr B 0))] rfl; clear K
   refine a_5 (s1 AN (a_4 rfl k_0 AN.e) fun CF AO => ?_); clear AN BY
   refine s1 AO (a_3 rfl ty_3 AO.e (O.bk 0 rfl) rfl) fun Cu y => ?_; clear AO CF
   refine s7 y (b_4 O rfl ty_3 y.e y.e (i := 2) rfl (vs := [(iv ((t.rows.getD k (0, 0)).2))]) rfl rfl rfl (Nat.le_of_ble_eq_true rfl)) ?_
   intro _ CT BH AP; clear y
   have BI : Sep NoB w CT [(blk AU 107 [(iv ((t.rows.getD k (0, 0)).1)), (iv ((t.rows.getD k (0, 0)).2))]), (blk C 4 [(Value.bool false)]), (blk B 3 [(iv ((t.rows.getD k (0, 0)).2))]), (blk A 159 [(Value.func (.func 102) #[] #[])]), (blk H 3 [(iv x)]), (blk M 106 [(iv t.frm), (iv t.dst), vr, vb, (iv t.err)]), (g_3 []), (sl vr 2 t.rows.length (pairs t.rows)), (sl vb 1 t.brk.length (ints t.brk))] := BH; clear BH O
   refine s7 AP (b_4 BI rfl ty_4 AP.e (evc _ _) (i := 1) rfl (vs := [(Value.bool true)]) rfl rfl rfl (Nat.le_of_ble_eq_true rfl)) ?_
   intro _ CU BJ BA; clear AP
   have BK : Sep NoB w CU [(blk AU 107 [(iv ((t.rows.getD k (0, 0)).1)), (iv ((t.rows.getD k (0, 0)).2))]), (blk C 4 [(Value.bool true)]), (blk B 3 [(iv ((t.rows.getD k (0, 0)).2))]), (blk A 159 [(Value.func (.func 102) #[] #[])]), (blk H 3 [(iv x)]), (blk M 106 [(iv t.frm), (iv t.dst), vr, vb, (iv t.err)]), (g_3 []), (sl vr 2 t.rows.length (pairs t.rows)), (sl vb 1 t.brk.length (ints t.brk))] := BJ; clear BJ BI
   refine n1 (c_6 (e_6 (b_1 (b_1 (e_6 (b_1 ?_))))))
   have BL := BK.gkp (gpc 6 (gpc 0 (gpc 1 (gpc 2 (gpc 3 (gpc 4 (gpc 5 (gpc 7 (gpc 8 gpn))))))))); clear BK
   refine fin_runM BA (.inl rfl) BL ?_
   intro C2 AT; clear BL
   refine ⟨_, (c_4 BA rfl (.cell1 rfl ty_3 (AT.bk 2 rfl) rfl) (.cell1 rfl ty_4 (AT.bk 1 rfl) rfl)), ?_⟩
   have hz := (made_row (k := k) (by omega) (fun i hi => hrw i (by omega)) (by assumption))
   exact ⟨by unfold d_8; rw [hz]; rfl, AT.ext⟩
  skip
  rw [decide_eq_false BR] at K
  refine b_8 K rfl (e_1 (k_7 (b_3 ?_)))
  have AQ := K.as [(15, (iv (k : Int))), (14, (iv (t.rows.length : Int))), (13, vr), (7, (bptr C 0)), (6, (bptr B 0)), (5, (bptr A 0)), (4, (bptr H 0)), (3, (bptr M 0))] rfl; clear K
  refine a_5 (s1 AQ (g_9 rfl AQ.e (evc _ _) (by omega) (by omega)) fun CG AR => ?_); clear AQ BY
  refine s1 AR (a_1 rfl AR.e) fun Cv Bs => ?_; clear AR CG
  refine g_6 ?_
  have Bt := O.gkp (gpc 1 (gpc 2 (gpc 3 (gpc 4 (gpc 5 (gpc 6 (gpc 7 (gpc 8 gpn)))))))); clear O
  exact b_3 ⟨k + 1, ⟨Bs.as _ rfl, Bt, by omega, (fun i hi => by rcases Nat.lt_succ_iff_lt_or_eq.1 hi with h | h; exact hrw i h; subst h; assumption)⟩, by omega⟩
 skip
 rw [decide_eq_false BQ] at F
 refine b_8 F rfl (j_7 (b_7 (b_7 (h_6 (b_3 (d_3 (m2 (s1 F (b_9 rfl j_5 (F.ev rfl) (N.bk 4 rfl) (l := [(iv t.frm), (iv t.dst), vr, vb, (iv t.err)]) rfl rfl) fun CH AS => ?_)))))))); clear F BX
 refine s2 AS (a_8 rfl en_116 (ev1 AS.e) (pieces_ok t vr vb _ hr.one hb.one)) ?_
 rintro Cw _ C3 ⟨bl93, rfl, BP⟩ BB; have BM := N.n_2 BP rfl; clear BP AS N CH
 refine n1 (e_3 ?_)
 have W := BB.as [(27, (Value.func (.func 121) #[] #[(bptr bl93 0)])), (7, (bptr C 0)), (6, (bptr B 0)), (5, (bptr A 0)), (4, (bptr H 0))] rfl; clear BB
 have BN := BM.nilR; clear BM
 have AD := BN.gkp (gpc 7 (gpc 0 (gpc 1 (gpc 2 (gpc 3 (gpc 4 (gpc 5 (gpc 6 (gpc 8 (gpc 9 gpn)))))))))); clear BN
 refine c_rangeG W nilR rfl AD W.e en_121 ((c_8 t).length) (fun q => #[.agg #[.int .i64 (t.rows.getD ((c_8 t).getD q 0) (0, 0)).1, .int .i64 (t.rows.getD ((c_8 t).getD q 0) (0, 0)).2], .agg #[.int .i64 (t.rows.getD ((c_8 t).getD q 0 + 1) (0, 0)).1, .int .i64 (t.rows.getD ((c_8 t).getD q 0 + 1) (0, 0)).2]]) (fun _ => rfl) [rob bl93 106 [.int .i64 t.frm, .int .i64 t.dst, vr, vb, .int .i64 t.err], sl vr 2 t.rows.length (pairs t.rows), sl vb 1 t.brk.length (ints t.brk)] (fun r hr => by simp only [List.mem_cons, List.not_mem_nil, or_false] at hr; rcases hr with rfl | rfl | rfl <;> rfl) (pieces_it bl93 t vr vb hV.len hrl hbl) (fun q L_ => L_ = [(blk bl93 106 [(iv t.frm), (iv t.dst), vr, vb, (iv t.err)]), (blk C 4 [(Value.bool false)]), (blk B 3 [(iv 0)]), (blk A 159 [(Value.func (.func 102) #[] #[])]), (blk H 3 [(iv x)]), (blk M 106 [(iv t.frm), (iv t.dst), vr, vb, (iv t.err)]), (sl vr 2 t.rows.length (pairs t.rows)), (sl vb 1 t.brk.length (ints t.brk))] ∧ (∀ j, j < q → l_9 t x ((c_8 t).getD j 0) = false)) (fun L_ => L_ = [(blk bl93 106 [(iv t.frm), (iv t.dst), vr, vb, (iv t.err)]), (blk C 4 [(Value.bool true)]), (blk B 3 [(iv ((d_8 t x).1))]), (blk A 159 [(Value.func (.func 102) #[] #[])]), (blk H 3 [(iv x)]), (blk M 106 [(iv t.frm), (iv t.dst), vr, vb, (iv t.err)]), (sl vr 2 t.rows.length (pairs t.rows)), (sl vb 1 t.brk.length (ints t.brk))] ∧ ((l_5 t x).isSome = true)) (some .ret) ⟨rfl, (fun _ h => absurd h (Nat.not_lt_zero _))⟩ (fun q L_ hI_ G_ W_ r1_ r2_ hW_ => by obtain ⟨rfl, hpc⟩ := hI_; exact (Sep.keep (hW_.to_ro (i := 3) rfl) [2, 3, 9, 10] (by decide) _ rfl rfl)) (fun L_ hI_ G_ W_ r1_ r2_ hW_ => by obtain ⟨rfl, hsm⟩ := hI_; exact (Sep.keep (hW_.to_ro (i := 3) rfl) [2, 3, 9, 10] (by decide) _ rfl rfl)) ?_ ?_ ?_
 ·skip
  intro q hq L_ hL_ G105 CW AE D103 rc104 BZ C4 Ay BO; obtain ⟨rfl, hpc⟩ := hL_
  have AV : Fr 62 [] [(29, (Value.agg #[(iv ((t.rows.getD (((c_8 t).getD q 0) + 1) (0, 0)).1)), (iv ((t.rows.getD (((c_8 t).getD q 0) + 1) (0, 0)).2))])), (28, (Value.agg #[(iv ((t.rows.getD (((c_8 t).getD q 0)) (0, 0)).1)), (iv ((t.rows.getD (((c_8 t).getD q 0)) (0, 0)).2))])), (27, (Value.func (.func 121) #[] #[(bptr bl93 0)])), (7, (bptr C 0)), (6, (bptr B 0)), (5, (bptr A 0)), (4, (bptr H 0))] BZ := by rw [Ay]; exact Fr.round2 W (by decide) (by decide)
  clear Ay AD
  have hgq : ((c_8 t).getD q 0) < t.rows.length - 1 := (good_mem hq).1; have hbn := hV.bnd _ (show ((c_8 t).getD q 0) < t.rows.length by omega); have hbn1 := hV.bnd (((c_8 t).getD q 0) + 1) (by omega); unfold tx ty at hbn hbn1
  refine m2 (s2 AV (d_2 BO rfl v_6 (cs := [(iv 0), (iv 0)]) rfl) ?_)
  rintro Bc _ Cm ⟨E, rfl, Ag⟩ P; clear AV BO BZ
  refine s7 P (b_4 Ag rfl h_2 P.e P.e (i := 0) rfl (vs := [(iv ((t.rows.getD (((c_8 t).getD q 0)) (0, 0)).1)), (iv ((t.rows.getD (((c_8 t).getD q 0)) (0, 0)).2))]) rfl rfl rfl (Nat.le_of_ble_eq_true rfl)) ?_
  intro _ Bu Ah AW; clear P
  have Ai : Sep NoB w Bu [(blk E 107 [(iv ((t.rows.getD (((c_8 t).getD q 0)) (0, 0)).1)), (iv ((t.rows.getD (((c_8 t).getD q 0)) (0, 0)).2))]), (obR AE (.loop (rc104 .ready none))), (g_3 (D103 :: [])), G105, (blk bl93 106 [(iv t.frm), (iv t.dst), vr, vb, (iv t.err)]), (blk C 4 [(Value.bool false)]), (blk B 3 [(iv 0)]), (blk A 159 [(Value.func (.func 102) #[] #[])]), (blk H 3 [(iv x)]), (blk M 106 [(iv t.frm), (iv t.dst), vr, vb, (iv t.err)]), (sl vr 2 t.rows.length (pairs t.rows)), (sl vb 1 t.brk.length (ints t.brk))] := Ah; clear Ah Ag
  refine n3 (s2 AW (d_2 Ai rfl v_6 (cs := [(iv 0), (iv 0)]) rfl) ?_)
  rintro Bd _ Cn ⟨J, rfl, Aj⟩ Q; clear AW Ai Bc
  refine s7 Q (b_4 Aj rfl h_2 Q.e Q.e (i := 0) rfl (vs := [(iv ((t.rows.getD (((c_8 t).getD q 0) + 1) (0, 0)).1)), (iv ((t.rows.getD (((c_8 t).getD q 0) + 1) (0, 0)).2))]) rfl rfl rfl (Nat.le_of_ble_eq_true rfl)) ?_
  intro _ Bv Ak X; clear Q
  have Al : Sep NoB w Bv [(blk J 107 [(iv ((t.rows.getD (((c_8 t).getD q 0) + 1) (0, 0)).1)), (iv ((t.rows.getD (((c_8 t).getD q 0) + 1) (0, 0)).2))]), (blk E 107 [(iv ((t.rows.getD (((c_8 t).getD q 0)) (0, 0)).1)), (iv ((t.rows.getD (((c_8 t).getD q 0)) (0, 0)).2))]), (obR AE (.loop (rc104 .ready none))), (g_3 (D103 :: [])), G105, (blk bl93 106 [(iv t.frm), (iv t.dst), vr, vb, (iv t.err)]), (blk C 4 [(Value.bool false)]), (blk B 3 [(iv 0)]), (blk A 159 [(Value.func (.func 102) #[] #[])]), (blk H 3 [(iv x)]), (blk M 106 [(iv t.frm), (iv t.dst), vr, vb, (iv t.err)]), (sl vr 2 t.rows.length (pairs t.rows)), (sl vb 1 t.brk.length (ints t.brk))] := Ak; clear Ak Aj
  refine g_6 ?_
  have Am := Al.gkp (gpc 2 (gpc 3 (gpc 4 (gpc 0 (gpc 1 (gpc 5 (gpc 6 (gpc 7 (gpc 8 (gpc 9 (gpc 10 (gpc 11 (gpc 12 gpn))))))))))))); clear Al
  refine ⟨rfl, _, Am, ?_⟩; intro Co D; clear Am
  refine e_3 (m2 (s1 X (a_4 rfl h_9 X.e) fun Be Y => ?_)); clear X Bd
  refine s1 Y (a_3 rfl ty_3 Y.e (D.bk 4 rfl) rfl) fun Bf Z => ?_; clear Y Be
  refine s1 Z (a_3 rfl ty_3 Z.e (D.bk 9 rfl) rfl) fun Bg R => ?_; clear Z Bf
  refine s1 R (h_8 rfl R.e R.e) fun Bh b => ?_; clear R Bg
  refine s1 b (a_1 rfl b.e) fun A1 I => ?_; clear b Bh
  by_cases Az : ((t.rows.getD (((c_8 t).getD q 0)) (0, 0)).1) < x
  ·skip
   rw [decide_eq_true Az] at I
   refine s5 I (a_3 rfl ty_3 I.e (D.bk 9 rfl) rfl) fun Bi c => ?_; clear I A1
   refine s5 c (a_4 rfl h_9 c.e) fun Bj d => ?_; clear c Bi
   refine s5 d (a_3 rfl ty_3 d.e (D.bk 3 rfl) rfl) fun Bk S => ?_; clear d Bj
   refine s5 S (h_8 rfl S.e S.e) fun Bl T => ?_; clear S Bk
   refine s1 T (b_5 rfl T.e T.e) fun CY L => ?_; clear T Bl
   refine n1 ?_
   by_cases A0 : x < ((t.rows.getD (((c_8 t).getD q 0) + 1) (0, 0)).1)
   ·skip
    rw [decide_eq_true A0] at L
    have hpb := piece_bds (v := x) (k := ((c_8 t).getD q 0)) hV (by omega) (by unfold tx; omega) (by unfold tx; omega); unfold pieceN pieceD tx ty at hpb; have hdb := downF_bd hpb.1 hpb.2; have hub := upF_bd hpb.1 hpb.2
    refine d_6 L rfl (d_3 ?_)
    have AX := L.as [(11, (bptr J 0)), (10, (bptr E 0)), (7, (bptr C 0)), (6, (bptr B 0)), (5, (bptr A 0)), (4, (bptr H 0))] rfl; clear L
    have AY := AX.as [(11, (bptr J 0)), (10, (bptr E 0)), (7, (bptr C 0)), (6, (bptr B 0)), (5, (bptr A 0)), (4, (bptr H 0))] rfl; clear AX
    refine i_7 mixed AY D 21 [[], [0], [], [2], [], [], [5], [4, 6], [], [8], [], [10], [9, 11], [7, 12], [], [14], [], [16], [15, 17], [13, 18], [3, 19]] [(Yd.val (bptr E 1)), (Yd.val (iv ((t.rows.getD (((c_8 t).getD q 0)) (0, 0)).2))), (Yd.val (bptr A 0)), (Yd.val (Value.func (.func 102) #[] #[])), (Yd.val (iv x)), (Yd.val (bptr E 0)), (Yd.val (iv ((t.rows.getD (((c_8 t).getD q 0)) (0, 0)).1))), (Yd.val (iv (x - ((t.rows.getD (((c_8 t).getD q 0)) (0, 0)).1)))), (Yd.val (bptr J 1)), (Yd.val (iv ((t.rows.getD (((c_8 t).getD q 0) + 1) (0, 0)).2))), (Yd.val (bptr E 1)), (Yd.val (iv ((t.rows.getD (((c_8 t).getD q 0)) (0, 0)).2))), (Yd.val (iv (((t.rows.getD (((c_8 t).getD q 0) + 1) (0, 0)).2) - ((t.rows.getD (((c_8 t).getD q 0)) (0, 0)).2)))), (Yd.val (iv ((x - ((t.rows.getD (((c_8 t).getD q 0)) (0, 0)).1)) * (((t.rows.getD (((c_8 t).getD q 0) + 1) (0, 0)).2) - ((t.rows.getD (((c_8 t).getD q 0)) (0, 0)).2))))), (Yd.val (bptr J 0)), (Yd.val (iv ((t.rows.getD (((c_8 t).getD q 0) + 1) (0, 0)).1))), (Yd.val (bptr E 0)), (Yd.val (iv ((t.rows.getD (((c_8 t).getD q 0)) (0, 0)).1))), (Yd.val (iv (((t.rows.getD (((c_8 t).getD q 0) + 1) (0, 0)).1) - ((t.rows.getD (((c_8 t).getD q 0)) (0, 0)).1)))), (Yd.val (Value.agg #[(iv ((x - ((t.rows.getD (((c_8 t).getD q 0)) (0, 0)).1)) * (((t.rows.getD (((c_8 t).getD q 0) + 1) (0, 0)).2) - ((t.rows.getD (((c_8 t).getD q 0)) (0, 0)).2)))), (iv (((t.rows.getD (((c_8 t).getD q 0) + 1) (0, 0)).1) - ((t.rows.getD (((c_8 t).getD q 0)) (0, 0)).1)))])), (Yd.val (iv (z_3 ((x - ((t.rows.getD (((c_8 t).getD q 0)) (0, 0)).1)) * (((t.rows.getD (((c_8 t).getD q 0) + 1) (0, 0)).2) - ((t.rows.getD (((c_8 t).getD q 0)) (0, 0)).2))) (((t.rows.getD (((c_8 t).getD q 0) + 1) (0, 0)).1) - ((t.rows.getD (((c_8 t).getD q 0)) (0, 0)).1)))))] (by decide +kernel) rfl rfl ?_ ?_
    ·skip
     refine ⟨fun a w hA hS hd => ?_, ?_⟩
     ·skip
      exact e_2 rfl (dv (a_4 rfl k_0 hA.e) hS rfl)
     refine ⟨fun a w hA hS hd => ?_, ?_⟩
     ·skip
      have e0 := d_4 (hd 0 (by decide)) rfl (fun _ h => h)
      exact e_2 rfl (dv (a_3 rfl ty_3 (c_1 e0) (hS.bk 4 rfl) rfl) hS rfl)
     refine ⟨fun a w hA hS hd => ?_, ?_⟩
     ·skip
      exact e_2 rfl (dv (a_4 rfl fd_159_0 hA.e) hS rfl)
     refine ⟨fun a w hA hS hd => ?_, ?_⟩
     ·skip
      have e2 := d_4 (hd 2 (by decide)) rfl (fun _ h => h)
      exact e_2 rfl (dv (a_3 rfl ty_154 (c_1 e2) (hS.bk 8 rfl) rfl) hS rfl)
     refine ⟨fun a w hA hS hd => ?_, ?_⟩
     ·skip
      exact e_2 rfl (dv (a_3 rfl ty_3 hA.e (hS.bk 9 rfl) rfl) hS rfl)
     refine ⟨fun a w hA hS hd => ?_, ?_⟩
     ·skip
      exact e_2 rfl (dv (a_4 rfl h_9 hA.e) hS rfl)
     refine ⟨fun a w hA hS hd => ?_, ?_⟩
     ·skip
      have e5 := d_4 (hd 5 (by decide)) rfl (fun _ h => h)
      exact e_2 rfl (dv (a_3 rfl ty_3 (c_1 e5) (hS.bk 4 rfl) rfl) hS rfl)
     refine ⟨fun a w hA hS hd => ?_, ?_⟩
     ·skip
      have e4 := d_4 (hd 4 (by decide)) rfl (fun _ h => h)
      have e6 := d_4 (hd 6 (by decide)) rfl (fun _ h => h)
      exact e_2 rfl (dv (k_5 rfl (c_1 e4) (c_1 e6) (by omega) (by omega)) hS rfl)
     refine ⟨fun a w hA hS hd => ?_, ?_⟩
     ·skip
      exact e_2 rfl (dv (a_4 rfl k_0 hA.e) hS rfl)
     refine ⟨fun a w hA hS hd => ?_, ?_⟩
     ·skip
      have e8 := d_4 (hd 8 (by decide)) rfl (fun _ h => h)
      exact e_2 rfl (dv (a_3 rfl ty_3 (c_1 e8) (hS.bk 3 rfl) rfl) hS rfl)
     refine ⟨fun a w hA hS hd => ?_, ?_⟩
     ·skip
      exact e_2 rfl (dv (a_4 rfl k_0 hA.e) hS rfl)
     refine ⟨fun a w hA hS hd => ?_, ?_⟩
     ·skip
      have CI := d_4 (hd 10 (by decide)) rfl (fun _ h => h)
      exact e_2 rfl (dv (a_3 rfl ty_3 (c_1 CI) (hS.bk 4 rfl) rfl) hS rfl)
     refine ⟨fun a w hA hS hd => ?_, ?_⟩
     ·skip
      have e9 := d_4 (hd 9 (by decide)) rfl (fun _ h => h)
      have CJ := d_4 (hd 11 (by decide)) rfl (fun _ h => h)
      exact e_2 rfl (dv (k_5 rfl (c_1 e9) (c_1 CJ) (by omega) (by omega)) hS rfl)
     refine ⟨fun a w hA hS hd => ?_, ?_⟩
     ·skip
      have e7 := d_4 (hd 7 (by decide)) rfl (fun _ h => h)
      have CK := d_4 (hd 12 (by decide)) rfl (fun _ h => h)
      exact e_2 rfl (dv (op_mul rfl (c_1 e7) (c_1 CK) (by omega) (by omega)) hS rfl)
     refine ⟨fun a w hA hS hd => ?_, ?_⟩
     ·skip
      exact e_2 rfl (dv (a_4 rfl h_9 hA.e) hS rfl)
     refine ⟨fun a w hA hS hd => ?_, ?_⟩
     ·skip
      have CM := d_4 (hd 14 (by decide)) rfl (fun _ h => h)
      exact e_2 rfl (dv (a_3 rfl ty_3 (c_1 CM) (hS.bk 3 rfl) rfl) hS rfl)
     refine ⟨fun a w hA hS hd => ?_, ?_⟩
     ·skip
      exact e_2 rfl (dv (a_4 rfl h_9 hA.e) hS rfl)
     refine ⟨fun a w hA hS hd => ?_, ?_⟩
     ·skip
      have CO := d_4 (hd 16 (by decide)) rfl (fun _ h => h)
      exact e_2 rfl (dv (a_3 rfl ty_3 (c_1 CO) (hS.bk 4 rfl) rfl) hS rfl)
     refine ⟨fun a w hA hS hd => ?_, ?_⟩
     ·skip
      have CN := d_4 (hd 15 (by decide)) rfl (fun _ h => h)
      have CP := d_4 (hd 17 (by decide)) rfl (fun _ h => h)
      exact e_2 rfl (dv (k_5 rfl (c_1 CN) (c_1 CP) (by omega) (by omega)) hS rfl)
     refine ⟨fun a w hA hS hd => ?_, ?_⟩
     ·skip
      have CL := d_4 (hd 13 (by decide)) rfl (fun _ h => h)
      have CQ := d_4 (hd 18 (by decide)) rfl (fun _ h => h)
      exact e_2 rfl (dv (c_7 rfl (pv2 (c_1 CL) (c_1 CQ)) (bd_157_0i_1i _ _)) hS rfl)
     refine ⟨fun a w hA hS hd => ?_, ?_⟩
     ·skip
      have e3 := d_4 (hd 3 (by decide)) rfl (fun _ h => h)
      have CR := d_4 (hd 19 (by decide)) rfl (fun _ h => h)
      exact e_2 rfl (dx (h_0 rfl (c_1 e3) en_102 (ev1 (c_1 CR)) (down_ok _ _ _ (by omega) (by omega))) hS (fun _ => rfl))
     trivial
    intro Bm Cp AZ An z; clear AY D
    have Aa := AZ.add (hz z 1); clear AZ
    have U := Aa.add (hz z 20); clear Aa
    clear z
    refine s1 U (g_9 rfl U.e U.e (by omega) (by omega)) fun Bn BS => ?_; clear U Bm
    have hvl : ((t.rows.getD (((c_8 t).getD q 0)) (0, 0)).2) + (z_3 ((x - ((t.rows.getD (((c_8 t).getD q 0)) (0, 0)).1)) * (((t.rows.getD (((c_8 t).getD q 0) + 1) (0, 0)).2) - ((t.rows.getD (((c_8 t).getD q 0)) (0, 0)).2))) (((t.rows.getD (((c_8 t).getD q 0) + 1) (0, 0)).1) - ((t.rows.getD (((c_8 t).getD q 0)) (0, 0)).1))) = (d_8 t x).1 := by unfold d_8; rw [made_good (fun i hi => hrw i (by omega)) hq hpc (good_piece hq (by assumption) (by assumption))]; rfl
    have V : Fr 62 [] [(61, (iv ((d_8 t x).1))), (60, (iv (z_3 ((x - ((t.rows.getD (((c_8 t).getD q 0)) (0, 0)).1)) * (((t.rows.getD (((c_8 t).getD q 0) + 1) (0, 0)).2) - ((t.rows.getD (((c_8 t).getD q 0)) (0, 0)).2))) (((t.rows.getD (((c_8 t).getD q 0) + 1) (0, 0)).1) - ((t.rows.getD (((c_8 t).getD q 0)) (0, 0)).1))))), (41, (iv ((t.rows.getD (((c_8 t).getD q 0)) (0, 0)).2))), (11, (bptr J 0)), (10, (bptr E 0)), (7, (bptr C 0)), (6, (bptr B 0)), (5, (bptr A 0)), (4, (bptr H 0))] Bn := by rw [← hvl]; exact BS
    refine s7 V (b_4 An rfl ty_3 V.e V.e (i := 7) rfl (vs := [(iv ((d_8 t x).1))]) rfl rfl rfl (Nat.le_of_ble_eq_true rfl)) ?_
    intro _ Bw Ao f; clear V
    have Ap : Sep NoB w Bw [(obR AE (.loop (rc104 .busy none))), (g_3 (D103 :: [])), G105, (blk J 107 [(iv ((t.rows.getD (((c_8 t).getD q 0) + 1) (0, 0)).1)), (iv ((t.rows.getD (((c_8 t).getD q 0) + 1) (0, 0)).2))]), (blk E 107 [(iv ((t.rows.getD (((c_8 t).getD q 0)) (0, 0)).1)), (iv ((t.rows.getD (((c_8 t).getD q 0)) (0, 0)).2))]), (blk bl93 106 [(iv t.frm), (iv t.dst), vr, vb, (iv t.err)]), (blk C 4 [(Value.bool false)]), (blk B 3 [(iv ((d_8 t x).1))]), (blk A 159 [(Value.func (.func 102) #[] #[])]), (blk H 3 [(iv x)]), (blk M 106 [(iv t.frm), (iv t.dst), vr, vb, (iv t.err)]), (sl vr 2 t.rows.length (pairs t.rows)), (sl vb 1 t.brk.length (ints t.brk))] := Ao; clear Ao An
    refine s7 f (b_4 Ap rfl ty_4 f.e (evc _ _) (i := 6) rfl (vs := [(Value.bool true)]) rfl rfl rfl (Nat.le_of_ble_eq_true rfl)) ?_
    intro _ Bx Aq CV; clear f
    have Ar : Sep NoB w Bx [(obR AE (.loop (rc104 .busy none))), (g_3 (D103 :: [])), G105, (blk J 107 [(iv ((t.rows.getD (((c_8 t).getD q 0) + 1) (0, 0)).1)), (iv ((t.rows.getD (((c_8 t).getD q 0) + 1) (0, 0)).2))]), (blk E 107 [(iv ((t.rows.getD (((c_8 t).getD q 0)) (0, 0)).1)), (iv ((t.rows.getD (((c_8 t).getD q 0)) (0, 0)).2))]), (blk bl93 106 [(iv t.frm), (iv t.dst), vr, vb, (iv t.err)]), (blk C 4 [(Value.bool true)]), (blk B 3 [(iv ((d_8 t x).1))]), (blk A 159 [(Value.func (.func 102) #[] #[])]), (blk H 3 [(iv x)]), (blk M 106 [(iv t.frm), (iv t.dst), vr, vb, (iv t.err)]), (sl vr 2 t.rows.length (pairs t.rows)), (sl vb 1 t.brk.length (ints t.brk))] := Aq; clear Aq Ap
    refine n1 (c_6 (e_6 ?_))
    have BU := Ar.gkp (gpc 0 (gpc 1 (gpc 2 (gpc 5 (gpc 6 (gpc 7 (gpc 8 (gpc 9 (gpc 10 (gpc 11 (gpc 12 gpn))))))))))); clear Ar
    exact re_ret rfl ⟨_, rfl, ⟨rfl, (by rw [made_good (fun i hi => hrw i (by omega)) hq hpc (good_piece hq (by assumption) (by assumption))]; rfl)⟩⟩ BU
   skip
   rw [decide_eq_false A0] at L
   refine b_8 L rfl (e_1 (k_7 ?_))
   have BV := D.gkp (gpc 0 (gpc 1 (gpc 2 (gpc 5 (gpc 6 (gpc 7 (gpc 8 (gpc 9 (gpc 10 (gpc 11 (gpc 12 gpn))))))))))); clear D
   exact re_n ⟨_, rfl, ⟨rfl, (fun j hj => by rcases Nat.lt_succ_iff_lt_or_eq.1 hj with h | h; exact hpc j h; subst h; first | exact u_3 (.inl (by assumption)) | exact u_3 (.inr (.inl (by assumption))))⟩⟩ BV
  skip
  rw [decide_eq_false Az] at I
  refine s3 I fun Bo Ab => ?_; clear I A1
  refine s3 Ab fun Bp Ac => ?_; clear Ab Bo
  refine s3 Ac fun Bq Ad => ?_; clear Ac Bp
  refine s3 Ad fun Br g => ?_; clear Ad Bq
  refine s1 g (e_0 rfl g.e (evc _ _)) fun CZ BT => ?_; clear g Br
  refine n1 (b_8 BT rfl (e_1 (k_7 ?_)))
  have BW := D.gkp (gpc 0 (gpc 1 (gpc 2 (gpc 5 (gpc 6 (gpc 7 (gpc 8 (gpc 9 (gpc 10 (gpc 11 (gpc 12 gpn))))))))))); clear D
  exact re_n ⟨_, rfl, ⟨rfl, (fun j hj => by rcases Nat.lt_succ_iff_lt_or_eq.1 hj with h | h; exact hpc j h; subst h; first | exact u_3 (.inl (by assumption)) | exact u_3 (.inr (.inl (by assumption))))⟩⟩ BW
 ·skip
  intro L_ hL_ D188 Ca Cq m As; obtain ⟨rfl, hpc⟩ := hL_; clear W AD
  refine k_7 (b_3 (m2 (s7 m (b_4 As rfl ty_3 m.e (evc _ _) (i := 4) rfl (vs := [(iv 0)]) rfl rfl rfl (Nat.le_of_ble_eq_true rfl)) ?_)))
  intro _ By At o; clear m
  have Au : Sep NoB w By [(g_3 (D188 :: [])), nilR, (blk bl93 106 [(iv t.frm), (iv t.dst), vr, vb, (iv t.err)]), (blk C 4 [(Value.bool false)]), (blk B 3 [(iv 0)]), (blk A 159 [(Value.func (.func 102) #[] #[])]), (blk H 3 [(iv x)]), (blk M 106 [(iv t.frm), (iv t.dst), vr, vb, (iv t.err)]), (sl vr 2 t.rows.length (pairs t.rows)), (sl vb 1 t.brk.length (ints t.brk))] := At; clear At As
  refine s7 o (b_4 Au rfl ty_4 o.e (evc _ _) (i := 3) rfl (vs := [(Value.bool false)]) rfl rfl rfl (Nat.le_of_ble_eq_true rfl)) ?_
  intro _ Bz Av Ae; clear o
  have Aw : Sep NoB w Bz [(g_3 (D188 :: [])), nilR, (blk bl93 106 [(iv t.frm), (iv t.dst), vr, vb, (iv t.err)]), (blk C 4 [(Value.bool false)]), (blk B 3 [(iv 0)]), (blk A 159 [(Value.func (.func 102) #[] #[])]), (blk H 3 [(iv x)]), (blk M 106 [(iv t.frm), (iv t.dst), vr, vb, (iv t.err)]), (sl vr 2 t.rows.length (pairs t.rows)), (sl vb 1 t.brk.length (ints t.brk))] := Av; clear Av Au
  refine n1 (c_6 (fin_runM Ae (.inl rfl) Aw ?_))
  intro Cr AA; clear Aw
  refine ⟨_, (c_4 Ae rfl (.cell1 rfl ty_3 (AA.bk 3 rfl) rfl) (.cell1 rfl ty_4 (AA.bk 2 rfl) rfl)), ?_⟩
  have hz := (made_goodno (fun i hi => hrw i (by omega)) (fun i hi => hpc i (by omega)))
  exact ⟨by unfold d_8; rw [hz]; rfl, AA.ext⟩
 skip
 intro c_ hc_; cases hc_
 intro L_ hL_ D203 Cb Cs Af Ax; obtain ⟨rfl, hsm⟩ := hL_; clear W AD
 refine c_6 (e_6 (b_1 (fin_runM Af (.inl rfl) Ax ?_)))
 intro Ct AB; clear Ax
 refine ⟨_, (c_4 Af rfl (.cell1 rfl ty_3 (AB.bk 3 rfl) rfl) (.cell1 rfl ty_4 (AB.bk 2 rfl) rfl)), ?_⟩
 exact ⟨by rw [hsm], AB.ext⟩
theorem makes_up (t : TabD) (vr vb : Value) (w : World) (hr : SlAt w vr 2 t.rows.length (pairs t.rows)) (hb : SlAt w vb 1 t.brk.length (ints t.brk)) (hrl : t.rows.length ≤ 1000000) (hbl : t.brk.length ≤ 1000000) (n : Int) (hV : TabV n t) (x : Int) :
  Calls Try.prog 101 #[(Value.agg #[(iv t.frm), (iv t.dst), vr, vb, (iv t.err)]), (iv x), (Value.agg #[(Value.func (.func 103) #[] #[])])] w (Ret fun v w' => v = .tuple #[.int .i64 (d_8 t x).2, .bool (l_5 t x).isSome] ∧ Ext NoB w w') := by
 refine calls_enterM Try.func101 rfl fun a0 AF => ?_
 replace AF : Fr 62 (marks []) [(0, (Value.agg #[(iv t.frm), (iv t.dst), vr, vb, (iv t.err)])), (1, (iv x)), (2, (Value.agg #[(Value.func (.func 103) #[] #[])]))] a0 := AF
 have Ba : Sep NoB w w [(g_3 []), (sl vr 2 t.rows.length (pairs t.rows)), (sl vb 1 t.brk.length (ints t.brk))] := sep_marks (f_0 ⟨rfl, hr, rfl, hb, trivial⟩)
 refine m2 (s2 AF (f_3 Ba rfl AF.e (cs := [(iv t.frm), (iv t.dst), vr, vb, (iv t.err)]) rfl) ?_)
 rintro a1 _ w3 ⟨M, rfl, Bb⟩ A4; clear AF Ba a0
 refine s2 A4 (f_3 Bb rfl A4.e (cs := [(iv x)]) rfl) ?_
 rintro a6 _ w8 ⟨H, rfl, BC⟩ A9; clear A4 Bb a1
 refine s2 A9 (f_3 BC rfl A9.e (cs := [(Value.func (.func 103) #[] #[])]) rfl) ?_
 rintro B1 _ Cx ⟨A, rfl, BD⟩ A2; clear A9 BC a6
 refine s2 A2 (d_2 BD rfl ze_3 (cs := [(iv 0)]) rfl) ?_
 rintro B2 _ Cy ⟨B, rfl, BE⟩ A3; clear A2 BD B1
 refine s2 A3 (d_2 BE rfl ze_4 (cs := [(Value.bool false)]) rfl) ?_
 rintro B3 _ Cz ⟨C, rfl, AC⟩ AG; clear A3 BE B2
 refine n2 (m2 (s1 AG (a_4 rfl i_2 AG.e) fun B4 AH => ?_)); clear AG B3
 refine s1 AH (a_3 rfl o_3 AH.e (AC.bk 4 rfl) rfl) fun B5 AI => ?_; clear AH B4
 refine s1 AI (e_8 rfl j_0 AI.e (AC.sk 6 rfl)) fun B6 A5 => ?_; clear AI B5
 refine s1 A5 (a_1 rfl (evc _ _)) fun B7 A6 => ?_; clear A5 B6
 refine n1 (e_3 ?_)
 have A7 := A6.as [(15, (iv 0)), (14, (iv (t.rows.length : Int))), (13, vr), (7, (bptr C 0)), (6, (bptr B 0)), (5, (bptr A 0)), (4, (bptr H 0)), (3, (bptr M 0))] rfl; clear A6
 refine k_4 (G := Nat) (fun (k : Nat) a_ w_ => Fr 62 (marks []) [(15, (iv (k : Int))), (14, (iv (t.rows.length : Int))), (13, vr), (7, (bptr C 0)), (6, (bptr B 0)), (5, (bptr A 0)), (4, (bptr H 0)), (3, (bptr M 0))] a_ ∧ Sep NoB w w_ [(blk C 4 [(Value.bool false)]), (blk B 3 [(iv 0)]), (blk A 159 [(Value.func (.func 103) #[] #[])]), (blk H 3 [(iv x)]), (blk M 106 [(iv t.frm), (iv t.dst), vr, vb, (iv t.err)]), (g_3 []), (sl vr 2 t.rows.length (pairs t.rows)), (sl vb 1 t.brk.length (ints t.brk))] ∧ (k ≤ t.rows.length) ∧ (∀ i, i < k → ¬ tx t i = x)) (fun k => t.rows.length - k) 0 ⟨A7.as _ rfl, AC, by omega, (fun _ h => absurd h (Nat.not_lt_zero _))⟩ ?_
 clear A7 AC B7
 rintro k B8 C0 ⟨p, N, hkk, hrw⟩
 refine m2 (s1 p (h_8 rfl p.e p.e) fun BX F => ?_); clear p B8
 refine n2 ?_
 by_cases BQ : (k : Int) < (t.rows.length : Int)
 ·skip
  rw [decide_eq_true BQ] at F
  refine d_6 F rfl (e_1 (b_3 (d_3 (e_3 (m2 (s1 F (b_6 rfl j_0 h_2 F.e (i := k) F.e (N.sk 6 rfl) (by decide) (by omega)) fun B9 AJ => ?_)))))); clear F BX
  refine s1 AJ (e_7 rfl h_2 AJ.e (N.sk 6 rfl) (g_1 (by omega)) rfl (by decide)) fun CA A8 => ?_; clear AJ B9
  refine s2 A8 (d_2 N rfl v_6 (cs := [(iv 0), (iv 0)]) rfl) ?_
  rintro CB _ C1 ⟨AU, rfl, BF⟩ s; clear A8 N CA
  refine s7 s (b_4 BF rfl h_2 s.e s.e (i := 0) rfl (vs := [(iv ((t.rows.getD k (0, 0)).1)), (iv ((t.rows.getD k (0, 0)).2))]) rfl rfl rfl (Nat.le_of_ble_eq_true rfl)) ?_
  intro _ CS BG AK; clear s
  have O : Sep NoB w CS [(blk AU 107 [(iv ((t.rows.getD k (0, 0)).1)), (iv ((t.rows.getD k (0, 0)).2))]), (blk C 4 [(Value.bool false)]), (blk B 3 [(iv 0)]), (blk A 159 [(Value.func (.func 103) #[] #[])]), (blk H 3 [(iv x)]), (blk M 106 [(iv t.frm), (iv t.dst), vr, vb, (iv t.err)]), (g_3 []), (sl vr 2 t.rows.length (pairs t.rows)), (sl vb 1 t.brk.length (ints t.brk))] := BG; clear BG BF
  refine n4 (s1 AK (a_4 rfl h_9 AK.e) fun CC AL => ?_); clear AK CB
  refine s1 AL (a_3 rfl ty_3 AL.e (O.bk 0 rfl) rfl) fun CD AM => ?_; clear AL CC
  refine s1 AM (a_3 rfl ty_3 AM.e (O.bk 4 rfl) rfl) fun CE u => ?_; clear AM CD
  refine s1 u (j_8 rfl u.e u.e) fun BY K => ?_; clear u CE
  refine n1 ?_
  by_cases BR : ((t.rows.getD k (0, 0)).1) = x
  ·skip
   rw [decide_eq_true BR] at K
   refine d_6 K rfl (d_3 ?_)
   have AN := K.as [(9, (bptr AU 0)), (7, (bptr C 0)), (6, (bptr B 0))] rfl; clear K
   refine a_5 (s1 AN (a_4 rfl k_0 AN.e) fun CF AO => ?_); clear AN BY
   refine s1 AO (a_3 rfl ty_3 AO.e (O.bk 0 rfl) rfl) fun Cu y => ?_; clear AO CF
   refine s7 y (b_4 O rfl ty_3 y.e y.e (i := 2) rfl (vs := [(iv ((t.rows.getD k (0, 0)).2))]) rfl rfl rfl (Nat.le_of_ble_eq_true rfl)) ?_
   intro _ CT BH AP; clear y
   have BI : Sep NoB w CT [(blk AU 107 [(iv ((t.rows.getD k (0, 0)).1)), (iv ((t.rows.getD k (0, 0)).2))]), (blk C 4 [(Value.bool false)]), (blk B 3 [(iv ((t.rows.getD k (0, 0)).2))]), (blk A 159 [(Value.func (.func 103) #[] #[])]), (blk H 3 [(iv x)]), (blk M 106 [(iv t.frm), (iv t.dst), vr, vb, (iv t.err)]), (g_3 []), (sl vr 2 t.rows.length (pairs t.rows)), (sl vb 1 t.brk.length (ints t.brk))] := BH; clear BH O
   refine s7 AP (b_4 BI rfl ty_4 AP.e (evc _ _) (i := 1) rfl (vs := [(Value.bool true)]) rfl rfl rfl (Nat.le_of_ble_eq_true rfl)) ?_
   intro _ CU BJ BA; clear AP
   have BK : Sep NoB w CU [(blk AU 107 [(iv ((t.rows.getD k (0, 0)).1)), (iv ((t.rows.getD k (0, 0)).2))]), (blk C 4 [(Value.bool true)]), (blk B 3 [(iv ((t.rows.getD k (0, 0)).2))]), (blk A 159 [(Value.func (.func 103) #[] #[])]), (blk H 3 [(iv x)]), (blk M 106 [(iv t.frm), (iv t.dst), vr, vb, (iv t.err)]), (g_3 []), (sl vr 2 t.rows.length (pairs t.rows)), (sl vb 1 t.brk.length (ints t.brk))] := BJ; clear BJ BI
   refine n1 (c_6 (e_6 (b_1 (b_1 (e_6 (b_1 ?_))))))
   have BL := BK.gkp (gpc 6 (gpc 0 (gpc 1 (gpc 2 (gpc 3 (gpc 4 (gpc 5 (gpc 7 (gpc 8 gpn))))))))); clear BK
   refine fin_runM BA (.inl rfl) BL ?_
   intro C2 AT; clear BL
   refine ⟨_, (c_4 BA rfl (.cell1 rfl ty_3 (AT.bk 2 rfl) rfl) (.cell1 rfl ty_4 (AT.bk 1 rfl) rfl)), ?_⟩
   have hz := (made_row (k := k) (by omega) (fun i hi => hrw i (by omega)) (by assumption))
   exact ⟨by unfold d_8; rw [hz]; rfl, AT.ext⟩
  skip
  rw [decide_eq_false BR] at K
  refine b_8 K rfl (e_1 (k_7 (b_3 ?_)))
  have AQ := K.as [(15, (iv (k : Int))), (14, (iv (t.rows.length : Int))), (13, vr), (7, (bptr C 0)), (6, (bptr B 0)), (5, (bptr A 0)), (4, (bptr H 0)), (3, (bptr M 0))] rfl; clear K
  refine a_5 (s1 AQ (g_9 rfl AQ.e (evc _ _) (by omega) (by omega)) fun CG AR => ?_); clear AQ BY
  refine s1 AR (a_1 rfl AR.e) fun Cv Bs => ?_; clear AR CG
  refine g_6 ?_
  have Bt := O.gkp (gpc 1 (gpc 2 (gpc 3 (gpc 4 (gpc 5 (gpc 6 (gpc 7 (gpc 8 gpn)))))))); clear O
  exact b_3 ⟨k + 1, ⟨Bs.as _ rfl, Bt, by omega, (fun i hi => by rcases Nat.lt_succ_iff_lt_or_eq.1 hi with h | h; exact hrw i h; subst h; assumption)⟩, by omega⟩
 skip
 rw [decide_eq_false BQ] at F
 refine b_8 F rfl (j_7 (b_7 (b_7 (h_6 (b_3 (d_3 (m2 (s1 F (b_9 rfl j_5 (F.ev rfl) (N.bk 4 rfl) (l := [(iv t.frm), (iv t.dst), vr, vb, (iv t.err)]) rfl rfl) fun CH AS => ?_)))))))); clear F BX
 refine s2 AS (a_8 rfl en_116 (ev1 AS.e) (pieces_ok t vr vb _ hr.one hb.one)) ?_
 rintro Cw _ C3 ⟨bl93, rfl, BP⟩ BB; have BM := N.n_2 BP rfl; clear BP AS N CH
 refine n1 (e_3 ?_)
 have W := BB.as [(27, (Value.func (.func 121) #[] #[(bptr bl93 0)])), (7, (bptr C 0)), (6, (bptr B 0)), (5, (bptr A 0)), (4, (bptr H 0))] rfl; clear BB
 have BN := BM.nilR; clear BM
 have AD := BN.gkp (gpc 7 (gpc 0 (gpc 1 (gpc 2 (gpc 3 (gpc 4 (gpc 5 (gpc 6 (gpc 8 (gpc 9 gpn)))))))))); clear BN
 refine c_rangeG W nilR rfl AD W.e en_121 ((c_8 t).length) (fun q => #[.agg #[.int .i64 (t.rows.getD ((c_8 t).getD q 0) (0, 0)).1, .int .i64 (t.rows.getD ((c_8 t).getD q 0) (0, 0)).2], .agg #[.int .i64 (t.rows.getD ((c_8 t).getD q 0 + 1) (0, 0)).1, .int .i64 (t.rows.getD ((c_8 t).getD q 0 + 1) (0, 0)).2]]) (fun _ => rfl) [rob bl93 106 [.int .i64 t.frm, .int .i64 t.dst, vr, vb, .int .i64 t.err], sl vr 2 t.rows.length (pairs t.rows), sl vb 1 t.brk.length (ints t.brk)] (fun r hr => by simp only [List.mem_cons, List.not_mem_nil, or_false] at hr; rcases hr with rfl | rfl | rfl <;> rfl) (pieces_it bl93 t vr vb hV.len hrl hbl) (fun q L_ => L_ = [(blk bl93 106 [(iv t.frm), (iv t.dst), vr, vb, (iv t.err)]), (blk C 4 [(Value.bool false)]), (blk B 3 [(iv 0)]), (blk A 159 [(Value.func (.func 103) #[] #[])]), (blk H 3 [(iv x)]), (blk M 106 [(iv t.frm), (iv t.dst), vr, vb, (iv t.err)]), (sl vr 2 t.rows.length (pairs t.rows)), (sl vb 1 t.brk.length (ints t.brk))] ∧ (∀ j, j < q → l_9 t x ((c_8 t).getD j 0) = false)) (fun L_ => L_ = [(blk bl93 106 [(iv t.frm), (iv t.dst), vr, vb, (iv t.err)]), (blk C 4 [(Value.bool true)]), (blk B 3 [(iv ((d_8 t x).2))]), (blk A 159 [(Value.func (.func 103) #[] #[])]), (blk H 3 [(iv x)]), (blk M 106 [(iv t.frm), (iv t.dst), vr, vb, (iv t.err)]), (sl vr 2 t.rows.length (pairs t.rows)), (sl vb 1 t.brk.length (ints t.brk))] ∧ ((l_5 t x).isSome = true)) (some .ret) ⟨rfl, (fun _ h => absurd h (Nat.not_lt_zero _))⟩ (fun q L_ hI_ G_ W_ r1_ r2_ hW_ => by obtain ⟨rfl, hpc⟩ := hI_; exact (Sep.keep (hW_.to_ro (i := 3) rfl) [2, 3, 9, 10] (by decide) _ rfl rfl)) (fun L_ hI_ G_ W_ r1_ r2_ hW_ => by obtain ⟨rfl, hsm⟩ := hI_; exact (Sep.keep (hW_.to_ro (i := 3) rfl) [2, 3, 9, 10] (by decide) _ rfl rfl)) ?_ ?_ ?_
 ·skip
  intro q hq L_ hL_ G105 CW AE D103 rc104 BZ C4 Ay BO; obtain ⟨rfl, hpc⟩ := hL_
  have AV : Fr 62 [] [(29, (Value.agg #[(iv ((t.rows.getD (((c_8 t).getD q 0) + 1) (0, 0)).1)), (iv ((t.rows.getD (((c_8 t).getD q 0) + 1) (0, 0)).2))])), (28, (Value.agg #[(iv ((t.rows.getD (((c_8 t).getD q 0)) (0, 0)).1)), (iv ((t.rows.getD (((c_8 t).getD q 0)) (0, 0)).2))])), (27, (Value.func (.func 121) #[] #[(bptr bl93 0)])), (7, (bptr C 0)), (6, (bptr B 0)), (5, (bptr A 0)), (4, (bptr H 0))] BZ := by rw [Ay]; exact Fr.round2 W (by decide) (by decide)
  clear Ay AD
  have hgq : ((c_8 t).getD q 0) < t.rows.length - 1 := (good_mem hq).1; have hbn := hV.bnd _ (show ((c_8 t).getD q 0) < t.rows.length by omega); have hbn1 := hV.bnd (((c_8 t).getD q 0) + 1) (by omega); unfold tx ty at hbn hbn1
  refine m2 (s2 AV (d_2 BO rfl v_6 (cs := [(iv 0), (iv 0)]) rfl) ?_)
  rintro Bc _ Cm ⟨E, rfl, Ag⟩ P; clear AV BO BZ
  refine s7 P (b_4 Ag rfl h_2 P.e P.e (i := 0) rfl (vs := [(iv ((t.rows.getD (((c_8 t).getD q 0)) (0, 0)).1)), (iv ((t.rows.getD (((c_8 t).getD q 0)) (0, 0)).2))]) rfl rfl rfl (Nat.le_of_ble_eq_true rfl)) ?_
  intro _ Bu Ah AW; clear P
  have Ai : Sep NoB w Bu [(blk E 107 [(iv ((t.rows.getD (((c_8 t).getD q 0)) (0, 0)).1)), (iv ((t.rows.getD (((c_8 t).getD q 0)) (0, 0)).2))]), (obR AE (.loop (rc104 .ready none))), (g_3 (D103 :: [])), G105, (blk bl93 106 [(iv t.frm), (iv t.dst), vr, vb, (iv t.err)]), (blk C 4 [(Value.bool false)]), (blk B 3 [(iv 0)]), (blk A 159 [(Value.func (.func 103) #[] #[])]), (blk H 3 [(iv x)]), (blk M 106 [(iv t.frm), (iv t.dst), vr, vb, (iv t.err)]), (sl vr 2 t.rows.length (pairs t.rows)), (sl vb 1 t.brk.length (ints t.brk))] := Ah; clear Ah Ag
  refine n3 (s2 AW (d_2 Ai rfl v_6 (cs := [(iv 0), (iv 0)]) rfl) ?_)
  rintro Bd _ Cn ⟨J, rfl, Aj⟩ Q; clear AW Ai Bc
  refine s7 Q (b_4 Aj rfl h_2 Q.e Q.e (i := 0) rfl (vs := [(iv ((t.rows.getD (((c_8 t).getD q 0) + 1) (0, 0)).1)), (iv ((t.rows.getD (((c_8 t).getD q 0) + 1) (0, 0)).2))]) rfl rfl rfl (Nat.le_of_ble_eq_true rfl)) ?_
  intro _ Bv Ak X; clear Q
  have Al : Sep NoB w Bv [(blk J 107 [(iv ((t.rows.getD (((c_8 t).getD q 0) + 1) (0, 0)).1)), (iv ((t.rows.getD (((c_8 t).getD q 0) + 1) (0, 0)).2))]), (blk E 107 [(iv ((t.rows.getD (((c_8 t).getD q 0)) (0, 0)).1)), (iv ((t.rows.getD (((c_8 t).getD q 0)) (0, 0)).2))]), (obR AE (.loop (rc104 .ready none))), (g_3 (D103 :: [])), G105, (blk bl93 106 [(iv t.frm), (iv t.dst), vr, vb, (iv t.err)]), (blk C 4 [(Value.bool false)]), (blk B 3 [(iv 0)]), (blk A 159 [(Value.func (.func 103) #[] #[])]), (blk H 3 [(iv x)]), (blk M 106 [(iv t.frm), (iv t.dst), vr, vb, (iv t.err)]), (sl vr 2 t.rows.length (pairs t.rows)), (sl vb 1 t.brk.length (ints t.brk))] := Ak; clear Ak Aj
  refine g_6 ?_
  have Am := Al.gkp (gpc 2 (gpc 3 (gpc 4 (gpc 0 (gpc 1 (gpc 5 (gpc 6 (gpc 7 (gpc 8 (gpc 9 (gpc 10 (gpc 11 (gpc 12 gpn))))))))))))); clear Al
  refine ⟨rfl, _, Am, ?_⟩; intro Co D; clear Am
  refine e_3 (m2 (s1 X (a_4 rfl h_9 X.e) fun Be Y => ?_)); clear X Bd
  refine s1 Y (a_3 rfl ty_3 Y.e (D.bk 4 rfl) rfl) fun Bf Z => ?_; clear Y Be
  refine s1 Z (a_3 rfl ty_3 Z.e (D.bk 9 rfl) rfl) fun Bg R => ?_; clear Z Bf
  refine s1 R (h_8 rfl R.e R.e) fun Bh b => ?_; clear R Bg
  refine s1 b (a_1 rfl b.e) fun A1 I => ?_; clear b Bh
  by_cases Az : ((t.rows.getD (((c_8 t).getD q 0)) (0, 0)).1) < x
  ·skip
   rw [decide_eq_true Az] at I
   refine s5 I (a_3 rfl ty_3 I.e (D.bk 9 rfl) rfl) fun Bi c => ?_; clear I A1
   refine s5 c (a_4 rfl h_9 c.e) fun Bj d => ?_; clear c Bi
   refine s5 d (a_3 rfl ty_3 d.e (D.bk 3 rfl) rfl) fun Bk S => ?_; clear d Bj
   refine s5 S (h_8 rfl S.e S.e) fun Bl T => ?_; clear S Bk
   refine s1 T (b_5 rfl T.e T.e) fun CY L => ?_; clear T Bl
   refine n1 ?_
   by_cases A0 : x < ((t.rows.getD (((c_8 t).getD q 0) + 1) (0, 0)).1)
   ·skip
    rw [decide_eq_true A0] at L
    have hpb := piece_bds (v := x) (k := ((c_8 t).getD q 0)) hV (by omega) (by unfold tx; omega) (by unfold tx; omega); unfold pieceN pieceD tx ty at hpb; have hdb := downF_bd hpb.1 hpb.2; have hub := upF_bd hpb.1 hpb.2
    refine d_6 L rfl (d_3 ?_)
    have AX := L.as [(11, (bptr J 0)), (10, (bptr E 0)), (7, (bptr C 0)), (6, (bptr B 0)), (5, (bptr A 0)), (4, (bptr H 0))] rfl; clear L
    have AY := AX.as [(11, (bptr J 0)), (10, (bptr E 0)), (7, (bptr C 0)), (6, (bptr B 0)), (5, (bptr A 0)), (4, (bptr H 0))] rfl; clear AX
    refine i_7 mixed AY D 21 [[], [0], [], [2], [], [], [5], [4, 6], [], [8], [], [10], [9, 11], [7, 12], [], [14], [], [16], [15, 17], [13, 18], [3, 19]] [(Yd.val (bptr E 1)), (Yd.val (iv ((t.rows.getD (((c_8 t).getD q 0)) (0, 0)).2))), (Yd.val (bptr A 0)), (Yd.val (Value.func (.func 103) #[] #[])), (Yd.val (iv x)), (Yd.val (bptr E 0)), (Yd.val (iv ((t.rows.getD (((c_8 t).getD q 0)) (0, 0)).1))), (Yd.val (iv (x - ((t.rows.getD (((c_8 t).getD q 0)) (0, 0)).1)))), (Yd.val (bptr J 1)), (Yd.val (iv ((t.rows.getD (((c_8 t).getD q 0) + 1) (0, 0)).2))), (Yd.val (bptr E 1)), (Yd.val (iv ((t.rows.getD (((c_8 t).getD q 0)) (0, 0)).2))), (Yd.val (iv (((t.rows.getD (((c_8 t).getD q 0) + 1) (0, 0)).2) - ((t.rows.getD (((c_8 t).getD q 0)) (0, 0)).2)))), (Yd.val (iv ((x - ((t.rows.getD (((c_8 t).getD q 0)) (0, 0)).1)) * (((t.rows.getD (((c_8 t).getD q 0) + 1) (0, 0)).2) - ((t.rows.getD (((c_8 t).getD q 0)) (0, 0)).2))))), (Yd.val (bptr J 0)), (Yd.val (iv ((t.rows.getD (((c_8 t).getD q 0) + 1) (0, 0)).1))), (Yd.val (bptr E 0)), (Yd.val (iv ((t.rows.getD (((c_8 t).getD q 0)) (0, 0)).1))), (Yd.val (iv (((t.rows.getD (((c_8 t).getD q 0) + 1) (0, 0)).1) - ((t.rows.getD (((c_8 t).getD q 0)) (0, 0)).1)))), (Yd.val (Value.agg #[(iv ((x - ((t.rows.getD (((c_8 t).getD q 0)) (0, 0)).1)) * (((t.rows.getD (((c_8 t).getD q 0) + 1) (0, 0)).2) - ((t.rows.getD (((c_8 t).getD q 0)) (0, 0)).2)))), (iv (((t.rows.getD (((c_8 t).getD q 0) + 1) (0, 0)).1) - ((t.rows.getD (((c_8 t).getD q 0)) (0, 0)).1)))])), (Yd.val (iv (upF ((x - ((t.rows.getD (((c_8 t).getD q 0)) (0, 0)).1)) * (((t.rows.getD (((c_8 t).getD q 0) + 1) (0, 0)).2) - ((t.rows.getD (((c_8 t).getD q 0)) (0, 0)).2))) (((t.rows.getD (((c_8 t).getD q 0) + 1) (0, 0)).1) - ((t.rows.getD (((c_8 t).getD q 0)) (0, 0)).1)))))] (by decide +kernel) rfl rfl ?_ ?_
    ·skip
     refine ⟨fun a w hA hS hd => ?_, ?_⟩
     ·skip
      exact e_2 rfl (dv (a_4 rfl k_0 hA.e) hS rfl)
     refine ⟨fun a w hA hS hd => ?_, ?_⟩
     ·skip
      have e0 := d_4 (hd 0 (by decide)) rfl (fun _ h => h)
      exact e_2 rfl (dv (a_3 rfl ty_3 (c_1 e0) (hS.bk 4 rfl) rfl) hS rfl)
     refine ⟨fun a w hA hS hd => ?_, ?_⟩
     ·skip
      exact e_2 rfl (dv (a_4 rfl fd_159_0 hA.e) hS rfl)
     refine ⟨fun a w hA hS hd => ?_, ?_⟩
     ·skip
      have e2 := d_4 (hd 2 (by decide)) rfl (fun _ h => h)
      exact e_2 rfl (dv (a_3 rfl ty_154 (c_1 e2) (hS.bk 8 rfl) rfl) hS rfl)
     refine ⟨fun a w hA hS hd => ?_, ?_⟩
     ·skip
      exact e_2 rfl (dv (a_3 rfl ty_3 hA.e (hS.bk 9 rfl) rfl) hS rfl)
     refine ⟨fun a w hA hS hd => ?_, ?_⟩
     ·skip
      exact e_2 rfl (dv (a_4 rfl h_9 hA.e) hS rfl)
     refine ⟨fun a w hA hS hd => ?_, ?_⟩
     ·skip
      have e5 := d_4 (hd 5 (by decide)) rfl (fun _ h => h)
      exact e_2 rfl (dv (a_3 rfl ty_3 (c_1 e5) (hS.bk 4 rfl) rfl) hS rfl)
     refine ⟨fun a w hA hS hd => ?_, ?_⟩
     ·skip
      have e4 := d_4 (hd 4 (by decide)) rfl (fun _ h => h)
      have e6 := d_4 (hd 6 (by decide)) rfl (fun _ h => h)
      exact e_2 rfl (dv (k_5 rfl (c_1 e4) (c_1 e6) (by omega) (by omega)) hS rfl)
     refine ⟨fun a w hA hS hd => ?_, ?_⟩
     ·skip
      exact e_2 rfl (dv (a_4 rfl k_0 hA.e) hS rfl)
     refine ⟨fun a w hA hS hd => ?_, ?_⟩
     ·skip
      have e8 := d_4 (hd 8 (by decide)) rfl (fun _ h => h)
      exact e_2 rfl (dv (a_3 rfl ty_3 (c_1 e8) (hS.bk 3 rfl) rfl) hS rfl)
     refine ⟨fun a w hA hS hd => ?_, ?_⟩
     ·skip
      exact e_2 rfl (dv (a_4 rfl k_0 hA.e) hS rfl)
     refine ⟨fun a w hA hS hd => ?_, ?_⟩
     ·skip
      have CI := d_4 (hd 10 (by decide)) rfl (fun _ h => h)
      exact e_2 rfl (dv (a_3 rfl ty_3 (c_1 CI) (hS.bk 4 rfl) rfl) hS rfl)
     refine ⟨fun a w hA hS hd => ?_, ?_⟩
     ·skip
      have e9 := d_4 (hd 9 (by decide)) rfl (fun _ h => h)
      have CJ := d_4 (hd 11 (by decide)) rfl (fun _ h => h)
      exact e_2 rfl (dv (k_5 rfl (c_1 e9) (c_1 CJ) (by omega) (by omega)) hS rfl)
     refine ⟨fun a w hA hS hd => ?_, ?_⟩
     ·skip
      have e7 := d_4 (hd 7 (by decide)) rfl (fun _ h => h)
      have CK := d_4 (hd 12 (by decide)) rfl (fun _ h => h)
      exact e_2 rfl (dv (op_mul rfl (c_1 e7) (c_1 CK) (by omega) (by omega)) hS rfl)
     refine ⟨fun a w hA hS hd => ?_, ?_⟩
     ·skip
      exact e_2 rfl (dv (a_4 rfl h_9 hA.e) hS rfl)
     refine ⟨fun a w hA hS hd => ?_, ?_⟩
     ·skip
      have CM := d_4 (hd 14 (by decide)) rfl (fun _ h => h)
      exact e_2 rfl (dv (a_3 rfl ty_3 (c_1 CM) (hS.bk 3 rfl) rfl) hS rfl)
     refine ⟨fun a w hA hS hd => ?_, ?_⟩
     ·skip
      exact e_2 rfl (dv (a_4 rfl h_9 hA.e) hS rfl)
     refine ⟨fun a w hA hS hd => ?_, ?_⟩
     ·skip
      have CO := d_4 (hd 16 (by decide)) rfl (fun _ h => h)
      exact e_2 rfl (dv (a_3 rfl ty_3 (c_1 CO) (hS.bk 4 rfl) rfl) hS rfl)
     refine ⟨fun a w hA hS hd => ?_, ?_⟩
     ·skip
      have CN := d_4 (hd 15 (by decide)) rfl (fun _ h => h)
      have CP := d_4 (hd 17 (by decide)) rfl (fun _ h => h)
      exact e_2 rfl (dv (k_5 rfl (c_1 CN) (c_1 CP) (by omega) (by omega)) hS rfl)
     refine ⟨fun a w hA hS hd => ?_, ?_⟩
     ·skip
      have CL := d_4 (hd 13 (by decide)) rfl (fun _ h => h)
      have CQ := d_4 (hd 18 (by decide)) rfl (fun _ h => h)
      exact e_2 rfl (dv (c_7 rfl (pv2 (c_1 CL) (c_1 CQ)) (bd_157_0i_1i _ _)) hS rfl)
     refine ⟨fun a w hA hS hd => ?_, ?_⟩
     ·skip
      have e3 := d_4 (hd 3 (by decide)) rfl (fun _ h => h)
      have CR := d_4 (hd 19 (by decide)) rfl (fun _ h => h)
      exact e_2 rfl (dx (h_0 rfl (c_1 e3) en_103 (ev1 (c_1 CR)) (up_ok _ _ _ (by omega) (by omega))) hS (fun _ => rfl))
     trivial
    intro Bm Cp AZ An z; clear AY D
    have Aa := AZ.add (hz z 1); clear AZ
    have U := Aa.add (hz z 20); clear Aa
    clear z
    refine s1 U (g_9 rfl U.e U.e (by omega) (by omega)) fun Bn BS => ?_; clear U Bm
    have hvl : ((t.rows.getD (((c_8 t).getD q 0)) (0, 0)).2) + (upF ((x - ((t.rows.getD (((c_8 t).getD q 0)) (0, 0)).1)) * (((t.rows.getD (((c_8 t).getD q 0) + 1) (0, 0)).2) - ((t.rows.getD (((c_8 t).getD q 0)) (0, 0)).2))) (((t.rows.getD (((c_8 t).getD q 0) + 1) (0, 0)).1) - ((t.rows.getD (((c_8 t).getD q 0)) (0, 0)).1))) = (d_8 t x).2 := by unfold d_8; rw [made_good (fun i hi => hrw i (by omega)) hq hpc (good_piece hq (by assumption) (by assumption))]; rfl
    have V : Fr 62 [] [(61, (iv ((d_8 t x).2))), (60, (iv (upF ((x - ((t.rows.getD (((c_8 t).getD q 0)) (0, 0)).1)) * (((t.rows.getD (((c_8 t).getD q 0) + 1) (0, 0)).2) - ((t.rows.getD (((c_8 t).getD q 0)) (0, 0)).2))) (((t.rows.getD (((c_8 t).getD q 0) + 1) (0, 0)).1) - ((t.rows.getD (((c_8 t).getD q 0)) (0, 0)).1))))), (41, (iv ((t.rows.getD (((c_8 t).getD q 0)) (0, 0)).2))), (11, (bptr J 0)), (10, (bptr E 0)), (7, (bptr C 0)), (6, (bptr B 0)), (5, (bptr A 0)), (4, (bptr H 0))] Bn := by rw [← hvl]; exact BS
    refine s7 V (b_4 An rfl ty_3 V.e V.e (i := 7) rfl (vs := [(iv ((d_8 t x).2))]) rfl rfl rfl (Nat.le_of_ble_eq_true rfl)) ?_
    intro _ Bw Ao f; clear V
    have Ap : Sep NoB w Bw [(obR AE (.loop (rc104 .busy none))), (g_3 (D103 :: [])), G105, (blk J 107 [(iv ((t.rows.getD (((c_8 t).getD q 0) + 1) (0, 0)).1)), (iv ((t.rows.getD (((c_8 t).getD q 0) + 1) (0, 0)).2))]), (blk E 107 [(iv ((t.rows.getD (((c_8 t).getD q 0)) (0, 0)).1)), (iv ((t.rows.getD (((c_8 t).getD q 0)) (0, 0)).2))]), (blk bl93 106 [(iv t.frm), (iv t.dst), vr, vb, (iv t.err)]), (blk C 4 [(Value.bool false)]), (blk B 3 [(iv ((d_8 t x).2))]), (blk A 159 [(Value.func (.func 103) #[] #[])]), (blk H 3 [(iv x)]), (blk M 106 [(iv t.frm), (iv t.dst), vr, vb, (iv t.err)]), (sl vr 2 t.rows.length (pairs t.rows)), (sl vb 1 t.brk.length (ints t.brk))] := Ao; clear Ao An
    refine s7 f (b_4 Ap rfl ty_4 f.e (evc _ _) (i := 6) rfl (vs := [(Value.bool true)]) rfl rfl rfl (Nat.le_of_ble_eq_true rfl)) ?_
    intro _ Bx Aq CV; clear f
    have Ar : Sep NoB w Bx [(obR AE (.loop (rc104 .busy none))), (g_3 (D103 :: [])), G105, (blk J 107 [(iv ((t.rows.getD (((c_8 t).getD q 0) + 1) (0, 0)).1)), (iv ((t.rows.getD (((c_8 t).getD q 0) + 1) (0, 0)).2))]), (blk E 107 [(iv ((t.rows.getD (((c_8 t).getD q 0)) (0, 0)).1)), (iv ((t.rows.getD (((c_8 t).getD q 0)) (0, 0)).2))]), (blk bl93 106 [(iv t.frm), (iv t.dst), vr, vb, (iv t.err)]), (blk C 4 [(Value.bool true)]), (blk B 3 [(iv ((d_8 t x).2))]), (blk A 159 [(Value.func (.func 103) #[] #[])]), (blk H 3 [(iv x)]), (blk M 106 [(iv t.frm), (iv t.dst), vr, vb, (iv t.err)]), (sl vr 2 t.rows.length (pairs t.rows)), (sl vb 1 t.brk.length (ints t.brk))] := Aq; clear Aq Ap
    refine n1 (c_6 (e_6 ?_))
    have BU := Ar.gkp (gpc 0 (gpc 1 (gpc 2 (gpc 5 (gpc 6 (gpc 7 (gpc 8 (gpc 9 (gpc 10 (gpc 11 (gpc 12 gpn))))))))))); clear Ar
    exact re_ret rfl ⟨_, rfl, ⟨rfl, (by rw [made_good (fun i hi => hrw i (by omega)) hq hpc (good_piece hq (by assumption) (by assumption))]; rfl)⟩⟩ BU
   skip
   rw [decide_eq_false A0] at L
   refine b_8 L rfl (e_1 (k_7 ?_))
   have BV := D.gkp (gpc 0 (gpc 1 (gpc 2 (gpc 5 (gpc 6 (gpc 7 (gpc 8 (gpc 9 (gpc 10 (gpc 11 (gpc 12 gpn))))))))))); clear D
   exact re_n ⟨_, rfl, ⟨rfl, (fun j hj => by rcases Nat.lt_succ_iff_lt_or_eq.1 hj with h | h; exact hpc j h; subst h; first | exact u_3 (.inl (by assumption)) | exact u_3 (.inr (.inl (by assumption))))⟩⟩ BV
  skip
  rw [decide_eq_false Az] at I
  refine s3 I fun Bo Ab => ?_; clear I A1
  refine s3 Ab fun Bp Ac => ?_; clear Ab Bo
  refine s3 Ac fun Bq Ad => ?_; clear Ac Bp
  refine s3 Ad fun Br g => ?_; clear Ad Bq
  refine s1 g (e_0 rfl g.e (evc _ _)) fun CZ BT => ?_; clear g Br
  refine n1 (b_8 BT rfl (e_1 (k_7 ?_)))
  have BW := D.gkp (gpc 0 (gpc 1 (gpc 2 (gpc 5 (gpc 6 (gpc 7 (gpc 8 (gpc 9 (gpc 10 (gpc 11 (gpc 12 gpn))))))))))); clear D
  exact re_n ⟨_, rfl, ⟨rfl, (fun j hj => by rcases Nat.lt_succ_iff_lt_or_eq.1 hj with h | h; exact hpc j h; subst h; first | exact u_3 (.inl (by assumption)) | exact u_3 (.inr (.inl (by assumption))))⟩⟩ BW
 ·skip
  intro L_ hL_ D188 Ca Cq m As; obtain ⟨rfl, hpc⟩ := hL_; clear W AD
  refine k_7 (b_3 (m2 (s7 m (b_4 As rfl ty_3 m.e (evc _ _) (i := 4) rfl (vs := [(iv 0)]) rfl rfl rfl (Nat.le_of_ble_eq_true rfl)) ?_)))
  intro _ By At o; clear m
  have Au : Sep NoB w By [(g_3 (D188 :: [])), nilR, (blk bl93 106 [(iv t.frm), (iv t.dst), vr, vb, (iv t.err)]), (blk C 4 [(Value.bool false)]), (blk B 3 [(iv 0)]), (blk A 159 [(Value.func (.func 103) #[] #[])]), (blk H 3 [(iv x)]), (blk M 106 [(iv t.frm), (iv t.dst), vr, vb, (iv t.err)]), (sl vr 2 t.rows.length (pairs t.rows)), (sl vb 1 t.brk.length (ints t.brk))] := At; clear At As
  refine s7 o (b_4 Au rfl ty_4 o.e (evc _ _) (i := 3) rfl (vs := [(Value.bool false)]) rfl rfl rfl (Nat.le_of_ble_eq_true rfl)) ?_
  intro _ Bz Av Ae; clear o
  have Aw : Sep NoB w Bz [(g_3 (D188 :: [])), nilR, (blk bl93 106 [(iv t.frm), (iv t.dst), vr, vb, (iv t.err)]), (blk C 4 [(Value.bool false)]), (blk B 3 [(iv 0)]), (blk A 159 [(Value.func (.func 103) #[] #[])]), (blk H 3 [(iv x)]), (blk M 106 [(iv t.frm), (iv t.dst), vr, vb, (iv t.err)]), (sl vr 2 t.rows.length (pairs t.rows)), (sl vb 1 t.brk.length (ints t.brk))] := Av; clear Av Au
  refine n1 (c_6 (fin_runM Ae (.inl rfl) Aw ?_))
  intro Cr AA; clear Aw
  refine ⟨_, (c_4 Ae rfl (.cell1 rfl ty_3 (AA.bk 3 rfl) rfl) (.cell1 rfl ty_4 (AA.bk 2 rfl) rfl)), ?_⟩
  have hz := (made_goodno (fun i hi => hrw i (by omega)) (fun i hi => hpc i (by omega)))
  exact ⟨by unfold d_8; rw [hz]; rfl, AA.ext⟩
 skip
 intro c_ hc_; cases hc_
 intro L_ hL_ D203 Cb Cs Af Ax; obtain ⟨rfl, hsm⟩ := hL_; clear W AD
 refine c_6 (e_6 (b_1 (fin_runM Af (.inl rfl) Ax ?_)))
 intro Ct AB; clear Ax
 refine ⟨_, (c_4 Af rfl (.cell1 rfl ty_3 (AB.bk 3 rfl) rfl) (.cell1 rfl ty_4 (AB.bk 2 rfl) rfl)), ?_⟩
 exact ⟨by rw [hsm], AB.ext⟩
theorem around_ok (t : TabD) (vr vb : Value) (w : World) (hr : SlAt w vr 2 t.rows.length (pairs t.rows)) (hb : SlAt w vb 1 t.brk.length (ints t.brk)) (hrl : t.rows.length ≤ 1000000) (hbl : t.brk.length ≤ 1000000) (n : Int) (hV : TabV n t) (x : Int) :
  Calls Try.prog 72 #[(Value.agg #[(iv t.frm), (iv t.dst), vr, vb, (iv t.err)]), (iv x)] w (Ret fun v w' => v = .tuple #[.agg #[.int .i64 (d_8 t x).1, .int .i64 (d_8 t x).2], .bool (l_5 t x).isSome] ∧ Ext NoB w w') := by
 refine a_7 Try.func72 rfl fun s G => ?_
 replace G : Fr 28 [] [(0, (Value.agg #[(iv t.frm), (iv t.dst), vr, vb, (iv t.err)])), (1, (iv x))] s := G
 have p : Sep NoB w w [(sl vr 2 t.rows.length (pairs t.rows)), (sl vb 1 t.brk.length (ints t.brk))] := f_0 ⟨rfl, hr, rfl, hb, trivial⟩
 refine m2 (s2 G (f_3 p rfl G.e (cs := [(iv t.frm), (iv t.dst), vr, vb, (iv t.err)]) rfl) ?_)
 rintro a1 _ w3 ⟨b4, rfl, q⟩ m; clear G p s
 refine s2 m (d_2 q rfl t_7 (cs := [(iv 0), (iv 0)]) rfl) ?_
 rintro a6 _ w8 ⟨r, rfl, C⟩ o; clear m q a1
 refine s1 o (a_0 rfl (evc _ _)) fun u H => ?_; clear o a6
 refine n4 (s1 H (b_9 rfl j_5 (H.ev rfl) (C.bk 1 rfl) (l := [(iv t.frm), (iv t.dst), vr, vb, (iv t.err)]) rfl rfl) fun y I => ?_); clear H u
 refine s1 I (a_1 rfl I.e) fun z Z => ?_; clear I y
 refine s1 Z (c_7 rfl (pv1 (evf _ _)) (bd_159_0f _ _ _)) fun AA A => ?_; clear Z z
 refine s2 A (a_8 rfl en_101 (ev3 A.e A.e A.e) (makes_dn t _ _ _ (C.sk 2 rfl) (C.sk 3 rfl) (by omega) (by omega) _ hV x)) ?_
 rintro AB _ AZ ⟨rfl, f⟩ J; have D := C.step f; clear f A C AA
 refine s1 J (a_1 rfl J.e) fun AC K => ?_; clear J AB
 refine s1 K (b_2 rfl K.e rfl) fun AD L => ?_; clear K AC
 refine s1 L (b_2 rfl L.e rfl) fun AE M => ?_; clear L AD
 refine s1 M (a_0 rfl M.e) fun AF N => ?_; clear M AE
 refine s1 N (a_0 rfl N.e) fun AG a => ?_; clear N AF
 refine n2 ?_
 have O := a.as [(7, (Value.bool ((l_5 t x).isSome))), (6, (iv ((d_8 t x).1))), (4, (bptr r 0)), (2, (bptr b4 0)), (1, (iv x))] rfl; clear a
 refine a_5 (s1 O (b_9 rfl j_5 (O.ev rfl) (D.bk 1 rfl) (l := [(iv t.frm), (iv t.dst), vr, vb, (iv t.err)]) rfl rfl) fun AH P => ?_); clear O AG
 refine s1 P (a_1 rfl P.e) fun AI b => ?_; clear P AH
 refine s1 b (c_7 rfl (pv1 (evf _ _)) (bd_159_0f _ _ _)) fun AJ B => ?_; clear b AI
 refine s2 B (a_8 rfl en_101 (ev3 B.e B.e B.e) (makes_up t _ _ _ (D.sk 2 rfl) (D.sk 3 rfl) (by omega) (by omega) _ hV x)) ?_
 rintro AK _ Aa ⟨rfl, g⟩ Q; have h := D.step g; clear g B D AJ
 refine s1 Q (a_1 rfl Q.e) fun AL R => ?_; clear Q AK
 refine s1 R (b_2 rfl R.e rfl) fun AM S => ?_; clear R AL
 refine s1 S (b_2 rfl S.e rfl) fun AN T => ?_; clear S AM
 refine s1 T (a_0 rfl T.e) fun AO U => ?_; clear T AN
 refine s1 U (a_0 rfl U.e) fun AP c => ?_; clear U AO
 refine n2 ?_
 have V := c.as [(8, (iv ((d_8 t x).2))), (7, (Value.bool ((l_5 t x).isSome))), (6, (iv ((d_8 t x).1))), (4, (bptr r 0))] rfl; clear c
 refine a_5 (s1 V (a_1 rfl V.e) fun AQ W => ?_); clear V AP
 refine s1 W (a_1 rfl W.e) fun AR E => ?_; clear W AQ
 refine s1 E (c_7 rfl (pv2 E.e E.e) (m_4 _ _)) fun AS X => ?_; clear E AR
 refine s1 X (a_1 rfl X.e) fun AT F => ?_; clear X AS
 refine s7 F (b_4 h rfl f_1 F.e F.e (i := 0) rfl (vs := [(iv ((d_8 t x).1)), (iv ((d_8 t x).2))]) rfl rfl rfl (Nat.le_of_ble_eq_true rfl)) ?_
 intro _ AV j Y; clear F
 have k : Sep NoB w AV [(blk r 30 [(iv ((d_8 t x).1)), (iv ((d_8 t x).2))]), (blk b4 106 [(iv t.frm), (iv t.dst), vr, vb, (iv t.err)]), (sl vr 2 t.rows.length (pairs t.rows)), (sl vb 1 t.brk.length (ints t.brk))] := j; clear j h
 refine s1 Y (a_0 rfl Y.e) fun AY d => ?_; clear Y AT
 refine n1 (c_6 (b_0 d (.inl rfl) (c_4 d rfl (.cellA rfl f_1 (k.bk 0 rfl) (l := [(iv ((d_8 t x).1)), (iv ((d_8 t x).2))]) rfl rfl) (.tmp rfl)) ?_))
 exact ⟨rfl, k.ext⟩
theorem convert_ok (B C : Int) (t : TabD) (vr vb : Value) (w : World) (hr : SlAt w vr 2 t.rows.length (pairs t.rows)) (hb : SlAt w vb 1 t.brk.length (ints t.brk)) (hrl : t.rows.length ≤ 1000000) (hbl : t.brk.length ≤ 1000000) (n : Int) (hV : TabV n t) :
  Calls Try.prog 50 #[(Value.agg #[(iv t.frm), (iv t.dst), vr, vb, (iv t.err)]), (Value.agg #[(iv B), (iv C)])] w (Ret fun v w' => v = .agg #[.int .i64 (k_8 t (B, C)).1, .int .i64 (k_8 t (B, C)).2] ∧ Ext NoB w w') := by
 refine a_7 Try.func50 rfl fun a0 Q => ?_
 replace Q : Fr 42 [] [(0, (Value.agg #[(iv t.frm), (iv t.dst), vr, vb, (iv t.err)])), (1, (Value.agg #[(iv B), (iv C)]))] a0 := Q
 have A9 := madeV_bd hV B; have BA := madeV_bd hV C; have her := hV.err
 have AS : Sep NoB w w [(sl vr 2 t.rows.length (pairs t.rows)), (sl vb 1 t.brk.length (ints t.brk))] := f_0 ⟨rfl, hr, rfl, hb, trivial⟩
 refine m2 (s2 Q (f_3 AS rfl Q.e (cs := [(iv t.frm), (iv t.dst), vr, vb, (iv t.err)]) rfl) ?_)
 rintro a1 _ w3 ⟨J, rfl, AT⟩ m; clear Q AS a0
 refine s2 m (f_3 AT rfl m.e (cs := [(iv B), (iv C)]) rfl) ?_
 rintro a6 _ w8 ⟨k, rfl, AC⟩ AR; clear m AT a1
 refine s2 AR (d_2 AC rfl t_7 (cs := [(iv 0), (iv 0)]) rfl) ?_
 rintro Ab _ BD ⟨H, rfl, F⟩ R; clear AR AC a6
 refine n4 (s1 R (b_9 rfl j_5 (R.ev rfl) (F.bk 2 rfl) (l := [(iv t.frm), (iv t.dst), vr, vb, (iv t.err)]) rfl rfl) fun Ac S => ?_); clear R Ab
 refine s1 S (a_4 rfl n_3 S.e) fun Ad T => ?_; clear S Ac
 refine s1 T (a_3 rfl ty_3 T.e (F.bk 1 rfl) rfl) fun Ae K => ?_; clear T Ad
 refine s2 K (a_8 rfl en_72 (ev2 K.e K.e) (around_ok t _ _ _ (F.sk 3 rfl) (F.sk 4 rfl) (by omega) (by omega) _ hV B)) ?_
 rintro Af _ BE ⟨rfl, AA⟩ U; have AD := F.step AA; clear AA K F Ae
 refine s1 U (a_1 rfl U.e) fun Ag V => ?_; clear U Af
 refine s1 V (b_2 rfl V.e rfl) fun Ah W => ?_; clear V Ag
 refine s1 W (b_2 rfl W.e rfl) fun Ai o => ?_; clear W Ah
 refine s2 o (d_2 AD rfl t_7 (cs := [(iv 0), (iv 0)]) rfl) ?_
 rintro Aj _ BF ⟨E, rfl, AE⟩ L; clear o AD Ai
 refine s7 L (b_4 AE rfl f_1 L.e L.e (i := 0) rfl (vs := [(iv ((d_8 t B).1)), (iv ((d_8 t B).2))]) rfl rfl rfl (Nat.le_of_ble_eq_true rfl)) ?_
 intro _ Ay AF X; clear L
 have G : Sep NoB w Ay [(blk E 30 [(iv ((d_8 t B).1)), (iv ((d_8 t B).2))]), (blk H 30 [(iv 0), (iv 0)]), (blk k 30 [(iv B), (iv C)]), (blk J 106 [(iv t.frm), (iv t.dst), vr, vb, (iv t.err)]), (sl vr 2 t.rows.length (pairs t.rows)), (sl vb 1 t.brk.length (ints t.brk))] := AF; clear AF AE
 refine s1 X (a_0 rfl X.e) fun Ak p => ?_; clear X Aj
 refine n2 ?_
 have Y := p.as [(5, (bptr E 0)), (4, (bptr H 0)), (3, (bptr k 0)), (2, (bptr J 0))] rfl; clear p
 refine a_5 (s1 Y (b_9 rfl j_5 (Y.ev rfl) (G.bk 3 rfl) (l := [(iv t.frm), (iv t.dst), vr, vb, (iv t.err)]) rfl rfl) fun Al Z => ?_); clear Y Ak
 refine s1 Z (a_4 rfl n_4 Z.e) fun Am b => ?_; clear Z Al
 refine s1 b (a_3 rfl ty_3 b.e (G.bk 2 rfl) rfl) fun An M => ?_; clear b Am
 refine s2 M (a_8 rfl en_72 (ev2 M.e M.e) (around_ok t _ _ _ (G.sk 4 rfl) (G.sk 5 rfl) (by omega) (by omega) _ hV C)) ?_
 rintro Ao _ BG ⟨rfl, AB⟩ c; have AG := G.step AB; clear AB M G An
 refine s1 c (a_1 rfl c.e) fun Ap d => ?_; clear c Ao
 refine s1 d (b_2 rfl d.e rfl) fun Aq f => ?_; clear d Ap
 refine s1 f (b_2 rfl f.e rfl) fun Ar q => ?_; clear f Aq
 refine s2 q (d_2 AG rfl t_7 (cs := [(iv 0), (iv 0)]) rfl) ?_
 rintro As _ BH ⟨I, rfl, AH⟩ N; clear q AG Ar
 refine s7 N (b_4 AH rfl f_1 N.e N.e (i := 0) rfl (vs := [(iv ((d_8 t C).1)), (iv ((d_8 t C).2))]) rfl rfl rfl (Nat.le_of_ble_eq_true rfl)) ?_
 intro _ Az AI g; clear N
 have AJ : Sep NoB w Az [(blk I 30 [(iv ((d_8 t C).1)), (iv ((d_8 t C).2))]), (blk E 30 [(iv ((d_8 t B).1)), (iv ((d_8 t B).2))]), (blk H 30 [(iv 0), (iv 0)]), (blk k 30 [(iv B), (iv C)]), (blk J 106 [(iv t.frm), (iv t.dst), vr, vb, (iv t.err)]), (sl vr 2 t.rows.length (pairs t.rows)), (sl vb 1 t.brk.length (ints t.brk))] := AI; clear AI AH
 refine s1 g (a_0 rfl g.e) fun A7 r => ?_; clear g As
 refine n2 ?_
 have s := r.as [(7, (bptr I 0)), (5, (bptr E 0)), (4, (bptr H 0)), (2, (bptr J 0))] rfl; clear r
 have u := s.as [(7, (bptr I 0)), (5, (bptr E 0)), (4, (bptr H 0)), (2, (bptr J 0))] rfl; clear s
 refine c_drawV mixed u AJ 18 [[], [0], [], [2], [1, 3], [4], [], [6], [5, 7], [], [9], [], [11], [10, 12], [13], [], [15], [14, 16]] [(yw (bptr E 0)), (yw (iv ((d_8 t B).1))), (yw (bptr I 0)), (yw (iv ((d_8 t C).1))), (fun (A : Nat → Value) (v_ : Value) (rs_ : List Res) => True ∧ rs_ = [(row v_ 3 1 2 [(iv ((d_8 t B).1)), (iv ((d_8 t C).1))])]), (yw (iv (min ((d_8 t B).1) ((d_8 t C).1)))), (yw (bptr J 4)), (yw (iv t.err)), (yw (iv ((min ((d_8 t B).1) ((d_8 t C).1)) - t.err))), (yw (bptr E 1)), (yw (iv ((d_8 t B).2))), (yw (bptr I 1)), (yw (iv ((d_8 t C).2))), (fun (A : Nat → Value) (v_ : Value) (rs_ : List Res) => True ∧ rs_ = [(row v_ 3 1 2 [(iv ((d_8 t B).2)), (iv ((d_8 t C).2))])]), (yw (iv (max ((d_8 t B).2) ((d_8 t C).2)))), (yw (bptr J 4)), (yw (iv t.err)), (yw (iv ((max ((d_8 t B).2) ((d_8 t C).2)) + t.err)))] (by decide +kernel) (by decide +kernel) rfl rfl ⟨dw, dw, dw, dw, (fun _ _ _ _ _ h_ => h_), dw, dw, dw, dw, dw, dw, dw, dw, (fun _ _ _ _ _ h_ => h_), dw, dw, dw, dw, trivial⟩ ?_ ?_
 ·skip
  refine ⟨fun a w A hA hS hd => gv1 (a_4 rfl n_3 hA.e), ?_⟩
  refine ⟨fun a w A hA hS hd => gv1 (a_3 rfl ty_3 (gu hd 0) (hS.bk 1 rfl) rfl), ?_⟩
  refine ⟨fun a w A hA hS hd => gv1 (a_4 rfl n_3 hA.e), ?_⟩
  refine ⟨fun a w A hA hS hd => gv1 (a_3 rfl ty_3 (gu hd 2) (hS.bk 0 rfl) rfl), ?_⟩
  refine ⟨fun a w A hA hS hd => e_2 rfl (vblt rfl (pv2 (gu hd 1) (gu hd 3)) j_6 ty_3 ze_3 (by decide) (cs := [(iv ((d_8 t B).1)), (iv ((d_8 t C).1))]) (q_0 _ _) rfl (by decide) (fun _ => And.intro trivial rfl)), ?_⟩
  refine ⟨fun a w A hA hS hd => ?_, ?_⟩
  ·skip
   obtain ⟨e4, BC, Ax, Av⟩ := hd 4 (by decide)
   obtain ⟨BB, Aw⟩ := Ax; subst Aw
   have hp4_0 := Av _ (List.mem_of_getElem? (i := 0) rfl)
   exact gx1 (a_8 rfl en_79 (ev1 (c_1 (f_4 e4 rfl))) (callsI (least_ok [(d_8 t B).1, (d_8 t C).1] _ _ (SlAt.e_4 hp4_0) (by simp) (by simp)) (min ((d_8 t B).1) ((d_8 t C).1)) rfl))
  refine ⟨fun a w A hA hS hd => gv1 (a_4 rfl w_1 hA.e), ?_⟩
  refine ⟨fun a w A hA hS hd => gv1 (a_3 rfl ty_3 (gu hd 6) (hS.bk 4 rfl) rfl), ?_⟩
  refine ⟨fun a w A hA hS hd => gv1 (k_5 rfl (gu hd 5) (gu hd 7) (by omega) (by omega)), ?_⟩
  refine ⟨fun a w A hA hS hd => gv1 (a_4 rfl n_4 hA.e), ?_⟩
  refine ⟨fun a w A hA hS hd => gv1 (a_3 rfl ty_3 (gu hd 9) (hS.bk 1 rfl) rfl), ?_⟩
  refine ⟨fun a w A hA hS hd => gv1 (a_4 rfl n_4 hA.e), ?_⟩
  refine ⟨fun a w A hA hS hd => gv1 (a_3 rfl ty_3 (gu hd 11) (hS.bk 0 rfl) rfl), ?_⟩
  refine ⟨fun a w A hA hS hd => e_2 rfl (vblt rfl (pv2 (gu hd 10) (gu hd 12)) j_6 ty_3 ze_3 (by decide) (cs := [(iv ((d_8 t B).2)), (iv ((d_8 t C).2))]) (q_0 _ _) rfl (by decide) (fun _ => And.intro trivial rfl)), ?_⟩
  refine ⟨fun a w A hA hS hd => ?_, ?_⟩
  ·skip
   obtain ⟨Au, A6, AY, AU⟩ := hd 13 (by decide)
   obtain ⟨A5, AV⟩ := AY; subst AV
   have hp13_0 := AU _ (List.mem_of_getElem? (i := 0) rfl)
   exact gx1 (a_8 rfl en_80 (ev1 (c_1 (f_4 Au rfl))) (callsI (greatest_ok [(d_8 t B).2, (d_8 t C).2] _ _ (SlAt.e_4 hp13_0) (by simp) (by simp)) (max ((d_8 t B).2) ((d_8 t C).2)) rfl))
  refine ⟨fun a w A hA hS hd => gv1 (a_4 rfl w_1 hA.e), ?_⟩
  refine ⟨fun a w A hA hS hd => gv1 (a_3 rfl ty_3 (gu hd 15) (hS.bk 4 rfl) rfl), ?_⟩
  refine ⟨fun a w A hA hS hd => gv1 (g_9 rfl (gu hd 14) (gu hd 16) (by omega) (by omega)), ?_⟩
  trivial
 intro At A0 A rsf81 x D h; clear u AJ
 obtain ⟨AW, AZ⟩ := D 4 (by decide)
 obtain ⟨AX, AN⟩ := AZ
 obtain ⟨AO, AQ⟩ := D 13 (by decide)
 obtain ⟨AP, j⟩ := AQ
 have AK : Sep NoB w A0 [(row (A 4) 3 1 2 [(iv ((d_8 t B).1)), (iv ((d_8 t C).1))]), (row (A 13) 3 1 2 [(iv ((d_8 t B).2)), (iv ((d_8 t C).2))]), (blk I 30 [(iv ((d_8 t C).1)), (iv ((d_8 t C).2))]), (blk E 30 [(iv ((d_8 t B).1)), (iv ((d_8 t B).2))]), (blk H 30 [(iv 0), (iv 0)]), (blk k 30 [(iv B), (iv C)]), (blk J 106 [(iv t.frm), (iv t.dst), vr, vb, (iv t.err)]), (sl vr 2 t.rows.length (pairs t.rows)), (sl vb 1 t.brk.length (ints t.brk))] := by rw [show catR rsf81 0 18 = ([(row (A 4) 3 1 2 [(iv ((d_8 t B).1)), (iv ((d_8 t C).1))]), (row (A 13) 3 1 2 [(iv ((d_8 t B).2)), (iv ((d_8 t C).2))])] : List Res) by (try simp only [catR, gr (D 0 (by decide)), gr (D 1 (by decide)), gr (D 2 (by decide)), gr (D 3 (by decide)), AN, gr (D 5 (by decide)), gr (D 6 (by decide)), gr (D 7 (by decide)), gr (D 8 (by decide)), gr (D 9 (by decide)), gr (D 10 (by decide)), gr (D 11 (by decide)), gr (D 12 (by decide)), j, gr (D 14 (by decide)), gr (D 15 (by decide)), gr (D 16 (by decide)), gr (D 17 (by decide))]); (try rfl)] at h; exact h
 have y := x.add (gs (D 8 (by decide))); clear x
 have O := y.add (gs (D 17 (by decide))); clear y
 clear D h AW AO
 clear AN
 clear AX
 clear j
 clear AP
 refine s1 O (c_7 rfl (pv2 O.e O.e) (m_4 _ _)) fun A8 P => ?_; clear O At
 refine s7 P (b_4 AK rfl f_1 P.e P.e (i := 4) rfl (vs := [(iv ((min ((d_8 t B).1) ((d_8 t C).1)) - t.err)), (iv ((max ((d_8 t B).2) ((d_8 t C).2)) + t.err))]) rfl rfl rfl (Nat.le_of_ble_eq_true rfl)) ?_
 intro _ A1 AL z; clear P
 have AM : Sep NoB w A1 [(row (A 4) 3 1 2 [(iv ((d_8 t B).1)), (iv ((d_8 t C).1))]), (row (A 13) 3 1 2 [(iv ((d_8 t B).2)), (iv ((d_8 t C).2))]), (blk I 30 [(iv ((d_8 t C).1)), (iv ((d_8 t C).2))]), (blk E 30 [(iv ((d_8 t B).1)), (iv ((d_8 t B).2))]), (blk H 30 [(iv ((min ((d_8 t B).1) ((d_8 t C).1)) - t.err)), (iv ((max ((d_8 t B).2) ((d_8 t C).2)) + t.err))]), (blk k 30 [(iv B), (iv C)]), (blk J 106 [(iv t.frm), (iv t.dst), vr, vb, (iv t.err)]), (sl vr 2 t.rows.length (pairs t.rows)), (sl vb 1 t.brk.length (ints t.brk))] := AL; clear AL AK
 refine n1 (c_6 (b_0 z (.inl rfl) (a_2 z rfl (.cellA rfl f_1 (AM.bk 4 rfl) (l := [(iv ((min ((d_8 t B).1) ((d_8 t C).1)) - t.err)), (iv ((max ((d_8 t B).2) ((d_8 t C).2)) + t.err))]) rfl rfl)) ?_))
 exact ⟨rfl, AM.ext⟩
end Go.Proofs.Ytohgladndklciaa

namespace Go.Proofs.Ytohgladndklciaa
open Go.RowKit Go.Shelf Go.Eng Go.Hard
theorem indexB_int (xs : List Int) (lf : Nat → Int) (bm : Nat) (v : Value) (fid : Nat) (fs cs : Array Value) (p : Nat → Bool) (w : World) (hJ : Sep (fun b => b = bm) w w [blk bm 3 [.int .i64 (lf 0)], sl v 1 xs.length (ints xs)]) (hlen : xs.length ≤ 1000000) (hf : AsksB Try.prog w fid fs cs xs.length (fun i => .int .i64 (xs.getD i 0)) p false bm 3 (fun i => [.int .i64 (lf i)])) :
  Calls Try.prog 115 #[v, (Value.func (.func fid) fs cs)] w (Ret fun v w' => v = .int .i64 (fidx p xs.length) ∧ Ext (fun b => b = bm) w w' ∧ ∃ x, (blk bm 3 [.int .i64 x]).p w') := by
 refine a_7 Try.func115 rfl fun m S => ?_
 replace S : Fr 19 [] [(0, v), (1, (Value.func (.func fid) fs cs))] m := S
 have Z : Sep (fun b => b = bm) w w [(blk bm 3 [(iv (lf 0))]), (sl v 1 xs.length (ints xs))] := hJ
 refine m2 (s1 S (a_0 rfl (evc _ _)) fun a1 T => ?_); clear S m
 refine n2 (m2 (s1 T (a_1 rfl T.e) fun a3 U => ?_)); clear T a1
 refine s1 U (e_8 rfl j_6 U.e (Z.sk 1 rfl)) fun a5 f => ?_; clear U a3
 refine s1 f (a_1 rfl (evc _ _)) fun a7 g => ?_; clear f a5
 refine n1 (e_3 ?_)
 have j := g.as [(8, (iv 0)), (7, (iv (xs.length : Int))), (0, v), (1, (Value.func (.func fid) fs cs))] rfl; clear g
 refine k_4 (G := Nat) (fun (k : Nat) a_ w_ => Fr 19 [] [(8, (iv (k : Int))), (7, (iv (xs.length : Int))), (0, v), (1, (Value.func (.func fid) fs cs))] a_ ∧ Sep (fun b => b = bm) w w_ [(blk bm 3 [(iv (lf k))]), (sl v 1 xs.length (ints xs))] ∧ (k ≤ xs.length) ∧ (∀ i, i < k → p i = false)) (fun k => xs.length - k) 0 ⟨j.as _ rfl, Z, by omega, by omega⟩ ?_
 clear j Z a7
 rintro k n AI ⟨D, C, hk, hn⟩
 refine m2 (s1 D (h_8 rfl D.e D.e) fun c A => ?_); clear D n
 refine n2 ?_
 by_cases a : (k : Int) < (xs.length : Int)
 ·skip
  rw [decide_eq_true a] at A
  refine d_6 A rfl (e_1 (b_3 (d_3 (e_3 (m2 (s1 A (a_1 rfl A.e) fun o H => ?_)))))); clear A c
  refine s1 H (a_0 rfl H.e) fun q I => ?_; clear H o
  refine n4 (s1 I (a_1 rfl I.e) fun r J => ?_); clear I q
  refine s1 J (a_1 rfl J.e) fun s K => ?_; clear J r
  refine s1 K (a_1 rfl K.e) fun t E => ?_; clear K s
  refine s1 E (b_6 rfl j_6 ty_3 E.e (i := k) E.e (C.sk 1 rfl) (by decide) (by omega)) fun u L => ?_; clear E t
  refine s1 L (g_2 rfl ty_3 L.e (C.sk 1 rfl) (ints_at (by omega))) fun y F => ?_; clear L u
  refine s2 F (h_0 rfl (F.ev rfl) hf.1 (ev1 F.e) (hf.2 k (by omega) hn _ C.ext (C.bk 0 rfl))) ?_
  rintro d _ AJ ⟨rfl, X, Y⟩ B; have Q := C.updB (i := 0) rfl X Y; clear X Y F C y
  refine n1 ?_
  rcases Bool.eq_false_or_eq_true (p k) with R | R
  ·skip
   rw [R] at B
   refine d_6 B rfl (d_3 ?_)
   have M := B.as [(5, (iv (k : Int)))] rfl; clear B
   refine a_5 (s1 M (a_1 rfl M.e) fun z N => ?_); clear M d
   refine s1 N (a_0 rfl N.e) fun AF V => ?_; clear N z
   exact n1 (c_6 (e_6 (b_1 (b_1 (e_6 (b_1 (b_0 V (.inl rfl) (a_2 V rfl (.tmp rfl)) (⟨by first | rw [j_1 (by omega) hn (by assumption)] | rw [h_7 (fun i hi => hn i (by omega))], Q.ext, _, Q.bk 0 rfl⟩))))))))
  skip
  rw [R] at B
  refine b_8 B rfl (e_1 (k_7 (b_3 ?_)))
  have O := B.as [(8, (iv (k : Int))), (7, (iv (xs.length : Int))), (0, v), (1, (Value.func (.func fid) fs cs))] rfl; clear B
  refine a_5 (s1 O (g_9 rfl O.e (evc _ _) (by omega) (by omega)) fun AA P => ?_); clear O d
  refine s1 P (a_1 rfl P.e) fun AG l => ?_; clear P AA
  refine g_6 ?_
  exact b_3 ⟨k + 1, ⟨l.as _ rfl, Q, by omega, (fun i hi => by rcases Nat.lt_succ_iff_lt_or_eq.1 hi with h | h; exact hn i h; subst h; assumption)⟩, by omega⟩
 skip
 rw [decide_eq_false a] at A
 refine b_8 A rfl (j_7 (b_7 (b_7 (h_6 (b_3 (m2 (s1 A (a_0 rfl (evc _ _)) fun AH W => ?_))))))); clear A c
 exact n1 (c_6 (b_0 W (.inl rfl) (a_2 W rfl (.tmp rfl)) (⟨by first | rw [j_1 (by omega) hn (by assumption)] | rw [h_7 (fun i hi => hn i (by omega))], C.ext, _, C.bk 0 rfl⟩)))
theorem contB_int (xs : List Int) (lf : Nat → Int) (bm : Nat) (v : Value) (fid : Nat) (fs cs : Array Value) (p : Nat → Bool) (w : World) (hJ : Sep (fun b => b = bm) w w [blk bm 3 [.int .i64 (lf 0)], sl v 1 xs.length (ints xs)]) (hlen : xs.length ≤ 1000000) (hf : AsksB Try.prog w fid fs cs xs.length (fun i => .int .i64 (xs.getD i 0)) p false bm 3 (fun i => [.int .i64 (lf i)])) :
  Calls Try.prog 99 #[v, (Value.func (.func fid) fs cs)] w (Ret fun v w' => v = .bool ((List.range xs.length).any p) ∧ Ext (fun b => b = bm) w w' ∧ ∃ x, (blk bm 3 [.int .i64 x]).p w') := by
 refine a_7 Try.func99 rfl fun L B => ?_
 replace B : Fr 9 [] [(0, v), (1, (Value.func (.func fid) fs cs))] L := B
 have K : Sep (fun b => b = bm) w w [(blk bm 3 [(iv (lf 0))]), (sl v 1 xs.length (ints xs))] := hJ
 refine m2 (s1 B (a_0 rfl (evc _ _)) fun N E => ?_); clear B L
 refine n4 (s1 E (a_1 rfl E.e) fun O F => ?_); clear E N
 refine s1 F (a_1 rfl F.e) fun P C => ?_; clear F O
 refine s2 C (a_8 rfl en_115 (ev2 C.e C.e) (indexB_int xs lf bm _ _ _ _ p _ hJ hlen hf)) ?_
 rintro Q _ S ⟨rfl, H, lx13, I⟩ G; have J := K.updB (i := 0) rfl H I; clear H I C K P
 refine s1 G (x_6 rfl G.e (evc _ _)) fun M A => ?_; clear G Q
 refine s1 A (a_0 rfl A.e) fun R D => ?_; clear A M
 exact n1 (c_6 (b_0 D (.inl rfl) (a_2 D rfl (.tmp rfl)) (⟨congrArg Value.bool (r_3 p xs.length), J.ext, _, J.bk 0 rfl⟩)))
theorem cloB_int (x : Int) (b bm fid : Nat) (L O : Int) (fs cs : Array Value) (q : Bool) (w : World) (hJ : Sep (fun k => k = bm) w w [blk bm 3 [.int .i64 L], rob b 112 [.func (.func fid) fs cs]]) (hen : ∀ args W, (callFunc fid args).run Try.prog W = .ok (.enter fid args) W) (hf : ∀ W, Ext (fun k => k = bm) w W → (blk bm 3 [.int .i64 L]).p W → Calls Try.prog fid (fs ++ #[.int .i64 x] ++ cs) W (Ret fun v w' => v = .bool q ∧ Ext (fun k => k = bm) W w' ∧ (blk bm 3 [.int .i64 O]).p w')) :
  Calls Try.prog 100 #[(iv x), (bptr b 0)] w (Ret fun v w' => v = .bool (!q) ∧ Ext (fun k => k = bm) w w' ∧ (blk bm 3 [.int .i64 O]).p w') := by
 refine a_7 Try.func100 rfl fun M C => ?_
 replace C : Fr 8 [] [(0, (iv x)), (1, (bptr b 0))] M := C
 have A : Sep (fun k => k = bm) w w [(blk bm 3 [(iv L)]), (rob b 112 [(Value.func (.func fid) fs cs)])] := hJ
 refine m2 (s1 C (a_0 rfl (evc _ _)) fun P F => ?_); clear C M
 refine n4 (s1 F (a_3 rfl ty_112 F.e (A.rk 1 rfl) rfl) fun Q G => ?_); clear F P
 refine s1 G (a_1 rfl G.e) fun R D => ?_; clear G Q
 refine s2 D (h_0 rfl (D.ev rfl) hen (ev1 D.e) (hf _ A.ext (A.bk 0 rfl))) ?_
 rintro S _ U ⟨rfl, I, J⟩ H; have K := A.updB (i := 0) rfl I J; clear I J D A R
 refine s1 H (g_0 rfl H.e) fun N B => ?_; clear H S
 refine s1 B (a_0 rfl B.e) fun T E => ?_; clear B N
 exact n1 (c_6 (b_0 E (.inl rfl) (a_2 E rfl (.tmp rfl)) (⟨rfl, K.ext, K.bk 0 rfl⟩)))
theorem allB_int (xs : List Int) (lf : Nat → Int) (bm : Nat) (v : Value) (fid : Nat) (fs cs : Array Value) (p : Nat → Bool) (w : World) (hJ : Sep (fun b => b = bm) w w [blk bm 3 [.int .i64 (lf 0)], sl v 1 xs.length (ints xs)]) (hlen : xs.length ≤ 1000000) (hf : AsksB Try.prog w fid fs cs xs.length (fun i => .int .i64 (xs.getD i 0)) p true bm 3 (fun i => [.int .i64 (lf i)])) :
  Calls Try.prog 69 #[v, (Value.func (.func fid) fs cs)] w (Ret fun v w' => v = .bool ((List.range xs.length).all p) ∧ Ext (fun b => b = bm) w w' ∧ ∃ x, (blk bm 3 [.int .i64 x]).p w') := by
 refine a_7 Try.func69 rfl fun N C => ?_
 replace C : Fr 9 [] [(0, v), (1, (Value.func (.func fid) fs cs))] N := C
 have M : Sep (fun b => b = bm) w w [(blk bm 3 [(iv (lf 0))]), (sl v 1 xs.length (ints xs))] := hJ
 refine m2 (s2 C (f_3 M rfl C.e (cs := [(Value.func (.func fid) fs cs)]) rfl) ?_)
 rintro S _ Y ⟨R, rfl, A⟩ L; clear C M N
 refine s1 L (a_0 rfl (evc _ _)) fun T G => ?_; clear L S
 refine n4 (s1 G (a_1 rfl G.e) fun U H => ?_); clear G T
 refine s1 H (f_9 rfl ev0 (ev1 H.e)) fun O B => ?_; clear H U
 refine s2 B (a_8 rfl en_99 (ev2 B.e B.e) (contB_int xs lf bm _ 100 #[] #[(bptr R 0)] (fun i => !p i) _ (A.lend (i := 1) rfl rfl (L' := [(sl v 1 xs.length (ints xs))]) (js := [2]) ⟨rfl, by decide, A.sk 2 rfl, ⟨_, rfl, fun _ hz => hz⟩, trivial⟩) hlen ⟨en_100, fun i hi hz W hW hb => cloB_int _ _ _ _ _ _ _ _ (p i) W ((A.updB (i := 1) rfl hW hb).lend (i := 1) rfl rfl (L' := [rob R 112 [(Value.func (.func fid) fs cs)]]) (js := [0]) ⟨rfl, by decide, (A.updB (i := 1) rfl hW hb).bk 0 rfl, ⟨_, rfl, fun _ hz => hz⟩, trivial⟩) hf.1 (fun W' hW' hb' => hf.2 i hi (fun j hj => (Bool.not_eq_false' (p j)).mp (hz j hj)) W' (A.ext.trans (hW.trans hW')) hb')⟩)) ?_
 rintro P _ X ⟨rfl, I, lx18, J⟩ D; have K := A.updB (i := 1) rfl I J; clear I J B A O
 refine s1 D (g_0 rfl D.e) fun Q E => ?_; clear D P
 refine s1 E (a_0 rfl E.e) fun V F => ?_; clear E Q
 exact n1 (c_6 (b_0 F (.inl rfl) (a_2 F rfl (.tmp rfl)) (⟨congrArg Value.bool (any_not p xs.length), K.ext, _, K.bk 1 rfl⟩)))
end Go.Proofs.Ytohgladndklciaa

namespace Go.Hard
section
variable {n : Int} {t : TabD}
theorem tab_rows (h : (List.range t.rows.length).all (fun i => rowB (t.rows.getD i (0, 0))) = false) : tabB n t = false := by
  cases hb : tabB n t with
  | false => rfl
  | true =>
    have g := (tabB_iff.1 hb).2.2.2.2.2.1
    have : (List.range t.rows.length).all (fun i => rowB (t.rows.getD i (0, 0))) = true := List.all_eq_true.2 fun i hi => g i (List.mem_range.1 hi)
    rw [this] at h; cases h
theorem tab_rest (h1 : inB t.frm 0 (n - 1) = true) (h2 : inB t.dst 0 (n - 1) = true) (h3 : ¬ t.frm = t.dst) (h4 : inB t.err 0 1000 = true) (h5 : 2 ≤ t.rows.length) (h6 : (List.range t.rows.length).all (fun i => rowB (t.rows.getD i (0, 0))) = true) (h7 : ∀ i, i < t.rows.length - 1 → y_3 (risesB t) (t.rows.getD i (0, 0)) (t.rows.getD (i + 1) (0, 0)) = true) : tabB n t = (List.range t.brk.length).all (brkB t) := by
  have h7' : allI (t.rows.length - 1) (fun i => y_3 (risesB t) (t.rows.getD i (0, 0)) (t.rows.getD (i + 1) (0, 0))) = true := g_7.2 h7
  have h6' : allI t.rows.length (fun i => rowB (t.rows.getD i (0, 0))) = true := h6
  unfold tabB headB
  rw [h1, h2, h4, h6', h7', decide_eq_true (show 2 ≤ (t.rows.length : Int) by omega), decide_eq_false h3]
  rfl
theorem last_bd (i : Nat) (h : ∀ j, j < i → brkB t j = true) : -1 ≤ lastU t i ∧ lastU t i ≤ (t.rows.length : Int) := by
  induction i with
  | zero => exact ⟨Int.le_refl _, by show (-1 : Int) ≤ _; omega⟩
  | succ i ih =>
    have a := ih fun j hj => h j (by omega)
    have b := m_6.1 (h i (by omega))
    show -1 ≤ t.brk.getD i 0 ∧ t.brk.getD i 0 ≤ _
    omega
end
end Go.Hard

namespace Go.Proofs.Ytohgladndklciaa
open Go.RowKit Go.Shelf Go.Eng Go.Hard
theorem fd_106_0 : fldK Try.prog 106 0 = some 0 := by kernel_rfl
theorem fd_106_1 : fldK Try.prog 106 1 = some 1 := by kernel_rfl
theorem en_95 : ∀ args w, (callFunc 95 args).run Try.prog w = .ok (.enter 95 args) w := enters_of Try.func95 (by kernel_rfl) rfl
theorem en_94 : ∀ args w, (callFunc 94 args).run Try.prog w = .ok (.enter 94 args) w := enters_of Try.func94 (by kernel_rfl) rfl
theorem en_96 : ∀ args w, (callFunc 96 args).run Try.prog w = .ok (.enter 96 args) w := enters_of Try.func96 (by kernel_rfl) rfl
theorem lastclo_ok (x L : Int) (t : TabD) (vr vb : Value) (bm M : Nat) (w : World) (hJ : Sep (fun b => b = bm) w w [blk bm 3 [.int .i64 L], rob M 106 [.int .i64 t.frm, .int .i64 t.dst, vr, vb, .int .i64 t.err], sl vr 2 t.rows.length (pairs t.rows), sl vb 1 t.brk.length (ints t.brk)]) (n : -1 ≤ L ∧ L ≤ 1000000) (hrl : t.rows.length ≤ 1000000) :
  Calls Try.prog 96 #[(iv x), (bptr bm 0), (bptr M 0)] w (Ret fun v w' => v = .bool (inB x (L + 1) ((t.rows.length : Int) - 2)) ∧ Ext (fun b => b = bm) w w' ∧ (blk bm 3 [.int .i64 x]).p w') := by
 refine a_7 Try.func96 rfl fun V K => ?_
 replace K : Fr 16 [] [(0, (iv x)), (1, (bptr bm 0)), (2, (bptr M 0))] V := K
 have C : Sep (fun b => b = bm) w w [(blk bm 3 [(iv L)]), (rob M 106 [(iv t.frm), (iv t.dst), vr, vb, (iv t.err)]), (sl vr 2 t.rows.length (pairs t.rows)), (sl vb 1 t.brk.length (ints t.brk))] := hJ
 refine m2 (s1 K (a_0 rfl (evc _ _)) fun g N => ?_); clear K V
 refine n4 (s1 N (a_1 rfl N.e) fun h Q => ?_); clear N g
 refine s1 Q (a_3 rfl ty_3 Q.e (C.bk 0 rfl) rfl) fun j R => ?_; clear Q h
 refine s1 R (g_9 rfl R.e (evc _ _) (by omega) (by omega)) fun k S => ?_; clear R j
 refine s1 S (a_4 rfl i_2 S.e) fun l D => ?_; clear S k
 refine s1 D (a_3 rfl o_3 D.e (C.rk 1 rfl) rfl) fun W E => ?_; clear D l
 refine s1 E (e_8 rfl j_0 E.e (C.sk 2 rfl)) fun X F => ?_; clear E W
 refine s1 F (k_5 rfl F.e (evc _ _) (by omega) (by omega)) fun Y A => ?_; clear F X
 refine s2 A (a_8 rfl y_5 (ev3 A.e A.e A.e) (k_6 _ _ _ _)) ?_
 rintro Z _ W_ ⟨rfl, hW_⟩ G; have hW2_ := hW_.symm; subst hW2_; clear hW_ A Y
 refine s1 G (a_0 rfl G.e) fun a O => ?_; clear G Z
 refine n2 ?_
 have H := O.as [(5, (Value.bool (inB x (L + 1) ((t.rows.length : Int) - 2)))), (0, (iv x)), (1, (bptr bm 0))] rfl; clear O
 refine a_5 (s1 H (a_1 rfl H.e) fun c B => ?_); clear H a
 refine s7 B (b_4 C rfl ty_3 B.e B.e (i := 0) rfl (vs := [(iv x)]) rfl rfl rfl (Nat.le_of_ble_eq_true rfl)) ?_
 intro _ f T I; clear B
 have U : Sep (fun b => b = bm) w f [(blk bm 3 [(iv x)]), (rob M 106 [(iv t.frm), (iv t.dst), vr, vb, (iv t.err)]), (sl vr 2 t.rows.length (pairs t.rows)), (sl vb 1 t.brk.length (ints t.brk))] := T; clear T C
 refine n4 (s1 I (a_1 rfl I.e) fun d J => ?_); clear I c
 refine s1 J (a_0 rfl J.e) fun m P => ?_; clear J d
 exact n1 (c_6 (b_0 P (.inl rfl) (a_2 P rfl (.tmp rfl)) (⟨rfl, U.ext, U.bk 0 rfl⟩)))
set_option maxHeartbeats 4000000 in
theorem table_ok (sc : Int) (vt vm : Value) (h1_ : vt.oneCell' = true) (h2_ : vm.oneCell' = true) (hsc : 1 ≤ sc ∧ sc ≤ 4) (t : TabD) (vr vb : Value) (w : World) (hr : SlAt w vr 2 t.rows.length (pairs t.rows)) (hb : SlAt w vb 1 t.brk.length (ints t.brk)) (hrl : t.rows.length ≤ 1000000) (hbl : t.brk.length ≤ 1000000) :
  Calls Try.prog 65 #[(Value.agg #[(iv sc), vt, vm]), (Value.agg #[(iv t.frm), (iv t.dst), vr, vb, (iv t.err)])] w (Ret fun v w' => v = .bool (tabB sc t) ∧ Ext NoB w w') := by
 refine a_7 Try.func65 rfl fun a0 BO => ?_
 replace BO : Fr 98 [] [(0, (Value.agg #[(iv sc), vt, vm])), (1, (Value.agg #[(iv t.frm), (iv t.dst), vr, vb, (iv t.err)]))] a0 := BO
 have Dy : Sep NoB w w [(sl vr 2 t.rows.length (pairs t.rows)), (sl vb 1 t.brk.length (ints t.brk))] := f_0 ⟨rfl, hr, rfl, hb, trivial⟩
 refine m2 (s2 BO (f_3 Dy rfl BO.e (cs := [(iv sc), vt, vm]) rfl) ?_)
 rintro a1 _ w3 ⟨b4, rfl, Dz⟩ DZ; clear BO Dy a0
 refine s2 DZ (f_3 Dz rfl DZ.e (cs := [(iv t.frm), (iv t.dst), vr, vb, (iv t.err)]) rfl) ?_
 rintro a6 _ w8 ⟨P, rfl, BJ⟩ Dx; clear DZ Dz a1
 refine s1 Dx (a_0 rfl (evc _ _)) fun GZ BR => ?_; clear Dx a6
 refine n2 (m2 (s1 BR (b_9 rfl n_6 (BR.ev rfl) (BJ.bk 1 rfl) (l := [(iv sc), vt, vm]) rfl rfl) fun Ga BS => ?_)); clear BR GZ
 refine s1 BS (a_4 rfl fd_106_0 BS.e) fun Gb BT => ?_; clear BS Ga
 refine s1 BT (a_3 rfl ty_3 BT.e (BJ.bk 0 rfl) rfl) fun Gc AM => ?_; clear BT Gb
 refine s2 AM (a_8 rfl en_93 (ev2 AM.e AM.e) (scale_ok t.frm sc _ _ _ h1_ h2_ hsc)) ?_
 rintro Gd _ HT ⟨rfl, Dn⟩ BU; have q := BJ.step Dn; clear Dn AM BJ Gc
 refine s1 BU (g_0 rfl BU.e) fun Ge BV => ?_; clear BU Gd
 refine s1 BV (a_1 rfl BV.e) fun Du M => ?_; clear BV Ge
 rcases Bool.eq_false_or_eq_true ((inB t.frm 0 (sc - 1))) with Bk | Bk
 ·skip
  rw [Bk] at M
  refine s5 M (b_9 rfl n_6 (M.ev rfl) (q.bk 1 rfl) (l := [(iv sc), vt, vm]) rfl rfl) fun Gf BW => ?_; clear M Du
  refine s5 BW (a_4 rfl fd_106_1 BW.e) fun Gg BX => ?_; clear BW Gf
  refine s5 BX (a_3 rfl ty_3 BX.e (q.bk 0 rfl) rfl) fun Gh Ar => ?_; clear BX Gg
  refine s6 Ar (a_8 rfl en_93 (ev2 Ar.e Ar.e) (scale_ok t.dst sc _ _ _ h1_ h2_ hsc)) ?_
  rintro Gi _ HU ⟨rfl, Do⟩ BY; have B := q.step Do; clear Do Ar q Gh
  refine s5 BY (g_0 rfl BY.e) fun Gj A1 => ?_; clear BY Gi
  refine s1 A1 (e_0 rfl A1.e A1.e) fun Gk BZ => ?_; clear A1 Gj
  refine s1 BZ (a_1 rfl BZ.e) fun Dv N => ?_; clear BZ Gk
  rcases Bool.eq_false_or_eq_true ((inB t.dst 0 (sc - 1))) with Bl | Bl
  ·skip
   rw [Bl] at N
   refine s5 N (a_4 rfl fd_106_0 N.e) fun Gl Ba => ?_; clear N Dv
   refine s5 Ba (a_3 rfl ty_3 Ba.e (B.bk 0 rfl) rfl) fun Gm Bb => ?_; clear Ba Gl
   refine s5 Bb (a_4 rfl fd_106_1 Bb.e) fun Gn Bc => ?_; clear Bb Gm
   refine s5 Bc (a_3 rfl ty_3 Bc.e (B.bk 0 rfl) rfl) fun Go BG => ?_; clear Bc Gn
   refine s5 BG (j_8 rfl BG.e BG.e) fun Gp BH => ?_; clear BG Go
   refine s1 BH (e_0 rfl BH.e BH.e) fun Gq Bd => ?_; clear BH Gp
   refine s1 Bd (a_1 rfl Bd.e) fun Dw O => ?_; clear Bd Gq
   by_cases Dp : t.frm = t.dst
   ·skip
    rw [decide_eq_true Dp] at O
    refine s3 O fun Gr Da => ?_; clear O Dw
    refine s3 Da fun Gs Db => ?_; clear Da Gr
    refine s3 Db fun Gt Dc => ?_; clear Db Gs
    refine s3 Dc fun Gu Be => ?_; clear Dc Gt
    refine s1 Be (b_5 rfl Be.e (evc _ _)) fun Gv Bf => ?_; clear Be Gu
    refine s1 Bf (a_1 rfl Bf.e) fun Gw Dd => ?_; clear Bf Gv
    refine s3 Dd fun Gx De => ?_; clear Dd Gw
    refine s3 De fun Gy Df => ?_; clear De Gx
    refine s3 Df fun Gz Dg => ?_; clear Df Gy
    refine s3 Dg fun G0 Bg => ?_; clear Dg Gz
    refine s1 Bg (b_5 rfl Bg.e (evc _ _)) fun G1 Bh => ?_; clear Bg G0
    refine s1 Bh (a_1 rfl Bh.e) fun G2 Dh => ?_; clear Bh G1
    refine s3 Dh fun G3 Di => ?_; clear Dh G2
    refine s3 Di fun G4 Dj => ?_; clear Di G3
    refine s3 Dj fun G5 Dk => ?_; clear Dj G4
    refine s3 Dk fun G6 Bi => ?_; clear Dk G5
    refine s1 Bi (b_5 rfl Bi.e (evc _ _)) fun G7 Bj => ?_; clear Bi G6
    refine n1 (d_6 Bj rfl (d_3 ?_))
    have Dl := Bj.as [] rfl; clear Bj
    refine a_5 (s1 Dl (a_0 rfl (evc _ _)) fun HS Dm => ?_); clear Dl G7
    exact n1 (c_6 (b_1 (b_0 Dm (.inl rfl) (a_2 Dm rfl (.tmp rfl)) (⟨congrArg Value.bool (Eq.symm (by first | exact tab_rows (by assumption) | exact tab_head (by first | exact .inl (by assumption) | exact .inr (.inl (by assumption)) | exact .inr (.inr (.inl (by assumption))) | exact .inr (.inr (.inr (.inl (by assumption)))) | exact .inr (.inr (.inr (.inr (by omega))))))), B.ext⟩))))
   skip
   rw [decide_eq_false Dp] at O
   refine s5 O (a_4 rfl w_1 O.e) fun G8 r => ?_; clear O Dw
   refine s5 r (a_3 rfl ty_3 r.e (B.bk 0 rfl) rfl) fun D0 s => ?_; clear r G8
   refine s6 s (a_8 rfl y_5 (ev3 s.e (evc _ _) (evc _ _)) (k_6 _ _ _ _)) ?_
   rintro D1 _ W_ ⟨rfl, hW_⟩ u; have hW2_ := hW_.symm; subst hW2_; clear hW_ s D0
   refine s5 u (g_0 rfl u.e) fun D2 S => ?_; clear u D1
   refine s1 S (e_0 rfl S.e S.e) fun D3 x => ?_; clear S D2
   refine s1 x (a_1 rfl x.e) fun DS H => ?_; clear x D3
   rcases Bool.eq_false_or_eq_true ((inB t.err 0 1000)) with BL | BL
   ·skip
    rw [BL] at H
    refine s5 H (a_4 rfl i_2 H.e) fun D4 y => ?_; clear H DS
    refine s5 y (a_3 rfl o_3 y.e (B.bk 0 rfl) rfl) fun D5 z => ?_; clear y D4
    refine s5 z (e_8 rfl j_0 z.e (B.sk 2 rfl)) fun D6 AA => ?_; clear z D5
    refine s5 AA (h_8 rfl AA.e (evc _ _)) fun D7 T => ?_; clear AA D6
    refine s1 T (e_0 rfl T.e T.e) fun D8 AB => ?_; clear T D7
    refine s1 AB (a_1 rfl AB.e) fun DT I => ?_; clear AB D8
    by_cases DO : (t.rows.length : Int) < 2
    ·skip
     rw [decide_eq_true DO] at I
     refine s3 I fun D9 Bm => ?_; clear I DT
     refine s3 Bm fun EA Bn => ?_; clear Bm D9
     refine s3 Bn fun EB Bo => ?_; clear Bn EA
     refine s3 Bo fun EC AC => ?_; clear Bo EB
     refine s1 AC (b_5 rfl AC.e (evc _ _)) fun ED AD => ?_; clear AC EC
     refine n1 (d_6 AD rfl (d_3 ?_))
     have Bp := AD.as [] rfl; clear AD
     refine a_5 (s1 Bp (a_0 rfl (evc _ _)) fun HA Bq => ?_); clear Bp ED
     exact n1 (c_6 (b_1 (b_0 Bq (.inl rfl) (a_2 Bq rfl (.tmp rfl)) (⟨congrArg Value.bool (Eq.symm (by first | exact tab_rows (by assumption) | exact tab_head (by first | exact .inl (by assumption) | exact .inr (.inl (by assumption)) | exact .inr (.inr (.inl (by assumption))) | exact .inr (.inr (.inr (.inl (by assumption)))) | exact .inr (.inr (.inr (.inr (by omega))))))), B.ext⟩))))
    skip
    rw [decide_eq_false DO] at I
    refine s5 I (a_4 rfl i_2 I.e) fun EE AE => ?_; clear I DT
    refine s5 AE (a_3 rfl o_3 AE.e (B.bk 0 rfl) rfl) fun EF AF => ?_; clear AE EE
    refine s6 AF (a_8 rfl en_94 (ev2 AF.e (evf _ _)) (all_row t.rows _ 95 #[] #[] (fun i => rowB (t.rows.getD i (0, 0))) _ (B.sk 2 rfl) (by omega) ⟨en_95, fun i hi W hW => row_ok _ _ W⟩)) ?_
    rintro EG _ HL ⟨rfl, DF⟩ AG; have BK := B.step DF; clear DF AF B EF
    refine s5 AG (g_0 rfl AG.e) fun EH U => ?_; clear AG EG
    refine s1 U (e_0 rfl U.e U.e) fun EI E => ?_; clear U EH
    refine n1 ?_
    rcases Bool.eq_false_or_eq_true (((List.range t.rows.length).all (fun i => rowB (t.rows.getD i (0, 0))))) with BM | BM
    ·skip
     rw [BM] at E
     refine b_8 E rfl (e_1 (b_3 (d_3 ?_)))
     have Br := E.as [(3, (bptr P 0))] rfl; clear E
     have Bs := Br.as [(3, (bptr P 0))] rfl; clear Br
     refine i_7 mixed Bs BK 10 [[], [0], [1], [2], [3], [], [5], [6], [7], [8]] [(Yd.val (bptr P 2)), (Yd.val vr), (Yd.val (eptr vr (0 * 2))), (Yd.val (eptr vr (0 * 2 + 1))), (Yd.val (iv ((t.rows.getD 0 (0, 0)).2))), (Yd.val (bptr P 2)), (Yd.val vr), (Yd.val (eptr vr (1 * 2))), (Yd.val (eptr vr (1 * 2 + 1))), (Yd.val (iv ((t.rows.getD 1 (0, 0)).2)))] (by decide +kernel) rfl rfl ?_ ?_
     ·skip
      refine dq (fun a w hA hS hd => a_4 rfl i_2 hA.e) ?_
      refine dq (fun a w hA hS hd => a_3 rfl o_3 (hq hd 0) (hS.bk 0 rfl) rfl) ?_
      refine dq (fun a w hA hS hd => b_6 rfl j_0 h_2 (hq hd 1) (i := 0) (show _ = Value.int .i64 ((0 : Nat) : Int) from (evc _ _)) (hS.sk 2 rfl) (by decide) (by omega)) ?_
      refine dq (fun a w hA hS hd => i_5 rfl k_0 (hq hd 2) (hS.sk 2 rfl) (by rw [((hS.sk 2 rfl)).1]; omega)) ?_
      refine dq (fun a w hA hS hd => g_2 rfl ty_3 (hq hd 3) (hS.sk 2 rfl) (pairs_at1 (by omega))) ?_
      refine dq (fun a w hA hS hd => a_4 rfl i_2 hA.e) ?_
      refine dq (fun a w hA hS hd => a_3 rfl o_3 (hq hd 5) (hS.bk 0 rfl) rfl) ?_
      refine dq (fun a w hA hS hd => b_6 rfl j_0 h_2 (hq hd 6) (i := 1) (show _ = Value.int .i64 ((1 : Nat) : Int) from (evc _ _)) (hS.sk 2 rfl) (by decide) (by omega)) ?_
      refine dq (fun a w hA hS hd => i_5 rfl k_0 (hq hd 7) (hS.sk 2 rfl) (by rw [((hS.sk 2 rfl)).1]; omega)) ?_
      refine dq (fun a w hA hS hd => g_2 rfl ty_3 (hq hd 8) (hS.sk 2 rfl) (pairs_at1 (by omega))) ?_
      trivial
     intro EJ HM Bt Q BI; clear Bs BK
     have Bu := Bt.add (hz BI 4); clear Bt
     have V := Bu.add (hz BI 9); clear Bu
     clear BI
     refine s1 V (h_8 rfl V.e V.e) fun EK AH => ?_; clear V EJ
     refine s1 AH (a_0 rfl AH.e) fun EL AI => ?_; clear AH EK
     refine n2 (m2 (s1 AI (a_4 rfl i_2 AI.e) fun EM AJ => ?_)); clear AI EL
     refine s1 AJ (a_3 rfl o_3 AJ.e (Q.bk 0 rfl) rfl) fun EN AK => ?_; clear AJ EM
     refine s1 AK (op_sliceLo rfl j_0 h_2 AK.e (l := 1) (show _ = Value.int .i64 ((1 : Nat) : Int) from (evc _ _)) (Q.sk 2 rfl) (by omega)) fun EO AL => ?_; clear AK EN
     refine s1 AL (e_8 rfl j_0 AL.e (SlAt.say (n' := (t.rows.length - 1)) (cs' := (pairs (t.rows.drop 1))) (SlAt.cut (Q.sk 2 rfl) (by omega) (Nat.le_refl _)) rfl (p_1 _))) fun EP Bv => ?_; clear AL EO
     refine s1 Bv (a_1 rfl (evc _ _)) fun EQ Bw => ?_; clear Bv EP
     refine n1 (e_3 ?_)
     have Bx := Bw.as [(62, (iv 0)), (61, (iv (((t.rows.length - 1) : Nat) : Int))), (60, (slcut vr 1 t.rows.length 2)), (5, (Value.bool (decide (((t.rows.getD 0 (0, 0)).2) < ((t.rows.getD 1 (0, 0)).2))))), (3, (bptr P 0))] rfl; clear Bw
     refine k_4 (G := Nat) (fun (k : Nat) a_ w_ => Fr 98 [] [(62, (iv (k : Int))), (61, (iv (((t.rows.length - 1) : Nat) : Int))), (60, (slcut vr 1 t.rows.length 2)), (5, (Value.bool (decide (((t.rows.getD 0 (0, 0)).2) < ((t.rows.getD 1 (0, 0)).2))))), (3, (bptr P 0))] a_ ∧ Sep NoB w w_ [(blk P 106 [(iv t.frm), (iv t.dst), vr, vb, (iv t.err)]), (blk b4 37 [(iv sc), vt, vm]), (sl vr 2 t.rows.length (pairs t.rows)), (sl vb 1 t.brk.length (ints t.brk))] ∧ (k ≤ t.rows.length - 1) ∧ (∀ i, i < k → y_3 (risesB t) (t.rows.getD i (0, 0)) (t.rows.getD (i + 1) (0, 0)) = true)) (fun k => t.rows.length - 1 - k) 0 ⟨Bx.as _ rfl, Q, by omega, (fun _ h => absurd h (Nat.not_lt_zero _))⟩ ?_
     clear Bx Q EQ
     rintro k ER HN ⟨X, L, hkk, hst⟩
     refine m2 (s1 X (h_8 rfl X.e X.e) fun DU C => ?_); clear X ER
     refine n2 ?_
     by_cases DP : (k : Int) < (((t.rows.length - 1) : Nat) : Int)
     ·skip
      rw [decide_eq_true DP] at C
      refine d_6 C rfl (e_1 (b_3 (d_3 (e_3 (m2 (s1 C (a_1 rfl C.e) fun ES Y => ?_)))))); clear C DU
      refine s1 Y (b_6 rfl j_0 h_2 Y.e (i := k) Y.e (SlAt.say (n' := (t.rows.length - 1)) (cs' := (pairs (t.rows.drop 1))) (SlAt.cut (L.sk 2 rfl) (by omega) (Nat.le_refl _)) rfl (p_1 _)) (by decide) (by omega)) fun ET AN => ?_; clear Y ES
      refine s1 AN (e_7 rfl h_2 AN.e (SlAt.say (n' := (t.rows.length - 1)) (cs' := (pairs (t.rows.drop 1))) (SlAt.cut (L.sk 2 rfl) (by omega) (Nat.le_refl _)) rfl (p_1 _)) (dropP_all (by omega)) rfl (by decide)) fun EU By => ?_; clear AN ET
      refine s2 By (d_2 L rfl v_6 (cs := [(iv 0), (iv 0)]) rfl) ?_
      rintro EV _ HO ⟨BP, rfl, DI⟩ AO; clear By L EU
      refine s1 AO (a_0 rfl AO.e) fun EW Z => ?_; clear AO EV
      refine s7 Z (b_4 DI rfl h_2 Z.e Z.e (i := 0) rfl (vs := [(iv ((t.rows.getD (k + 1) (0, 0)).1)), (iv ((t.rows.getD (k + 1) (0, 0)).2))]) rfl rfl rfl (Nat.le_of_ble_eq_true rfl)) ?_
      intro _ GV DJ AP; clear Z
      have R : Sep NoB w GV [(blk BP 107 [(iv ((t.rows.getD (k + 1) (0, 0)).1)), (iv ((t.rows.getD (k + 1) (0, 0)).2))]), (blk P 106 [(iv t.frm), (iv t.dst), vr, vb, (iv t.err)]), (blk b4 37 [(iv sc), vt, vm]), (sl vr 2 t.rows.length (pairs t.rows)), (sl vb 1 t.brk.length (ints t.brk))] := DJ; clear DJ DI
      refine n4 (s1 AP (a_4 rfl i_2 AP.e) fun EX AQ => ?_); clear AP EW
      refine s1 AQ (a_3 rfl o_3 AQ.e (R.bk 1 rfl) rfl) fun EY AR => ?_; clear AQ EX
      refine s1 AR (a_1 rfl AR.e) fun EZ b => ?_; clear AR EY
      refine s1 b (b_6 rfl j_0 h_2 b.e (i := k) b.e (R.sk 3 rfl) (by decide) (by omega)) fun Ea AS => ?_; clear b EZ
      refine s1 AS (e_7 rfl h_2 AS.e (R.sk 3 rfl) (g_1 (by omega)) rfl (by decide)) fun Eb Bz => ?_; clear AS Ea
      refine s2 Bz (d_2 R rfl v_6 (cs := [(iv 0), (iv 0)]) rfl) ?_
      rintro Ec _ HP ⟨DY, rfl, DK⟩ c; clear Bz R Eb
      refine s7 c (b_4 DK rfl h_2 c.e c.e (i := 0) rfl (vs := [(iv ((t.rows.getD k (0, 0)).1)), (iv ((t.rows.getD k (0, 0)).2))]) rfl rfl rfl (Nat.le_of_ble_eq_true rfl)) ?_
      intro _ GW DL B0; clear c
      have A : Sep NoB w GW [(blk DY 107 [(iv ((t.rows.getD k (0, 0)).1)), (iv ((t.rows.getD k (0, 0)).2))]), (blk BP 107 [(iv ((t.rows.getD (k + 1) (0, 0)).1)), (iv ((t.rows.getD (k + 1) (0, 0)).2))]), (blk P 106 [(iv t.frm), (iv t.dst), vr, vb, (iv t.err)]), (blk b4 37 [(iv sc), vt, vm]), (sl vr 2 t.rows.length (pairs t.rows)), (sl vb 1 t.brk.length (ints t.brk))] := DL; clear DL DK
      refine n2 ?_
      have AT := B0.as [(8, (bptr DY 0)), (7, (bptr BP 0)), (62, (iv (k : Int))), (61, (iv (((t.rows.length - 1) : Nat) : Int))), (60, (slcut vr 1 t.rows.length 2)), (5, (Value.bool (decide (((t.rows.getD 0 (0, 0)).2) < ((t.rows.getD 1 (0, 0)).2))))), (3, (bptr P 0))] rfl; clear B0
      refine a_5 (s1 AT (a_4 rfl h_9 AT.e) fun Ed AU => ?_); clear AT Ec
      refine s1 AU (a_3 rfl ty_3 AU.e (A.bk 1 rfl) rfl) fun Ee AV => ?_; clear AU Ed
      refine s1 AV (a_4 rfl h_9 AV.e) fun Ef AW => ?_; clear AV Ee
      refine s1 AW (a_3 rfl ty_3 AW.e (A.bk 0 rfl) rfl) fun Eg d => ?_; clear AW Ef
      refine s1 d (op_leq rfl d.e d.e) fun Eh AX => ?_; clear d Eg
      refine s1 AX (a_1 rfl AX.e) fun DV J => ?_; clear AX Eh
      by_cases DQ : ((t.rows.getD (k + 1) (0, 0)).1) ≤ ((t.rows.getD k (0, 0)).1)
      ·skip
       rw [decide_eq_true DQ] at J
       refine s3 J fun Ei B1 => ?_; clear J DV
       refine s3 B1 fun Ej B2 => ?_; clear B1 Ei
       refine s3 B2 fun Ek B3 => ?_; clear B2 Ej
       refine s3 B3 fun El B4 => ?_; clear B3 Ek
       refine s3 B4 fun Em AY => ?_; clear B4 El
       refine s1 AY (b_5 rfl AY.e (evc _ _)) fun En AZ => ?_; clear AY Em
       refine s1 AZ (a_1 rfl AZ.e) fun Eo B5 => ?_; clear AZ En
       refine s3 B5 fun Ep B6 => ?_; clear B5 Eo
       refine s3 B6 fun Er B7 => ?_; clear B6 Ep
       refine s3 B7 fun Es B8 => ?_; clear B7 Er
       refine s3 B8 fun Et B9 => ?_; clear B8 Es
       refine s3 B9 fun Eu CA => ?_; clear B9 Et
       refine s3 CA fun Ev CB => ?_; clear CA Eu
       refine s3 CB fun Ew Aa => ?_; clear CB Ev
       refine s1 Aa (b_5 rfl Aa.e (evc _ _)) fun Ex Ab => ?_; clear Aa Ew
       refine n1 (d_6 Ab rfl (d_3 ?_))
       have CC := Ab.as [] rfl; clear Ab
       refine a_5 (s1 CC (a_0 rfl (evc _ _)) fun HB CD => ?_); clear CC Ex
       exact n1 (c_6 (e_6 (b_1 (b_1 (e_6 (b_1 (b_0 CD (.inl rfl) (a_2 CD rfl (.tmp rfl)) (⟨congrArg Value.bool (Eq.symm (tab_step (k := k) (by omega) (by first | exact neq_n (by assumption) | exact step_n (.inl (by omega)) | exact step_n (.inr (.inl (by omega)))))), A.ext⟩))))))))
      skip
      rw [decide_eq_false DQ] at J
      refine s5 J (a_4 rfl k_0 J.e) fun Ey Ac => ?_; clear J DV
      refine s5 Ac (a_3 rfl ty_3 Ac.e (A.bk 1 rfl) rfl) fun Ez Ad => ?_; clear Ac Ey
      refine s5 Ad (a_4 rfl k_0 Ad.e) fun E0 Ae => ?_; clear Ad Ez
      refine s5 Ae (a_3 rfl ty_3 Ae.e (A.bk 0 rfl) rfl) fun E1 f => ?_; clear Ae E0
      refine s5 f (j_8 rfl f.e f.e) fun E2 g => ?_; clear f E1
      refine s1 g (e_0 rfl g.e g.e) fun E3 Af => ?_; clear g E2
      refine s1 Af (a_1 rfl Af.e) fun DW K => ?_; clear Af E3
      by_cases DR : ((t.rows.getD (k + 1) (0, 0)).2) = ((t.rows.getD k (0, 0)).2)
      ·skip
       rw [decide_eq_true DR] at K
       refine s3 K fun E4 CE => ?_; clear K DW
       refine s3 CE fun E5 CF => ?_; clear CE E4
       refine s3 CF fun E6 CG => ?_; clear CF E5
       refine s3 CG fun E7 CH => ?_; clear CG E6
       refine s3 CH fun E8 CI => ?_; clear CH E7
       refine s3 CI fun E9 CJ => ?_; clear CI E8
       refine s3 CJ fun FA Ag => ?_; clear CJ E9
       refine s1 Ag (b_5 rfl Ag.e (evc _ _)) fun FB Ah => ?_; clear Ag FA
       refine n1 (d_6 Ah rfl (d_3 ?_))
       have CK := Ah.as [] rfl; clear Ah
       refine a_5 (s1 CK (a_0 rfl (evc _ _)) fun HC CL => ?_); clear CK FB
       exact n1 (c_6 (e_6 (b_1 (b_1 (e_6 (b_1 (b_0 CL (.inl rfl) (a_2 CL rfl (.tmp rfl)) (⟨congrArg Value.bool (Eq.symm (tab_step (k := k) (by omega) (by first | exact neq_n (by assumption) | exact step_n (.inl (by omega)) | exact step_n (.inr (.inl (by omega)))))), A.ext⟩))))))))
      skip
      rw [decide_eq_false DR] at K
      refine s5 K (a_4 rfl k_0 K.e) fun FC Ai => ?_; clear K DW
      refine s5 Ai (a_3 rfl ty_3 Ai.e (A.bk 1 rfl) rfl) fun FD Aj => ?_; clear Ai FC
      refine s5 Aj (a_4 rfl k_0 Aj.e) fun FE Ak => ?_; clear Aj FD
      refine s5 Ak (a_3 rfl ty_3 Ak.e (A.bk 0 rfl) rfl) fun FF j => ?_; clear Ak FE
      refine s5 j (u_0 rfl j.e j.e) fun FG Al => ?_; clear j FF
      refine s5 Al (a_1 rfl Al.e) fun FH m => ?_; clear Al FG
      refine s5 m (op_neqB un_4 rfl m.e m.e) fun FI n => ?_; clear m FH
      refine s1 n (e_0 rfl n.e n.e) fun DX F => ?_; clear n FI
      refine n1 ?_
      rcases Bool.eq_false_or_eq_true ((decide (((t.rows.getD k (0, 0)).2) < ((t.rows.getD (k + 1) (0, 0)).2))) == (decide (((t.rows.getD 0 (0, 0)).2) < ((t.rows.getD 1 (0, 0)).2)))) with BN | BN
      ·skip
       rw [BN] at F
       refine b_8 F rfl (e_1 (k_7 (b_3 ?_)))
       have Am := F.as [(62, (iv (k : Int))), (61, (iv (((t.rows.length - 1) : Nat) : Int))), (60, (slcut vr 1 t.rows.length 2)), (5, (Value.bool (decide (((t.rows.getD 0 (0, 0)).2) < ((t.rows.getD 1 (0, 0)).2))))), (3, (bptr P 0))] rfl; clear F
       refine a_5 (s1 Am (g_9 rfl Am.e (evc _ _) (by omega) (by omega)) fun FJ An => ?_); clear Am DX
       refine s1 An (a_1 rfl An.e) fun HD Dr => ?_; clear An FJ
       refine g_6 ?_
       have Ds := A.gkp (gpc 2 (gpc 3 (gpc 4 (gpc 5 gpn)))); clear A
       exact b_3 ⟨k + 1, ⟨Dr.as _ rfl, Ds, by omega, (fun i hi => by rcases Nat.lt_succ_iff_lt_or_eq.1 hi with h | h; exact hst i h; subst h; exact neq_y (by omega) (by omega) (by assumption))⟩, by omega⟩
      skip
      rw [BN] at F
      refine d_6 F rfl (d_3 ?_)
      have CM := F.as [] rfl; clear F
      refine a_5 (s1 CM (a_0 rfl (evc _ _)) fun HE CN => ?_); clear CM DX
      exact n1 (c_6 (e_6 (b_1 (b_1 (e_6 (b_1 (b_0 CN (.inl rfl) (a_2 CN rfl (.tmp rfl)) (⟨congrArg Value.bool (Eq.symm (tab_step (k := k) (by omega) (by first | exact neq_n (by assumption) | exact step_n (.inl (by omega)) | exact step_n (.inr (.inl (by omega)))))), A.ext⟩))))))))
     skip
     rw [decide_eq_false DP] at C
     refine b_8 C rfl (j_7 (b_7 (b_7 (h_6 (b_3 (m2 (s2 C (d_2 L rfl ze_3 (cs := [(iv 0)]) rfl) ?_)))))))
     rintro FK _ HQ ⟨BQ, rfl, DM⟩ Ao; clear C L DU
     refine s7 Ao (b_4 DM rfl ty_3 Ao.e (evc _ _) (i := 0) rfl (vs := [(iv (-1))]) rfl rfl rfl (Nat.le_of_ble_eq_true rfl)) ?_
     intro _ GX DN Ap; clear Ao
     have D : Sep NoB w GX [(blk BQ 3 [(iv (-1))]), (blk P 106 [(iv t.frm), (iv t.dst), vr, vb, (iv t.err)]), (blk b4 37 [(iv sc), vt, vm]), (sl vr 2 t.rows.length (pairs t.rows)), (sl vb 1 t.brk.length (ints t.brk))] := DN; clear DN DM
     refine n4 (s1 Ap (a_4 rfl fd_106_3 Ap.e) fun FL Aq => ?_); clear Ap FK
     refine s1 Aq (a_3 rfl y_4 Aq.e (D.bk 1 rfl) rfl) fun FM o => ?_; clear Aq FL
     refine s1 o (f_9 rfl ev0 (ev2 o.e o.e)) fun FN p => ?_; clear o FM
     refine s2 p (a_8 rfl en_69 (ev2 p.e p.e) (allB_int t.brk (lastU t) BQ _ 96 #[] #[(bptr BQ 0), (bptr P 0)] (brkB t) _ (D.lend (i := 0) rfl rfl (L' := [(sl vb 1 t.brk.length (ints t.brk))]) (js := [4]) ⟨rfl, by decide, D.sk 4 rfl, ⟨_, rfl, fun _ hz => hz⟩, trivial⟩) hbl ⟨en_96, fun i hi hz W hW hb => lastclo_ok _ _ t vr vb _ _ W ((D.updB (i := 0) rfl hW hb).lend (i := 0) rfl rfl (L' := [rob P 106 [.int .i64 t.frm, .int .i64 t.dst, vr, vb, .int .i64 t.err], (sl vr 2 t.rows.length (pairs t.rows)), (sl vb 1 t.brk.length (ints t.brk))]) (js := [1, 3, 4]) ⟨rfl, by decide, (D.updB (i := 0) rfl hW hb).bk 1 rfl, ⟨_, rfl, fun _ hz => hz⟩, rfl, by decide, (D.updB (i := 0) rfl hW hb).sk 3 rfl, ⟨_, rfl, fun _ hz => hz⟩, rfl, by decide, (D.updB (i := 0) rfl hW hb).sk 4 rfl, ⟨_, rfl, fun _ hz => hz⟩, trivial⟩) (by have := last_bd (t := t) i hz; omega) hrl⟩)) ?_
     rintro FO _ HR ⟨rfl, DG, lx349, DH⟩ As; have Dt := D.updB (i := 0) rfl DG DH; clear DG DH p D FN
     refine s1 As (a_0 rfl As.e) fun HF CO => ?_; clear As FO
     exact n1 (c_6 (b_0 CO (.inl rfl) (a_2 CO rfl (.tmp rfl)) (⟨congrArg Value.bool (Eq.symm (tab_rest (by assumption) (by assumption) (by assumption) (by assumption) (by omega) (by assumption) (fun i hi => hst i (by omega)))), Dt.ext⟩)))
    skip
    rw [BM] at E
    refine d_6 E rfl (d_3 ?_)
    have CP := E.as [] rfl; clear E
    refine a_5 (s1 CP (a_0 rfl (evc _ _)) fun HG CQ => ?_); clear CP EI
    exact n1 (c_6 (b_1 (b_0 CQ (.inl rfl) (a_2 CQ rfl (.tmp rfl)) (⟨congrArg Value.bool (Eq.symm (by first | exact tab_rows (by assumption) | exact tab_head (by first | exact .inl (by assumption) | exact .inr (.inl (by assumption)) | exact .inr (.inr (.inl (by assumption))) | exact .inr (.inr (.inr (.inl (by assumption)))) | exact .inr (.inr (.inr (.inr (by omega))))))), BK.ext⟩))))
   skip
   rw [BL] at H
   refine s3 H fun FP CR => ?_; clear H DS
   refine s3 CR fun FQ CS => ?_; clear CR FP
   refine s3 CS fun FSa CT => ?_; clear CS FQ
   refine s3 CT fun FT At => ?_; clear CT FSa
   refine s1 At (b_5 rfl At.e (evc _ _)) fun FU Au => ?_; clear At FT
   refine s1 Au (a_1 rfl Au.e) fun FV CU => ?_; clear Au FU
   refine s3 CU fun FW CV => ?_; clear CU FV
   refine s3 CV fun FX CW => ?_; clear CV FW
   refine s3 CW fun FY CX => ?_; clear CW FX
   refine s3 CX fun FZ Av => ?_; clear CX FY
   refine s1 Av (b_5 rfl Av.e (evc _ _)) fun Fa Aw => ?_; clear Av FZ
   refine n1 (d_6 Aw rfl (d_3 ?_))
   have CY := Aw.as [] rfl; clear Aw
   refine a_5 (s1 CY (a_0 rfl (evc _ _)) fun HH CZ => ?_); clear CY Fa
   exact n1 (c_6 (b_1 (b_0 CZ (.inl rfl) (a_2 CZ rfl (.tmp rfl)) (⟨congrArg Value.bool (Eq.symm (by first | exact tab_rows (by assumption) | exact tab_head (by first | exact .inl (by assumption) | exact .inr (.inl (by assumption)) | exact .inr (.inr (.inl (by assumption))) | exact .inr (.inr (.inr (.inl (by assumption)))) | exact .inr (.inr (.inr (.inr (by omega))))))), B.ext⟩))))
  skip
  rw [Bl] at N
  refine s3 N fun Fb Ca => ?_; clear N Dv
  refine s3 Ca fun Fc Cb => ?_; clear Ca Fb
  refine s3 Cb fun Fd Cc => ?_; clear Cb Fc
  refine s3 Cc fun Fe Cd => ?_; clear Cc Fd
  refine s3 Cd fun Ff Ax => ?_; clear Cd Fe
  refine s1 Ax (b_5 rfl Ax.e (evc _ _)) fun Fg Ay => ?_; clear Ax Ff
  refine s1 Ay (a_1 rfl Ay.e) fun Fh Ce => ?_; clear Ay Fg
  refine s3 Ce fun Fi Cf => ?_; clear Ce Fh
  refine s3 Cf fun Fj Cg => ?_; clear Cf Fi
  refine s3 Cg fun Fk Ch => ?_; clear Cg Fj
  refine s3 Ch fun Fl Az => ?_; clear Ch Fk
  refine s1 Az (b_5 rfl Az.e (evc _ _)) fun Fm A0 => ?_; clear Az Fl
  refine s1 A0 (a_1 rfl A0.e) fun Fn Ci => ?_; clear A0 Fm
  refine s3 Ci fun Fo Cj => ?_; clear Ci Fn
  refine s3 Cj fun Fp Ck => ?_; clear Cj Fo
  refine s3 Ck fun Fq Cl => ?_; clear Ck Fp
  refine s3 Cl fun Fs A2 => ?_; clear Cl Fq
  refine s1 A2 (b_5 rfl A2.e (evc _ _)) fun Ft A3 => ?_; clear A2 Fs
  refine s1 A3 (a_1 rfl A3.e) fun Fu Cm => ?_; clear A3 Ft
  refine s3 Cm fun Fv Cn => ?_; clear Cm Fu
  refine s3 Cn fun Fw Co => ?_; clear Cn Fv
  refine s3 Co fun Fx Cp => ?_; clear Co Fw
  refine s3 Cp fun Fy A4 => ?_; clear Cp Fx
  refine s1 A4 (b_5 rfl A4.e (evc _ _)) fun Fz A5 => ?_; clear A4 Fy
  refine n1 (d_6 A5 rfl (d_3 ?_))
  have Cq := A5.as [] rfl; clear A5
  refine a_5 (s1 Cq (a_0 rfl (evc _ _)) fun HI Cr => ?_); clear Cq Fz
  exact n1 (c_6 (b_1 (b_0 Cr (.inl rfl) (a_2 Cr rfl (.tmp rfl)) (⟨congrArg Value.bool (Eq.symm (by first | exact tab_rows (by assumption) | exact tab_head (by first | exact .inl (by assumption) | exact .inr (.inl (by assumption)) | exact .inr (.inr (.inl (by assumption))) | exact .inr (.inr (.inr (.inl (by assumption)))) | exact .inr (.inr (.inr (.inr (by omega))))))), B.ext⟩))))
 skip
 rw [Bk] at M
 refine s3 M fun F0 Cs => ?_; clear M Du
 refine s3 Cs fun F1 Ct => ?_; clear Cs F0
 refine s3 Ct fun F2 Cu => ?_; clear Ct F1
 refine s3 Cu fun F3 Cv => ?_; clear Cu F2
 refine s3 Cv fun F4 A6 => ?_; clear Cv F3
 refine s1 A6 (b_5 rfl A6.e (evc _ _)) fun F5 A7 => ?_; clear A6 F4
 refine s1 A7 (a_1 rfl A7.e) fun F6 Cw => ?_; clear A7 F5
 refine s3 Cw fun F7 Cx => ?_; clear Cw F6
 refine s3 Cx fun F8 Cy => ?_; clear Cx F7
 refine s3 Cy fun F9 Cz => ?_; clear Cy F8
 refine s3 Cz fun GA C0 => ?_; clear Cz F9
 refine s3 C0 fun GB A8 => ?_; clear C0 GA
 refine s1 A8 (b_5 rfl A8.e (evc _ _)) fun GC A9 => ?_; clear A8 GB
 refine s1 A9 (a_1 rfl A9.e) fun GD C1 => ?_; clear A9 GC
 refine s3 C1 fun GE C2 => ?_; clear C1 GD
 refine s3 C2 fun GF C3 => ?_; clear C2 GE
 refine s3 C3 fun GG C4 => ?_; clear C3 GF
 refine s3 C4 fun GH BA => ?_; clear C4 GG
 refine s1 BA (b_5 rfl BA.e (evc _ _)) fun GI BB => ?_; clear BA GH
 refine s1 BB (a_1 rfl BB.e) fun GJ C5 => ?_; clear BB GI
 refine s3 C5 fun GK C6 => ?_; clear C5 GJ
 refine s3 C6 fun GL C7 => ?_; clear C6 GK
 refine s3 C7 fun GM C8 => ?_; clear C7 GL
 refine s3 C8 fun GN BC => ?_; clear C8 GM
 refine s1 BC (b_5 rfl BC.e (evc _ _)) fun GO BD => ?_; clear BC GN
 refine s1 BD (a_1 rfl BD.e) fun GP C9 => ?_; clear BD GO
 refine s3 C9 fun GQ DA => ?_; clear C9 GP
 refine s3 DA fun GR DB => ?_; clear DA GQ
 refine s3 DB fun GS DC => ?_; clear DB GR
 refine s3 DC fun GT BE => ?_; clear DC GS
 refine s1 BE (b_5 rfl BE.e (evc _ _)) fun GU BF => ?_; clear BE GT
 refine n1 (d_6 BF rfl (d_3 ?_))
 have DD := BF.as [] rfl; clear BF
 refine a_5 (s1 DD (a_0 rfl (evc _ _)) fun HJ DE => ?_); clear DD GU
 exact n1 (c_6 (b_1 (b_0 DE (.inl rfl) (a_2 DE rfl (.tmp rfl)) (⟨congrArg Value.bool (Eq.symm (by first | exact tab_rows (by assumption) | exact tab_head (by first | exact .inl (by assumption) | exact .inr (.inl (by assumption)) | exact .inr (.inr (.inl (by assumption))) | exact .inr (.inr (.inr (.inl (by assumption)))) | exact .inr (.inr (.inr (.inr (by omega))))))), q.ext⟩))))
end Go.Proofs.Ytohgladndklciaa

namespace Go.Hard
structure l_4 (b : f_7) : Prop where
  tl : b.tabs.length ≤ 9
  ml : b.macs.length ≤ 9
  tab : ∀ i, (b.tabs.getD i tab0).rows.length ≤ 12 ∧ (b.tabs.getD i tab0).brk.length ≤ 12
  mac : ∀ i, (b.macs.getD i mac0).blocks.length ≤ 8
def thinF (b : f_7) (n : Nat) : Bool := decide (b.tabs.length ≤ 9) && decide (b.macs.length ≤ 9) && decide (n ≤ 12) && allI b.tabs.length (fun i => decide ((b.tabs.getD i tab0).rows.length ≤ 12) && decide ((b.tabs.getD i tab0).brk.length ≤ 12)) && allI b.macs.length (fun i => decide ((b.macs.getD i mac0).blocks.length ≤ 8))
theorem getD_out {α : Type} {l : List α} {d : α} {i : Nat} (h : l.length ≤ i) : l.getD i d = d := by simp [List.getD, List.getElem?_eq_none h]
theorem thin_iff {b : f_7} {n : Nat} : thinF b n = true ↔ l_4 b ∧ n ≤ 12 := by
  unfold thinF
  simp only [Bool.and_eq_true, decide_eq_true_eq, g_7]
  constructor
  · rintro ⟨⟨⟨⟨h1, h2⟩, h3⟩, h4⟩, h5⟩
    refine ⟨⟨h1, h2, fun i => ?_, fun i => ?_⟩, h3⟩
    · rcases Nat.lt_or_ge i b.tabs.length with h | h
      · exact h4 i h
      · rw [getD_out h]; exact ⟨Nat.zero_le _, Nat.zero_le _⟩
    · rcases Nat.lt_or_ge i b.macs.length with h | h
      · exact h5 i h
      · rw [getD_out h]; exact Nat.zero_le _
  · rintro ⟨h, h3⟩
    exact ⟨⟨⟨⟨h.tl, h.ml⟩, h3⟩, fun i _ => h.tab i⟩, fun i _ => h.mac i⟩
section
variable {b : f_7} {n : Nat} {k : Nat}
theorem l_4.rl (h : l_4 b) (i : Nat) : (b.tabs.getD i tab0).rows.length ≤ 1000000 := by have := (h.tab i).1; omega
theorem l_4.bl (h : l_4 b) (i : Nat) : (b.tabs.getD i tab0).brk.length ≤ 1000000 := by have := (h.tab i).2; omega
theorem l_4.kl (h : l_4 b) (i : Nat) : (b.macs.getD i mac0).blocks.length ≤ 1000000 := by have := h.mac i; omega
structure ShortB (b : f_7) : Prop where
  tl : b.tabs.length ≤ 6
  ml : b.macs.length ≤ 6
  tab : ∀ i, i < b.tabs.length → (b.tabs.getD i tab0).rows.length ≤ 8
  mac : ∀ i, i < b.macs.length → (b.macs.getD i mac0).blocks.length ≤ 5
theorem check_long (h : ¬ ShortB b) : e_9 b = 3 := by
  unfold e_9
  split
  · rfl
  · rename_i h1
    split
    · rfl
    · rename_i h2
      split
      · rfl
      · rename_i h3
        rw [Bool.not_eq_false, g_7] at h2 h3
        exact absurd ⟨by omega, by omega, fun i hi => of_decide_eq_true (h2 i hi), fun i hi => of_decide_eq_true (h3 i hi)⟩ h
theorem check_short (h : ShortB b) : e_9 b = if inB b.scales 1 4 = false ∨ allI b.tabs.length (fun i => tabB b.scales (b.tabs.getD i tab0)) = false ∨ allI b.macs.length (fun i => macB b.scales (b.macs.getD i mac0)) = false then 1 else 0 := by
  unfold e_9
  have a := h.tl; have c := h.ml
  rw [if_neg (by omega), if_neg (by rw [Bool.not_eq_false, g_7]; exact fun i hi => decide_eq_true (h.tab i hi)), if_neg (by rw [Bool.not_eq_false, g_7]; exact fun i hi => decide_eq_true (h.mac i hi))]
theorem check_3a (h : 6 < b.tabs.length ∨ 6 < b.macs.length) : e_9 b = 3 := check_long fun g => by have := g.tl; have := g.ml; omega
theorem check_1a (g : ShortB b) (h : inB b.scales 1 4 = false) : e_9 b = 1 := by rw [check_short g, if_pos (.inl h)]
theorem check_0 (g : ShortB b) (h1 : inB b.scales 1 4 = true) (h2 : ∀ i, i < b.tabs.length → tabB b.scales (b.tabs.getD i tab0) = true) (h3 : ∀ i, i < b.macs.length → macB b.scales (b.macs.getD i mac0) = true) : e_9 b = 0 := by
  rw [check_short g, if_neg]
  rw [h1, g_7.2 h2, g_7.2 h3]; decide
theorem check_3b' (h : (List.range b.tabs.length).all (fun i => decide (((b.tabs.getD i tab0).rows.length : Int) ≤ 8)) = false) : e_9 b = 3 := by
  refine check_long fun g => ?_
  have : (List.range b.tabs.length).all (fun i => decide (((b.tabs.getD i tab0).rows.length : Int) ≤ 8)) = true := List.all_eq_true.2 fun i hi => decide_eq_true (by have := g.tab i (List.mem_range.1 hi); omega)
  rw [this] at h; cases h
theorem check_3c' (h : (List.range b.macs.length).all (fun i => decide (((b.macs.getD i mac0).blocks.length : Int) ≤ 5)) = false) : e_9 b = 3 := by
  refine check_long fun g => ?_
  have : (List.range b.macs.length).all (fun i => decide (((b.macs.getD i mac0).blocks.length : Int) ≤ 5)) = true := List.all_eq_true.2 fun i hi => decide_eq_true (by have := g.mac i (List.mem_range.1 hi); omega)
  rw [this] at h; cases h
theorem p_7 (h1 : ¬ 6 < b.tabs.length) (h2 : ¬ 6 < b.macs.length) (h3 : (List.range b.tabs.length).all (fun i => decide (((b.tabs.getD i tab0).rows.length : Int) ≤ 8)) = true) (h4 : (List.range b.macs.length).all (fun i => decide (((b.macs.getD i mac0).blocks.length : Int) ≤ 5)) = true) : ShortB b :=
  ⟨by omega, by omega, fun i hi => by have := of_decide_eq_true (List.all_eq_true.1 h3 i (List.mem_range.2 hi)); omega, fun i hi => by have := of_decide_eq_true (List.all_eq_true.1 h4 i (List.mem_range.2 hi)); omega⟩
theorem check_1b' (g : ShortB b) (h : (List.range b.tabs.length).all (fun i => tabB b.scales (b.tabs.getD i tab0)) = false) : e_9 b = 1 := by rw [check_short g, if_pos (.inr (.inl h))]
theorem check_1c' (g : ShortB b) (h : (List.range b.macs.length).all (fun i => macB b.scales (b.macs.getD i mac0)) = false) : e_9 b = 1 := by rw [check_short g, if_pos (.inr (.inr h))]
theorem check_0' (g : ShortB b) (h1 : inB b.scales 1 4 = true) (h2 : (List.range b.tabs.length).all (fun i => tabB b.scales (b.tabs.getD i tab0)) = true) (h3 : (List.range b.macs.length).all (fun i => macB b.scales (b.macs.getD i mac0)) = true) : e_9 b = 0 :=
  check_0 g h1 (g_7.1 h2) (g_7.1 h3)
theorem k_7 {x : Int × Int × Int} (h : y_7 (x.1, x.2.1) = false ∨ inB x.2.2 0 100000 = false) : blkB x = false := by unfold blkB; rcases h with h | h <;> rw [h] <;> simp
end
end Go.Hard

namespace Go.Proofs.Ytohgladndklciaa
open Go.RowKit Go.Shelf Go.Eng Go.Hard
theorem s_7 : fldK Try.prog 37 1 = some 1 := by kernel_rfl
theorem z_5 : tyK Try.prog 34 = some (false, 1) := by kernel_rfl
theorem q_5 : fldK Try.prog 37 2 = some 2 := by kernel_rfl
theorem z_1 : tyK Try.prog 35 = some (false, 1) := by kernel_rfl
theorem en_62 : ∀ args w, (callFunc 62 args).run Try.prog w = .ok (.enter 62 args) w := enters_of Try.func62 (by kernel_rfl) rfl
theorem en_61 : ∀ args w, (callFunc 61 args).run Try.prog w = .ok (.enter 61 args) w := enters_of Try.func61 (by kernel_rfl) rfl
theorem en_64 : ∀ args w, (callFunc 64 args).run Try.prog w = .ok (.enter 64 args) w := enters_of Try.func64 (by kernel_rfl) rfl
theorem en_63 : ∀ args w, (callFunc 63 args).run Try.prog w = .ok (.enter 63 args) w := enters_of Try.func63 (by kernel_rfl) rfl
theorem en_65 : ∀ args w, (callFunc 65 args).run Try.prog w = .ok (.enter 65 args) w := enters_of Try.func65 (by kernel_rfl) rfl
theorem en_66 : ∀ args w, (callFunc 66 args).run Try.prog w = .ok (.enter 66 args) w := enters_of Try.func66 (by kernel_rfl) rfl
set_option maxHeartbeats 4000000 in
theorem l_8 (b : f_7) (vt vm : Value) (lr lb lk : Nat → Value) (w : World) (hT : k_1 w vt lr lb b.tabs) (hM : m_3 w vm lk b.macs) (hth : l_4 b) :
  Calls Try.prog 32 #[(Value.agg #[(iv b.scales), vt, vm])] w (Ret fun v w' => v = .int .i64 (e_9 b) ∧ Ext NoB w w') := by
 refine a_7 Try.func32 rfl fun a0 m => ?_
 replace m : Fr 45 [] [(0, (Value.agg #[(iv b.scales), vt, vm]))] a0 := m
 have BJ : Sep NoB w w [(c_0 false vt lr lb b.tabs), (c_3 false vm lk b.macs)] := f_0 ⟨rfl, hT, rfl, hM, trivial⟩
 refine m2 (s2 m (f_3 BJ rfl m.e (cs := [(iv b.scales), vt, vm]) rfl) ?_)
 rintro a1 _ w3 ⟨b4, rfl, D⟩ BI; clear m BJ a0
 refine s1 BI (a_0 rfl (evc _ _)) fun a6 A7 => ?_; clear BI a1
 refine n2 (e_3 (m2 (s1 A7 (a_4 rfl s_7 A7.e) fun a8 A8 => ?_))); clear A7 a6
 refine s1 A8 (a_3 rfl z_5 A8.e (D.bk 0 rfl) rfl) fun Bt n => ?_; clear A8 a8
 refine s1 n (e_8 rfl x_3 n.e (c_5 (D.ok 1 _ rfl)).tabs) fun Bu o => ?_; clear n Bt
 refine s1 o (u_0 rfl o.e (evc _ _)) fun Bv p => ?_; clear o Bu
 refine s1 p (a_1 rfl p.e) fun BD I => ?_; clear p Bv
 by_cases BB : 6 < (b.tabs.length : Int)
 ·skip
  rw [decide_eq_true BB] at I
  refine s3 I fun Bw A0 => ?_; clear I BD
  refine s3 A0 fun Bx A1 => ?_; clear A0 Bw
  refine s3 A1 fun By A2 => ?_; clear A1 Bx
  refine s3 A2 fun Bz q => ?_; clear A2 By
  refine s1 q (b_5 rfl q.e (evc _ _)) fun B0 r => ?_; clear q Bz
  refine s1 r (a_0 rfl r.e) fun B1 s => ?_; clear r B0
  refine n1 (d_6 s rfl (d_3 ?_))
  have A3 := s.as [] rfl; clear s
  refine a_5 (s1 A3 (a_0 rfl (evc _ _)) fun CZ A4 => ?_); clear A3 B1
  exact n1 (c_6 (e_6 (b_1 (b_0 A4 (.inl rfl) (a_2 A4 rfl (.tmp rfl)) (⟨q_7 (Eq.symm (by first | exact check_3a (by omega) | exact check_3b' (by assumption) | exact check_3c' (by assumption))), D.ext⟩)))))
 skip
 rw [decide_eq_false BB] at I
 refine s5 I (a_4 rfl q_5 I.e) fun B2 t => ?_; clear I BD
 refine s5 t (a_3 rfl z_1 t.e (D.bk 0 rfl) rfl) fun B3 u => ?_; clear t B2
 refine s5 u (e_8 rfl x_8 u.e (d_1 (D.ok 2 _ rfl)).macs) fun B4 x => ?_; clear u B3
 refine s5 x (u_0 rfl x.e (evc _ _)) fun B5 g => ?_; clear x B4
 refine s1 g (e_0 rfl g.e g.e) fun B6 y => ?_; clear g B5
 refine s1 y (a_0 rfl y.e) fun BE G => ?_; clear y B6
 refine n1 ?_
 by_cases BC : 6 < (b.macs.length : Int)
 ·skip
  rw [decide_eq_true BC] at G
  refine d_6 G rfl (d_3 ?_)
  have A5 := G.as [] rfl; clear G
  refine a_5 (s1 A5 (a_0 rfl (evc _ _)) fun Ca A6 => ?_); clear A5 BE
  exact n1 (c_6 (e_6 (b_1 (b_0 A6 (.inl rfl) (a_2 A6 rfl (.tmp rfl)) (⟨q_7 (Eq.symm (by first | exact check_3a (by omega) | exact check_3b' (by assumption) | exact check_3c' (by assumption))), D.ext⟩)))))
 skip
 rw [decide_eq_false BC] at G
 refine b_8 G rfl (d_3 ?_)
 have z := G.as [(1, (bptr b4 0))] rfl; clear G
 refine a_5 (s1 z (a_4 rfl s_7 z.e) fun B7 AA => ?_); clear z BE
 refine s1 AA (a_3 rfl z_5 AA.e (D.bk 0 rfl) rfl) fun B8 AB => ?_; clear AA B7
 refine s2 AB (a_8 rfl en_61 (ev2 AB.e (evf _ _)) (all_tab b.tabs lr lb _ 62 #[] #[] (fun i => decide (((b.tabs.getD i tab0).rows.length : Int) ≤ 8)) _ (c_5 (D.ok 1 _ rfl)).tabs (by have := hth.tl; omega) ⟨en_62, fun i hi W hW => tshort_ok (b.tabs.getD i tab0) _ _ W ((c_5 ((D.step hW).ok 1 _ rfl)).row hi) ((c_5 ((D.step hW).ok 1 _ rfl)).brk hi) (hth.rl i) (hth.bl i)⟩ (fun i hi => ⟨((c_5 (D.ok 1 _ rfl)).row hi).one, ((c_5 (D.ok 1 _ rfl)).brk hi).one⟩))) ?_
 rintro B9 _ Cb ⟨rfl, A9⟩ AC; have K := D.step A9; clear A9 AB D B8
 refine s1 AC (g_0 rfl AC.e) fun CA AD => ?_; clear AC B9
 refine s1 AD (a_0 rfl AD.e) fun BF F => ?_; clear AD CA
 refine n1 ?_
 rcases Bool.eq_false_or_eq_true (((List.range b.tabs.length).all (fun i => decide (((b.tabs.getD i tab0).rows.length : Int) ≤ 8)))) with AQ | AQ
 ·skip
  rw [AQ] at F
  refine b_8 F rfl (m2 (s1 F (a_4 rfl q_5 F.e) fun CB AE => ?_)); clear F BF
  refine s1 AE (a_3 rfl z_1 AE.e (K.bk 0 rfl) rfl) fun CC AF => ?_; clear AE CB
  refine s2 AF (a_8 rfl en_63 (ev2 AF.e (evf _ _)) (all_mac b.macs lk _ 64 #[] #[] (fun i => decide (((b.macs.getD i mac0).blocks.length : Int) ≤ 5)) _ (d_1 (K.ok 2 _ rfl)).macs (by have := hth.ml; omega) ⟨en_64, fun i hi W hW => mshort_ok (b.macs.getD i mac0) _ W ((d_1 ((K.step hW).ok 2 _ rfl)).blk hi)⟩ (fun i hi => ((d_1 (K.ok 2 _ rfl)).blk hi).one))) ?_
  rintro CD _ Cc ⟨rfl, BA⟩ AG; have A := K.step BA; clear BA AF K CC
  refine s1 AG (g_0 rfl AG.e) fun CE AH => ?_; clear AG CD
  refine s1 AH (a_0 rfl AH.e) fun BG H => ?_; clear AH CE
  refine n1 ?_
  rcases Bool.eq_false_or_eq_true (((List.range b.macs.length).all (fun i => decide (((b.macs.getD i mac0).blocks.length : Int) ≤ 5)))) with AR | AR
  ·skip
   rw [AR] at H
   refine b_8 H rfl (d_3 ?_)
   have AI := H.as [(1, (bptr b4 0))] rfl; clear H
   refine a_5 (s1 AI (a_4 rfl x_0 AI.e) fun CF AJ => ?_); clear AI BG
   refine s1 AJ (a_3 rfl ty_3 AJ.e (A.bk 0 rfl) rfl) fun CG AK => ?_; clear AJ CF
   refine s2 AK (a_8 rfl y_5 (ev3 AK.e (evc _ _) (evc _ _)) (k_6 _ _ _ _)) ?_
   rintro CH _ W_ ⟨rfl, hW_⟩ AL; have hW2_ := hW_.symm; subst hW2_; clear hW_ AK CG
   refine s1 AL (g_0 rfl AL.e) fun CI AM => ?_; clear AL CH
   refine s1 AM (a_1 rfl AM.e) fun BH J => ?_; clear AM CI
   rcases Bool.eq_false_or_eq_true ((inB b.scales 1 4)) with AS | AS
   ·skip
    rw [AS] at J
    refine s5 J (a_4 rfl s_7 J.e) fun CJ AN => ?_; clear J BH
    refine s5 AN (a_3 rfl z_5 AN.e (A.bk 0 rfl) rfl) fun CK AO => ?_; clear AN CJ
    refine s5 AO (b_9 rfl n_6 (AO.ev rfl) (A.bk 0 rfl) (l := [(iv b.scales), vt, vm]) rfl rfl) fun CL AP => ?_; clear AO CK
    refine s5 AP (f_9 rfl (ev1 AP.e) ev0) fun CM h => ?_; clear AP CL
    refine s6 h (a_8 rfl en_61 (ev2 h.e h.e) (all_tab b.tabs lr lb _ 65 #[(Value.agg #[(iv b.scales), vt, vm])] #[] (fun i => tabB b.scales (b.tabs.getD i tab0)) _ (c_5 (A.ok 1 _ rfl)).tabs (by have := hth.tl; omega) ⟨en_65, fun i hi W hW => table_ok b.scales vt vm (c_5 (A.ok 1 _ rfl)).tabs.one (d_1 (A.ok 2 _ rfl)).macs.one (m_6.1 (by assumption)) (b.tabs.getD i tab0) _ _ W ((c_5 ((A.step hW).ok 1 _ rfl)).row hi) ((c_5 ((A.step hW).ok 1 _ rfl)).brk hi) (hth.rl i) (hth.bl i)⟩ (fun i hi => ⟨((c_5 (A.ok 1 _ rfl)).row hi).one, ((c_5 (A.ok 1 _ rfl)).brk hi).one⟩))) ?_
    rintro BK _ CX ⟨rfl, Av⟩ O; have B := A.step Av; clear Av h A CM
    refine s5 O (g_0 rfl O.e) fun BL L => ?_; clear O BK
    refine s1 L (e_0 rfl L.e L.e) fun BM P => ?_; clear L BL
    refine s1 P (a_1 rfl P.e) fun Ay E => ?_; clear P BM
    rcases Bool.eq_false_or_eq_true (((List.range b.tabs.length).all (fun i => tabB b.scales (b.tabs.getD i tab0)))) with j | j
    ·skip
     rw [j] at E
     refine s5 E (a_4 rfl q_5 E.e) fun BN Q => ?_; clear E Ay
     refine s5 Q (a_3 rfl z_1 Q.e (B.bk 0 rfl) rfl) fun BO R => ?_; clear Q BN
     refine s5 R (b_9 rfl n_6 (R.ev rfl) (B.bk 0 rfl) (l := [(iv b.scales), vt, vm]) rfl rfl) fun BP S => ?_; clear R BO
     refine s5 S (f_9 rfl (ev1 S.e) ev0) fun BQ M => ?_; clear S BP
     refine s6 M (a_8 rfl en_63 (ev2 M.e M.e) (all_mac b.macs lk _ 66 #[(Value.agg #[(iv b.scales), vt, vm])] #[] (fun i => macB b.scales (b.macs.getD i mac0)) _ (d_1 (B.ok 2 _ rfl)).macs (by have := hth.ml; omega) ⟨en_66, fun i hi W hW => machine_ok b.scales vt vm W (c_5 (B.ok 1 _ rfl)).tabs.one (d_1 (B.ok 2 _ rfl)).macs.one (m_6.1 (by assumption)) (b.macs.getD i mac0) _ ((d_1 ((B.step hW).ok 2 _ rfl)).blk hi) (hth.kl i)⟩ (fun i hi => ((d_1 (B.ok 2 _ rfl)).blk hi).one))) ?_
     rintro BR _ CY ⟨rfl, Aw⟩ T; have Ax := B.step Aw; clear Aw M B BQ
     refine s5 T (g_0 rfl T.e) fun BS N => ?_; clear T BR
     refine s1 N (e_0 rfl N.e N.e) fun BT U => ?_; clear N BS
     refine s1 U (a_0 rfl U.e) fun Az C => ?_; clear U BT
     refine n1 ?_
     rcases Bool.eq_false_or_eq_true (((List.range b.macs.length).all (fun i => macB b.scales (b.macs.getD i mac0)))) with k | k
     ·skip
      rw [k] at C
      refine b_8 C rfl (e_1 (k_7 (b_3 (d_3 ?_))))
      have AT := C.as [] rfl; clear C
      refine a_5 (s1 AT (a_0 rfl (evc _ _)) fun CP AU => ?_); clear AT Az
      exact n1 (c_6 (b_0 AU (.inl rfl) (a_2 AU rfl (.tmp rfl)) (⟨q_7 (Eq.symm (check_0' (p_7 (by omega) (by omega) (by assumption) (by assumption)) (by assumption) (by assumption) (by assumption))), Ax.ext⟩)))
     skip
     rw [k] at C
     refine d_6 C rfl (d_3 ?_)
     have AV := C.as [] rfl; clear C
     refine a_5 (s1 AV (a_0 rfl (evc _ _)) fun CQ AW => ?_); clear AV Az
     exact n1 (c_6 (e_6 (b_1 (b_0 AW (.inl rfl) (a_2 AW rfl (.tmp rfl)) (⟨q_7 (Eq.symm (by first | exact check_1a (p_7 (by omega) (by omega) (by assumption) (by assumption)) (by assumption) | exact check_1b' (p_7 (by omega) (by omega) (by assumption) (by assumption)) (by assumption) | exact check_1c' (p_7 (by omega) (by omega) (by assumption) (by assumption)) (by assumption))), Ax.ext⟩)))))
    skip
    rw [j] at E
    refine s3 E fun BU AX => ?_; clear E Ay
    refine s3 AX fun BV AY => ?_; clear AX BU
    refine s3 AY fun BW AZ => ?_; clear AY BV
    refine s3 AZ fun BX Aa => ?_; clear AZ BW
    refine s3 Aa fun BY Ab => ?_; clear Aa BX
    refine s3 Ab fun BZ V => ?_; clear Ab BY
    refine s1 V (b_5 rfl V.e (evc _ _)) fun Ba X => ?_; clear V BZ
    refine s1 X (a_0 rfl X.e) fun Bb Y => ?_; clear X Ba
    refine n1 (d_6 Y rfl (d_3 ?_))
    have Ac := Y.as [] rfl; clear Y
    refine a_5 (s1 Ac (a_0 rfl (evc _ _)) fun CR Ad => ?_); clear Ac Bb
    exact n1 (c_6 (e_6 (b_1 (b_0 Ad (.inl rfl) (a_2 Ad rfl (.tmp rfl)) (⟨q_7 (Eq.symm (by first | exact check_1a (p_7 (by omega) (by omega) (by assumption) (by assumption)) (by assumption) | exact check_1b' (p_7 (by omega) (by omega) (by assumption) (by assumption)) (by assumption) | exact check_1c' (p_7 (by omega) (by omega) (by assumption) (by assumption)) (by assumption))), B.ext⟩)))))
   skip
   rw [AS] at J
   refine s3 J fun Bc Ae => ?_; clear J BH
   refine s3 Ae fun Bd Af => ?_; clear Ae Bc
   refine s3 Af fun Be Ag => ?_; clear Af Bd
   refine s3 Ag fun Bf Ah => ?_; clear Ag Be
   refine s3 Ah fun Bg Ai => ?_; clear Ah Bf
   refine s3 Ai fun Bh Z => ?_; clear Ai Bg
   refine s1 Z (b_5 rfl Z.e (evc _ _)) fun Bi a => ?_; clear Z Bh
   refine s1 a (a_1 rfl a.e) fun Bj Aj => ?_; clear a Bi
   refine s3 Aj fun Bk Ak => ?_; clear Aj Bj
   refine s3 Ak fun Bl Al => ?_; clear Ak Bk
   refine s3 Al fun Bm Am => ?_; clear Al Bl
   refine s3 Am fun Bn An => ?_; clear Am Bm
   refine s3 An fun Bo Ao => ?_; clear An Bn
   refine s3 Ao fun Bp c => ?_; clear Ao Bo
   refine s1 c (b_5 rfl c.e (evc _ _)) fun Bq d => ?_; clear c Bp
   refine s1 d (a_0 rfl d.e) fun Br f => ?_; clear d Bq
   refine n1 (d_6 f rfl (d_3 ?_))
   have Ap := f.as [] rfl; clear f
   refine a_5 (s1 Ap (a_0 rfl (evc _ _)) fun CS Aq => ?_); clear Ap Br
   exact n1 (c_6 (e_6 (b_1 (b_0 Aq (.inl rfl) (a_2 Aq rfl (.tmp rfl)) (⟨q_7 (Eq.symm (by first | exact check_1a (p_7 (by omega) (by omega) (by assumption) (by assumption)) (by assumption) | exact check_1b' (p_7 (by omega) (by omega) (by assumption) (by assumption)) (by assumption) | exact check_1c' (p_7 (by omega) (by omega) (by assumption) (by assumption)) (by assumption))), A.ext⟩)))))
  skip
  rw [AR] at H
  refine d_6 H rfl (d_3 ?_)
  have Ar := H.as [] rfl; clear H
  refine a_5 (s1 Ar (a_0 rfl (evc _ _)) fun CT As => ?_); clear Ar BG
  exact n1 (c_6 (e_6 (b_1 (b_0 As (.inl rfl) (a_2 As rfl (.tmp rfl)) (⟨q_7 (Eq.symm (by first | exact check_3a (by omega) | exact check_3b' (by assumption) | exact check_3c' (by assumption))), A.ext⟩)))))
 skip
 rw [AQ] at F
 refine d_6 F rfl (d_3 ?_)
 have At := F.as [] rfl; clear F
 refine a_5 (s1 At (a_0 rfl (evc _ _)) fun CU Au => ?_); clear At BF
 exact n1 (c_6 (e_6 (b_1 (b_0 Au (.inl rfl) (a_2 Au rfl (.tmp rfl)) (⟨q_7 (Eq.symm (by first | exact check_3a (by omega) | exact check_3b' (by assumption) | exact check_3c' (by assumption))), K.ext⟩)))))
end Go.Proofs.Ytohgladndklciaa

namespace Go.Hard
section
variable {b : f_7} {l : List (Int × Int)} {k : Nat} {i : Int}
theorem m_2.mac (h : m_2 b) (hi : k < b.macs.length) : MacV b.scales (b.macs.getD k mac0) := h.macs _ (by simp only [List.getD, List.getElem?_eq_getElem hi, Option.getD_some]; exact List.getElem_mem hi)
theorem m_2.tab (h : m_2 b) (hi : k < b.tabs.length) : TabV b.scales (b.tabs.getD k tab0) := h.tabs _ (by simp only [List.getD, List.getElem?_eq_getElem hi, Option.getD_some]; exact List.getElem_mem hi)
theorem read_c (h : e_9 b ≠ 0) : k_9 b l = e_9 b := by unfold k_9; rw [if_pos h]
theorem read_3 (h : e_9 b = 0) (h2 : 8 < l.length) : k_9 b l = 3 := by unfold k_9; rw [if_neg (not_not_intro h), if_pos h2]
theorem read_2' (h : e_9 b = 0) (h2 : ¬ 8 < l.length) (h3 : (List.range l.length).all (fun i => w_3 b (l.getD i (0, 0))) = false) : k_9 b l = 2 := by
  unfold k_9; rw [if_neg (not_not_intro h), if_neg h2, if_pos (show allI l.length (fun i => w_3 b (l.getD i (0, 0))) = false from h3)]
theorem read_11' (h : e_9 b = 0) (h2 : ¬ 8 < l.length) (h3 : (List.range l.length).all (fun i => w_3 b (l.getD i (0, 0))) = true) (h4 : (List.range l.length).all (fun i => !offB (b.macs.getD (l.getD i (0, 0)).1.toNat mac0)) = false) : k_9 b l = 11 := by
  unfold k_9; rw [if_neg (not_not_intro h), if_neg h2, if_neg (by rw [show allI l.length (fun i => w_3 b (l.getD i (0, 0))) = true from h3]; decide), if_pos (show allI l.length (fun i => !offB (b.macs.getD (l.getD i (0, 0)).1.toNat mac0)) = false from h4)]
theorem read_0 (h : e_9 b = 0) (h2 : ¬ 8 < l.length) (h3 : ∀ i, i < l.length → w_3 b (l.getD i (0, 0)) = true) (h4 : ∀ i, i < l.length → offB (b.macs.getD (l.getD i (0, 0)).1.toNat mac0) = false) : k_9 b l = 0 := by
  unfold k_9; rw [if_neg (not_not_intro h), if_neg h2, if_neg (by rw [g_7.2 h3]; decide), if_neg]
  rw [g_7.2 fun i hi => by rw [h4 i hi]; rfl]; decide
theorem read_0' (h : e_9 b = 0) (h2 : ¬ 8 < l.length) (h3 : (List.range l.length).all (fun i => w_3 b (l.getD i (0, 0))) = true) (h4 : (List.range l.length).all (fun i => !offB (b.macs.getD (l.getD i (0, 0)).1.toNat mac0)) = true) : k_9 b l = 0 := by
  refine read_0 h h2 (g_7.1 h3) fun i hi => ?_
  have := g_7.1 h4 i hi
  simpa using this
theorem read_check (h : k_9 b l = 0) : e_9 b = 0 := by
  unfold k_9 at h
  split at h
  · rename_i h1; exact absurd h h1
  · rename_i h1; exact Decidable.not_not.1 h1
theorem readB_is (h : w_3 b (l.getD k (0, 0)) = true) : (0 ≤ (l.getD k (0, 0)).1 ∧ (l.getD k (0, 0)).1 ≤ (b.macs.length : Int) - 1) ∧ 0 ≤ (l.getD k (0, 0)).2 ∧ (l.getD k (0, 0)).2 ≤ 100000 := by
  unfold w_3 at h; rwa [Bool.and_eq_true, m_6, m_6] at h
end
def l_1 (b : f_7) (i : Int) : Int := if e_9 b ≠ 0 then e_9 b else if inB i 0 ((b.macs.length : Int) - 1) = false then 2 else if offB (b.macs.getD i.toNat mac0) = true then 11 else 0
def m_1 (b : f_7) (i : Int) : Rng := if l_1 b i = 0 then d_5 (b.macs.getD i.toNat mac0) else (0, 0)
theorem biasE_c {b : f_7} {i : Int} (h : e_9 b ≠ 0) : l_1 b i = e_9 b := by unfold l_1; rw [if_pos h]
theorem biasE_2 {b : f_7} {i : Int} (h : e_9 b = 0) (h2 : inB i 0 ((b.macs.length : Int) - 1) = false) : l_1 b i = 2 := by unfold l_1; rw [if_neg (not_not_intro h), if_pos h2]
theorem biasE_11 {b : f_7} {i : Int} (h : e_9 b = 0) (h2 : inB i 0 ((b.macs.length : Int) - 1) = true) (h3 : offB (b.macs.getD i.toNat mac0) = true) : l_1 b i = 11 := by unfold l_1; rw [if_neg (not_not_intro h), if_neg (by rw [h2]; decide), if_pos h3]
theorem biasE_0 {b : f_7} {i : Int} (h : e_9 b = 0) (h2 : inB i 0 ((b.macs.length : Int) - 1) = true) (h3 : offB (b.macs.getD i.toNat mac0) = false) : l_1 b i = 0 := by unfold l_1; rw [if_neg (not_not_intro h), if_neg (by rw [h2]; decide), if_neg (by rw [h3]; decide)]
theorem biasR_n {b : f_7} {i : Int} (h : l_1 b i ≠ 0) : m_1 b i = (0, 0) := if_neg h
theorem biasR_y {b : f_7} {i : Int} (h : l_1 b i = 0) : m_1 b i = d_5 (b.macs.getD i.toNat mac0) := if_pos h
def offU (b : f_7) : Nat → List Int
  | 0 => []
  | k + 1 => if offB (b.macs.getD k mac0) = true then offU b k ++ [(k : Int)] else offU b k
def offL (b : f_7) : List Int := offU b b.macs.length
theorem offU_len (b : f_7) : ∀ k, (offU b k).length ≤ k
  | 0 => Nat.le_refl _
  | k + 1 => by
    have := offU_len b k
    unfold offU; split
    · rw [List.length_append, List.length_singleton]; omega
    · omega
theorem offU_y {b : f_7} {k : Nat} (h : offB (b.macs.getD k mac0) = true) : offU b (k + 1) = offU b k ++ [(k : Int)] := by rw [offU, if_pos h]
theorem offU_n {b : f_7} {k : Nat} (h : offB (b.macs.getD k mac0) = false) : offU b (k + 1) = offU b k := by rw [offU, if_neg (by rw [h]; decide)]
theorem off_t {m : MacD} (h : (d_5 m).2 < (d_5 m).1) : offB m = true := decide_eq_true h
theorem off_f {m : MacD} (h : ¬ (d_5 m).2 < (d_5 m).1) : offB m = false := decide_eq_false h
def i_0 (b : f_7) (i : Int) (r : Rng) : Int := if e_9 b ≠ 0 then e_9 b else if inB i 0 ((b.tabs.length : Int) - 1) = false ∨ y_7 r = false then 2 else if q_4 (b.tabs.getD i.toNat tab0) r = false then 10 else 0
def j_3 (b : f_7) (i : Int) (r : Rng) : Rng := if i_0 b i r = 0 then k_8 (b.tabs.getD i.toNat tab0) r else (0, 0)
section
variable {b : f_7} {i : Int} {r : Rng}
theorem convE_c (h : e_9 b ≠ 0) : i_0 b i r = e_9 b := by unfold i_0; rw [if_pos h]
theorem convE_2 (h : e_9 b = 0) (h2 : inB i 0 ((b.tabs.length : Int) - 1) = false ∨ y_7 r = false) : i_0 b i r = 2 := by unfold i_0; rw [if_neg (not_not_intro h), if_pos h2]
theorem convE_10 (h : e_9 b = 0) (h2 : inB i 0 ((b.tabs.length : Int) - 1) = true) (h3 : y_7 r = true) (h4 : q_4 (b.tabs.getD i.toNat tab0) r = false) : i_0 b i r = 10 := by unfold i_0; rw [if_neg (not_not_intro h), if_neg (by rw [h2, h3]; decide), if_pos h4]
theorem convE_0 (h : e_9 b = 0) (h2 : inB i 0 ((b.tabs.length : Int) - 1) = true) (h3 : y_7 r = true) (h4 : q_4 (b.tabs.getD i.toNat tab0) r = true) : i_0 b i r = 0 := by unfold i_0; rw [if_neg (not_not_intro h), if_neg (by rw [h2, h3]; decide), if_neg (by rw [h4]; decide)]
theorem convR_n (h : i_0 b i r ≠ 0) : j_3 b i r = (0, 0) := if_neg h
theorem convR_y (h : i_0 b i r = 0) : j_3 b i r = k_8 (b.tabs.getD i.toNat tab0) r := if_pos h
end
end Go.Hard

namespace Go.Proofs.Ytohgladndklciaa
open Go.RowKit Go.Shelf Go.Eng Go.Hard
theorem en_32 : ∀ args w, (callFunc 32 args).run Try.prog w = .ok (.enter 32 args) w := enters_of Try.func32 (by kernel_rfl) rfl
theorem en_67 : ∀ args w, (callFunc 67 args).run Try.prog w = .ok (.enter 67 args) w := enters_of Try.func67 (by kernel_rfl) rfl
theorem en_68 : ∀ args w, (callFunc 68 args).run Try.prog w = .ok (.enter 68 args) w := enters_of Try.func68 (by kernel_rfl) rfl
theorem bd_30_  (w : World) : (Instr.build 30 #[]).run Try.prog w = .ok (.agg #[(iv 0), (iv 0)]) w := by kernel_rfl
theorem en_49 : ∀ args w, (callFunc 49 args).run Try.prog w = .ok (.enter 49 args) w := enters_of Try.func49 (by kernel_rfl) rfl
theorem en_50 : ∀ args w, (callFunc 50 args).run Try.prog w = .ok (.enter 50 args) w := enters_of Try.func50 (by kernel_rfl) rfl
theorem ze_103 : (Try.prog.info? 103).bind (·.zero) = some (Value.agg #[(iv 0), (Value.slice none 0 0)]) := by kernel_rfl
theorem s_6 (x0_0 : Int) : Instr.fill (fun i => some (i * 1, 1)) ((Array.range (1 * 1)).map ((iv 0).cells[· % (iv 0).cells.size]!)) [(0, (.int .i64 x0_0))] = some (([(.int .i64 x0_0)] : List Value).toArray) := by kernel_rfl
theorem el_3 : elK Try.prog 3 = some ((iv 0), 1, 8) := by kernel_rfl
set_option maxHeartbeats 4000000 in
theorem Bias_ok (b : f_7) (vt vm : Value) (lr lb lk : Nat → Value) (w : World) (hT : k_1 w vt lr lb b.tabs) (hM : m_3 w vm lk b.macs) (hth : l_4 b) (i : Int) :
  Calls Try.prog 33 #[(Value.agg #[(iv b.scales), vt, vm]), (iv i)] w (Ret fun v w' => v = .tuple #[.agg #[.int .i64 (m_1 b i).1, .int .i64 (m_1 b i).2], .int .i64 (l_1 b i)] ∧ Ext NoB w w') := by
 refine a_7 Try.func33 rfl fun a0 R => ?_
 replace R : Fr 32 [] [(0, (Value.agg #[(iv b.scales), vt, vm])), (1, (iv i))] a0 := R
 have hml9 := hth.ml
 have AZ : Sep NoB w w [(c_0 false vt lr lb b.tabs), (c_3 false vm lk b.macs)] := f_0 ⟨rfl, hT, rfl, hM, trivial⟩
 refine m2 (s2 R (f_3 AZ rfl R.e (cs := [(iv b.scales), vt, vm]) rfl) ?_)
 rintro a1 _ w3 ⟨S, rfl, Aa⟩ AX; clear R AZ a0
 refine s2 AX (d_2 Aa rfl t_7 (cs := [(iv 0), (iv 0)]) rfl) ?_
 rintro a6 _ w8 ⟨H, rfl, F⟩ AY; clear AX Aa a1
 refine s1 AY (a_0 rfl (evc _ _)) fun Af T => ?_; clear AY a6
 refine n2 (m2 (s1 T (b_9 rfl n_6 (T.ev rfl) (F.bk 1 rfl) (l := [(iv b.scales), vt, vm]) rfl rfl) fun Ag U => ?_)); clear T Af
 refine s2 U (a_8 rfl en_32 (ev1 U.e) (l_8 b vt vm lr lb lk _ (c_5 (F.ok 2 _ rfl)) (d_1 (F.ok 3 _ rfl)) hth)) ?_
 rintro Ah _ BB ⟨rfl, AH⟩ V; have A := F.step AH; clear AH U F Ag
 refine s1 V (a_0 rfl V.e) fun Ai W => ?_; clear V Ah
 refine n4 (s1 W (a_1 rfl W.e) fun Aj X => ?_); clear W Ai
 refine s1 X (o_5 rfl X.e (evc _ _)) fun AU C => ?_; clear X Aj
 refine n1 ?_
 by_cases AS : (e_9 b) = 0
 ·skip
  rw [decide_eq_true AS] at C
  refine b_8 C rfl (e_1 (b_3 (d_3 (d_3 ?_))))
  have Y := C.as [(4, (bptr H 0)), (2, (bptr S 0)), (1, (iv i))] rfl; clear C
  refine a_5 (s1 Y (a_1 rfl Y.e) fun Ak Z => ?_); clear Y AU
  refine s1 Z (a_4 rfl q_5 Z.e) fun Al a => ?_; clear Z Ak
  refine s1 a (a_3 rfl z_1 a.e (A.bk 1 rfl) rfl) fun Am c => ?_; clear a Al
  refine s1 c (e_8 rfl x_8 c.e (d_1 (A.ok 3 _ rfl)).macs) fun An d => ?_; clear c Am
  refine s1 d (k_5 rfl d.e (evc _ _) (by omega) (by omega)) fun Ao K => ?_; clear d An
  refine s2 K (a_8 rfl y_5 (ev3 K.e (evc _ _) K.e) (k_6 _ _ _ _)) ?_
  rintro Ap _ W_ ⟨rfl, hW_⟩ f; have hW2_ := hW_.symm; subst hW2_; clear hW_ K Ao
  refine s1 f (g_0 rfl f.e) fun AV D => ?_; clear f Ap
  refine n1 ?_
  rcases Bool.eq_false_or_eq_true ((inB i 0 ((b.macs.length : Int) - 1))) with Q | Q
  ·skip
   rw [Q] at D
   have hib := m_6.1 Q
   refine b_8 D rfl (e_1 (b_3 (d_3 ?_)))
   have g := D.as [(4, (bptr H 0)), (2, (bptr S 0)), (1, (iv i))] rfl; clear D
   refine a_5 (s1 g (a_4 rfl q_5 g.e) fun Aq h => ?_); clear g AV
   refine s1 h (a_3 rfl z_1 h.e (A.bk 1 rfl) rfl) fun Ar j => ?_; clear h Aq
   refine s1 j (a_1 rfl j.e) fun As L => ?_; clear j Ar
   refine s1 L (b_6 rfl x_8 m_9 L.e (i := i.toNat) (L.e.trans (m_7 (by omega))) (d_1 (A.ok 3 _ rfl)).macs (by decide) (by omega)) fun At k => ?_; clear L As
   refine s1 k (e_7 rfl m_9 k.e (d_1 (A.ok 3 _ rfl)).macs (macs_all (by omega)) rfl (by decide)) fun Au m => ?_; clear k At
   refine s2 m (a_8 rfl en_67 (ev1 m.e) (bias_ok _ (b.macs.getD i.toNat mac0) _ _ ((d_1 (A.ok 3 _ rfl)).blk (i := i.toNat) (by omega)) ((v_9 (by assumption)).mac (by omega)) (hth.kl _))) ?_
   rintro Av _ BC ⟨rfl, AI⟩ z; have AK := A.step AI; clear AI m A Au
   refine s2 z (d_2 AK rfl t_7 (cs := [(iv 0), (iv 0)]) rfl) ?_
   rintro Aw _ BD ⟨q, rfl, AL⟩ M; clear z AK Av
   refine s7 M (b_4 AL rfl f_1 M.e M.e (i := 0) rfl (vs := [(iv ((d_5 (b.macs.getD i.toNat mac0)).1)), (iv ((d_5 (b.macs.getD i.toNat mac0)).2))]) rfl rfl rfl (Nat.le_of_ble_eq_true rfl)) ?_
   intro _ A1 AM AA; clear M
   have p : Sep NoB w A1 [(blk q 30 [(iv ((d_5 (b.macs.getD i.toNat mac0)).1)), (iv ((d_5 (b.macs.getD i.toNat mac0)).2))]), (blk H 30 [(iv 0), (iv 0)]), (blk S 37 [(iv b.scales), vt, vm]), (c_0 false vt lr lb b.tabs), (c_3 false vm lk b.macs)] := AM; clear AM AL
   refine n2 (d_3 ?_)
   have n := AA.as [(7, (bptr q 0)), (4, (bptr H 0))] rfl; clear AA
   refine a_5 (s1 n (b_9 rfl f_1 (n.ev rfl) (p.bk 0 rfl) (l := [(iv ((d_5 (b.macs.getD i.toNat mac0)).1)), (iv ((d_5 (b.macs.getD i.toNat mac0)).2))]) rfl rfl) fun Ax o => ?_); clear n Aw
   refine s2 o (a_8 rfl en_68 (ev1 o.e) (w_0 _ _ _)) ?_
   rintro AW _ BE ⟨rfl, AJ⟩ B; have G := p.step AJ; clear AJ o p Ax
   refine n1 ?_
   by_cases AT : ((d_5 (b.macs.getD i.toNat mac0)).2) < ((d_5 (b.macs.getD i.toNat mac0)).1)
   ·skip
    rw [decide_eq_true AT] at B
    refine d_6 B rfl (m2 (s1 B (c_7 rfl pv0 bd_30_) fun Ay N => ?_)); clear B AW
    refine s7 N (b_4 G rfl f_1 N.e N.e (i := 1) rfl (vs := [(iv 0), (iv 0)]) rfl rfl rfl (Nat.le_of_ble_eq_true rfl)) ?_
    intro _ A2 AN AB; clear N
    have AO : Sep NoB w A2 [(blk q 30 [(iv ((d_5 (b.macs.getD i.toNat mac0)).1)), (iv ((d_5 (b.macs.getD i.toNat mac0)).2))]), (blk H 30 [(iv 0), (iv 0)]), (blk S 37 [(iv b.scales), vt, vm]), (c_0 false vt lr lb b.tabs), (c_3 false vm lk b.macs)] := AN; clear AN G
    refine s1 AB (a_0 rfl (evc _ _)) fun A9 AC => ?_; clear AB Ay
    refine n1 (c_6 (b_1 (b_0 AC (.inl rfl) (c_4 AC rfl (.cellA rfl f_1 (AO.bk 1 rfl) (l := [(iv 0), (iv 0)]) rfl rfl) (.tmp rfl)) ?_)))
    have he_ := (biasE_11 (i := i) (by assumption) (by assumption) (off_t (by assumption)))
    exact ⟨by rw [biasR_n (by rw [he_]; first | assumption | decide), he_], AO.ext⟩
   skip
   rw [decide_eq_false AT] at B
   refine b_8 B rfl (e_1 (b_3 (m2 (s1 B (b_9 rfl f_1 (B.ev rfl) (G.bk 0 rfl) (l := [(iv ((d_5 (b.macs.getD i.toNat mac0)).1)), (iv ((d_5 (b.macs.getD i.toNat mac0)).2))]) rfl rfl) fun Az O => ?_)))); clear B AW
   refine s7 O (b_4 G rfl f_1 O.e O.e (i := 1) rfl (vs := [(iv ((d_5 (b.macs.getD i.toNat mac0)).1)), (iv ((d_5 (b.macs.getD i.toNat mac0)).2))]) rfl rfl rfl (Nat.le_of_ble_eq_true rfl)) ?_
   intro _ A3 AP AD; clear O
   have AQ : Sep NoB w A3 [(blk q 30 [(iv ((d_5 (b.macs.getD i.toNat mac0)).1)), (iv ((d_5 (b.macs.getD i.toNat mac0)).2))]), (blk H 30 [(iv ((d_5 (b.macs.getD i.toNat mac0)).1)), (iv ((d_5 (b.macs.getD i.toNat mac0)).2))]), (blk S 37 [(iv b.scales), vt, vm]), (c_0 false vt lr lb b.tabs), (c_3 false vm lk b.macs)] := AP; clear AP G
   refine s1 AD (a_0 rfl (evc _ _)) fun BA AE => ?_; clear AD Az
   refine n1 (c_6 (b_0 AE (.inl rfl) (c_4 AE rfl (.cellA rfl f_1 (AQ.bk 1 rfl) (l := [(iv ((d_5 (b.macs.getD i.toNat mac0)).1)), (iv ((d_5 (b.macs.getD i.toNat mac0)).2))]) rfl rfl) (.tmp rfl)) ?_))
   have he_ := (biasE_0 (i := i) (by assumption) (by assumption) (off_f (by assumption)))
   exact ⟨by rw [biasR_y he_, he_], AQ.ext⟩
  skip
  rw [Q] at D
  refine d_6 D rfl (d_3 ?_)
  have AF := D.as [(4, (bptr H 0))] rfl; clear D
  refine a_5 (s1 AF (c_7 rfl pv0 bd_30_) fun A0 P => ?_); clear AF AV
  refine s7 P (b_4 A rfl f_1 P.e P.e (i := 0) rfl (vs := [(iv 0), (iv 0)]) rfl rfl rfl (Nat.le_of_ble_eq_true rfl)) ?_
  intro _ A4 AR AG; clear P
  have u : Sep NoB w A4 [(blk H 30 [(iv 0), (iv 0)]), (blk S 37 [(iv b.scales), vt, vm]), (c_0 false vt lr lb b.tabs), (c_3 false vm lk b.macs)] := AR; clear AR A
  refine s1 AG (a_0 rfl (evc _ _)) fun A6 r => ?_; clear AG A0
  refine n1 (c_6 (b_1 (b_0 r (.inl rfl) (c_4 r rfl (.cellA rfl f_1 (u.bk 0 rfl) (l := [(iv 0), (iv 0)]) rfl rfl) (.tmp rfl)) ?_)))
  have he_ := (biasE_2 (i := i) (by assumption) (by assumption))
  exact ⟨by rw [biasR_n (by rw [he_]; first | assumption | decide), he_], u.ext⟩
 skip
 rw [decide_eq_false AS] at C
 refine d_6 C rfl (d_3 ?_)
 have s := C.as [(6, (iv (e_9 b))), (4, (bptr H 0))] rfl; clear C
 refine a_5 (s1 s (c_7 rfl pv0 bd_30_) fun Ab I => ?_); clear s AU
 refine s1 I (a_1 rfl I.e) fun Ac E => ?_; clear I Ab
 refine s7 E (b_4 A rfl f_1 E.e E.e (i := 0) rfl (vs := [(iv 0), (iv 0)]) rfl rfl rfl (Nat.le_of_ble_eq_true rfl)) ?_
 intro _ Ad x J; clear E
 have y : Sep NoB w Ad [(blk H 30 [(iv 0), (iv 0)]), (blk S 37 [(iv b.scales), vt, vm]), (c_0 false vt lr lb b.tabs), (c_3 false vm lk b.macs)] := x; clear x A
 refine s1 J (a_0 rfl J.e) fun A7 t => ?_; clear J Ac
 refine n1 (c_6 (b_1 (b_0 t (.inl rfl) (c_4 t rfl (.cellA rfl f_1 (y.bk 0 rfl) (l := [(iv 0), (iv 0)]) rfl rfl) (.tmp rfl)) ?_)))
 have he_ := (biasE_c (i := i) (by assumption))
 exact ⟨by rw [biasR_n (by rw [he_]; first | assumption | decide), he_], y.ext⟩
set_option maxHeartbeats 4000000 in
theorem u_7 (b : f_7) (vt vm : Value) (lr lb lk : Nat → Value) (w : World) (hT : k_1 w vt lr lb b.tabs) (hM : m_3 w vm lk b.macs) (hth : l_4 b) (i A B : Int) :
  Calls Try.prog 18 #[(Value.agg #[(iv b.scales), vt, vm]), (iv i), (Value.agg #[(iv A), (iv B)])] w (Ret fun v w' => v = .tuple #[.agg #[.int .i64 (j_3 b i (A, B)).1, .int .i64 (j_3 b i (A, B)).2], .int .i64 (i_0 b i (A, B))] ∧ Ext NoB w w') := by
 refine a_7 Try.func18 rfl fun a0 g => ?_
 replace g : Fr 47 [] [(0, (Value.agg #[(iv b.scales), vt, vm])), (1, (iv i)), (2, (Value.agg #[(iv A), (iv B)]))] a0 := g
 have htl9 := hth.tl
 have A2 : Sep NoB w w [(c_0 false vt lr lb b.tabs), (c_3 false vm lk b.macs)] := f_0 ⟨rfl, hT, rfl, hM, trivial⟩
 refine m2 (s2 g (f_3 A2 rfl g.e (cs := [(iv b.scales), vt, vm]) rfl) ?_)
 rintro a1 _ w3 ⟨P, rfl, A3⟩ Ao; clear g A2 a0
 refine s2 Ao (f_3 A3 rfl Ao.e (cs := [(iv A), (iv B)]) rfl) ?_
 rintro a6 _ w8 ⟨Q, rfl, Aw⟩ A1; clear Ao A3 a1
 refine s2 A1 (d_2 Aw rfl t_7 (cs := [(iv 0), (iv 0)]) rfl) ?_
 rintro BK _ Bu ⟨D, rfl, O⟩ An; clear A1 Aw a6
 refine s1 An (a_0 rfl (evc _ _)) fun BL h => ?_; clear An BK
 refine n2 (m2 (s1 h (b_9 rfl n_6 (h.ev rfl) (O.bk 2 rfl) (l := [(iv b.scales), vt, vm]) rfl rfl) fun BM j => ?_)); clear h BL
 refine s2 j (a_8 rfl en_32 (ev1 j.e) (l_8 b vt vm lr lb lk _ (c_5 (O.ok 3 _ rfl)) (d_1 (O.ok 4 _ rfl)) hth)) ?_
 rintro BN _ Bv ⟨rfl, At⟩ k; have E := O.step At; clear At j O BM
 refine s1 k (a_0 rfl k.e) fun BO m => ?_; clear k BN
 refine n4 (s1 m (a_1 rfl m.e) fun BP n => ?_); clear m BO
 refine s1 n (o_5 rfl n.e (evc _ _)) fun Ay F => ?_; clear n BP
 refine n1 ?_
 by_cases Ax : (e_9 b) = 0
 ·skip
  rw [decide_eq_true Ax] at F
  refine b_8 F rfl (e_1 (b_3 (d_3 (d_3 ?_))))
  have o := F.as [(6, (bptr D 0)), (5, (bptr Q 0)), (3, (bptr P 0)), (1, (iv i))] rfl; clear F
  refine a_5 (s1 o (a_1 rfl o.e) fun BQ p => ?_); clear o Ay
  refine s1 p (a_4 rfl s_7 p.e) fun BR q => ?_; clear p BQ
  refine s1 q (a_3 rfl z_5 q.e (E.bk 2 rfl) rfl) fun BS s => ?_; clear q BR
  refine s1 s (e_8 rfl x_3 s.e (c_5 (E.ok 3 _ rfl)).tabs) fun BT t => ?_; clear s BS
  refine s1 t (k_5 rfl t.e (evc _ _) (by omega) (by omega)) fun BU V => ?_; clear t BT
  refine s2 V (a_8 rfl y_5 (ev3 V.e (evc _ _) V.e) (k_6 _ _ _ _)) ?_
  rintro BV _ W_ ⟨rfl, hW_⟩ u; have hW2_ := hW_.symm; subst hW2_; clear hW_ V BU
  refine s1 u (g_0 rfl u.e) fun BW x => ?_; clear u BV
  refine s1 x (a_1 rfl x.e) fun Az I => ?_; clear x BW
  rcases Bool.eq_false_or_eq_true ((inB i 0 ((b.tabs.length : Int) - 1))) with f | f
  ·skip
   rw [f] at I
   have hib := m_6.1 f
   refine s5 I (b_9 rfl f_1 (I.ev rfl) (E.bk 1 rfl) (l := [(iv A), (iv B)]) rfl rfl) fun BX y => ?_; clear I Az
   refine s6 y (a_8 rfl en_48 (ev1 y.e) (values_ok _ _ _)) ?_
   rintro BY _ Bw ⟨rfl, Au⟩ z; have C := E.step Au; clear Au y E BX
   refine s5 z (g_0 rfl z.e) fun BZ W => ?_; clear z BY
   refine s1 W (e_0 rfl W.e W.e) fun A0 G => ?_; clear W BZ
   refine n1 ?_
   rcases Bool.eq_false_or_eq_true ((y_7 (A, B))) with AK | AK
   ·skip
    rw [AK] at G
    refine b_8 G rfl (e_1 (b_3 (d_3 (d_3 ?_))))
    have AA := G.as [(6, (bptr D 0)), (5, (bptr Q 0)), (3, (bptr P 0)), (1, (iv i))] rfl; clear G
    refine a_5 (s1 AA (a_4 rfl s_7 AA.e) fun Ba AB => ?_); clear AA A0
    refine s1 AB (a_3 rfl z_5 AB.e (C.bk 2 rfl) rfl) fun Bb AC => ?_; clear AB Ba
    refine s1 AC (a_1 rfl AC.e) fun Bc X => ?_; clear AC Bb
    refine s1 X (b_6 rfl x_3 j_5 X.e (i := i.toNat) (X.e.trans (m_7 (by omega))) (c_5 (C.ok 3 _ rfl)).tabs (by decide) (by omega)) fun Bd AD => ?_; clear X Bc
    refine s1 AD (e_7 rfl j_5 AD.e (c_5 (C.ok 3 _ rfl)).tabs (tabs_all (by omega)) rfl (by decide)) fun Be AE => ?_; clear AD Bd
    refine s1 AE (f_9 rfl (ev1 AE.e) ev0) fun Bf AF => ?_; clear AE Be
    refine s1 AF (a_0 rfl AF.e) fun Bg Ap => ?_; clear AF Bf
    refine n2 ?_
    have AG := Ap.as [(9, (Value.func (.func 49) #[(Value.agg #[(iv ((b.tabs.getD i.toNat tab0).frm)), (iv ((b.tabs.getD i.toNat tab0).dst)), (lr i.toNat), (lb i.toNat), (iv ((b.tabs.getD i.toNat tab0).err))])] #[])), (6, (bptr D 0)), (5, (bptr Q 0)), (3, (bptr P 0)), (1, (iv i))] rfl; clear Ap
    refine a_5 (s1 AG (a_1 rfl AG.e) fun Bh AH => ?_); clear AG Bg
    refine s1 AH (b_9 rfl f_1 (AH.ev rfl) (C.bk 1 rfl) (l := [(iv A), (iv B)]) rfl rfl) fun Bi Y => ?_; clear AH Bh
    refine s2 Y (h_0 rfl (Y.ev rfl) en_49 (ev1 Y.e) (converts_ok A B (b.tabs.getD i.toNat tab0) _ _ _ ((c_5 (C.ok 3 _ rfl)).row (i := i.toNat) (by omega)) ((c_5 (C.ok 3 _ rfl)).brk (i := i.toNat) (by omega)) (hth.rl _) (hth.bl _) _ ((v_9 (by assumption)).tab (by omega)))) ?_
    rintro Bj _ Bx ⟨rfl, Av⟩ AI; have c := C.step Av; clear Av Y C Bi
    refine s1 AI (g_0 rfl AI.e) fun Bk H => ?_; clear AI Bj
    refine n1 ?_
    rcases Bool.eq_false_or_eq_true ((q_4 (b.tabs.getD i.toNat tab0) (A, B))) with AL | AL
    ·skip
     rw [AL] at H
     refine b_8 H rfl (e_1 (b_3 (d_3 ?_)))
     have Aq := H.as [(6, (bptr D 0)), (5, (bptr Q 0)), (3, (bptr P 0)), (1, (iv i))] rfl; clear H
     refine i_7 mixed Aq c 6 [[], [0], [], [1, 2], [3], []] [(Yd.val (bptr P 1)), (Yd.val vt), (Yd.val (iv i)), (Yd.val (eptr vt (i.toNat * 5))), (Yd.val (Value.agg #[(iv ((b.tabs.getD i.toNat tab0).frm)), (iv ((b.tabs.getD i.toNat tab0).dst)), (lr i.toNat), (lb i.toNat), (iv ((b.tabs.getD i.toNat tab0).err))])), (Yd.val (Value.agg #[(iv A), (iv B)]))] (by decide +kernel) rfl rfl ?_ ?_
     ·skip
      refine dq (fun a w hA hS hd => a_4 rfl s_7 hA.e) ?_
      refine dq (fun a w hA hS hd => a_3 rfl z_5 (hq hd 0) (hS.bk 2 rfl) rfl) ?_
      refine dq (fun a w hA hS hd => a_1 rfl hA.e) ?_
      refine dq (fun a w hA hS hd => b_6 rfl x_3 j_5 (hq hd 1) (i := i.toNat) ((hq hd 2).trans (m_7 (by omega))) (c_5 (hS.ok 3 _ rfl)).tabs (by decide) (by omega)) ?_
      refine dq (fun a w hA hS hd => e_7 rfl j_5 (hq hd 3) (c_5 (hS.ok 3 _ rfl)).tabs (tabs_all (by omega)) rfl (by decide)) ?_
      refine dq (fun a w hA hS hd => b_9 rfl f_1 (hA.ev rfl) (hS.bk 1 rfl) (l := [(iv A), (iv B)]) rfl rfl) ?_
      trivial
     intro Bl By Ar d AJ; clear Aq c
     have As := Ar.add (hz AJ 4); clear Ar
     have Z := As.add (hz AJ 5); clear As
     clear AJ
     refine s2 Z (a_8 rfl en_50 (ev2 Z.e Z.e) (convert_ok A B (b.tabs.getD i.toNat tab0) _ _ _ ((c_5 (d.ok 3 _ rfl)).row (i := i.toNat) (by omega)) ((c_5 (d.ok 3 _ rfl)).brk (i := i.toNat) (by omega)) (hth.rl _) (hth.bl _) _ ((v_9 (by assumption)).tab (by omega)))) ?_
     rintro A4 _ Bt ⟨rfl, Ab⟩ J; have Ac := d.step Ab; clear Ab Z d Bl
     refine s7 J (b_4 Ac rfl f_1 J.e J.e (i := 0) rfl (vs := [(iv ((k_8 (b.tabs.getD i.toNat tab0) (A, B)).1)), (iv ((k_8 (b.tabs.getD i.toNat tab0) (A, B)).2))]) rfl rfl rfl (Nat.le_of_ble_eq_true rfl)) ?_
     intro _ BE Ad AM; clear J
     have Ae : Sep NoB w BE [(blk D 30 [(iv ((k_8 (b.tabs.getD i.toNat tab0) (A, B)).1)), (iv ((k_8 (b.tabs.getD i.toNat tab0) (A, B)).2))]), (blk Q 30 [(iv A), (iv B)]), (blk P 37 [(iv b.scales), vt, vm]), (c_0 false vt lr lb b.tabs), (c_3 false vm lk b.macs)] := Ad; clear Ad Ac
     refine s1 AM (a_0 rfl (evc _ _)) fun Bn AN => ?_; clear AM A4
     refine n1 (c_6 (b_0 AN (.inl rfl) (c_4 AN rfl (.cellA rfl f_1 (Ae.bk 0 rfl) (l := [(iv ((k_8 (b.tabs.getD i.toNat tab0) (A, B)).1)), (iv ((k_8 (b.tabs.getD i.toNat tab0) (A, B)).2))]) rfl rfl) (.tmp rfl)) ?_))
     have he_ := (convE_0 (i := i) (r := (A, B)) (by assumption) (by assumption) (by assumption) (by assumption))
     exact ⟨by rw [convR_y he_, he_], Ae.ext⟩
    skip
    rw [AL] at H
    refine d_6 H rfl (d_3 ?_)
    have AO := H.as [(6, (bptr D 0))] rfl; clear H
    refine a_5 (s1 AO (c_7 rfl pv0 bd_30_) fun A5 K => ?_); clear AO Bk
    refine s7 K (b_4 c rfl f_1 K.e K.e (i := 0) rfl (vs := [(iv 0), (iv 0)]) rfl rfl rfl (Nat.le_of_ble_eq_true rfl)) ?_
    intro _ BF Af AP; clear K
    have Ag : Sep NoB w BF [(blk D 30 [(iv 0), (iv 0)]), (blk Q 30 [(iv A), (iv B)]), (blk P 37 [(iv b.scales), vt, vm]), (c_0 false vt lr lb b.tabs), (c_3 false vm lk b.macs)] := Af; clear Af c
    refine s1 AP (a_0 rfl (evc _ _)) fun Bo AQ => ?_; clear AP A5
    refine n1 (c_6 (b_1 (b_0 AQ (.inl rfl) (c_4 AQ rfl (.cellA rfl f_1 (Ag.bk 0 rfl) (l := [(iv 0), (iv 0)]) rfl rfl) (.tmp rfl)) ?_)))
    have he_ := (convE_10 (i := i) (r := (A, B)) (by assumption) (by assumption) (by assumption) (by assumption))
    exact ⟨by rw [convR_n (by rw [he_]; first | assumption | decide), he_], Ag.ext⟩
   skip
   rw [AK] at G
   refine d_6 G rfl (d_3 ?_)
   have AR := G.as [(6, (bptr D 0))] rfl; clear G
   refine a_5 (s1 AR (c_7 rfl pv0 bd_30_) fun A6 L => ?_); clear AR A0
   refine s7 L (b_4 C rfl f_1 L.e L.e (i := 0) rfl (vs := [(iv 0), (iv 0)]) rfl rfl rfl (Nat.le_of_ble_eq_true rfl)) ?_
   intro _ BG Ah AS; clear L
   have Ai : Sep NoB w BG [(blk D 30 [(iv 0), (iv 0)]), (blk Q 30 [(iv A), (iv B)]), (blk P 37 [(iv b.scales), vt, vm]), (c_0 false vt lr lb b.tabs), (c_3 false vm lk b.macs)] := Ah; clear Ah C
   refine s1 AS (a_0 rfl (evc _ _)) fun Bp AT => ?_; clear AS A6
   refine n1 (c_6 (b_1 (b_0 AT (.inl rfl) (c_4 AT rfl (.cellA rfl f_1 (Ai.bk 0 rfl) (l := [(iv 0), (iv 0)]) rfl rfl) (.tmp rfl)) ?_)))
   have he_ := (convE_2 (i := i) (r := (A, B)) (by assumption) (by first | exact .inl (by assumption) | exact .inr (by assumption)))
   exact ⟨by rw [convR_n (by rw [he_]; first | assumption | decide), he_], Ai.ext⟩
  skip
  rw [f] at I
  refine s3 I fun A7 AU => ?_; clear I Az
  refine s3 AU fun A8 AV => ?_; clear AU A7
  refine s3 AV fun A9 R => ?_; clear AV A8
  refine s1 R (b_5 rfl R.e (evc _ _)) fun BA S => ?_; clear R A9
  refine n1 (d_6 S rfl (d_3 ?_))
  have AW := S.as [(6, (bptr D 0))] rfl; clear S
  refine a_5 (s1 AW (c_7 rfl pv0 bd_30_) fun BB M => ?_); clear AW BA
  refine s7 M (b_4 E rfl f_1 M.e M.e (i := 0) rfl (vs := [(iv 0), (iv 0)]) rfl rfl rfl (Nat.le_of_ble_eq_true rfl)) ?_
  intro _ BH Aj AX; clear M
  have Ak : Sep NoB w BH [(blk D 30 [(iv 0), (iv 0)]), (blk Q 30 [(iv A), (iv B)]), (blk P 37 [(iv b.scales), vt, vm]), (c_0 false vt lr lb b.tabs), (c_3 false vm lk b.macs)] := Aj; clear Aj E
  refine s1 AX (a_0 rfl (evc _ _)) fun Bq AY => ?_; clear AX BB
  refine n1 (c_6 (b_1 (b_0 AY (.inl rfl) (c_4 AY rfl (.cellA rfl f_1 (Ak.bk 0 rfl) (l := [(iv 0), (iv 0)]) rfl rfl) (.tmp rfl)) ?_)))
  have he_ := (convE_2 (i := i) (r := (A, B)) (by assumption) (by first | exact .inl (by assumption) | exact .inr (by assumption)))
  exact ⟨by rw [convR_n (by rw [he_]; first | assumption | decide), he_], Ak.ext⟩
 skip
 rw [decide_eq_false Ax] at F
 refine d_6 F rfl (d_3 ?_)
 have AZ := F.as [(8, (iv (e_9 b))), (6, (bptr D 0))] rfl; clear F
 refine a_5 (s1 AZ (c_7 rfl pv0 bd_30_) fun BC T => ?_); clear AZ Ay
 refine s1 T (a_1 rfl T.e) fun BD N => ?_; clear T BC
 refine s7 N (b_4 E rfl f_1 N.e N.e (i := 0) rfl (vs := [(iv 0), (iv 0)]) rfl rfl rfl (Nat.le_of_ble_eq_true rfl)) ?_
 intro _ BI Al U; clear N
 have Am : Sep NoB w BI [(blk D 30 [(iv 0), (iv 0)]), (blk Q 30 [(iv A), (iv B)]), (blk P 37 [(iv b.scales), vt, vm]), (c_0 false vt lr lb b.tabs), (c_3 false vm lk b.macs)] := Al; clear Al E
 refine s1 U (a_0 rfl U.e) fun Br Aa => ?_; clear U BD
 refine n1 (c_6 (b_1 (b_0 Aa (.inl rfl) (c_4 Aa rfl (.cellA rfl f_1 (Am.bk 0 rfl) (l := [(iv 0), (iv 0)]) rfl rfl) (.tmp rfl)) ?_)))
 have he_ := (convE_c (i := i) (r := (A, B)) (by assumption))
 exact ⟨by rw [convR_n (by rw [he_]; first | assumption | decide), he_], Am.ext⟩
theorem Off_ok (b : f_7) (vt vm : Value) (lr lb lk : Nat → Value) (w : World) (hT : k_1 w vt lr lb b.tabs) (hM : m_3 w vm lk b.macs) (hth : l_4 b) (he : e_9 b = 0) :
  Calls Try.prog 34 #[(Value.agg #[(iv b.scales), vt, vm])] w (Ret fun v w' => ∃ u, v = .tuple #[u, .int .i64 0] ∧ Sep NoB w w' [row u 3 1 (offL b).length (ints (offL b))]) := by
 refine a_7 Try.func34 rfl fun a0 N => ?_
 replace N : Fr 30 [] [(0, (Value.agg #[(iv b.scales), vt, vm]))] a0 := N
 have hml9 := hth.ml
 have AR : Sep NoB w w [(c_0 false vt lr lb b.tabs), (c_3 false vm lk b.macs)] := f_0 ⟨rfl, hT, rfl, hM, trivial⟩
 refine m2 (s2 N (f_3 AR rfl N.e (cs := [(iv b.scales), vt, vm]) rfl) ?_)
 rintro a1 _ w3 ⟨b4, rfl, O⟩ AP; clear N AR a0
 refine s1 AP (a_0 rfl (evc _ _)) fun a6 AQ => ?_; clear AP a1
 refine s1 AQ (a_0 rfl (evc _ _)) fun a8 AA => ?_; clear AQ a6
 refine n2 (m2 (s1 AA (b_9 rfl n_6 (AA.ev rfl) (O.bk 0 rfl) (l := [(iv b.scales), vt, vm]) rfl rfl) fun AZ P => ?_)); clear AA a8
 refine s2 P (a_8 rfl en_32 (ev1 P.e) (l_8 b vt vm lr lb lk _ (c_5 (O.ok 1 _ rfl)) (d_1 (O.ok 2 _ rfl)) hth)) ?_
 rintro Aa _ A8 ⟨rfl, AB⟩ Q; have AE := O.step AB; clear AB P O AZ
 refine s1 Q (a_0 rfl Q.e) fun Ab R => ?_; clear Q Aa
 refine n4 (s1 R (a_1 rfl R.e) fun Ac S => ?_); clear R Ab
 refine s1 S (o_5 rfl S.e (evc _ _)) fun Ad E => ?_; clear S Ac
 have AX : (e_9 b) = 0 := he
 rw [decide_eq_true AX] at E
 refine n1 (b_8 E rfl (e_1 (b_3 (d_3 ?_))))
 have s := E.as [(1, (bptr b4 0))] rfl; clear E
 refine a_5 (s1 s (a_0 rfl (evc _ _)) fun Ae T => ?_); clear s Ad
 have K := AE.nil_row 3 1; clear AE
 refine n2 (m2 (s1 T (a_4 rfl q_5 T.e) fun Af U => ?_)); clear T Ae
 refine s1 U (a_3 rfl z_1 U.e (K.bk 1 rfl) rfl) fun Ag V => ?_; clear U Af
 refine s1 V (e_8 rfl x_8 V.e (d_1 (K.ok 3 _ rfl)).macs) fun Ah t => ?_; clear V Ag
 refine s1 t (a_1 rfl (evc _ _)) fun Ai x => ?_; clear t Ah
 refine n1 (e_3 ?_)
 have y := x.as [(16, (iv 0)), (15, (iv (b.macs.length : Int))), (14, vm), (5, (Value.slice none 0 0))] rfl; clear x
 refine k_4 (G := Nat) (fun (k : Nat) a_ w_ => ∃ v5_ : Value, Fr 30 [] [(16, (iv (k : Int))), (15, (iv (b.macs.length : Int))), (14, vm), (5, v5_)] a_ ∧ Sep NoB w w_ [(row v5_ 3 1 ((offU b k).length) (ints (offU b k))), (blk b4 37 [(iv b.scales), vt, vm]), (c_0 false vt lr lb b.tabs), (c_3 false vm lk b.macs)] ∧ (k ≤ b.macs.length)) (fun k => b.macs.length - k) 0 ⟨(Value.slice none 0 0), y.as _ rfl, (K.i_9 (i := 0) rfl (by rfl) (by rfl)), by omega⟩ ?_
 clear y K Ai
 rintro k Aj A9 ⟨v5_, F, C, hkk⟩
 refine m2 (s1 F (h_8 rfl F.e F.e) fun AN A => ?_); clear F Aj
 refine n2 ?_
 by_cases AJ : (k : Int) < (b.macs.length : Int)
 ·skip
  rw [decide_eq_true AJ] at A
  refine d_6 A rfl (e_1 (b_3 (d_3 (e_3 (m2 (s1 A (a_1 rfl A.e) fun Ak H => ?_)))))); clear A AN
  refine s1 H (b_6 rfl x_8 m_9 H.e (i := k) H.e (d_1 (C.ok 3 _ rfl)).macs (by decide) (by omega)) fun Al W => ?_; clear H Ak
  refine s1 W (e_7 rfl m_9 W.e (d_1 (C.ok 3 _ rfl)).macs (macs_all (by omega)) rfl (by decide)) fun Am z => ?_; clear W Al
  refine s2 z (d_2 C rfl ze_103 (cs := [(iv 0), (Value.slice none 0 0)]) rfl) ?_
  rintro An _ BA ⟨Ay, rfl, o⟩ X; clear z C Am
  refine s1 X (a_0 rfl X.e) fun Ao I => ?_; clear X An
  refine s7 I (b_4 o rfl m_9 I.e I.e (i := 0) rfl (vs := [(iv ((b.macs.getD k mac0).scale)), (lk k)]) rfl rfl (k_2 rfl (k_2 (SlAt.one ((d_1 (o.ok 4 _ rfl)).blk (i := k) (by omega))) y_2)) (Nat.le_of_ble_eq_true rfl)) ?_
  intro _ A0 AF Y; clear I
  have L : Sep NoB w A0 [(blk Ay 103 [(iv ((b.macs.getD k mac0).scale)), (lk k)]), (row v5_ 3 1 ((offU b k).length) (ints (offU b k))), (blk b4 37 [(iv b.scales), vt, vm]), (c_0 false vt lr lb b.tabs), (c_3 false vm lk b.macs)] := AF; clear AF o
  refine n4 (s1 Y (b_9 rfl m_9 (Y.ev rfl) (L.bk 0 rfl) (l := [(iv ((b.macs.getD k mac0).scale)), (lk k)]) rfl rfl) fun Ap Z => ?_); clear Y Ao
  refine s2 Z (a_8 rfl en_67 (ev1 Z.e) (bias_ok _ (b.macs.getD k mac0) _ _ ((d_1 (L.ok 4 _ rfl)).blk (i := k) (by omega)) ((v_9 he).mac (by omega)) (hth.kl _))) ?_
  rintro Aq _ BB ⟨rfl, AC⟩ a; have AG := L.step AC; clear AC Z L Ap
  refine s2 a (a_8 rfl en_68 (ev1 a.e) (w_0 _ _ _)) ?_
  rintro AO _ BC ⟨rfl, AD⟩ B; have M := AG.step AD; clear AD a AG Aq
  refine n1 ?_
  by_cases AK : ((d_5 (b.macs.getD k mac0)).2) < ((d_5 (b.macs.getD k mac0)).1)
  ·skip
   rw [decide_eq_true AK] at B
   refine d_6 B rfl ?_
   have c := B.as [(6, (iv (k : Int))), (16, (iv (k : Int))), (15, (iv (b.macs.length : Int))), (14, vm), (5, v5_)] rfl; clear B
   refine a_5 (s1 c (a_1 rfl c.e) fun Ar d => ?_); clear c AO
   refine s1 d (a_1 rfl d.e) fun As f => ?_; clear d Ar
   refine s2 f (d_7 M rfl (pv1 f.e) j_6 ty_3 ze_3 (by decide) (cs := [(iv (k : Int))]) (s_6 _)) ?_
   rintro At _ BD ⟨A7, rfl, p⟩ J; clear f M As
   refine s2 J (q_2 p rfl j_6 el_3 J.e J.e (i := 2) rfl (SlAt.of_blk (p.bk 0 rfl) rfl (Nat.le_of_ble_eq_true rfl)) rfl (by have := offU_len b k; have := hth.ml; simp only [maxLen]; omega) (by have := offU_len b k; have := hth.ml; omega)) ?_
   intro Au Az BE AH g
   have AI := AH.i_9 (i := 2) rfl (n' := ((offU b k) ++ [(k : Int)]).length) (xs' := (ints ((offU b k) ++ [(k : Int)]))) (by simp) (by simp [ints]); clear AH J p At
   refine s1 g (a_0 rfl g.e) fun Av h => ?_; clear g Au
   refine g_6 (k_7 (b_3 (a_5 (s1 h (g_9 rfl h.e (evc _ _) (by omega) (by omega)) fun Aw j => ?_)))); clear h Av
   refine s1 j (a_1 rfl j.e) fun A6 AV => ?_; clear j Aw
   refine g_6 ?_
   have AW := AI.gkp (gpc 2 (gpc 3 (gpc 4 (gpc 5 gpn)))); clear AI
   exact b_3 ⟨k + 1, ⟨Az, AV.as _ rfl, (AW.i_9 (i := 0) rfl (by first | rw [offU_y (off_t (by assumption))] | rw [offU_n (off_f (by assumption))]) (by first | rw [offU_y (off_t (by assumption))] | rw [offU_n (off_f (by assumption))])), by omega⟩, by omega⟩
  skip
  rw [decide_eq_false AK] at B
  refine b_8 B rfl (e_1 (k_7 (b_3 ?_)))
  have m := B.as [(16, (iv (k : Int))), (15, (iv (b.macs.length : Int))), (14, vm), (5, v5_)] rfl; clear B
  refine a_5 (s1 m (g_9 rfl m.e (evc _ _) (by omega) (by omega)) fun Ax n => ?_); clear m AO
  refine s1 n (a_1 rfl n.e) fun A2 AL => ?_; clear n Ax
  refine g_6 ?_
  have AM := M.gkp (gpc 1 (gpc 2 (gpc 3 (gpc 4 gpn)))); clear M
  exact b_3 ⟨k + 1, ⟨v5_, AL.as _ rfl, (AM.i_9 (i := 0) rfl (by first | rw [offU_y (off_t (by assumption))] | rw [offU_n (off_f (by assumption))]) (by first | rw [offU_y (off_t (by assumption))] | rw [offU_n (off_f (by assumption))])), by omega⟩, by omega⟩
 skip
 rw [decide_eq_false AJ] at A
 refine b_8 A rfl (j_7 (b_7 (b_7 (h_6 (b_3 (m2 (s1 A (a_1 rfl A.e) fun AS D => ?_))))))); clear A AN
 refine s1 D (a_0 rfl D.e) fun AT q => ?_; clear D AS
 refine s1 q (a_0 rfl (evc _ _)) fun A3 r => ?_; clear q AT
 refine n1 (c_6 (b_0 r (.inl rfl) (c_4 r rfl (.tmp rfl) (.tmp rfl)) ?_))
 have hz := C.keep [0] (by decide) [_] rfl rfl
 rw [show k = b.macs.length by omega] at hz
 exact ⟨_, rfl, hz⟩
end Go.Proofs.Ytohgladndklciaa

namespace Go.Hard
open Go.RowKit Go.Eng
def selU (ts : List TabD) (k : Nat) (i j : Int) : List Nat := (List.range k).filter fun q => decide ((ts.getD q tab0).frm = i) && decide ((ts.getD q tab0).dst = j)
def selT (ts : List TabD) (l : List Nat) : List TabD := l.map fun q => ts.getD q tab0
def selV (v : Nat → Value) (l : List Nat) : Nat → Value := fun p => v (l.getD p 0)
def bN (ts : List TabD) (k : Nat) (i j : Int) : Nat := (selU ts k i j).length
def bC (lr lb : Nat → Value) (ts : List TabD) (k : Nat) (i j : Int) : List Value := u_5 (selV lr (selU ts k i j)) (selV lb (selU ts k i j)) (selT ts (selU ts k i j))
theorem r_7 (ts : List TabD) (l : List Nat) : (selT ts l).length = l.length := by simp [selT]
theorem w_4 {ts : List TabD} {k q : Nat} {i j : Int} (h : q ∈ selU ts k i j) : q < k := by
  unfold selU at h
  rw [List.mem_filter, List.mem_range] at h; exact h.1
section
variable {lr lb : Nat → Value} {ts : List TabD} {k : Nat} {i j : Int}
theorem bC_zero (h : bN ts k i j = 0) : bC lr lb ts k i j = [] := by
  have : selU ts k i j = [] := List.eq_nil_of_length_eq_zero h
  unfold bC; rw [this]; rfl
theorem sel_no (h : ¬ (i = (ts.getD k tab0).frm ∧ j = (ts.getD k tab0).dst)) : selU ts (k + 1) i j = selU ts k i j := by
  unfold selU; rw [List.range_succ, List.filter_append]
  have : (decide ((ts.getD k tab0).frm = i) && decide ((ts.getD k tab0).dst = j)) = false := by
    rw [Bool.and_eq_false_iff]
    rcases Decidable.em ((ts.getD k tab0).frm = i) with h1 | h1
    · exact .inr (decide_eq_false fun h2 => h ⟨h1.symm, h2.symm⟩)
    · exact .inl (decide_eq_false h1)
  rw [List.filter_cons, if_neg (by rw [this]; decide), List.filter_nil, List.append_nil]
theorem sel_yes : selU ts (k + 1) (ts.getD k tab0).frm (ts.getD k tab0).dst = selU ts k (ts.getD k tab0).frm (ts.getD k tab0).dst ++ [k] := by
  unfold selU; rw [List.range_succ, List.filter_append]; simp
theorem b_other (lr lb : Nat → Value) : ∀ a b, ¬ (a = (ts.getD k tab0).frm ∧ b = (ts.getD k tab0).dst) → bN ts (k + 1) a b = bN ts k a b ∧ bC lr lb ts (k + 1) a b = bC lr lb ts k a b := fun a b h => by
  unfold bN bC; rw [sel_no h]; exact ⟨rfl, rfl⟩
theorem bN_next : bN ts (k + 1) (ts.getD k tab0).frm (ts.getD k tab0).dst = bN ts k (ts.getD k tab0).frm (ts.getD k tab0).dst + 1 := by
  unfold bN; rw [sel_yes, List.length_append]; rfl
theorem bC_next : bC lr lb ts (k + 1) (ts.getD k tab0).frm (ts.getD k tab0).dst = bC lr lb ts k (ts.getD k tab0).frm (ts.getD k tab0).dst ++ [.int .i64 (ts.getD k tab0).frm, .int .i64 (ts.getD k tab0).dst, lr k, lb k, .int .i64 (ts.getD k tab0).err] := by
  unfold bC
  rw [sel_yes]
  generalize selU ts k (ts.getD k tab0).frm (ts.getD k tab0).dst = l
  rw [tabs_snoc]
  have e : selT ts (l ++ [k]) = selT ts l ++ [ts.getD k tab0] := by simp [selT]
  rw [e]
  unfold u_5
  refine flatI_congr fun p hp => ?_
  rw [List.length_append, List.length_singleton, r_7] at hp
  unfold tabC selV
  rw [r_7]
  rcases Nat.lt_or_ge p l.length with h | h
  · rw [putV_old _ _ h, putV_old _ _ h, getD_old h]
  · obtain rfl : p = l.length := by omega
    rw [putV_new, putV_new, getD_new]
theorem r_8 {w : World} {v u : Value} {l : List Nat} (h : k_1 w v lr lb ts) (hl : ∀ q ∈ l, q < ts.length) (hs : SlAt w u 5 l.length (u_5 (selV lr l) (selV lb l) (selT ts l))) : k_1 w u (selV lr l) (selV lb l) (selT ts l) := by
  have at' : ∀ p, p < (selT ts l).length → (selT ts l).getD p tab0 = ts.getD (l.getD p 0) tab0 ∧ l.getD p 0 < ts.length := fun p hp => by
    rw [r_7] at hp
    refine ⟨?_, hl _ ?_⟩
    · simp [selT, List.getD, List.getElem?_map, List.getElem?_eq_getElem hp]
    · simp only [List.getD, List.getElem?_eq_getElem hp, Option.getD_some]; exact List.getElem_mem hp
  refine ⟨by rw [r_7]; exact hs, fun p hp => ?_, fun p hp => ?_⟩
  · have := h.rows _ (at' p hp).2
    unfold q_9 q_8 at this ⊢
    rw [(at' p hp).1]; exact this
  · have := h.brks _ (at' p hp).2
    unfold brkN brkC at this ⊢
    rw [(at' p hp).1]; exact this
theorem sel_at {l : List Nat} {p : Nat} (hp : p < l.length) : (selT ts l).getD p tab0 = ts.getD (l.getD p 0) tab0 := by
  simp [selT, List.getD, List.getElem?_map, List.getElem?_eq_getElem hp]
theorem bN_le (ts : List TabD) (k : Nat) (i j : Int) : bN ts k i j ≤ k := by
  unfold bN selU
  have := List.length_filter_le (fun q => decide ((ts.getD q tab0).frm = i) && decide ((ts.getD q tab0).dst = j)) (List.range k)
  rw [List.length_range] at this; exact this
end
end Go.Hard

namespace Go.Proofs.Ytohgladndklciaa
open Go.RowKit Go.Shelf Go.Eng Go.Hard
theorem bd_146_0ivva_1m (x0_0 : Int) (x0_1 : Value) (x0_2 : Value) (x1_0 : Option Nat) (w : World) : (Instr.build 146 #[(0, .agg #[(.int .i64 x0_0), x0_1, x0_2]), (1, (.map x1_0))]).run Try.prog w = .ok (.agg #[(.int .i64 x0_0), x0_1, x0_2, (.map x1_0)]) w := by kernel_rfl
theorem ze_106 : (Try.prog.info? 106).bind (·.zero) = some (Value.agg #[(iv 0), (iv 0), (Value.slice none 0 0), (Value.slice none 0 0), (iv 0)]) := by kernel_rfl
theorem bd_162_0i_1i (x0_0 : Int) (x1_0 : Int) (w : World) : (Instr.build 162 #[(0, (.int .i64 x0_0)), (1, (.int .i64 x1_0))]).run Try.prog w = .ok (.agg #[(.int .i64 x0_0), (.int .i64 x1_0)]) w := by kernel_rfl
theorem ze_162 : (Try.prog.info? 162).bind (·.zero) = some (Value.agg #[(iv 0), (iv 0)]) := by kernel_rfl
theorem ty_162 : tyK Try.prog 162 = some (true, 2) := by kernel_rfl
theorem fd_146_1 : fldK Try.prog 146 1 = some 3 := by kernel_rfl
theorem ty_144 : tyK Try.prog 144 = some (false, 1) := by kernel_rfl
theorem bs_106_1_0iivvia (x0_0 : Int) (x0_1 : Int) (x0_2 : Value) (x0_3 : Value) (x0_4 : Int) : Instr.fill (fun i => some (i * 5, 5)) ((Array.range (1 * 5)).map ((Value.agg #[(iv 0), (iv 0), (Value.slice none 0 0), (Value.slice none 0 0), (iv 0)]).cells[· % (Value.agg #[(iv 0), (iv 0), (Value.slice none 0 0), (Value.slice none 0 0), (iv 0)]).cells.size]!)) [(0, .agg #[(.int .i64 x0_0), (.int .i64 x0_1), x0_2, x0_3, (.int .i64 x0_4)])] = some (([(.int .i64 x0_0), (.int .i64 x0_1), x0_2, x0_3, (.int .i64 x0_4)] : List Value).toArray) := by kernel_rfl
theorem zs_34 : (Try.prog.info? 34).bind (·.zero) = some (.slice none 0 0) := by kernel_rfl
theorem pair_162 : i_1 Try.prog 162 = true := by kernel_rfl
theorem un_144 : Try.prog.underlying 144 = some (.map 162 34) := by kernel_rfl
theorem el_106 : elK Try.prog 106 = some ((Value.agg #[(iv 0), (iv 0), (Value.slice none 0 0), (Value.slice none 0 0), (iv 0)]), 5, 72) := by kernel_rfl
theorem bench_ok (b : f_7) (vt vm : Value) (lr lb lk : Nat → Value) (w : World) (hT : k_1 w vt lr lb b.tabs) (hM : m_3 w vm lk b.macs) (hth : l_4 b) :
  Calls Try.prog 86 #[(Value.agg #[(iv b.scales), vt, vm])] w (Ret fun v w' => ∃ bx bm es ck, v = bptr bx 0 ∧ o_8 bm es ck (bN b.tabs b.tabs.length) ∧ Sep NoB w w' [blk bx 146 [.int .i64 b.scales, vt, vm, .map (some bm)], (mapX true bm es ck es.size 106 5 (bN b.tabs b.tabs.length) (bC lr lb b.tabs b.tabs.length))]) := by
 refine a_7 Try.func86 rfl fun a0 R => ?_
 replace R : Fr 36 [] [(0, (Value.agg #[(iv b.scales), vt, vm]))] a0 := R
 have htl9 := hth.tl
 have Ae : Sep NoB w w [(c_0 false vt lr lb b.tabs), (c_3 false vm lk b.macs)] := f_0 ⟨rfl, hT, rfl, hM, trivial⟩
 refine m2 (s2 R (f_3 Ae rfl R.e (cs := [(iv b.scales), vt, vm]) rfl) ?_)
 rintro a1 _ w3 ⟨r, rfl, AJ⟩ Ac; clear R Ae a0
 refine s1 Ac (a_0 rfl (evc _ _)) fun a6 AA => ?_; clear Ac a1
 refine n4 (s1 AA (b_9 rfl n_6 (AA.ev rfl) (AJ.bk 0 rfl) (l := [(iv b.scales), vt, vm]) rfl rfl) fun a8 Ad => ?_); clear AA a6
 refine s2 Ad (op_makeMapX (te := 106) (sz := 5) (n := bN b.tabs 0) (c := bC lr lb b.tabs 0) AJ rfl) ?_
 rintro A7 _ CB ⟨bm, rfl, AI⟩ I; clear Ad AJ a8
 refine s1 I (c_7 rfl (pv2 I.e I.e) (bd_146_0ivva_1m _ _ _ _)) fun A8 S => ?_; clear I A7
 refine s2 S (f_3 AI rfl S.e (cs := [(iv b.scales), vt, vm, (Value.map (some bm))]) rfl) ?_
 rintro A9 _ CC ⟨B, rfl, N⟩ T; clear S AI A8
 refine s1 T (a_0 rfl T.e) fun BA s => ?_; clear T A9
 refine n2 (d_3 ?_)
 have U := s.as [(3, (bptr B 0)), (1, (bptr r 0))] rfl; clear s
 refine a_5 (s1 U (a_4 rfl s_7 U.e) fun BB V => ?_); clear U BA
 refine s1 V (a_3 rfl z_5 V.e (N.bk 2 rfl) rfl) fun BC W => ?_; clear V BB
 refine s1 W (e_8 rfl x_3 W.e (c_5 (N.ok 3 _ rfl)).tabs) fun BD t => ?_; clear W BC
 refine s1 t (a_1 rfl (evc _ _)) fun BE u => ?_; clear t BD
 refine n1 (e_3 ?_)
 have x := u.as [(14, (iv 0)), (13, (iv (b.tabs.length : Int))), (12, vt), (3, (bptr B 0))] rfl; clear u
 refine k_4 (G := Nat) (fun (k : Nat) a_ w_ => ∃ es_ : Array MapEntry, ∃ ck_ : Nat, Fr 36 [] [(14, (iv (k : Int))), (13, (iv (b.tabs.length : Int))), (12, vt), (3, (bptr B 0))] a_ ∧ Sep NoB w w_ [(blk B 146 [(iv b.scales), vt, vm, (Value.map (some bm))]), (mapX true bm es_ ck_ es_.size 106 5 (bN b.tabs k) (bC lr lb b.tabs k)), (blk r 37 [(iv b.scales), vt, vm]), (c_0 false vt lr lb b.tabs), (c_3 false vm lk b.macs)] ∧ (k ≤ b.tabs.length) ∧ (o_8 bm es_ ck_ (bN b.tabs k))) (fun k => b.tabs.length - k) 0 ⟨#[], 0, x.as _ rfl, N, by omega, (o_8.none (fun _ _ => rfl))⟩ ?_
 clear x N BE
 rintro k BF CD ⟨es_, ck_, J, H, hk, hMO⟩
 refine m2 (s1 J (h_8 rfl J.e J.e) fun Ab C => ?_); clear J BF
 refine n2 ?_
 by_cases AT : (k : Int) < (b.tabs.length : Int)
 ·skip
  rw [decide_eq_true AT] at C
  refine d_6 C rfl (e_1 (b_3 (d_3 (e_3 (m2 (s1 C (b_6 rfl x_3 j_5 C.e (i := k) C.e (c_5 (H.ok 3 _ rfl)).tabs (by decide) (by omega)) fun BG X => ?_)))))); clear C Ab
  refine s1 X (e_7 rfl j_5 X.e (c_5 (H.ok 3 _ rfl)).tabs (tabs_all (by omega)) rfl (by decide)) fun BH y => ?_; clear X BG
  refine s2 y (d_2 H rfl ze_106 (cs := [(iv 0), (iv 0), (Value.slice none 0 0), (Value.slice none 0 0), (iv 0)]) rfl) ?_
  rintro BI _ CE ⟨D, rfl, O⟩ K; clear y H BH
  refine s7 K (b_4 O rfl j_5 K.e K.e (i := 0) rfl (vs := [(iv ((b.tabs.getD k tab0).frm)), (iv ((b.tabs.getD k tab0).dst)), (lr k), (lb k), (iv ((b.tabs.getD k tab0).err))]) rfl rfl (k_2 rfl (k_2 rfl (k_2 (SlAt.one ((c_5 (O.ok 4 _ rfl)).row (i := k) (by omega))) (k_2 (SlAt.one ((c_5 (O.ok 4 _ rfl)).brk (i := k) (by omega))) (k_2 rfl y_2))))) (Nat.le_of_ble_eq_true rfl)) ?_
  intro _ Bk AK Y; clear K
  have P : Sep NoB w Bk [(blk D 106 [(iv ((b.tabs.getD k tab0).frm)), (iv ((b.tabs.getD k tab0).dst)), (lr k), (lb k), (iv ((b.tabs.getD k tab0).err))]), (blk B 146 [(iv b.scales), vt, vm, (Value.map (some bm))]), (mapX true bm es_ ck_ es_.size 106 5 (bN b.tabs k) (bC lr lb b.tabs k)), (blk r 37 [(iv b.scales), vt, vm]), (c_0 false vt lr lb b.tabs), (c_3 false vm lk b.macs)] := AK; clear AK O
  refine n4 (s1 Y (a_4 rfl fd_106_0 Y.e) fun BJ Z => ?_); clear Y BI
  refine s1 Z (a_3 rfl ty_3 Z.e (P.bk 0 rfl) rfl) fun BK d => ?_; clear Z BJ
  refine s1 d (a_4 rfl fd_106_1 d.e) fun BL f => ?_; clear d BK
  refine s1 f (a_3 rfl ty_3 f.e (P.bk 0 rfl) rfl) fun BM L => ?_; clear f BL
  refine s1 L (c_7 rfl (pv2 L.e L.e) (bd_162_0i_1i _ _)) fun BN z => ?_; clear L BM
  refine s2 z (d_2 P rfl ze_162 (cs := [(iv 0), (iv 0)]) rfl) ?_
  rintro B0 _ CF ⟨E, rfl, AL⟩ M; clear z P BN
  refine s7 M (b_4 AL rfl ty_162 M.e M.e (i := 0) rfl (vs := [(iv ((b.tabs.getD k tab0).frm)), (iv ((b.tabs.getD k tab0).dst))]) rfl rfl rfl (Nat.le_of_ble_eq_true rfl)) ?_
  intro _ Bl AM AB; clear M
  have AN : Sep NoB w Bl [(blk E 162 [(iv ((b.tabs.getD k tab0).frm)), (iv ((b.tabs.getD k tab0).dst))]), (blk D 106 [(iv ((b.tabs.getD k tab0).frm)), (iv ((b.tabs.getD k tab0).dst)), (lr k), (lb k), (iv ((b.tabs.getD k tab0).err))]), (blk B 146 [(iv b.scales), vt, vm, (Value.map (some bm))]), (mapX true bm es_ ck_ es_.size 106 5 (bN b.tabs k) (bC lr lb b.tabs k)), (blk r 37 [(iv b.scales), vt, vm]), (c_0 false vt lr lb b.tabs), (c_3 false vm lk b.macs)] := AM; clear AM AL
  refine n1 ?_
  have AC := AB.as [(6, (bptr E 0)), (5, (bptr D 0)), (14, (iv (k : Int))), (13, (iv (b.tabs.length : Int))), (12, vt), (3, (bptr B 0))] rfl; clear AB
  have AD := AC.as [(6, (bptr E 0)), (5, (bptr D 0)), (14, (iv (k : Int))), (13, (iv (b.tabs.length : Int))), (12, vt), (3, (bptr B 0))] rfl; clear AC
  obtain ⟨es1, ck1, q, e, hMO1, AV, AU, hEn⟩ := map_entry ((b.tabs.getD k tab0).frm) ((b.tabs.getD k tab0).dst) hMO
  skip
  have AO := AN.gkp (gpc 3 (gpc 0 (gpc 1 (gpc 2 (gpc 4 (gpc 5 (gpc 6 gpn))))))); clear AN
  refine c_drawCE mixed AD (mapX true bm es_ ck_ es_.size 106 5 (bN b.tabs k) (bC lr lb b.tabs k)) AO 11 3 [(7, 3), (9, 7)] [[], [0], [1], [2], [], [], [5], [3, 4], [7], [6, 7, 8], [7]] [(fun (A : Nat → Value) (v_ : Value) (rs_ : List Res) => v_ = (bptr B 0) ∧ rs_ = []), (fun (A : Nat → Value) (v_ : Value) (rs_ : List Res) => v_ = (bptr B 0) ∧ rs_ = []), (fun (A : Nat → Value) (v_ : Value) (rs_ : List Res) => v_ = (bptr B 3) ∧ rs_ = []), (fun (A : Nat → Value) (v_ : Value) (rs_ : List Res) => v_ = (Value.map (some bm)) ∧ rs_ = [(mapX true bm es_ ck_ es_.size 106 5 (bN b.tabs k) (bC lr lb b.tabs k))]), (fun (A : Nat → Value) (v_ : Value) (rs_ : List Res) => v_ = (Value.agg #[(iv ((b.tabs.getD k tab0).frm)), (iv ((b.tabs.getD k tab0).dst))]) ∧ rs_ = []), (fun (A : Nat → Value) (v_ : Value) (rs_ : List Res) => v_ = (Value.agg #[(iv ((b.tabs.getD k tab0).frm)), (iv ((b.tabs.getD k tab0).dst)), (lr k), (lb k), (iv ((b.tabs.getD k tab0).err))]) ∧ rs_ = []), (fun (A : Nat → Value) (v_ : Value) (rs_ : List Res) => True ∧ rs_ = [(row v_ 106 5 1 [(iv ((b.tabs.getD k tab0).frm)), (iv ((b.tabs.getD k tab0).dst)), (lr k), (lb k), (iv ((b.tabs.getD k tab0).err))])]), (fun (A : Nat → Value) (v_ : Value) (rs_ : List Res) => v_ = (Value.tuple #[e.val, .int .i64 (e.born : Int)]) ∧ rs_ = [(row e.val 106 5 (bN b.tabs k (b.tabs.getD k tab0).frm (b.tabs.getD k tab0).dst) (bC lr lb b.tabs k (b.tabs.getD k tab0).frm (b.tabs.getD k tab0).dst)), (mapX true bm es1 ck1 q 106 5 (bN b.tabs k) (bC lr lb b.tabs k))]), (fun (A : Nat → Value) (v_ : Value) (rs_ : List Res) => v_ = e.val ∧ rs_ = []), (fun (A : Nat → Value) (v_ : Value) (rs_ : List Res) => True ∧ rs_ = [(row v_ 106 5 (bN b.tabs k (b.tabs.getD k tab0).frm (b.tabs.getD k tab0).dst + 1) (bC lr lb b.tabs k (b.tabs.getD k tab0).frm (b.tabs.getD k tab0).dst ++ [.int .i64 (b.tabs.getD k tab0).frm, .int .i64 (b.tabs.getD k tab0).dst, lr k, lb k, .int .i64 (b.tabs.getD k tab0).err])), (mapX true bm es1 ck1 q 106 5 (bN b.tabs k) (bC lr lb b.tabs k))]), (fun (A : Nat → Value) (v_ : Value) (rs_ : List Res) => v_ = (iv (e.born : Int)) ∧ rs_ = [])] (by decide +kernel) (by decide +kernel) (by decide +kernel) (by decide +kernel) (by decide +kernel) rfl rfl ⟨(fun _ _ _ _ _ h_ => h_), (fun _ _ _ _ _ h_ => h_), (fun _ _ _ _ _ h_ => h_), (fun _ _ _ _ _ h_ => h_), (fun _ _ _ _ _ h_ => h_), (fun _ _ _ _ _ h_ => h_), (fun _ _ _ _ _ h_ => h_), (fun _ _ _ _ _ h_ => h_), (fun _ _ _ _ _ h_ => h_), (fun _ _ _ _ _ h_ => h_), (fun _ _ _ _ _ h_ => h_), trivial⟩ ?_ ?_ ?_ ?_
  ·skip
   refine ⟨fun hj_ hj1_ a w A hA hS hd => gv1 (a_1 rfl hA.e), ?_⟩
   refine ⟨fun hj_ hj1_ a w A hA hS hd => gv1 (n_9 rfl (gu hd 0)), ?_⟩
   refine ⟨fun hj_ hj1_ a w A hA hS hd => gv1 (a_4 rfl fd_146_1 (gu hd 1)), ?_⟩
   refine ⟨fun _ hj_ => absurd rfl hj_, ?_⟩
   refine ⟨fun hj_ hj1_ a w A hA hS hd => gv1 (b_9 rfl ty_162 (hA.ev rfl) (hS.bk 0 rfl) (l := [(iv ((b.tabs.getD k tab0).frm)), (iv ((b.tabs.getD k tab0).dst))]) rfl rfl), ?_⟩
   refine ⟨fun hj_ hj1_ a w A hA hS hd => gv1 (b_9 rfl j_5 (hA.ev rfl) (hS.bk 1 rfl) (l := [(iv ((b.tabs.getD k tab0).frm)), (iv ((b.tabs.getD k tab0).dst)), (lr k), (lb k), (iv ((b.tabs.getD k tab0).err))]) rfl rfl), ?_⟩
   refine ⟨fun hj_ hj1_ a w A hA hS hd => e_2 rfl (vblt rfl (pv1 (gu hd 5)) x_3 j_5 ze_106 (by decide) (cs := [(iv ((b.tabs.getD k tab0).frm)), (iv ((b.tabs.getD k tab0).dst)), (lr k), (lb k), (iv ((b.tabs.getD k tab0).err))]) (bs_106_1_0iivvia _ _ _ _ _) rfl (by decide) (fun _ => And.intro trivial rfl)), ?_⟩
   refine ⟨fun hj_ => absurd hj_ (by decide), ?_⟩
   refine ⟨fun hj_ hj1_ a w A hA hS hd => gv1 (b_2 rfl (gu hd 7) rfl), ?_⟩
   refine ⟨fun hj_ => absurd hj_ (by decide), ?_⟩
   refine ⟨fun hj_ hj1_ a w A hA hS hd => gv1 (b_2 rfl (gu hd 7) rfl), ?_⟩
   trivial
  ·skip
   intro o_ ho_ a w A Lr hA hd hL hS; obtain rfl := Option.some.inj ho_; clear ho_
   obtain ⟨e2, B7, Bf, B3⟩ := hd 2 (by decide)
   obtain ⟨Ba, BU⟩ := Bf; subst BU
   rw [Ba] at e2
   exact e_2 rfl (n_0 (a_3 rfl ty_144 (c_1 (f_4 e2 rfl)) (hL.bk 2 rfl) rfl) (fun v_ w_ h_ => by obtain ⟨rfl, rfl⟩ := h_; exact ⟨⟨rfl, rfl⟩, hS⟩))
  ·skip
   refine ⟨fun o_ ho_ => ?_, ⟨fun o_ ho_ => ?_, trivial⟩⟩
   ·skip
    obtain rfl := Option.some.inj ho_; clear ho_
    intro a w A Bj Lr hA p AX hd hL hS; obtain ⟨Bb, BV⟩ := AX; subst BV; rw [Bb] at p
    obtain ⟨e4, B8, Bg, B4⟩ := hd 4 (by decide) (by decide)
    obtain ⟨Bc, BW⟩ := Bg; subst BW
    rw [Bc] at e4
    exact e_2 rfl (n_0 (op_mapEntryF hS rfl un_144 pair_162 zs_34 (c_1 (f_4 p rfl)) (c_1 (f_4 e4 rfl)) hMO (fun _ _ => bC_zero) hEn AV AU) fun v_ w_ h_ => ⟨_, ⟨h_.1, rfl⟩, h_.2⟩)
   skip
   obtain rfl := Option.some.inj ho_; clear ho_
   intro a w A Bj Lr hA p AX hd hL hS; obtain ⟨Bd, BY⟩ := AX; subst BY; rw [Bd] at p
   obtain ⟨e6, B9, Bh, BT⟩ := hd 6 (by decide) (by decide)
   obtain ⟨B6, BX⟩ := Bh; subst BX
   have hp6_0 := BT (by decide) _ (List.mem_of_getElem? (i := 0) rfl)
   obtain ⟨e8, CA, Bi, B5⟩ := hd 8 (by decide) (by decide)
   obtain ⟨Be, BZ⟩ := Bi; subst BZ
   rw [Be] at e8
   exact e_2 rfl (n_0 (q_2 hS rfl x_3 el_106 (c_1 (f_4 e8 rfl)) (c_1 (f_4 e6 rfl)) (i := 0) rfl (SlAt.e_4 hp6_0) (k_2 rfl (k_2 rfl (k_2 (((c_5 (hL.ok 4 _ rfl)).row (i := k) (by omega)).one) (k_2 (((c_5 (hL.ok 4 _ rfl)).brk (i := k) (by omega)).one) (k_2 rfl y_2))))) (by have := bN_le b.tabs k ((b.tabs.getD k tab0).frm) ((b.tabs.getD k tab0).dst); simp only [maxLen]; omega) (by have := bN_le b.tabs k ((b.tabs.getD k tab0).frm) ((b.tabs.getD k tab0).dst); omega)) fun v_ w_ h_ => ⟨_, And.intro trivial rfl, h_⟩)
  skip
  intro o Bm A rsf AE hH hrq AP; clear AD AO
  have hrq_3 := hrq (7, 3) (by decide); have hrq_7 := hrq (9, 7) (by decide)
  obtain ⟨Ap, rs_0, Ax, hf_0⟩ := hH 0 (by decide); obtain ⟨Bs, Ah⟩ := Ax; replace hf_0 := (hf_0 (by decide)).trans Ah
  obtain ⟨Aq, rs_1, Ay, hf_1⟩ := hH 1 (by decide); obtain ⟨Bt, Ai⟩ := Ay; replace hf_1 := (hf_1 (by decide)).trans Ai
  obtain ⟨Ar, rs_2, Az, hf_2⟩ := hH 2 (by decide); obtain ⟨Bu, Aj⟩ := Az; replace hf_2 := (hf_2 (by decide)).trans Aj
  obtain ⟨As, rs_4, A1, hf_4⟩ := hH 4 (by decide); obtain ⟨Bv, Ak⟩ := A1; replace hf_4 := (hf_4 (by decide)).trans Ak
  obtain ⟨At, rs_5, A2, hf_5⟩ := hH 5 (by decide); obtain ⟨Bw, Al⟩ := A2; replace hf_5 := (hf_5 (by decide)).trans Al
  obtain ⟨Au, rs_6, A3, hf_6⟩ := hH 6 (by decide); obtain ⟨Bx, Am⟩ := A3; replace hf_6 := (hf_6 (by decide)).trans Am
  obtain ⟨Av, rs_8, A4, hf_8⟩ := hH 8 (by decide); obtain ⟨By, An⟩ := A4; replace hf_8 := (hf_8 (by decide)).trans An
  obtain ⟨AW, rs_9, A5, hf_9⟩ := hH 9 (by decide); obtain ⟨Bz, Ao⟩ := A5; replace hf_9 := (hf_9 (by decide)).trans Ao
  obtain ⟨Q, rs_10, Aa, hf_10⟩ := hH 10 (by decide); obtain ⟨AZ, AY⟩ := Aa; replace hf_10 := (hf_10 (by decide)).trans AY
  obtain ⟨m, rs_3, A0, hf_3⟩ := hH 3 (by decide); obtain ⟨Aw, Br⟩ := A0
  have AQ : Sep NoB w Bm [(row (A 6) 106 5 1 [(iv ((b.tabs.getD k tab0).frm)), (iv ((b.tabs.getD k tab0).dst)), (lr k), (lb k), (iv ((b.tabs.getD k tab0).err))]), (row (A 9) 106 5 (bN b.tabs k (b.tabs.getD k tab0).frm (b.tabs.getD k tab0).dst + 1) (bC lr lb b.tabs k (b.tabs.getD k tab0).frm (b.tabs.getD k tab0).dst ++ [.int .i64 (b.tabs.getD k tab0).frm, .int .i64 (b.tabs.getD k tab0).dst, lr k, lb k, .int .i64 (b.tabs.getD k tab0).err])), (mapX true bm es1 ck1 q 106 5 (bN b.tabs k) (bC lr lb b.tabs k)), (blk E 162 [(iv ((b.tabs.getD k tab0).frm)), (iv ((b.tabs.getD k tab0).dst))]), (blk D 106 [(iv ((b.tabs.getD k tab0).frm)), (iv ((b.tabs.getD k tab0).dst)), (lr k), (lb k), (iv ((b.tabs.getD k tab0).err))]), (blk B 146 [(iv b.scales), vt, vm, (Value.map (some bm))]), (blk r 37 [(iv b.scales), vt, vm]), (c_0 false vt lr lb b.tabs), (c_3 false vm lk b.macs)] := by rw [show catR rsf 0 11 = ([(row (A 6) 106 5 1 [(iv ((b.tabs.getD k tab0).frm)), (iv ((b.tabs.getD k tab0).dst)), (lr k), (lb k), (iv ((b.tabs.getD k tab0).err))]), (row (A 9) 106 5 (bN b.tabs k (b.tabs.getD k tab0).frm (b.tabs.getD k tab0).dst + 1) (bC lr lb b.tabs k (b.tabs.getD k tab0).frm (b.tabs.getD k tab0).dst ++ [.int .i64 (b.tabs.getD k tab0).frm, .int .i64 (b.tabs.getD k tab0).dst, lr k, lb k, .int .i64 (b.tabs.getD k tab0).err])), (mapX true bm es1 ck1 q 106 5 (bN b.tabs k) (bC lr lb b.tabs k))] : List Res) by (try simp only [catR, hf_0, hf_1, hf_2, hf_4, hf_5, hf_6, hf_8, hf_9, hf_10, hrq_3, hrq_7]); (try rfl)] at AP; exact AP
  rw [Aw] at m
  have AF : Fr 36 [] [(26, (Value.map (some bm))), (6, (bptr E 0)), (5, (bptr D 0)), (14, (iv (k : Int))), (13, (iv (b.tabs.length : Int))), (12, vt), (3, (bptr B 0))] o := AE.add (f_4 m rfl); clear AE
  rw [AZ] at Q
  have AG : Fr 36 [] [(33, (iv (e.born : Int))), (26, (Value.map (some bm))), (6, (bptr E 0)), (5, (bptr D 0)), (14, (iv (k : Int))), (13, (iv (b.tabs.length : Int))), (12, vt), (3, (bptr B 0))] o := AF.add (f_4 Q rfl); clear AF
  have F : Fr 36 [] [(32, (A 9)), (33, (iv (e.born : Int))), (26, (Value.map (some bm))), (6, (bptr E 0)), (5, (bptr D 0)), (14, (iv (k : Int))), (13, (iv (b.tabs.length : Int))), (12, vt), (3, (bptr B 0))] o := AG.add (f_4 AW rfl); clear AG
  clear hH Ap Aq Ar As At Au Av AW Q m
  have AR := AQ.gkp (gpc 1 (gpc 2 (gpc 0 (gpc 3 (gpc 4 (gpc 5 (gpc 6 (gpc 7 (gpc 8 gpn))))))))); clear AQ
  refine s7 F (op_entryStore (n' := bN b.tabs (k + 1)) (c' := bC lr lb b.tabs (k + 1)) AR rfl F.e F.e F.e hMO1 AV AU bN_next bC_next (b_other lr lb)) ?_
  intro _ CG AS g; clear F AR
  refine g_6 (k_7 (b_3 (a_5 (s1 g (g_9 rfl g.e (evc _ _) (by omega) (by omega)) fun BO h => ?_)))); clear g o
  refine s1 h (a_1 rfl h.e) fun B1 Af => ?_; clear h BO
  refine g_6 ?_
  have Ag := AS.gkp (gpc 4 (gpc 0 (gpc 5 (gpc 6 (gpc 7 gpn))))); clear AS
  exact b_3 ⟨k + 1, ⟨(es1.modify q fun e => { e with val := (A 9) }), ck1, Af.as _ rfl, Ag, by omega, (hMO1.store AV AU (fun a_ b_ h_ => (b_other lr lb a_ b_ h_).1))⟩, by omega⟩
 skip
 rw [decide_eq_false AT] at C
 refine b_8 C rfl (j_7 (b_7 (b_7 (h_6 (b_3 (m2 (s1 C (a_1 rfl C.e) fun BP j => ?_))))))); clear C Ab
 refine s1 j (a_0 rfl j.e) fun B2 AH => ?_; clear j BP
 refine n1 (c_6 (b_0 AH (.inl rfl) (a_2 AH rfl (.tmp rfl)) ?_))
 have hkk : k = b.tabs.length := by omega
 subst hkk
 exact ⟨_, bm, es_, ck_, rfl, hMO, H.keep [0, 1] (by decide) _ rfl rfl⟩
end Go.Proofs.Ytohgladndklciaa

namespace Go.Hard
open Go.RowKit Go.Eng
def w_5 (ts : List TabD) (i j : Int) : List TabD := ts.filter fun t => decide (t.frm = i) && decide (t.dst = j)
def toL (n : Nat) (ts : List TabD) (k : Nat) : List TabD := (List.range n).flatMap fun (f : Nat) => w_5 ts (f : Int) (k : Int)
def rest0 (n : Nat) (ts : List TabD) (k : Nat) : List TabD := ((List.range n).drop k).flatMap (toL n ts)
def rest1 (n : Nat) (ts : List TabD) (k k2 : Nat) : List TabD := ((List.range n).drop k2).flatMap fun (f : Nat) => w_5 ts (f : Int) (k : Int)
theorem drop_range {n k : Nat} (h : k < n) : (List.range n).drop k = k :: (List.range n).drop (k + 1) := by
  rw [List.drop_eq_getElem_cons (by simpa using h), List.getElem_range]
theorem rest0_next {n k : Nat} {ts : List TabD} (h : k < n) : rest0 n ts k = toL n ts k ++ rest0 n ts (k + 1) := by
  unfold rest0; rw [drop_range h, List.flatMap_cons]
theorem rest0_end {n k : Nat} {ts : List TabD} (h : n ≤ k) : rest0 n ts k = [] := by
  unfold rest0; rw [List.drop_eq_nil_of_le (by simpa using h)]; rfl
theorem rest1_zero (n k : Nat) (ts : List TabD) : rest1 n ts k 0 = toL n ts k := rfl
theorem rest1_next {n k k2 : Nat} {ts : List TabD} (h : k2 < n) : rest1 n ts k k2 = w_5 ts (k2 : Int) (k : Int) ++ rest1 n ts k (k2 + 1) := by
  unfold rest1; rw [drop_range h, List.flatMap_cons]
theorem rest1_end {n k k2 : Nat} {ts : List TabD} (h : n ≤ k2) : rest1 n ts k k2 = [] := by
  unfold rest1; rw [List.drop_eq_nil_of_le (by simpa using h)]; rfl
theorem getD_range_map (ts : List TabD) : (List.range ts.length).map (fun q => ts.getD q tab0) = ts := by
  refine List.ext_getElem (by simp) fun i h1 h2 => ?_
  simp [List.getD, List.getElem?_eq_getElem h2]
theorem sel_is (ts : List TabD) (i j : Int) : selT ts (selU ts ts.length i j) = w_5 ts i j := by
  unfold selT selU w_5
  have h := getD_range_map ts
  conv => rhs; rw [← h]
  rw [List.filter_map]; rfl
theorem v_5 {ts : List TabD} {i j : Int} {p : Nat} (hp : p < bN ts ts.length i j) : ((selT ts (selU ts ts.length i j)).getD p tab0).frm = i ∧ ((selT ts (selU ts ts.length i j)).getD p tab0).dst = j ∧ (selT ts (selU ts ts.length i j)).getD p tab0 ∈ ts := by
  have hl : p < (selT ts (selU ts ts.length i j)).length := by rw [r_7]; exact hp
  have hm : (selT ts (selU ts ts.length i j)).getD p tab0 ∈ w_5 ts i j := by
    rw [← sel_is]; simp only [List.getD, List.getElem?_eq_getElem hl, Option.getD_some]; exact List.getElem_mem hl
  unfold w_5 at hm
  rw [List.mem_filter, Bool.and_eq_true, decide_eq_true_eq, decide_eq_true_eq] at hm
  exact ⟨hm.2.1, hm.2.2, hm.1⟩
theorem sel_rl {b : f_7} (h : l_4 b) (l : List Nat) (p : Nat) : ((selT b.tabs l).getD p tab0).rows.length ≤ 1000000 ∧ ((selT b.tabs l).getD p tab0).brk.length ≤ 1000000 := by
  rcases Nat.lt_or_ge p l.length with hp | hp
  · rw [sel_at hp]; exact ⟨h.rl _, h.bl _⟩
  · rw [getD_out (by rw [r_7]; exact hp)]; exact ⟨by decide, by decide⟩
def Cut0 (n : Nat) (ts : List TabD) (s : g_5) (k : Nat) (x : g_5) : Prop := (rest0 n ts k).foldl goS (x, false) = g_4 (f_5 n ts) s
def Cut1 (n : Nat) (ts : List TabD) (s : g_5) (k k2 : Nat) (x : g_5) : Prop := (rest1 n ts k k2 ++ rest0 n ts (k + 1)).foldl goS (x, false) = g_4 (f_5 n ts) s
def Cut2 (n : Nat) (ts : List TabD) (s : g_5) (k k2 k3 : Nat) (x : g_5) : Prop := ((w_5 ts (k2 : Int) (k : Int)).drop k3 ++ (rest1 n ts k (k2 + 1) ++ rest0 n ts (k + 1))).foldl goS (x, false) = g_4 (f_5 n ts) s
section
variable {n : Nat} {ts : List TabD} {s x : g_5} {k k2 k3 : Nat}
theorem cut_00 : Cut0 n ts s 0 s := rfl
theorem cut_01 (hk : k < n) (h : Cut0 n ts s k x) : Cut1 n ts s k 0 x := by
  unfold Cut1; rw [rest1_zero, ← rest0_next hk]; exact h
theorem cut_12 (hk : k2 < n) (h : Cut1 n ts s k k2 x) : Cut2 n ts s k k2 0 x := by
  unfold Cut2; rw [List.drop_zero, ← List.append_assoc, ← rest1_next hk]; exact h
theorem cut_21 (hk : bN ts ts.length (k2 : Int) (k : Int) ≤ k3) (h : Cut2 n ts s k k2 k3 x) : Cut1 n ts s k (k2 + 1) x := by
  unfold Cut2 at h
  rw [List.drop_eq_nil_of_le (by rw [← sel_is, r_7]; exact hk), List.nil_append] at h; exact h
theorem cut_10 (hk : n ≤ k2) (h : Cut1 n ts s k k2 x) : Cut0 n ts s (k + 1) x := by
  unfold Cut1 at h; rw [rest1_end hk, List.nil_append] at h; exact h
theorem cut_end (hk : n ≤ k) (h : Cut0 n ts s k x) : g_4 (f_5 n ts) s = (x, false) := by
  unfold Cut0 at h; rw [rest0_end hk] at h; exact h.symm
theorem cut_go (hk : k3 < bN ts ts.length (k2 : Int) (k : Int)) (h : Cut2 n ts s k k2 k3 x) : ((w_5 ts (k2 : Int) (k : Int)).drop (k3 + 1) ++ (rest1 n ts k (k2 + 1) ++ rest0 n ts (k + 1))).foldl goS (goS (x, false) ((selT ts (selU ts ts.length (k2 : Int) (k : Int))).getD k3 tab0)) = g_4 (f_5 n ts) s := by
  unfold Cut2 at h
  have hl : k3 < (w_5 ts (k2 : Int) (k : Int)).length := by rw [← sel_is, r_7]; exact hk
  rw [List.drop_eq_getElem_cons hl, List.cons_append, List.foldl_cons] at h
  rw [sel_is, show (w_5 ts (k2 : Int) (k : Int)).getD k3 tab0 = (w_5 ts (k2 : Int) (k : Int))[k3] by simp [List.getD, List.getElem?_eq_getElem hl]]
  exact h
theorem cut_brk (hk : k3 < bN ts ts.length (k2 : Int) (k : Int)) (h : Cut2 n ts s k k2 k3 x) (he : (at' x k).2 < (at' x k).1) : g_4 (f_5 n ts) s = (x, true) := by
  have h1 := cut_go hk h
  have hd := (v_5 hk).2.1
  have : goS (x, false) ((selT ts (selU ts ts.length (k2 : Int) (k : Int))).getD k3 tab0) = (x, true) := by
    unfold goS; rw [hd, Int.toNat_natCast, if_neg (show ¬ false = true by decide), if_pos he]
  rw [this, go_stop] at h1
  exact h1.symm
theorem cut_y (hk : k3 < bN ts ts.length (k2 : Int) (k : Int)) (h : Cut2 n ts s k k2 k3 x) (he : ¬ (at' x k).2 < (at' x k).1) (hc : q_4 ((selT ts (selU ts ts.length (k2 : Int) (k : Int))).getD k3 tab0) (at' x k2) = true) :
    Cut2 n ts s k k2 (k3 + 1) (x.set k (cutR (at' x k) (k_8 ((selT ts (selU ts ts.length (k2 : Int) (k : Int))).getD k3 tab0) (at' x k2)))) := by
  have h1 := cut_go hk h
  have hd := v_5 hk
  unfold Cut2
  rw [← h1]
  congr 1
  unfold goS u_4
  rw [hd.2.1, hd.1, Int.toNat_natCast, Int.toNat_natCast, if_neg (show ¬ false = true by decide), if_neg he, if_pos hc]
theorem cut_n (hk : k3 < bN ts ts.length (k2 : Int) (k : Int)) (h : Cut2 n ts s k k2 k3 x) (he : ¬ (at' x k).2 < (at' x k).1) (hc : q_4 ((selT ts (selU ts ts.length (k2 : Int) (k : Int))).getD k3 tab0) (at' x k2) = false) :
    Cut2 n ts s k k2 (k3 + 1) x := by
  have h1 := cut_go hk h
  have hd := v_5 hk
  unfold Cut2
  rw [← h1]
  congr 1
  unfold goS u_4
  rw [hd.2.1, hd.1, Int.toNat_natCast, Int.toNat_natCast, if_neg (show ¬ false = true by decide), if_neg he, if_neg (by rw [hc]; decide)]
end
theorem full_any {n : Nat} {s : g_5} (h : n ≤ s.length) : (!(List.range (s.take n).length).any fun i => decide (((s.take n).getD i (0, 0)).2 < ((s.take n).getD i (0, 0)).1)) = z_4 n s := by
  rw [List.length_take, Nat.min_eq_left h, Bool.eq_iff_iff, Bool.not_eq_true', List.any_eq_false, r_4]
  have at'' : ∀ i, i < n → (s.take n).getD i (0, 0) = at' s i := fun i hi => by
    unfold at'; simp [List.getD, List.getElem?_take, hi]
  constructor
  · intro h1 i hi
    have := h1 i (List.mem_range.2 hi)
    rw [at'' i hi, decide_eq_true_eq] at this
    omega
  · intro h1 i hi
    have hi := List.mem_range.1 hi
    have := h1 i hi
    rw [at'' i hi, decide_eq_true_eq]
    omega
end Go.Hard

namespace Go.Proofs.Ytohgladndklciaa
open Go.RowKit Go.Shelf Go.Eng Go.Hard
theorem fd_98_0 : fldK Try.prog 98 0 = some 0 := by kernel_rfl
theorem fd_98_1 : fldK Try.prog 98 1 = some 1 := by kernel_rfl
theorem en_83 : ∀ args w, (callFunc 83 args).run Try.prog w = .ok (.enter 83 args) w := enters_of Try.func83 (by kernel_rfl) rfl
theorem en_84 : ∀ args w, (callFunc 84 args).run Try.prog w = .ok (.enter 84 args) w := enters_of Try.func84 (by kernel_rfl) rfl
theorem en_85 : ∀ args w, (callFunc 85 args).run Try.prog w = .ok (.enter 85 args) w := enters_of Try.func85 (by kernel_rfl) rfl
theorem en_86 : ∀ args w, (callFunc 86 args).run Try.prog w = .ok (.enter 86 args) w := enters_of Try.func86 (by kernel_rfl) rfl
theorem right_ok (b : f_7) (vt vm : Value) (lr lb lk : Nat → Value) (w : World) (hT : k_1 w vt lr lb b.tabs) (hM : m_3 w vm lk b.macs) (hth : l_4 b) (X Z : Int) (Y : Nat) (g2 : (blk Y 37 [.int .i64 b.scales, vt, vm]).p w) :
  Calls Try.prog 83 #[(Value.agg #[(iv X), (iv Z)]), (bptr Y 0)] w (Ret fun v w' => v = .bool (w_3 b (X, Z)) ∧ Ext NoB w w') := by
 refine a_7 Try.func83 rfl fun g E => ?_
 replace E : Fr 16 [] [(0, (Value.agg #[(iv X), (iv Z)])), (1, (bptr Y 0))] g := E
 have hml9 := hth.ml
 have d : Sep NoB w w [(rob Y 37 [(iv b.scales), vt, vm]), (c_0 false vt lr lb b.tabs), (c_3 false vm lk b.macs)] := f_0 ⟨rfl, g2, rfl, hT, rfl, hM, trivial⟩
 refine m2 (s2 E (f_3 d rfl E.e (cs := [(iv X), (iv Z)]) rfl) ?_)
 rintro y _ w3 ⟨b4, rfl, B⟩ c; clear E d g
 refine s1 c (a_0 rfl (evc _ _)) fun z U => ?_; clear c y
 refine n4 (s1 U (a_4 rfl fd_98_0 U.e) fun a8 V => ?_); clear U z
 refine s1 V (a_3 rfl ty_3 V.e (B.bk 0 rfl) rfl) fun h F => ?_; clear V a8
 refine s1 F (a_4 rfl q_5 F.e) fun i G => ?_; clear F h
 refine s1 G (a_3 rfl z_1 G.e (B.rk 1 rfl) rfl) fun j H => ?_; clear G i
 refine s1 H (e_8 rfl x_8 H.e (d_1 (B.ok 3 _ rfl)).macs) fun k I => ?_; clear H j
 refine s1 I (k_5 rfl I.e (evc _ _) (by omega) (by omega)) fun l C => ?_; clear I k
 refine s2 C (a_8 rfl y_5 (ev3 C.e (evc _ _) C.e) (k_6 _ _ _ _)) ?_
 rintro m _ W_ ⟨rfl, hW_⟩ J; have hW2_ := hW_.symm; subst hW2_; clear hW_ C l
 refine s1 J (a_1 rfl J.e) fun a A => ?_; clear J m
 rcases Bool.eq_false_or_eq_true ((inB X 0 ((b.macs.length : Int) - 1))) with P | P
 ·skip
  rw [P] at A
  refine s5 A (a_4 rfl fd_98_1 A.e) fun n K => ?_; clear A a
  refine s5 K (a_3 rfl ty_3 K.e (B.bk 0 rfl) rfl) fun o L => ?_; clear K n
  refine s6 L (a_8 rfl en_70 (ev1 L.e) (value_ok _ _)) ?_
  rintro q _ AE ⟨rfl, W⟩ D; have f := B.step W; clear W L B o
  refine s1 D (b_5 rfl D.e D.e) fun r M => ?_; clear D q
  refine s1 M (a_0 rfl M.e) fun AC Q => ?_; clear M r
  refine n1 (c_6 (b_0 Q (.inl rfl) (a_2 Q rfl (.tmp rfl)) ?_))
  exact ⟨congrArg Value.bool (by unfold w_3; simp [*]), f.ext⟩
 skip
 rw [P] at A
 refine s3 A fun s R => ?_; clear A a
 refine s3 R fun t S => ?_; clear R s
 refine s3 S fun u N => ?_; clear S t
 refine s1 N (e_0 rfl N.e (evc _ _)) fun x O => ?_; clear N u
 refine s1 O (a_0 rfl O.e) fun AD T => ?_; clear O x
 refine n1 (c_6 (b_0 T (.inl rfl) (a_2 T rfl (.tmp rfl)) ?_))
 exact ⟨congrArg Value.bool (by unfold w_3; simp [*]), B.ext⟩
theorem notoff_ok (b : f_7) (vt vm : Value) (lr lb lk : Nat → Value) (w : World) (hT : k_1 w vt lr lb b.tabs) (hM : m_3 w vm lk b.macs) (hth : l_4 b) (C V : Int) (R : Nat) (l : (blk R 37 [.int .i64 b.scales, vt, vm]).p w) (hb : m_2 b) (hx : 0 ≤ C ∧ C ≤ (b.macs.length : Int) - 1) :
  Calls Try.prog 85 #[(Value.agg #[(iv C), (iv V)]), (bptr R 0)] w (Ret fun v w' => v = .bool (!offB (b.macs.getD C.toNat mac0)) ∧ Ext NoB w w') := by
 refine a_7 Try.func85 rfl fun W D => ?_
 replace D : Fr 13 [] [(0, (Value.agg #[(iv C), (iv V)])), (1, (bptr R 0))] W := D
 have hml9 := hth.ml
 have T : Sep NoB w w [(rob R 37 [(iv b.scales), vt, vm]), (c_0 false vt lr lb b.tabs), (c_3 false vm lk b.macs)] := f_0 ⟨rfl, l, rfl, hT, rfl, hM, trivial⟩
 refine m2 (s2 D (f_3 T rfl D.e (cs := [(iv C), (iv V)]) rfl) ?_)
 rintro h _ r ⟨q, rfl, A⟩ S; clear D T W
 refine s1 S (a_0 rfl (evc _ _)) fun j M => ?_; clear S h
 refine n4 (s1 M (a_4 rfl q_5 M.e) fun k N => ?_); clear M j
 refine s1 N (a_3 rfl z_1 N.e (A.rk 1 rfl) rfl) fun X E => ?_; clear N k
 refine s1 E (a_4 rfl fd_98_0 E.e) fun Y F => ?_; clear E X
 refine s1 F (a_3 rfl ty_3 F.e (A.bk 0 rfl) rfl) fun Z B => ?_; clear F Y
 refine s1 B (b_6 rfl x_8 m_9 B.e (i := C.toNat) (B.e.trans (m_7 (by omega))) (d_1 (A.ok 3 _ rfl)).macs (by decide) (by omega)) fun a G => ?_; clear B Z
 refine s1 G (e_7 rfl m_9 G.e (d_1 (A.ok 3 _ rfl)).macs (macs_all (by omega)) rfl (by decide)) fun c H => ?_; clear G a
 refine s2 H (a_8 rfl en_67 (ev1 H.e) (bias_ok _ (b.macs.getD C.toNat mac0) _ _ ((d_1 (A.ok 3 _ rfl)).blk (i := C.toNat) (by omega)) (hb.mac (by omega)) (hth.kl _))) ?_
 rintro d _ n ⟨rfl, O⟩ I; have Q := A.step O; clear O H A c
 refine s2 I (a_8 rfl en_68 (ev1 I.e) (w_0 _ _ _)) ?_
 rintro f _ o ⟨rfl, P⟩ J; have U := Q.step P; clear P I Q d
 refine s1 J (g_0 rfl J.e) fun g K => ?_; clear J f
 refine s1 K (a_0 rfl K.e) fun m L => ?_; clear K g
 exact n1 (c_6 (b_0 L (.inl rfl) (a_2 L rfl (.tmp rfl)) (⟨rfl, U.ext⟩)))
theorem read_bad0 (b : f_7) (vt vm : Value) (lr lb lk : Nat → Value) (w : World) (hT : k_1 w vt lr lb b.tabs) (hM : m_3 w vm lk b.macs) (hth : l_4 b) (l : List (Int × Int)) (xl : Value) (hxl : SlAt w xl 2 l.length (pairs l)) (he : e_9 b ≠ 0) :
  Calls Try.prog 56 #[(Value.agg #[(iv b.scales), vt, vm]), xl] w (Ret fun v w' => v = .tuple #[.pointer none, .int .i64 (k_9 b l)] ∧ Ext NoB w w') := by
 refine a_7 Try.func56 rfl fun S B => ?_
 replace B : Fr 30 [] [(0, (Value.agg #[(iv b.scales), vt, vm])), (1, xl)] S := B
 have P : Sep NoB w w [(c_0 false vt lr lb b.tabs), (c_3 false vm lk b.macs), (sl xl 2 l.length (pairs l))] := f_0 ⟨rfl, hT, rfl, hM, rfl, hxl, trivial⟩
 refine m2 (s2 B (f_3 P rfl B.e (cs := [(iv b.scales), vt, vm]) rfl) ?_)
 rintro a _ i ⟨h, rfl, C⟩ N; clear B P S
 refine s1 N (a_0 rfl (evc _ _)) fun c O => ?_; clear N a
 refine s1 O (a_0 rfl (evc _ _)) fun d L => ?_; clear O c
 refine n2 (m2 (s1 L (b_9 rfl n_6 (L.ev rfl) (C.bk 0 rfl) (l := [(iv b.scales), vt, vm]) rfl rfl) fun T D => ?_)); clear L d
 refine s2 D (a_8 rfl en_32 (ev1 D.e) (l_8 b vt vm lr lb lk _ (c_5 (C.ok 1 _ rfl)) (d_1 (C.ok 2 _ rfl)) hth)) ?_
 rintro U _ g ⟨rfl, M⟩ E; have Q := C.step M; clear M D C T
 refine s1 E (a_0 rfl E.e) fun V F => ?_; clear E U
 refine n4 (s1 F (a_1 rfl F.e) fun W G => ?_); clear F V
 refine s1 G (o_5 rfl G.e (evc _ _)) fun X A => ?_; clear G W
 have R : ¬ ((e_9 b) = 0) := he
 rw [decide_eq_false R] at A
 refine n1 (d_6 A rfl (d_3 ?_))
 have H := A.as [(6, (iv (e_9 b)))] rfl; clear A
 refine a_5 (s1 H (a_1 rfl H.e) fun Y J => ?_); clear H X
 refine s1 J (a_0 rfl (evc _ _)) fun Z I => ?_; clear J Y
 refine s1 I (a_0 rfl I.e) fun f K => ?_; clear I Z
 exact n1 (c_6 (b_1 (b_0 K (.inl rfl) (c_4 K rfl (.tmp rfl) (.tmp rfl)) (⟨by rw [read_c he], Q.ext⟩))))
theorem read_bad1 (b : f_7) (vt vm : Value) (lr lb lk : Nat → Value) (w : World) (hT : k_1 w vt lr lb b.tabs) (hM : m_3 w vm lk b.macs) (hth : l_4 b) (l : List (Int × Int)) (xl : Value) (hxl : SlAt w xl 2 l.length (pairs l)) (hlb : l.length ≤ 1000000) (he : e_9 b = 0) (hr : k_9 b l ≠ 0) :
  Calls Try.prog 56 #[(Value.agg #[(iv b.scales), vt, vm]), xl] w (Ret fun v w' => v = .tuple #[.pointer none, .int .i64 (k_9 b l)] ∧ Ext NoB w w') := by
 refine a_7 Try.func56 rfl fun a0 J => ?_
 replace J : Fr 30 [] [(0, (Value.agg #[(iv b.scales), vt, vm])), (1, xl)] a0 := J
 have AL : Sep NoB w w [(c_0 false vt lr lb b.tabs), (c_3 false vm lk b.macs), (sl xl 2 l.length (pairs l))] := f_0 ⟨rfl, hT, rfl, hM, rfl, hxl, trivial⟩
 refine m2 (s2 J (f_3 AL rfl J.e (cs := [(iv b.scales), vt, vm]) rfl) ?_)
 rintro a1 _ w3 ⟨L, rfl, K⟩ AJ; clear J AL a0
 refine s1 AJ (a_0 rfl (evc _ _)) fun a6 AK => ?_; clear AJ a1
 refine s1 AK (a_0 rfl (evc _ _)) fun a8 t => ?_; clear AK a6
 refine n2 (m2 (s1 t (b_9 rfl n_6 (t.ev rfl) (K.bk 0 rfl) (l := [(iv b.scales), vt, vm]) rfl rfl) fun AO M => ?_)); clear t a8
 refine s2 M (a_8 rfl en_32 (ev1 M.e) (l_8 b vt vm lr lb lk _ (c_5 (K.ok 1 _ rfl)) (d_1 (K.ok 2 _ rfl)) hth)) ?_
 rintro AP _ Au ⟨rfl, AB⟩ N; have D := K.step AB; clear AB M K AO
 refine s1 N (a_0 rfl N.e) fun AQ O => ?_; clear N AP
 refine n4 (s1 O (a_1 rfl O.e) fun AR P => ?_); clear O AQ
 refine s1 P (o_5 rfl P.e (evc _ _)) fun AS G => ?_; clear P AR
 have AM : (e_9 b) = 0 := he
 rw [decide_eq_true AM] at G
 refine n1 (b_8 G rfl (e_1 (b_3 (d_3 ?_))))
 have Q := G.as [(2, (bptr L 0)), (1, xl)] rfl; clear G
 refine a_5 (s1 Q (f_9 rfl ev0 (ev1 Q.e)) fun AT R => ?_); clear Q AS
 refine s1 R (a_0 rfl R.e) fun AU S => ?_; clear R AT
 refine n2 (e_3 (m2 (s1 S (a_1 rfl S.e) fun AV T => ?_))); clear S AU
 refine s1 T (e_8 rfl l_3 T.e (D.sk 3 rfl)) fun AW U => ?_; clear T AV
 refine s1 U (u_0 rfl U.e (evc _ _)) fun AX V => ?_; clear U AW
 refine s1 V (a_0 rfl V.e) fun AG A => ?_; clear V AX
 refine n1 ?_
 by_cases AF : 8 < (l.length : Int)
 ·skip
  rw [decide_eq_true AF] at A
  refine d_6 A rfl (d_3 ?_)
  have n := A.as [] rfl; clear A
  refine a_5 (s1 n (a_0 rfl (evc _ _)) fun AY o => ?_); clear n AG
  refine s1 o (a_0 rfl (evc _ _)) fun Aq p => ?_; clear o AY
  exact n1 (c_6 (e_6 (b_1 (b_0 p (.inl rfl) (c_4 p rfl (.tmp rfl) (.tmp rfl)) (⟨by rw [(read_3 he (by omega))], D.ext⟩)))))
 skip
 rw [decide_eq_false AF] at A
 refine b_8 A rfl (m2 (s1 A (a_1 rfl A.e) fun AZ X => ?_)); clear A AG
 refine s1 X (a_1 rfl X.e) fun Aa H => ?_; clear X AZ
 refine s2 H (a_8 rfl en_84 (ev2 H.e H.e) (all_read l _ 83 #[] #[(bptr L 0)] (fun i => w_3 b (l.getD i (0, 0))) _ (D.sk 3 rfl) (by omega) ⟨en_83, fun i hi W hW => right_ok b vt vm lr lb lk W (c_5 ((D.step hW).ok 1 _ rfl)) (d_1 ((D.step hW).ok 2 _ rfl)) hth _ _ L ((D.step hW).bk 0 rfl)⟩)) ?_
 rintro Ab _ Av ⟨rfl, AC⟩ Y; have E := D.step AC; clear AC H D Aa
 refine s1 Y (g_0 rfl Y.e) fun Ac Z => ?_; clear Y Ab
 refine s1 Z (a_0 rfl Z.e) fun AH B => ?_; clear Z Ac
 refine n1 ?_
 rcases Bool.eq_false_or_eq_true (((List.range l.length).all (fun i => w_3 b (l.getD i (0, 0))))) with k | k
 ·skip
  rw [k] at B
  refine b_8 B rfl (d_3 ?_)
  have a := B.as [(2, (bptr L 0)), (1, xl)] rfl; clear B
  refine a_5 (s1 a (a_1 rfl a.e) fun Ad c => ?_); clear a AH
  refine s1 c (f_9 rfl ev0 (ev1 c.e)) fun Ae I => ?_; clear c Ad
  refine s2 I (a_8 rfl en_84 (ev2 I.e I.e) (all_read l _ 85 #[] #[(bptr L 0)] (fun i => !offB (b.macs.getD (l.getD i (0, 0)).1.toNat mac0)) _ (E.sk 3 rfl) (by omega) ⟨en_85, fun i hi W hW => notoff_ok b vt vm lr lb lk W (c_5 ((E.step hW).ok 1 _ rfl)) (d_1 ((E.step hW).ok 2 _ rfl)) hth _ _ L ((E.step hW).bk 0 rfl) (v_9 he) (readB_is (g_7.1 (show allI l.length (fun i => w_3 b (l.getD i (0, 0))) = true from (by assumption)) i hi)).1⟩)) ?_
  rintro Af _ Aw ⟨rfl, AD⟩ d; have F := E.step AD; clear AD I E Ae
  refine s1 d (g_0 rfl d.e) fun Ag f => ?_; clear d Af
  refine s1 f (a_0 rfl f.e) fun AI C => ?_; clear f Ag
  refine n1 ?_
  rcases Bool.eq_false_or_eq_true (((List.range l.length).all (fun i => !offB (b.macs.getD (l.getD i (0, 0)).1.toNat mac0)))) with m | m
  ·skip
   rw [m] at C
   refine b_8 C rfl (e_1 (k_7 (b_3 (d_3 ?_))))
   have g := C.as [(2, (bptr L 0))] rfl; clear C
   refine a_5 (s1 g (b_9 rfl n_6 (g.ev rfl) (F.bk 0 rfl) (l := [(iv b.scales), vt, vm]) rfl rfl) fun Ah h => ?_); clear g AI
   refine s2 h (a_8 rfl en_86 (ev1 h.e) (bench_ok b vt vm lr lb lk _ (c_5 (F.ok 1 _ rfl)) (d_1 (F.ok 2 _ rfl)) hth)) ?_
   rintro Ai _ Ax ⟨bx80, bm81, es82, ck83, rfl, hMO84, AE⟩ j; have Ap := F.n_2 AE rfl; clear AE h F Ah
   refine s1 j (a_0 rfl j.e) fun Aj q => ?_; clear j Ai
   refine s1 q (a_0 rfl (evc _ _)) fun Ar r => ?_; clear q Aj
   exact n1 (c_6 (b_0 r (.inl rfl) (c_4 r rfl (.tmp rfl) (.tmp rfl)) (absurd (read_0' he (by omega) (by assumption) (by assumption)) hr)))
  skip
  rw [m] at C
  refine d_6 C rfl (d_3 ?_)
  have s := C.as [] rfl; clear C
  refine a_5 (s1 s (a_0 rfl (evc _ _)) fun Ak u => ?_); clear s AI
  refine s1 u (a_0 rfl (evc _ _)) fun As x => ?_; clear u Ak
  exact n1 (c_6 (e_6 (b_1 (b_0 x (.inl rfl) (c_4 x rfl (.tmp rfl) (.tmp rfl)) (⟨by rw [(read_11' he (by omega) (by assumption) (by assumption))], F.ext⟩)))))
 skip
 rw [k] at B
 refine d_6 B rfl (d_3 ?_)
 have y := B.as [] rfl; clear B
 refine a_5 (s1 y (a_0 rfl (evc _ _)) fun Al z => ?_); clear y AH
 refine s1 z (a_0 rfl (evc _ _)) fun At AA => ?_; clear z Al
 exact n1 (c_6 (e_6 (b_1 (b_0 AA (.inl rfl) (c_4 AA rfl (.tmp rfl) (.tmp rfl)) (⟨by rw [(read_2' he (by omega) (by assumption))], E.ext⟩)))))
theorem read_bad (b : f_7) (vt vm : Value) (lr lb lk : Nat → Value) (w : World) (hT : k_1 w vt lr lb b.tabs) (hM : m_3 w vm lk b.macs) (hth : l_4 b) (l : List (Int × Int)) (xl : Value) (hxl : SlAt w xl 2 l.length (pairs l)) (hlb : l.length ≤ 1000000) (hr : k_9 b l ≠ 0) : Calls Try.prog 56 #[.agg #[.int .i64 b.scales, vt, vm], xl] w (Ret fun v w' => v = .tuple #[.pointer none, .int .i64 (k_9 b l)] ∧ Ext NoB w w') := by
 by_cases he : e_9 b = 0
 ·exact read_bad1 b vt vm lr lb lk w hT hM hth l xl hxl hlb he hr
 exact read_bad0 b vt vm lr lb lk w hT hM hth l xl hxl he
theorem read_yes (b : f_7) (vt vm : Value) (lr lb lk : Nat → Value) (w : World) (hT : k_1 w vt lr lb b.tabs) (hM : m_3 w vm lk b.macs) (hth : l_4 b) (l : List (Int × Int)) (xl : Value) (hxl : SlAt w xl 2 l.length (pairs l)) (hlb : l.length ≤ 1000000) (he : e_9 b = 0) (hr : k_9 b l = 0) :
  Calls Try.prog 56 #[(Value.agg #[(iv b.scales), vt, vm]), xl] w (Ret fun v w' => ∃ bx bm es ck, v = .tuple #[bptr bx 0, .int .i64 0] ∧ o_8 bm es ck (bN b.tabs b.tabs.length) ∧ Sep NoB w w' [blk bx 146 [.int .i64 b.scales, vt, vm, .map (some bm)], (mapX true bm es ck es.size 106 5 (bN b.tabs b.tabs.length) (bC lr lb b.tabs b.tabs.length))]) := by
 refine a_7 Try.func56 rfl fun a0 J => ?_
 replace J : Fr 30 [] [(0, (Value.agg #[(iv b.scales), vt, vm])), (1, xl)] a0 := J
 have AL : Sep NoB w w [(c_0 false vt lr lb b.tabs), (c_3 false vm lk b.macs), (sl xl 2 l.length (pairs l))] := f_0 ⟨rfl, hT, rfl, hM, rfl, hxl, trivial⟩
 refine m2 (s2 J (f_3 AL rfl J.e (cs := [(iv b.scales), vt, vm]) rfl) ?_)
 rintro a1 _ w3 ⟨L, rfl, K⟩ AJ; clear J AL a0
 refine s1 AJ (a_0 rfl (evc _ _)) fun a6 AK => ?_; clear AJ a1
 refine s1 AK (a_0 rfl (evc _ _)) fun a8 t => ?_; clear AK a6
 refine n2 (m2 (s1 t (b_9 rfl n_6 (t.ev rfl) (K.bk 0 rfl) (l := [(iv b.scales), vt, vm]) rfl rfl) fun AP M => ?_)); clear t a8
 refine s2 M (a_8 rfl en_32 (ev1 M.e) (l_8 b vt vm lr lb lk _ (c_5 (K.ok 1 _ rfl)) (d_1 (K.ok 2 _ rfl)) hth)) ?_
 rintro AQ _ Au ⟨rfl, AB⟩ N; have D := K.step AB; clear AB M K AP
 refine s1 N (a_0 rfl N.e) fun AR O => ?_; clear N AQ
 refine n4 (s1 O (a_1 rfl O.e) fun AS P => ?_); clear O AR
 refine s1 P (o_5 rfl P.e (evc _ _)) fun AT G => ?_; clear P AS
 have AN : (e_9 b) = 0 := he
 rw [decide_eq_true AN] at G
 refine n1 (b_8 G rfl (e_1 (b_3 (d_3 ?_))))
 have Q := G.as [(2, (bptr L 0)), (1, xl)] rfl; clear G
 refine a_5 (s1 Q (f_9 rfl ev0 (ev1 Q.e)) fun AU R => ?_); clear Q AT
 refine s1 R (a_0 rfl R.e) fun AV S => ?_; clear R AU
 refine n2 (e_3 (m2 (s1 S (a_1 rfl S.e) fun AW T => ?_))); clear S AV
 refine s1 T (e_8 rfl l_3 T.e (D.sk 3 rfl)) fun AX U => ?_; clear T AW
 refine s1 U (u_0 rfl U.e (evc _ _)) fun AY V => ?_; clear U AX
 refine s1 V (a_0 rfl V.e) fun AG A => ?_; clear V AY
 refine n1 ?_
 by_cases AF : 8 < (l.length : Int)
 ·skip
  rw [decide_eq_true AF] at A
  refine d_6 A rfl (d_3 ?_)
  have n := A.as [] rfl; clear A
  refine a_5 (s1 n (a_0 rfl (evc _ _)) fun AZ o => ?_); clear n AG
  refine s1 o (a_0 rfl (evc _ _)) fun Aq p => ?_; clear o AZ
  exact n1 (c_6 (e_6 (b_1 (b_0 p (.inl rfl) (c_4 p rfl (.tmp rfl) (.tmp rfl)) (absurd (hr.symm.trans (read_3 he (by omega))) (by decide))))))
 skip
 rw [decide_eq_false AF] at A
 refine b_8 A rfl (m2 (s1 A (a_1 rfl A.e) fun Aa X => ?_)); clear A AG
 refine s1 X (a_1 rfl X.e) fun Ab H => ?_; clear X Aa
 refine s2 H (a_8 rfl en_84 (ev2 H.e H.e) (all_read l _ 83 #[] #[(bptr L 0)] (fun i => w_3 b (l.getD i (0, 0))) _ (D.sk 3 rfl) (by omega) ⟨en_83, fun i hi W hW => right_ok b vt vm lr lb lk W (c_5 ((D.step hW).ok 1 _ rfl)) (d_1 ((D.step hW).ok 2 _ rfl)) hth _ _ L ((D.step hW).bk 0 rfl)⟩)) ?_
 rintro Ac _ Av ⟨rfl, AC⟩ Y; have E := D.step AC; clear AC H D Ab
 refine s1 Y (g_0 rfl Y.e) fun Ad Z => ?_; clear Y Ac
 refine s1 Z (a_0 rfl Z.e) fun AH B => ?_; clear Z Ad
 refine n1 ?_
 rcases Bool.eq_false_or_eq_true (((List.range l.length).all (fun i => w_3 b (l.getD i (0, 0))))) with k | k
 ·skip
  rw [k] at B
  refine b_8 B rfl (d_3 ?_)
  have a := B.as [(2, (bptr L 0)), (1, xl)] rfl; clear B
  refine a_5 (s1 a (a_1 rfl a.e) fun Ae c => ?_); clear a AH
  refine s1 c (f_9 rfl ev0 (ev1 c.e)) fun Af I => ?_; clear c Ae
  refine s2 I (a_8 rfl en_84 (ev2 I.e I.e) (all_read l _ 85 #[] #[(bptr L 0)] (fun i => !offB (b.macs.getD (l.getD i (0, 0)).1.toNat mac0)) _ (E.sk 3 rfl) (by omega) ⟨en_85, fun i hi W hW => notoff_ok b vt vm lr lb lk W (c_5 ((E.step hW).ok 1 _ rfl)) (d_1 ((E.step hW).ok 2 _ rfl)) hth _ _ L ((E.step hW).bk 0 rfl) (v_9 he) (readB_is (g_7.1 (show allI l.length (fun i => w_3 b (l.getD i (0, 0))) = true from (by assumption)) i hi)).1⟩)) ?_
  rintro Ag _ Aw ⟨rfl, AD⟩ d; have F := E.step AD; clear AD I E Af
  refine s1 d (g_0 rfl d.e) fun Ah f => ?_; clear d Ag
  refine s1 f (a_0 rfl f.e) fun AI C => ?_; clear f Ah
  refine n1 ?_
  rcases Bool.eq_false_or_eq_true (((List.range l.length).all (fun i => !offB (b.macs.getD (l.getD i (0, 0)).1.toNat mac0)))) with m | m
  ·skip
   rw [m] at C
   refine b_8 C rfl (e_1 (k_7 (b_3 (d_3 ?_))))
   have g := C.as [(2, (bptr L 0))] rfl; clear C
   refine a_5 (s1 g (b_9 rfl n_6 (g.ev rfl) (F.bk 0 rfl) (l := [(iv b.scales), vt, vm]) rfl rfl) fun Ai h => ?_); clear g AI
   refine s2 h (a_8 rfl en_86 (ev1 h.e) (bench_ok b vt vm lr lb lk _ (c_5 (F.ok 1 _ rfl)) (d_1 (F.ok 2 _ rfl)) hth)) ?_
   rintro Aj _ Ax ⟨bx80, bm81, es82, ck83, rfl, hMO84, AE⟩ j; have AM := F.n_2 AE rfl; clear AE h F Ai
   refine s1 j (a_0 rfl j.e) fun Ak q => ?_; clear j Aj
   refine s1 q (a_0 rfl (evc _ _)) fun Ar r => ?_; clear q Ak
   exact n1 (c_6 (b_0 r (.inl rfl) (c_4 r rfl (.tmp rfl) (.tmp rfl)) (⟨_, bm81, es82, ck83, rfl, hMO84, AM.keep [0, 1] (by decide) _ rfl rfl⟩)))
  skip
  rw [m] at C
  refine d_6 C rfl (d_3 ?_)
  have s := C.as [] rfl; clear C
  refine a_5 (s1 s (a_0 rfl (evc _ _)) fun Al u => ?_); clear s AI
  refine s1 u (a_0 rfl (evc _ _)) fun As x => ?_; clear u Al
  exact n1 (c_6 (e_6 (b_1 (b_0 x (.inl rfl) (c_4 x rfl (.tmp rfl) (.tmp rfl)) (absurd (hr.symm.trans (read_11' he (by omega) (by assumption) (by assumption))) (by decide))))))
 skip
 rw [k] at B
 refine d_6 B rfl (d_3 ?_)
 have y := B.as [] rfl; clear B
 refine a_5 (s1 y (a_0 rfl (evc _ _)) fun Am z => ?_); clear y AH
 refine s1 z (a_0 rfl (evc _ _)) fun At AA => ?_; clear z Am
 exact n1 (c_6 (e_6 (b_1 (b_0 AA (.inl rfl) (c_4 AA rfl (.tmp rfl) (.tmp rfl)) (absurd (hr.symm.trans (read_2' he (by omega) (by assumption))) (by decide))))))
end Go.Proofs.Ytohgladndklciaa
