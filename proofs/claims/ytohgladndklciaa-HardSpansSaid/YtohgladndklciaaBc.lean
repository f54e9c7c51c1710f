/-
  When a table is one of a book: told by all its tests at once.
  The error of a book, told by the first thing that is not right; thin books.
  The errors of readings, of a machine's bias, of what a table makes of a range; which machines are off.
-/
import Derived.Test.YtohgladndklciaaBb
import Derived.Test.YtohgladndklciaaEnga
set_option linter.unusedSimpArgs false
set_option linter.unusedVariables false
namespace Go.Proofs.Ytohgladndklciaa
open Go.RowKit Go.Shelf Go.Eng Go.Hard
theorem ze_4 : (Try.prog.info? 4).bind (·.zero) = some (Value.bool false) := by kernel_rfl
theorem ty_4 : tyK Try.prog 4 = some (false, 1) := by kernel_rfl
theorem en_116 : ∀ args w, (callFunc 116 args).run Try.prog w = .ok (.enter 116 args) w := enters_of Try.func116 (by kernel_rfl) rfl
theorem en_121 : ∀ args w, (callFunc 121 args).run Try.prog w = .ok (.enter 121 args) w := enters_of Try.func121 (by kernel_rfl) rfl
theorem fd_159_0 : fldK Try.prog 159 0 = some 0 := by kernel_rfl
theorem ty_154 : tyK Try.prog 154 = some (false, 1) := by kernel_rfl
theorem en_103 : ∀ args w, (callFunc 103 args).run Try.prog w = .ok (.enter 103 args) w := enters_of Try.func103 (by kernel_rfl) rfl
theorem bd_159_0f (x0_0 : Fn) (x0_0a x0_0b : Array Value) (w : World) : (Instr.build 159 #[(0, (.func x0_0 x0_0a x0_0b))]).run Try.prog w = .ok (.agg #[(.func x0_0 x0_0a x0_0b)]) w := by kernel_rfl
theorem en_101 : ∀ args w, (callFunc 101 args).run Try.prog w = .ok (.enter 101 args) w := enters_of Try.func101 (by kernel_rfl) rfl
theorem en_72 : ∀ args w, (callFunc 72 args).run Try.prog w = .ok (.enter 72 args) w := enters_of Try.func72 (by kernel_rfl) rfl
theorem fd_106_4 : fldK Try.prog 106 4 = some 4 := by kernel_rfl
theorem makes_dn (t : TabD) (vr vb : Value) (w : World) (hr : SlAt w vr 2 t.rows.length (pairs t.rows)) (hb : SlAt w vb 1 t.brk.length (ints t.brk)) (hrl : t.rows.length ≤ 1000000) (hbl : t.brk.length ≤ 1000000) (n : Int) (hV : TabV n t) (x : Int) :
  Calls Try.prog 101 #[(Value.agg #[(Value.int .i64 t.frm), (Value.int .i64 t.dst), vr, vb, (Value.int .i64 t.err)]), (Value.int .i64 x), (Value.agg #[(Value.func (.func 102) #[] #[])])] w (Ret fun v w' => v = .tuple #[.int .i64 (e_3 t x).1, .bool (r_8 t x).isSome] ∧ Ext NoB w w') := by
 refine calls_enterM Try.func101 rfl fun a0 AF => ?_
 replace AF : Fr 62 (marks []) [(0, (Value.agg #[(Value.int .i64 t.frm), (Value.int .i64 t.dst), vr, vb, (Value.int .i64 t.err)])), (1, (Value.int .i64 x)), (2, (Value.agg #[(Value.func (.func 102) #[] #[])]))] a0 := AF
 have Bc : Sep NoB w w [(g_0 []), (sl vr 2 t.rows.length (pairs t.rows)), (sl vb 1 t.brk.length (ints t.brk))] := sep_marks (f_1 ⟨rfl, hr, rfl, hb, trivial⟩)
 refine m2 ?_
 refine s2 AF (f_0 Bc rfl (AF.ev rfl) (cs := [(Value.int .i64 t.frm), (Value.int .i64 t.dst), vr, vb, (Value.int .i64 t.err)]) rfl) ?_
 rintro a1 _ w3 ⟨I, rfl, Bd⟩ A3; clear AF Bc a0
 refine s2 A3 (f_0 Bd rfl (A3.ev rfl) (cs := [(Value.int .i64 x)]) rfl) ?_
 rintro a6 _ w8 ⟨D, rfl, BB⟩ A8; clear A3 Bd a1
 refine s2 A8 (f_0 BB rfl (A8.ev rfl) (cs := [(Value.func (.func 102) #[] #[])]) rfl) ?_
 rintro B3 _ Cx ⟨A, rfl, BC⟩ A1; clear A8 BB a6
 refine s2 A1 (e_4 BC rfl ze_3 (cs := [(Value.int .i64 0)]) rfl) ?_
 rintro B4 _ Cy ⟨B, rfl, BD⟩ A2; clear A1 BC B3
 refine s2 A2 (e_4 BD rfl ze_4 (cs := [(Value.bool false)]) rfl) ?_
 rintro B5 _ Cz ⟨C, rfl, AC⟩ AG; clear A2 BD B4
 refine n2 ?_
 refine m2 ?_
 refine s1 AG (a_3 rfl j_3 (AG.ev rfl)) fun B6 AH => ?_; clear AG B5
 refine s1 AH (a_2 rfl n_9 (AH.ev rfl) (AC.bk 4 rfl) rfl) fun B7 AI => ?_; clear AH B6
 refine s1 AI (d_6 rfl k_4 (AI.ev rfl) (AC.sk 6 rfl)) fun B8 A4 => ?_; clear AI B7
 refine s1 A4 (a_1 rfl (evc _ _)) fun B9 A5 => ?_; clear A4 B8
 refine n1 ?_
 refine c_7 ?_
 have A6 := A5.as [(15, (Value.int .i64 0)), (14, (Value.int .i64 (t.rows.length : Int))), (13, vr), (7, (bptr C 0)), (6, (bptr B 0)), (5, (bptr A 0)), (4, (bptr D 0)), (3, (bptr I 0))] rfl; clear A5
 refine h_3 (G := Nat) (fun (k : Nat) a_ w_ => Fr 62 (marks []) [(15, (Value.int .i64 (k : Int))), (14, (Value.int .i64 (t.rows.length : Int))), (13, vr), (7, (bptr C 0)), (6, (bptr B 0)), (5, (bptr A 0)), (4, (bptr D 0)), (3, (bptr I 0))] a_ ∧ Sep NoB w w_ [(blk C 4 [(Value.bool false)]), (blk B 3 [(Value.int .i64 0)]), (blk A 159 [(Value.func (.func 102) #[] #[])]), (blk D 3 [(Value.int .i64 x)]), (blk I 106 [(Value.int .i64 t.frm), (Value.int .i64 t.dst), vr, vb, (Value.int .i64 t.err)]), (g_0 []), (sl vr 2 t.rows.length (pairs t.rows)), (sl vb 1 t.brk.length (ints t.brk))] ∧ (k ≤ t.rows.length) ∧ (∀ i, i < k → ¬ tx t i = x)) (fun k => t.rows.length - k) 0 ⟨A6.as _ rfl, AC, by omega, (fun _ h => absurd h (Nat.not_lt_zero _))⟩ ?_
 clear A6 AC B9
 rintro k CA C0 ⟨p, O, hkk, hrw⟩
 refine m2 ?_
 refine s1 p (f_8 rfl (p.ev rfl) (p.ev rfl)) fun BZ H => ?_; clear p CA
 refine n2 ?_
 by_cases BP : (k : Int) < (t.rows.length : Int)
 ·skip
  rw [decide_eq_true BP] at H
  refine c_3 H rfl ?_
  refine d_0 ?_
  refine b_0 ?_
  refine b_8 ?_
  refine c_7 ?_
  refine m2 ?_
  refine s1 H (b_3 rfl k_4 i_6 (H.ev rfl) (i := k) (H.ev rfl) (O.sk 6 rfl) (by decide) (by omega)) fun CB AJ => ?_; clear H BZ
  refine s1 AJ (e_7 rfl i_6 (AJ.ev rfl) (O.sk 6 rfl) (g_9 (by omega)) rfl (by decide)) fun CC A7 => ?_; clear AJ CB
  refine s2 A7 (e_4 O rfl y_6 (cs := [(Value.int .i64 0), (Value.int .i64 0)]) rfl) ?_
  rintro CD _ C1 ⟨AE, rfl, BE⟩ s; clear A7 O CC
  refine s7 s (c_2 BE rfl i_6 (s.ev rfl) (s.ev rfl) (i := 0) rfl (vs := [(Value.int .i64 ((t.rows.getD k (0, 0)).1)), (Value.int .i64 ((t.rows.getD k (0, 0)).2))]) rfl rfl rfl (Nat.le_of_ble_eq_true rfl)) ?_
  intro _ Be BF AK; clear s
  have P : Sep NoB w Be [(blk AE 107 [(Value.int .i64 ((t.rows.getD k (0, 0)).1)), (Value.int .i64 ((t.rows.getD k (0, 0)).2))]), (blk C 4 [(Value.bool false)]), (blk B 3 [(Value.int .i64 0)]), (blk A 159 [(Value.func (.func 102) #[] #[])]), (blk D 3 [(Value.int .i64 x)]), (blk I 106 [(Value.int .i64 t.frm), (Value.int .i64 t.dst), vr, vb, (Value.int .i64 t.err)]), (g_0 []), (sl vr 2 t.rows.length (pairs t.rows)), (sl vb 1 t.brk.length (ints t.brk))] := BF; clear BF BE
  refine n4 ?_
  refine s1 AK (a_3 rfl j_4 (AK.ev rfl)) fun CE AL => ?_; clear AK CD
  refine s1 AL (a_2 rfl ty_3 (AL.ev rfl) (P.bk 0 rfl) rfl) fun CF AM => ?_; clear AL CE
  refine s1 AM (a_2 rfl ty_3 (AM.ev rfl) (P.bk 4 rfl) rfl) fun CG u => ?_; clear AM CF
  refine s1 u (n_7 rfl (u.ev rfl) (u.ev rfl)) fun Ba L => ?_; clear u CG
  refine n1 ?_
  by_cases BQ : ((t.rows.getD k (0, 0)).1) = x
  ·skip
   rw [decide_eq_true BQ] at L
   refine c_3 L rfl ?_
   refine b_8 ?_
   have AN := L.as [(9, (bptr AE 0)), (7, (bptr C 0)), (6, (bptr B 0))] rfl; clear L
   refine a_5 ?_
   refine s1 AN (a_3 rfl l_9 (AN.ev rfl)) fun CH AO => ?_; clear AN Ba
   refine s1 AO (a_2 rfl ty_3 (AO.ev rfl) (P.bk 0 rfl) rfl) fun Cu y => ?_; clear AO CH
   refine s7 y (c_2 P rfl ty_3 (y.ev rfl) (y.ev rfl) (i := 2) rfl (vs := [(Value.int .i64 ((t.rows.getD k (0, 0)).2))]) rfl rfl rfl (Nat.le_of_ble_eq_true rfl)) ?_
   intro _ CU BG AP; clear y
   have BH : Sep NoB w CU [(blk AE 107 [(Value.int .i64 ((t.rows.getD k (0, 0)).1)), (Value.int .i64 ((t.rows.getD k (0, 0)).2))]), (blk C 4 [(Value.bool false)]), (blk B 3 [(Value.int .i64 ((t.rows.getD k (0, 0)).2))]), (blk A 159 [(Value.func (.func 102) #[] #[])]), (blk D 3 [(Value.int .i64 x)]), (blk I 106 [(Value.int .i64 t.frm), (Value.int .i64 t.dst), vr, vb, (Value.int .i64 t.err)]), (g_0 []), (sl vr 2 t.rows.length (pairs t.rows)), (sl vb 1 t.brk.length (ints t.brk))] := BG; clear BG P
   refine s7 AP (c_2 BH rfl ty_4 (AP.ev rfl) (evc _ _) (i := 1) rfl (vs := [(Value.bool true)]) rfl rfl rfl (Nat.le_of_ble_eq_true rfl)) ?_
   intro _ Bf BI A9; clear AP
   have BJ : Sep NoB w Bf [(blk AE 107 [(Value.int .i64 ((t.rows.getD k (0, 0)).1)), (Value.int .i64 ((t.rows.getD k (0, 0)).2))]), (blk C 4 [(Value.bool true)]), (blk B 3 [(Value.int .i64 ((t.rows.getD k (0, 0)).2))]), (blk A 159 [(Value.func (.func 102) #[] #[])]), (blk D 3 [(Value.int .i64 x)]), (blk I 106 [(Value.int .i64 t.frm), (Value.int .i64 t.dst), vr, vb, (Value.int .i64 t.err)]), (g_0 []), (sl vr 2 t.rows.length (pairs t.rows)), (sl vb 1 t.brk.length (ints t.brk))] := BI; clear BI BH
   refine n1 ?_
   refine c_9 ?_
   refine c_6 ?_
   refine a_6 ?_
   refine a_6 ?_
   refine c_6 ?_
   refine a_6 ?_
   have BK : Sep NoB w Bf [(g_0 []), (blk AE 107 [(Value.int .i64 ((t.rows.getD k (0, 0)).1)), (Value.int .i64 ((t.rows.getD k (0, 0)).2))]), (blk C 4 [(Value.bool true)]), (blk B 3 [(Value.int .i64 ((t.rows.getD k (0, 0)).2))]), (blk A 159 [(Value.func (.func 102) #[] #[])]), (blk D 3 [(Value.int .i64 x)]), (blk I 106 [(Value.int .i64 t.frm), (Value.int .i64 t.dst), vr, vb, (Value.int .i64 t.err)]), (sl vr 2 t.rows.length (pairs t.rows)), (sl vb 1 t.brk.length (ints t.brk))] := BJ.keep [6, 0, 1, 2, 3, 4, 5, 7, 8] (by decide) _ rfl rfl; clear BJ
   refine fin_runM A9 (.inl rfl) BK ?_
   intro C2 AT; clear BK
   refine ⟨_, (d_2 A9 rfl (.cell1 rfl ty_3 (AT.bk 2 rfl) rfl) (.cell1 rfl ty_4 (AT.bk 1 rfl) rfl)), ?_⟩
   have hz := (made_row (k := k) (by omega) (fun i hi => hrw i (by omega)) (by assumption))
   exact ⟨by unfold e_3; rw [hz]; rfl, AT.ext⟩
  skip
  rw [decide_eq_false BQ] at L
  refine b_7 L rfl ?_
  refine d_0 ?_
  refine h_0 ?_
  refine b_0 ?_
  have AQ := L.as [(15, (Value.int .i64 (k : Int))), (14, (Value.int .i64 (t.rows.length : Int))), (13, vr), (7, (bptr C 0)), (6, (bptr B 0)), (5, (bptr A 0)), (4, (bptr D 0)), (3, (bptr I 0))] rfl; clear L
  refine a_5 ?_
  refine s1 AQ (f_4 rfl (AQ.ev rfl) (evc _ _) (by omega) (by omega)) fun CI AR => ?_; clear AQ Ba
  refine s1 AR (a_1 rfl (AR.ev rfl)) fun Cv Bw => ?_; clear AR CI
  refine e_9 ?_
  have Bx : Sep NoB w Be [(blk C 4 [(Value.bool false)]), (blk B 3 [(Value.int .i64 0)]), (blk A 159 [(Value.func (.func 102) #[] #[])]), (blk D 3 [(Value.int .i64 x)]), (blk I 106 [(Value.int .i64 t.frm), (Value.int .i64 t.dst), vr, vb, (Value.int .i64 t.err)]), (g_0 []), (sl vr 2 t.rows.length (pairs t.rows)), (sl vb 1 t.brk.length (ints t.brk))] := P.keep [1, 2, 3, 4, 5, 6, 7, 8] (by decide) _ rfl rfl; clear P
  exact b_0 ⟨k + 1, ⟨Bw.as _ rfl, Bx, by omega, (fun i hi => by rcases Nat.lt_succ_iff_lt_or_eq.1 hi with h | h; exact hrw i h; subst h; assumption)⟩, by omega⟩
 skip
 rw [decide_eq_false BP] at H
 refine b_7 H rfl ?_
 refine g_8 ?_
 refine b_6 ?_
 refine b_6 ?_
 refine f_5 ?_
 refine b_0 ?_
 refine b_8 ?_
 refine m2 ?_
 refine s1 H (c_5 rfl l_3 (H.ev rfl) (O.bk 4 rfl) (l := [(Value.int .i64 t.frm), (Value.int .i64 t.dst), vr, vb, (Value.int .i64 t.err)]) rfl rfl) fun CJ AS => ?_; clear H BZ
 refine s2 AS (b_4 rfl en_116 (ev1 (AS.ev rfl)) (pieces_ok t vr vb _ hr.one hb.one)) ?_
 rintro Cw _ CV ⟨bl93, rfl, BO⟩ BA; have BL := O.w_7 BO rfl; clear BO AS O CJ
 refine n1 ?_
 refine c_7 ?_
 have X := BA.as [(27, (Value.func (.func 121) #[] #[(bptr bl93 0)])), (7, (bptr C 0)), (6, (bptr B 0)), (5, (bptr A 0)), (4, (bptr D 0))] rfl; clear BA
 have BM := BL.nilR; clear BL
 have AD : Sep NoB w CV [(g_0 []), nilR, (blk bl93 106 [(Value.int .i64 t.frm), (Value.int .i64 t.dst), vr, vb, (Value.int .i64 t.err)]), (blk C 4 [(Value.bool false)]), (blk B 3 [(Value.int .i64 0)]), (blk A 159 [(Value.func (.func 102) #[] #[])]), (blk D 3 [(Value.int .i64 x)]), (blk I 106 [(Value.int .i64 t.frm), (Value.int .i64 t.dst), vr, vb, (Value.int .i64 t.err)]), (sl vr 2 t.rows.length (pairs t.rows)), (sl vb 1 t.brk.length (ints t.brk))] := BM.keep [7, 0, 1, 2, 3, 4, 5, 6, 8, 9] (by decide) _ rfl rfl; clear BM
 refine c_rangeG X nilR rfl AD (X.ev rfl) en_121 ((d_4 t).length) (fun q => #[.agg #[.int .i64 (t.rows.getD ((d_4 t).getD q 0) (0, 0)).1, .int .i64 (t.rows.getD ((d_4 t).getD q 0) (0, 0)).2], .agg #[.int .i64 (t.rows.getD ((d_4 t).getD q 0 + 1) (0, 0)).1, .int .i64 (t.rows.getD ((d_4 t).getD q 0 + 1) (0, 0)).2]]) (fun _ => rfl) [rob bl93 106 [.int .i64 t.frm, .int .i64 t.dst, vr, vb, .int .i64 t.err], sl vr 2 t.rows.length (pairs t.rows), sl vb 1 t.brk.length (ints t.brk)] (fun r hr => by simp only [List.mem_cons, List.not_mem_nil, or_false] at hr; rcases hr with rfl | rfl | rfl <;> rfl) (pieces_it bl93 t vr vb hV.len hrl hbl) (fun q L_ => L_ = [(blk bl93 106 [(Value.int .i64 t.frm), (Value.int .i64 t.dst), vr, vb, (Value.int .i64 t.err)]), (blk C 4 [(Value.bool false)]), (blk B 3 [(Value.int .i64 0)]), (blk A 159 [(Value.func (.func 102) #[] #[])]), (blk D 3 [(Value.int .i64 x)]), (blk I 106 [(Value.int .i64 t.frm), (Value.int .i64 t.dst), vr, vb, (Value.int .i64 t.err)]), (sl vr 2 t.rows.length (pairs t.rows)), (sl vb 1 t.brk.length (ints t.brk))] ∧ (∀ j, j < q → m_0 t x ((d_4 t).getD j 0) = false)) (fun L_ => L_ = [(blk bl93 106 [(Value.int .i64 t.frm), (Value.int .i64 t.dst), vr, vb, (Value.int .i64 t.err)]), (blk C 4 [(Value.bool true)]), (blk B 3 [(Value.int .i64 ((e_3 t x).1))]), (blk A 159 [(Value.func (.func 102) #[] #[])]), (blk D 3 [(Value.int .i64 x)]), (blk I 106 [(Value.int .i64 t.frm), (Value.int .i64 t.dst), vr, vb, (Value.int .i64 t.err)]), (sl vr 2 t.rows.length (pairs t.rows)), (sl vb 1 t.brk.length (ints t.brk))] ∧ ((r_8 t x).isSome = true)) (some .ret) ⟨rfl, (fun _ h => absurd h (Nat.not_lt_zero _))⟩ (fun q L_ hI_ G_ W_ r1_ r2_ hW_ => by obtain ⟨rfl, hpc⟩ := hI_; exact (Sep.keep (hW_.to_ro (i := 3) rfl) [2, 3, 9, 10] (by decide) _ rfl rfl)) (fun L_ hI_ G_ W_ r1_ r2_ hW_ => by obtain ⟨rfl, hsm⟩ := hI_; exact (Sep.keep (hW_.to_ro (i := 3) rfl) [2, 3, 9, 10] (by decide) _ rfl rfl)) ?_ ?_ ?_
 ·skip
  intro q hq L_ hL_ G105 CX M D103 rc104 Bb C3 Ax BN; obtain ⟨rfl, hpc⟩ := hL_
  have AU : Fr 62 [] [(29, (Value.agg #[(Value.int .i64 ((t.rows.getD (((d_4 t).getD q 0) + 1) (0, 0)).1)), (Value.int .i64 ((t.rows.getD (((d_4 t).getD q 0) + 1) (0, 0)).2))])), (28, (Value.agg #[(Value.int .i64 ((t.rows.getD (((d_4 t).getD q 0)) (0, 0)).1)), (Value.int .i64 ((t.rows.getD (((d_4 t).getD q 0)) (0, 0)).2))])), (27, (Value.func (.func 121) #[] #[(bptr bl93 0)])), (7, (bptr C 0)), (6, (bptr B 0)), (5, (bptr A 0)), (4, (bptr D 0))] Bb := by rw [Ax]; exact Fr.round2 X (by decide) (by decide)
  clear Ax AD
  have hgq : ((d_4 t).getD q 0) < t.rows.length - 1 := (good_mem hq).1; have hbn := hV.bnd _ (show ((d_4 t).getD q 0) < t.rows.length by omega); have hbn1 := hV.bnd (((d_4 t).getD q 0) + 1) (by omega); unfold tx ty at hbn hbn1
  refine m2 ?_
  refine s2 AU (e_4 BN rfl y_6 (cs := [(Value.int .i64 0), (Value.int .i64 0)]) rfl) ?_
  rintro Bg _ Cn ⟨F, rfl, Af⟩ Q; clear AU BN Bb
  refine s7 Q (c_2 Af rfl i_6 (Q.ev rfl) (Q.ev rfl) (i := 0) rfl (vs := [(Value.int .i64 ((t.rows.getD (((d_4 t).getD q 0)) (0, 0)).1)), (Value.int .i64 ((t.rows.getD (((d_4 t).getD q 0)) (0, 0)).2))]) rfl rfl rfl (Nat.le_of_ble_eq_true rfl)) ?_
  intro _ By Ag AV; clear Q
  have Ah : Sep NoB w By [(blk F 107 [(Value.int .i64 ((t.rows.getD (((d_4 t).getD q 0)) (0, 0)).1)), (Value.int .i64 ((t.rows.getD (((d_4 t).getD q 0)) (0, 0)).2))]), (obR M (.loop (rc104 .ready none))), (g_0 (D103 :: [])), G105, (blk bl93 106 [(Value.int .i64 t.frm), (Value.int .i64 t.dst), vr, vb, (Value.int .i64 t.err)]), (blk C 4 [(Value.bool false)]), (blk B 3 [(Value.int .i64 0)]), (blk A 159 [(Value.func (.func 102) #[] #[])]), (blk D 3 [(Value.int .i64 x)]), (blk I 106 [(Value.int .i64 t.frm), (Value.int .i64 t.dst), vr, vb, (Value.int .i64 t.err)]), (sl vr 2 t.rows.length (pairs t.rows)), (sl vb 1 t.brk.length (ints t.brk))] := Ag; clear Ag Af
  refine n3 ?_
  refine s2 AV (e_4 Ah rfl y_6 (cs := [(Value.int .i64 0), (Value.int .i64 0)]) rfl) ?_
  rintro Bh _ Co ⟨J, rfl, Ai⟩ R; clear AV Ah Bg
  refine s7 R (c_2 Ai rfl i_6 (R.ev rfl) (R.ev rfl) (i := 0) rfl (vs := [(Value.int .i64 ((t.rows.getD (((d_4 t).getD q 0) + 1) (0, 0)).1)), (Value.int .i64 ((t.rows.getD (((d_4 t).getD q 0) + 1) (0, 0)).2))]) rfl rfl rfl (Nat.le_of_ble_eq_true rfl)) ?_
  intro _ BR Aj Y; clear R
  have Ak : Sep NoB w BR [(blk J 107 [(Value.int .i64 ((t.rows.getD (((d_4 t).getD q 0) + 1) (0, 0)).1)), (Value.int .i64 ((t.rows.getD (((d_4 t).getD q 0) + 1) (0, 0)).2))]), (blk F 107 [(Value.int .i64 ((t.rows.getD (((d_4 t).getD q 0)) (0, 0)).1)), (Value.int .i64 ((t.rows.getD (((d_4 t).getD q 0)) (0, 0)).2))]), (obR M (.loop (rc104 .ready none))), (g_0 (D103 :: [])), G105, (blk bl93 106 [(Value.int .i64 t.frm), (Value.int .i64 t.dst), vr, vb, (Value.int .i64 t.err)]), (blk C 4 [(Value.bool false)]), (blk B 3 [(Value.int .i64 0)]), (blk A 159 [(Value.func (.func 102) #[] #[])]), (blk D 3 [(Value.int .i64 x)]), (blk I 106 [(Value.int .i64 t.frm), (Value.int .i64 t.dst), vr, vb, (Value.int .i64 t.err)]), (sl vr 2 t.rows.length (pairs t.rows)), (sl vb 1 t.brk.length (ints t.brk))] := Aj; clear Aj Ai
  refine e_9 ?_
  have Al : Sep NoB w BR [(obR M (.loop (rc104 .ready none))), (g_0 (D103 :: [])), G105, (blk J 107 [(Value.int .i64 ((t.rows.getD (((d_4 t).getD q 0) + 1) (0, 0)).1)), (Value.int .i64 ((t.rows.getD (((d_4 t).getD q 0) + 1) (0, 0)).2))]), (blk F 107 [(Value.int .i64 ((t.rows.getD (((d_4 t).getD q 0)) (0, 0)).1)), (Value.int .i64 ((t.rows.getD (((d_4 t).getD q 0)) (0, 0)).2))]), (blk bl93 106 [(Value.int .i64 t.frm), (Value.int .i64 t.dst), vr, vb, (Value.int .i64 t.err)]), (blk C 4 [(Value.bool false)]), (blk B 3 [(Value.int .i64 0)]), (blk A 159 [(Value.func (.func 102) #[] #[])]), (blk D 3 [(Value.int .i64 x)]), (blk I 106 [(Value.int .i64 t.frm), (Value.int .i64 t.dst), vr, vb, (Value.int .i64 t.err)]), (sl vr 2 t.rows.length (pairs t.rows)), (sl vb 1 t.brk.length (ints t.brk))] := Ak.keep [2, 3, 4, 0, 1, 5, 6, 7, 8, 9, 10, 11, 12] (by decide) _ rfl rfl; clear Ak
  refine ⟨rfl, _, Al, ?_⟩; intro BS E; clear Al
  refine c_7 ?_
  refine m2 ?_
  refine s1 Y (a_3 rfl j_4 (Y.ev rfl)) fun Bi Z => ?_; clear Y Bh
  refine s1 Z (a_2 rfl ty_3 (Z.ev rfl) (E.bk 4 rfl) rfl) fun Bj b => ?_; clear Z Bi
  refine s1 b (a_2 rfl ty_3 (b.ev rfl) (E.bk 9 rfl) rfl) fun Bk S => ?_; clear b Bj
  refine s1 S (f_8 rfl (S.ev rfl) (S.ev rfl)) fun Bl c => ?_; clear S Bk
  refine s1 c (a_1 rfl (c.ev rfl)) fun A0 K => ?_; clear c Bl
  by_cases Ay : ((t.rows.getD (((d_4 t).getD q 0)) (0, 0)).1) < x
  ·skip
   rw [decide_eq_true Ay] at K
   refine s5 K (a_2 rfl ty_3 (K.ev rfl) (E.bk 9 rfl) rfl) fun Bm d => ?_; clear K A0
   refine s5 d (a_3 rfl j_4 (d.ev rfl)) fun Bn e => ?_; clear d Bm
   refine s5 e (a_2 rfl ty_3 (e.ev rfl) (E.bk 3 rfl) rfl) fun Bo T => ?_; clear e Bn
   refine s5 T (f_8 rfl (T.ev rfl) (T.ev rfl)) fun Bp U => ?_; clear T Bo
   refine s1 U (b_9 rfl (U.ev rfl) (U.ev rfl)) fun CZ N => ?_; clear U Bp
   refine n1 ?_
   by_cases Az : x < ((t.rows.getD (((d_4 t).getD q 0) + 1) (0, 0)).1)
   ·skip
    rw [decide_eq_true Az] at N
    have hpb := piece_bds (v := x) (k := ((d_4 t).getD q 0)) hV (by omega) (by unfold tx; omega) (by unfold tx; omega); unfold pieceN pieceD tx ty at hpb; have hdb := downF_bd hpb.1 hpb.2; have hub := upF_bd hpb.1 hpb.2
    refine c_3 N rfl ?_
    refine b_8 ?_
    have AW := N.as [(11, (bptr J 0)), (10, (bptr F 0)), (7, (bptr C 0)), (6, (bptr B 0)), (5, (bptr A 0)), (4, (bptr D 0))] rfl; clear N
    have AX := AW.as [(11, (bptr J 0)), (10, (bptr F 0)), (7, (bptr C 0)), (6, (bptr B 0)), (5, (bptr A 0)), (4, (bptr D 0))] rfl; clear AW
    refine g_3 mixed AX E 21 [[], [0], [], [2], [], [], [5], [4, 6], [], [8], [], [10], [9, 11], [7, 12], [], [14], [], [16], [15, 17], [13, 18], [3, 19]] [(Yd.val (bptr F 1)), (Yd.val (Value.int .i64 ((t.rows.getD (((d_4 t).getD q 0)) (0, 0)).2))), (Yd.val (bptr A 0)), (Yd.val (Value.func (.func 102) #[] #[])), (Yd.val (Value.int .i64 x)), (Yd.val (bptr F 0)), (Yd.val (Value.int .i64 ((t.rows.getD (((d_4 t).getD q 0)) (0, 0)).1))), (Yd.val (Value.int .i64 (x - ((t.rows.getD (((d_4 t).getD q 0)) (0, 0)).1)))), (Yd.val (bptr J 1)), (Yd.val (Value.int .i64 ((t.rows.getD (((d_4 t).getD q 0) + 1) (0, 0)).2))), (Yd.val (bptr F 1)), (Yd.val (Value.int .i64 ((t.rows.getD (((d_4 t).getD q 0)) (0, 0)).2))), (Yd.val (Value.int .i64 (((t.rows.getD (((d_4 t).getD q 0) + 1) (0, 0)).2) - ((t.rows.getD (((d_4 t).getD q 0)) (0, 0)).2)))), (Yd.val (Value.int .i64 ((x - ((t.rows.getD (((d_4 t).getD q 0)) (0, 0)).1)) * (((t.rows.getD (((d_4 t).getD q 0) + 1) (0, 0)).2) - ((t.rows.getD (((d_4 t).getD q 0)) (0, 0)).2))))), (Yd.val (bptr J 0)), (Yd.val (Value.int .i64 ((t.rows.getD (((d_4 t).getD q 0) + 1) (0, 0)).1))), (Yd.val (bptr F 0)), (Yd.val (Value.int .i64 ((t.rows.getD (((d_4 t).getD q 0)) (0, 0)).1))), (Yd.val (Value.int .i64 (((t.rows.getD (((d_4 t).getD q 0) + 1) (0, 0)).1) - ((t.rows.getD (((d_4 t).getD q 0)) (0, 0)).1)))), (Yd.val (Value.agg #[(Value.int .i64 ((x - ((t.rows.getD (((d_4 t).getD q 0)) (0, 0)).1)) * (((t.rows.getD (((d_4 t).getD q 0) + 1) (0, 0)).2) - ((t.rows.getD (((d_4 t).getD q 0)) (0, 0)).2)))), (Value.int .i64 (((t.rows.getD (((d_4 t).getD q 0) + 1) (0, 0)).1) - ((t.rows.getD (((d_4 t).getD q 0)) (0, 0)).1)))])), (Yd.val (Value.int .i64 (w_8 ((x - ((t.rows.getD (((d_4 t).getD q 0)) (0, 0)).1)) * (((t.rows.getD (((d_4 t).getD q 0) + 1) (0, 0)).2) - ((t.rows.getD (((d_4 t).getD q 0)) (0, 0)).2))) (((t.rows.getD (((d_4 t).getD q 0) + 1) (0, 0)).1) - ((t.rows.getD (((d_4 t).getD q 0)) (0, 0)).1)))))] (by decide +kernel) rfl rfl ?_ ?_
    ·skip
     refine ⟨fun a w hA hS hd => ?_, ?_⟩
     ·skip
      exact b_1 rfl (dv (a_3 rfl l_9 (hA.ev rfl)) hS rfl)
     refine ⟨fun a w hA hS hd => ?_, ?_⟩
     ·skip
      have e0 := f_2 (hd 0 (by decide)) rfl (fun _ h => h)
      exact b_1 rfl (dv (a_2 rfl ty_3 (a_7 e0) (hS.bk 4 rfl) rfl) hS rfl)
     refine ⟨fun a w hA hS hd => ?_, ?_⟩
     ·skip
      exact b_1 rfl (dv (a_3 rfl fd_159_0 (hA.ev rfl)) hS rfl)
     refine ⟨fun a w hA hS hd => ?_, ?_⟩
     ·skip
      have e2 := f_2 (hd 2 (by decide)) rfl (fun _ h => h)
      exact b_1 rfl (dv (a_2 rfl ty_154 (a_7 e2) (hS.bk 8 rfl) rfl) hS rfl)
     refine ⟨fun a w hA hS hd => ?_, ?_⟩
     ·skip
      exact b_1 rfl (dv (a_2 rfl ty_3 (hA.ev rfl) (hS.bk 9 rfl) rfl) hS rfl)
     refine ⟨fun a w hA hS hd => ?_, ?_⟩
     ·skip
      exact b_1 rfl (dv (a_3 rfl j_4 (hA.ev rfl)) hS rfl)
     refine ⟨fun a w hA hS hd => ?_, ?_⟩
     ·skip
      have e5 := f_2 (hd 5 (by decide)) rfl (fun _ h => h)
      exact b_1 rfl (dv (a_2 rfl ty_3 (a_7 e5) (hS.bk 4 rfl) rfl) hS rfl)
     refine ⟨fun a w hA hS hd => ?_, ?_⟩
     ·skip
      have e4 := f_2 (hd 4 (by decide)) rfl (fun _ h => h)
      have e6 := f_2 (hd 6 (by decide)) rfl (fun _ h => h)
      exact b_1 rfl (dv (h_9 rfl (a_7 e4) (a_7 e6) (by omega) (by omega)) hS rfl)
     refine ⟨fun a w hA hS hd => ?_, ?_⟩
     ·skip
      exact b_1 rfl (dv (a_3 rfl l_9 (hA.ev rfl)) hS rfl)
     refine ⟨fun a w hA hS hd => ?_, ?_⟩
     ·skip
      have e8 := f_2 (hd 8 (by decide)) rfl (fun _ h => h)
      exact b_1 rfl (dv (a_2 rfl ty_3 (a_7 e8) (hS.bk 3 rfl) rfl) hS rfl)
     refine ⟨fun a w hA hS hd => ?_, ?_⟩
     ·skip
      exact b_1 rfl (dv (a_3 rfl l_9 (hA.ev rfl)) hS rfl)
     refine ⟨fun a w hA hS hd => ?_, ?_⟩
     ·skip
      have CK := f_2 (hd 10 (by decide)) rfl (fun _ h => h)
      exact b_1 rfl (dv (a_2 rfl ty_3 (a_7 CK) (hS.bk 4 rfl) rfl) hS rfl)
     refine ⟨fun a w hA hS hd => ?_, ?_⟩
     ·skip
      have e9 := f_2 (hd 9 (by decide)) rfl (fun _ h => h)
      have CL := f_2 (hd 11 (by decide)) rfl (fun _ h => h)
      exact b_1 rfl (dv (h_9 rfl (a_7 e9) (a_7 CL) (by omega) (by omega)) hS rfl)
     refine ⟨fun a w hA hS hd => ?_, ?_⟩
     ·skip
      have e7 := f_2 (hd 7 (by decide)) rfl (fun _ h => h)
      have CM := f_2 (hd 12 (by decide)) rfl (fun _ h => h)
      exact b_1 rfl (dv (op_mul rfl (a_7 e7) (a_7 CM) (by omega) (by omega)) hS rfl)
     refine ⟨fun a w hA hS hd => ?_, ?_⟩
     ·skip
      exact b_1 rfl (dv (a_3 rfl j_4 (hA.ev rfl)) hS rfl)
     refine ⟨fun a w hA hS hd => ?_, ?_⟩
     ·skip
      have CO := f_2 (hd 14 (by decide)) rfl (fun _ h => h)
      exact b_1 rfl (dv (a_2 rfl ty_3 (a_7 CO) (hS.bk 3 rfl) rfl) hS rfl)
     refine ⟨fun a w hA hS hd => ?_, ?_⟩
     ·skip
      exact b_1 rfl (dv (a_3 rfl j_4 (hA.ev rfl)) hS rfl)
     refine ⟨fun a w hA hS hd => ?_, ?_⟩
     ·skip
      have CQ := f_2 (hd 16 (by decide)) rfl (fun _ h => h)
      exact b_1 rfl (dv (a_2 rfl ty_3 (a_7 CQ) (hS.bk 4 rfl) rfl) hS rfl)
     refine ⟨fun a w hA hS hd => ?_, ?_⟩
     ·skip
      have CP := f_2 (hd 15 (by decide)) rfl (fun _ h => h)
      have CR := f_2 (hd 17 (by decide)) rfl (fun _ h => h)
      exact b_1 rfl (dv (h_9 rfl (a_7 CP) (a_7 CR) (by omega) (by omega)) hS rfl)
     refine ⟨fun a w hA hS hd => ?_, ?_⟩
     ·skip
      have CN := f_2 (hd 13 (by decide)) rfl (fun _ h => h)
      have CS := f_2 (hd 18 (by decide)) rfl (fun _ h => h)
      exact b_1 rfl (dv (e_5 rfl (pv2 (a_7 CN) (a_7 CS)) (bd_157_0i_1i _ _)) hS rfl)
     refine ⟨fun a w hA hS hd => ?_, ?_⟩
     ·skip
      have e3 := f_2 (hd 3 (by decide)) rfl (fun _ h => h)
      have CT := f_2 (hd 19 (by decide)) rfl (fun _ h => h)
      exact b_1 rfl (dx (k_3 rfl (a_7 e3) en_102 (ev1 (a_7 CT)) (down_ok _ _ _ (by omega) (by omega))) hS (fun _ => rfl))
     trivial
    intro Bq Cp AY Am z; clear AX E
    have AZ := AY.add (hz z 1); clear AY
    have V := AZ.add (hz z 20); clear AZ
    clear z
    refine s1 V (f_4 rfl (V.ev rfl) (V.ev rfl) (by omega) (by omega)) fun Br BU => ?_; clear V Bq
    have hvl : ((t.rows.getD (((d_4 t).getD q 0)) (0, 0)).2) + (w_8 ((x - ((t.rows.getD (((d_4 t).getD q 0)) (0, 0)).1)) * (((t.rows.getD (((d_4 t).getD q 0) + 1) (0, 0)).2) - ((t.rows.getD (((d_4 t).getD q 0)) (0, 0)).2))) (((t.rows.getD (((d_4 t).getD q 0) + 1) (0, 0)).1) - ((t.rows.getD (((d_4 t).getD q 0)) (0, 0)).1))) = (e_3 t x).1 := by unfold e_3; rw [made_good (fun i hi => hrw i (by omega)) hq hpc (good_piece hq (by assumption) (by assumption))]; rfl
    have W : Fr 62 [] [(61, (Value.int .i64 ((e_3 t x).1))), (60, (Value.int .i64 (w_8 ((x - ((t.rows.getD (((d_4 t).getD q 0)) (0, 0)).1)) * (((t.rows.getD (((d_4 t).getD q 0) + 1) (0, 0)).2) - ((t.rows.getD (((d_4 t).getD q 0)) (0, 0)).2))) (((t.rows.getD (((d_4 t).getD q 0) + 1) (0, 0)).1) - ((t.rows.getD (((d_4 t).getD q 0)) (0, 0)).1))))), (41, (Value.int .i64 ((t.rows.getD (((d_4 t).getD q 0)) (0, 0)).2))), (11, (bptr J 0)), (10, (bptr F 0)), (7, (bptr C 0)), (6, (bptr B 0)), (5, (bptr A 0)), (4, (bptr D 0))] Br := by rw [← hvl]; exact BU
    refine s7 W (c_2 Am rfl ty_3 (W.ev rfl) (W.ev rfl) (i := 7) rfl (vs := [(Value.int .i64 ((e_3 t x).1))]) rfl rfl rfl (Nat.le_of_ble_eq_true rfl)) ?_
    intro _ Bz An f; clear W
    have Ao : Sep NoB w Bz [(obR M (.loop (rc104 .busy none))), (g_0 (D103 :: [])), G105, (blk J 107 [(Value.int .i64 ((t.rows.getD (((d_4 t).getD q 0) + 1) (0, 0)).1)), (Value.int .i64 ((t.rows.getD (((d_4 t).getD q 0) + 1) (0, 0)).2))]), (blk F 107 [(Value.int .i64 ((t.rows.getD (((d_4 t).getD q 0)) (0, 0)).1)), (Value.int .i64 ((t.rows.getD (((d_4 t).getD q 0)) (0, 0)).2))]), (blk bl93 106 [(Value.int .i64 t.frm), (Value.int .i64 t.dst), vr, vb, (Value.int .i64 t.err)]), (blk C 4 [(Value.bool false)]), (blk B 3 [(Value.int .i64 ((e_3 t x).1))]), (blk A 159 [(Value.func (.func 102) #[] #[])]), (blk D 3 [(Value.int .i64 x)]), (blk I 106 [(Value.int .i64 t.frm), (Value.int .i64 t.dst), vr, vb, (Value.int .i64 t.err)]), (sl vr 2 t.rows.length (pairs t.rows)), (sl vb 1 t.brk.length (ints t.brk))] := An; clear An Am
    refine s7 f (c_2 Ao rfl ty_4 (f.ev rfl) (evc _ _) (i := 6) rfl (vs := [(Value.bool true)]) rfl rfl rfl (Nat.le_of_ble_eq_true rfl)) ?_
    intro _ BT Ap CW; clear f
    have Aq : Sep NoB w BT [(obR M (.loop (rc104 .busy none))), (g_0 (D103 :: [])), G105, (blk J 107 [(Value.int .i64 ((t.rows.getD (((d_4 t).getD q 0) + 1) (0, 0)).1)), (Value.int .i64 ((t.rows.getD (((d_4 t).getD q 0) + 1) (0, 0)).2))]), (blk F 107 [(Value.int .i64 ((t.rows.getD (((d_4 t).getD q 0)) (0, 0)).1)), (Value.int .i64 ((t.rows.getD (((d_4 t).getD q 0)) (0, 0)).2))]), (blk bl93 106 [(Value.int .i64 t.frm), (Value.int .i64 t.dst), vr, vb, (Value.int .i64 t.err)]), (blk C 4 [(Value.bool true)]), (blk B 3 [(Value.int .i64 ((e_3 t x).1))]), (blk A 159 [(Value.func (.func 102) #[] #[])]), (blk D 3 [(Value.int .i64 x)]), (blk I 106 [(Value.int .i64 t.frm), (Value.int .i64 t.dst), vr, vb, (Value.int .i64 t.err)]), (sl vr 2 t.rows.length (pairs t.rows)), (sl vb 1 t.brk.length (ints t.brk))] := Ap; clear Ap Ao
    refine n1 ?_
    refine c_9 ?_
    refine c_6 ?_
    have BW : Sep NoB w BT [(obR M (.loop (rc104 .busy none))), (g_0 (D103 :: [])), G105, (blk bl93 106 [(Value.int .i64 t.frm), (Value.int .i64 t.dst), vr, vb, (Value.int .i64 t.err)]), (blk C 4 [(Value.bool true)]), (blk B 3 [(Value.int .i64 ((e_3 t x).1))]), (blk A 159 [(Value.func (.func 102) #[] #[])]), (blk D 3 [(Value.int .i64 x)]), (blk I 106 [(Value.int .i64 t.frm), (Value.int .i64 t.dst), vr, vb, (Value.int .i64 t.err)]), (sl vr 2 t.rows.length (pairs t.rows)), (sl vb 1 t.brk.length (ints t.brk))] := Aq.keep [0, 1, 2, 5, 6, 7, 8, 9, 10, 11, 12] (by decide) _ rfl rfl; clear Aq
    exact re_ret rfl ⟨_, rfl, ⟨rfl, (by rw [made_good (fun i hi => hrw i (by omega)) hq hpc (good_piece hq (by assumption) (by assumption))]; rfl)⟩⟩ BW
   skip
   rw [decide_eq_false Az] at N
   refine b_7 N rfl ?_
   refine d_0 ?_
   refine h_0 ?_
   have BX : Sep NoB w BS [(obR M (.loop (rc104 .busy none))), (g_0 (D103 :: [])), G105, (blk bl93 106 [(Value.int .i64 t.frm), (Value.int .i64 t.dst), vr, vb, (Value.int .i64 t.err)]), (blk C 4 [(Value.bool false)]), (blk B 3 [(Value.int .i64 0)]), (blk A 159 [(Value.func (.func 102) #[] #[])]), (blk D 3 [(Value.int .i64 x)]), (blk I 106 [(Value.int .i64 t.frm), (Value.int .i64 t.dst), vr, vb, (Value.int .i64 t.err)]), (sl vr 2 t.rows.length (pairs t.rows)), (sl vb 1 t.brk.length (ints t.brk))] := E.keep [0, 1, 2, 5, 6, 7, 8, 9, 10, 11, 12] (by decide) _ rfl rfl; clear E
   exact re_n ⟨_, rfl, ⟨rfl, (fun j hj => by rcases Nat.lt_succ_iff_lt_or_eq.1 hj with h | h; exact hpc j h; subst h; first | exact m_1 (.inl (by assumption)) | exact m_1 (.inr (.inl (by assumption))))⟩⟩ BX
  skip
  rw [decide_eq_false Ay] at K
  refine s3 K fun Bs Aa => ?_; clear K A0
  refine s3 Aa fun Bt Ab => ?_; clear Aa Bs
  refine s3 Ab fun Bu Ac => ?_; clear Ab Bt
  refine s3 Ac fun Bv g => ?_; clear Ac Bu
  refine s1 g (d_3 rfl (g.ev rfl) (evc _ _)) fun Ca BV => ?_; clear g Bv
  refine n1 ?_
  refine b_7 BV rfl ?_
  refine d_0 ?_
  refine h_0 ?_
  have BY : Sep NoB w BS [(obR M (.loop (rc104 .busy none))), (g_0 (D103 :: [])), G105, (blk bl93 106 [(Value.int .i64 t.frm), (Value.int .i64 t.dst), vr, vb, (Value.int .i64 t.err)]), (blk C 4 [(Value.bool false)]), (blk B 3 [(Value.int .i64 0)]), (blk A 159 [(Value.func (.func 102) #[] #[])]), (blk D 3 [(Value.int .i64 x)]), (blk I 106 [(Value.int .i64 t.frm), (Value.int .i64 t.dst), vr, vb, (Value.int .i64 t.err)]), (sl vr 2 t.rows.length (pairs t.rows)), (sl vb 1 t.brk.length (ints t.brk))] := E.keep [0, 1, 2, 5, 6, 7, 8, 9, 10, 11, 12] (by decide) _ rfl rfl; clear E
  exact re_n ⟨_, rfl, ⟨rfl, (fun j hj => by rcases Nat.lt_succ_iff_lt_or_eq.1 hj with h | h; exact hpc j h; subst h; first | exact m_1 (.inl (by assumption)) | exact m_1 (.inr (.inl (by assumption))))⟩⟩ BY
 ·skip
  intro L_ hL_ D188 Cb Cq m Ar; obtain ⟨rfl, hpc⟩ := hL_; clear X AD
  refine h_0 ?_
  refine b_0 ?_
  refine m2 ?_
  refine s7 m (c_2 Ar rfl ty_3 (m.ev rfl) (evc _ _) (i := 4) rfl (vs := [(Value.int .i64 0)]) rfl rfl rfl (Nat.le_of_ble_eq_true rfl)) ?_
  intro _ B0 As o; clear m
  have At : Sep NoB w B0 [(g_0 (D188 :: [])), nilR, (blk bl93 106 [(Value.int .i64 t.frm), (Value.int .i64 t.dst), vr, vb, (Value.int .i64 t.err)]), (blk C 4 [(Value.bool false)]), (blk B 3 [(Value.int .i64 0)]), (blk A 159 [(Value.func (.func 102) #[] #[])]), (blk D 3 [(Value.int .i64 x)]), (blk I 106 [(Value.int .i64 t.frm), (Value.int .i64 t.dst), vr, vb, (Value.int .i64 t.err)]), (sl vr 2 t.rows.length (pairs t.rows)), (sl vb 1 t.brk.length (ints t.brk))] := As; clear As Ar
  refine s7 o (c_2 At rfl ty_4 (o.ev rfl) (evc _ _) (i := 3) rfl (vs := [(Value.bool false)]) rfl rfl rfl (Nat.le_of_ble_eq_true rfl)) ?_
  intro _ B1 Au Ad; clear o
  have Av : Sep NoB w B1 [(g_0 (D188 :: [])), nilR, (blk bl93 106 [(Value.int .i64 t.frm), (Value.int .i64 t.dst), vr, vb, (Value.int .i64 t.err)]), (blk C 4 [(Value.bool false)]), (blk B 3 [(Value.int .i64 0)]), (blk A 159 [(Value.func (.func 102) #[] #[])]), (blk D 3 [(Value.int .i64 x)]), (blk I 106 [(Value.int .i64 t.frm), (Value.int .i64 t.dst), vr, vb, (Value.int .i64 t.err)]), (sl vr 2 t.rows.length (pairs t.rows)), (sl vb 1 t.brk.length (ints t.brk))] := Au; clear Au At
  refine n1 ?_
  refine c_9 ?_
  refine fin_runM Ad (.inl rfl) Av ?_
  intro Cr AA; clear Av
  refine ⟨_, (d_2 Ad rfl (.cell1 rfl ty_3 (AA.bk 3 rfl) rfl) (.cell1 rfl ty_4 (AA.bk 2 rfl) rfl)), ?_⟩
  have hz := (made_goodno (fun i hi => hrw i (by omega)) (fun i hi => hpc i (by omega)))
  exact ⟨by unfold e_3; rw [hz]; rfl, AA.ext⟩
 skip
 intro c_ hc_; cases hc_
 intro L_ hL_ D203 Cc Cs Ae Aw; obtain ⟨rfl, hsm⟩ := hL_; clear X AD
 refine c_9 ?_
 refine c_6 ?_
 refine a_6 ?_
 refine fin_runM Ae (.inl rfl) Aw ?_
 intro Ct AB; clear Aw
 refine ⟨_, (d_2 Ae rfl (.cell1 rfl ty_3 (AB.bk 3 rfl) rfl) (.cell1 rfl ty_4 (AB.bk 2 rfl) rfl)), ?_⟩
 exact ⟨by rw [hsm], AB.ext⟩
theorem makes_up (t : TabD) (vr vb : Value) (w : World) (hr : SlAt w vr 2 t.rows.length (pairs t.rows)) (hb : SlAt w vb 1 t.brk.length (ints t.brk)) (hrl : t.rows.length ≤ 1000000) (hbl : t.brk.length ≤ 1000000) (n : Int) (hV : TabV n t) (x : Int) :
  Calls Try.prog 101 #[(Value.agg #[(Value.int .i64 t.frm), (Value.int .i64 t.dst), vr, vb, (Value.int .i64 t.err)]), (Value.int .i64 x), (Value.agg #[(Value.func (.func 103) #[] #[])])] w (Ret fun v w' => v = .tuple #[.int .i64 (e_3 t x).2, .bool (r_8 t x).isSome] ∧ Ext NoB w w') := by
 refine calls_enterM Try.func101 rfl fun a0 AF => ?_
 replace AF : Fr 62 (marks []) [(0, (Value.agg #[(Value.int .i64 t.frm), (Value.int .i64 t.dst), vr, vb, (Value.int .i64 t.err)])), (1, (Value.int .i64 x)), (2, (Value.agg #[(Value.func (.func 103) #[] #[])]))] a0 := AF
 have Bc : Sep NoB w w [(g_0 []), (sl vr 2 t.rows.length (pairs t.rows)), (sl vb 1 t.brk.length (ints t.brk))] := sep_marks (f_1 ⟨rfl, hr, rfl, hb, trivial⟩)
 refine m2 ?_
 refine s2 AF (f_0 Bc rfl (AF.ev rfl) (cs := [(Value.int .i64 t.frm), (Value.int .i64 t.dst), vr, vb, (Value.int .i64 t.err)]) rfl) ?_
 rintro a1 _ w3 ⟨I, rfl, Bd⟩ A3; clear AF Bc a0
 refine s2 A3 (f_0 Bd rfl (A3.ev rfl) (cs := [(Value.int .i64 x)]) rfl) ?_
 rintro a6 _ w8 ⟨D, rfl, BB⟩ A8; clear A3 Bd a1
 refine s2 A8 (f_0 BB rfl (A8.ev rfl) (cs := [(Value.func (.func 103) #[] #[])]) rfl) ?_
 rintro B3 _ Cx ⟨A, rfl, BC⟩ A1; clear A8 BB a6
 refine s2 A1 (e_4 BC rfl ze_3 (cs := [(Value.int .i64 0)]) rfl) ?_
 rintro B4 _ Cy ⟨B, rfl, BD⟩ A2; clear A1 BC B3
 refine s2 A2 (e_4 BD rfl ze_4 (cs := [(Value.bool false)]) rfl) ?_
 rintro B5 _ Cz ⟨C, rfl, AC⟩ AG; clear A2 BD B4
 refine n2 ?_
 refine m2 ?_
 refine s1 AG (a_3 rfl j_3 (AG.ev rfl)) fun B6 AH => ?_; clear AG B5
 refine s1 AH (a_2 rfl n_9 (AH.ev rfl) (AC.bk 4 rfl) rfl) fun B7 AI => ?_; clear AH B6
 refine s1 AI (d_6 rfl k_4 (AI.ev rfl) (AC.sk 6 rfl)) fun B8 A4 => ?_; clear AI B7
 refine s1 A4 (a_1 rfl (evc _ _)) fun B9 A5 => ?_; clear A4 B8
 refine n1 ?_
 refine c_7 ?_
 have A6 := A5.as [(15, (Value.int .i64 0)), (14, (Value.int .i64 (t.rows.length : Int))), (13, vr), (7, (bptr C 0)), (6, (bptr B 0)), (5, (bptr A 0)), (4, (bptr D 0)), (3, (bptr I 0))] rfl; clear A5
 refine h_3 (G := Nat) (fun (k : Nat) a_ w_ => Fr 62 (marks []) [(15, (Value.int .i64 (k : Int))), (14, (Value.int .i64 (t.rows.length : Int))), (13, vr), (7, (bptr C 0)), (6, (bptr B 0)), (5, (bptr A 0)), (4, (bptr D 0)), (3, (bptr I 0))] a_ ∧ Sep NoB w w_ [(blk C 4 [(Value.bool false)]), (blk B 3 [(Value.int .i64 0)]), (blk A 159 [(Value.func (.func 103) #[] #[])]), (blk D 3 [(Value.int .i64 x)]), (blk I 106 [(Value.int .i64 t.frm), (Value.int .i64 t.dst), vr, vb, (Value.int .i64 t.err)]), (g_0 []), (sl vr 2 t.rows.length (pairs t.rows)), (sl vb 1 t.brk.length (ints t.brk))] ∧ (k ≤ t.rows.length) ∧ (∀ i, i < k → ¬ tx t i = x)) (fun k => t.rows.length - k) 0 ⟨A6.as _ rfl, AC, by omega, (fun _ h => absurd h (Nat.not_lt_zero _))⟩ ?_
 clear A6 AC B9
 rintro k CA C0 ⟨p, O, hkk, hrw⟩
 refine m2 ?_
 refine s1 p (f_8 rfl (p.ev rfl) (p.ev rfl)) fun BZ H => ?_; clear p CA
 refine n2 ?_
 by_cases BP : (k : Int) < (t.rows.length : Int)
 ·skip
  rw [decide_eq_true BP] at H
  refine c_3 H rfl ?_
  refine d_0 ?_
  refine b_0 ?_
  refine b_8 ?_
  refine c_7 ?_
  refine m2 ?_
  refine s1 H (b_3 rfl k_4 i_6 (H.ev rfl) (i := k) (H.ev rfl) (O.sk 6 rfl) (by decide) (by omega)) fun CB AJ => ?_; clear H BZ
  refine s1 AJ (e_7 rfl i_6 (AJ.ev rfl) (O.sk 6 rfl) (g_9 (by omega)) rfl (by decide)) fun CC A7 => ?_; clear AJ CB
  refine s2 A7 (e_4 O rfl y_6 (cs := [(Value.int .i64 0), (Value.int .i64 0)]) rfl) ?_
  rintro CD _ C1 ⟨AE, rfl, BE⟩ s; clear A7 O CC
  refine s7 s (c_2 BE rfl i_6 (s.ev rfl) (s.ev rfl) (i := 0) rfl (vs := [(Value.int .i64 ((t.rows.getD k (0, 0)).1)), (Value.int .i64 ((t.rows.getD k (0, 0)).2))]) rfl rfl rfl (Nat.le_of_ble_eq_true rfl)) ?_
  intro _ Be BF AK; clear s
  have P : Sep NoB w Be [(blk AE 107 [(Value.int .i64 ((t.rows.getD k (0, 0)).1)), (Value.int .i64 ((t.rows.getD k (0, 0)).2))]), (blk C 4 [(Value.bool false)]), (blk B 3 [(Value.int .i64 0)]), (blk A 159 [(Value.func (.func 103) #[] #[])]), (blk D 3 [(Value.int .i64 x)]), (blk I 106 [(Value.int .i64 t.frm), (Value.int .i64 t.dst), vr, vb, (Value.int .i64 t.err)]), (g_0 []), (sl vr 2 t.rows.length (pairs t.rows)), (sl vb 1 t.brk.length (ints t.brk))] := BF; clear BF BE
  refine n4 ?_
  refine s1 AK (a_3 rfl j_4 (AK.ev rfl)) fun CE AL => ?_; clear AK CD
  refine s1 AL (a_2 rfl ty_3 (AL.ev rfl) (P.bk 0 rfl) rfl) fun CF AM => ?_; clear AL CE
  refine s1 AM (a_2 rfl ty_3 (AM.ev rfl) (P.bk 4 rfl) rfl) fun CG u => ?_; clear AM CF
  refine s1 u (n_7 rfl (u.ev rfl) (u.ev rfl)) fun Ba L => ?_; clear u CG
  refine n1 ?_
  by_cases BQ : ((t.rows.getD k (0, 0)).1) = x
  ·skip
   rw [decide_eq_true BQ] at L
   refine c_3 L rfl ?_
   refine b_8 ?_
   have AN := L.as [(9, (bptr AE 0)), (7, (bptr C 0)), (6, (bptr B 0))] rfl; clear L
   refine a_5 ?_
   refine s1 AN (a_3 rfl l_9 (AN.ev rfl)) fun CH AO => ?_; clear AN Ba
   refine s1 AO (a_2 rfl ty_3 (AO.ev rfl) (P.bk 0 rfl) rfl) fun Cu y => ?_; clear AO CH
   refine s7 y (c_2 P rfl ty_3 (y.ev rfl) (y.ev rfl) (i := 2) rfl (vs := [(Value.int .i64 ((t.rows.getD k (0, 0)).2))]) rfl rfl rfl (Nat.le_of_ble_eq_true rfl)) ?_
   intro _ CU BG AP; clear y
   have BH : Sep NoB w CU [(blk AE 107 [(Value.int .i64 ((t.rows.getD k (0, 0)).1)), (Value.int .i64 ((t.rows.getD k (0, 0)).2))]), (blk C 4 [(Value.bool false)]), (blk B 3 [(Value.int .i64 ((t.rows.getD k (0, 0)).2))]), (blk A 159 [(Value.func (.func 103) #[] #[])]), (blk D 3 [(Value.int .i64 x)]), (blk I 106 [(Value.int .i64 t.frm), (Value.int .i64 t.dst), vr, vb, (Value.int .i64 t.err)]), (g_0 []), (sl vr 2 t.rows.length (pairs t.rows)), (sl vb 1 t.brk.length (ints t.brk))] := BG; clear BG P
   refine s7 AP (c_2 BH rfl ty_4 (AP.ev rfl) (evc _ _) (i := 1) rfl (vs := [(Value.bool true)]) rfl rfl rfl (Nat.le_of_ble_eq_true rfl)) ?_
   intro _ Bf BI A9; clear AP
   have BJ : Sep NoB w Bf [(blk AE 107 [(Value.int .i64 ((t.rows.getD k (0, 0)).1)), (Value.int .i64 ((t.rows.getD k (0, 0)).2))]), (blk C 4 [(Value.bool true)]), (blk B 3 [(Value.int .i64 ((t.rows.getD k (0, 0)).2))]), (blk A 159 [(Value.func (.func 103) #[] #[])]), (blk D 3 [(Value.int .i64 x)]), (blk I 106 [(Value.int .i64 t.frm), (Value.int .i64 t.dst), vr, vb, (Value.int .i64 t.err)]), (g_0 []), (sl vr 2 t.rows.length (pairs t.rows)), (sl vb 1 t.brk.length (ints t.brk))] := BI; clear BI BH
   refine n1 ?_
   refine c_9 ?_
   refine c_6 ?_
   refine a_6 ?_
   refine a_6 ?_
   refine c_6 ?_
   refine a_6 ?_
   have BK : Sep NoB w Bf [(g_0 []), (blk AE 107 [(Value.int .i64 ((t.rows.getD k (0, 0)).1)), (Value.int .i64 ((t.rows.getD k (0, 0)).2))]), (blk C 4 [(Value.bool true)]), (blk B 3 [(Value.int .i64 ((t.rows.getD k (0, 0)).2))]), (blk A 159 [(Value.func (.func 103) #[] #[])]), (blk D 3 [(Value.int .i64 x)]), (blk I 106 [(Value.int .i64 t.frm), (Value.int .i64 t.dst), vr, vb, (Value.int .i64 t.err)]), (sl vr 2 t.rows.length (pairs t.rows)), (sl vb 1 t.brk.length (ints t.brk))] := BJ.keep [6, 0, 1, 2, 3, 4, 5, 7, 8] (by decide) _ rfl rfl; clear BJ
   refine fin_runM A9 (.inl rfl) BK ?_
   intro C2 AT; clear BK
   refine ⟨_, (d_2 A9 rfl (.cell1 rfl ty_3 (AT.bk 2 rfl) rfl) (.cell1 rfl ty_4 (AT.bk 1 rfl) rfl)), ?_⟩
   have hz := (made_row (k := k) (by omega) (fun i hi => hrw i (by omega)) (by assumption))
   exact ⟨by unfold e_3; rw [hz]; rfl, AT.ext⟩
  skip
  rw [decide_eq_false BQ] at L
  refine b_7 L rfl ?_
  refine d_0 ?_
  refine h_0 ?_
  refine b_0 ?_
  have AQ := L.as [(15, (Value.int .i64 (k : Int))), (14, (Value.int .i64 (t.rows.length : Int))), (13, vr), (7, (bptr C 0)), (6, (bptr B 0)), (5, (bptr A 0)), (4, (bptr D 0)), (3, (bptr I 0))] rfl; clear L
  refine a_5 ?_
  refine s1 AQ (f_4 rfl (AQ.ev rfl) (evc _ _) (by omega) (by omega)) fun CI AR => ?_; clear AQ Ba
  refine s1 AR (a_1 rfl (AR.ev rfl)) fun Cv Bw => ?_; clear AR CI
  refine e_9 ?_
  have Bx : Sep NoB w Be [(blk C 4 [(Value.bool false)]), (blk B 3 [(Value.int .i64 0)]), (blk A 159 [(Value.func (.func 103) #[] #[])]), (blk D 3 [(Value.int .i64 x)]), (blk I 106 [(Value.int .i64 t.frm), (Value.int .i64 t.dst), vr, vb, (Value.int .i64 t.err)]), (g_0 []), (sl vr 2 t.rows.length (pairs t.rows)), (sl vb 1 t.brk.length (ints t.brk))] := P.keep [1, 2, 3, 4, 5, 6, 7, 8] (by decide) _ rfl rfl; clear P
  exact b_0 ⟨k + 1, ⟨Bw.as _ rfl, Bx, by omega, (fun i hi => by rcases Nat.lt_succ_iff_lt_or_eq.1 hi with h | h; exact hrw i h; subst h; assumption)⟩, by omega⟩
 skip
 rw [decide_eq_false BP] at H
 refine b_7 H rfl ?_
 refine g_8 ?_
 refine b_6 ?_
 refine b_6 ?_
 refine f_5 ?_
 refine b_0 ?_
 refine b_8 ?_
 refine m2 ?_
 refine s1 H (c_5 rfl l_3 (H.ev rfl) (O.bk 4 rfl) (l := [(Value.int .i64 t.frm), (Value.int .i64 t.dst), vr, vb, (Value.int .i64 t.err)]) rfl rfl) fun CJ AS => ?_; clear H BZ
 refine s2 AS (b_4 rfl en_116 (ev1 (AS.ev rfl)) (pieces_ok t vr vb _ hr.one hb.one)) ?_
 rintro Cw _ CV ⟨bl93, rfl, BO⟩ BA; have BL := O.w_7 BO rfl; clear BO AS O CJ
 refine n1 ?_
 refine c_7 ?_
 have X := BA.as [(27, (Value.func (.func 121) #[] #[(bptr bl93 0)])), (7, (bptr C 0)), (6, (bptr B 0)), (5, (bptr A 0)), (4, (bptr D 0))] rfl; clear BA
 have BM := BL.nilR; clear BL
 have AD : Sep NoB w CV [(g_0 []), nilR, (blk bl93 106 [(Value.int .i64 t.frm), (Value.int .i64 t.dst), vr, vb, (Value.int .i64 t.err)]), (blk C 4 [(Value.bool false)]), (blk B 3 [(Value.int .i64 0)]), (blk A 159 [(Value.func (.func 103) #[] #[])]), (blk D 3 [(Value.int .i64 x)]), (blk I 106 [(Value.int .i64 t.frm), (Value.int .i64 t.dst), vr, vb, (Value.int .i64 t.err)]), (sl vr 2 t.rows.length (pairs t.rows)), (sl vb 1 t.brk.length (ints t.brk))] := BM.keep [7, 0, 1, 2, 3, 4, 5, 6, 8, 9] (by decide) _ rfl rfl; clear BM
 refine c_rangeG X nilR rfl AD (X.ev rfl) en_121 ((d_4 t).length) (fun q => #[.agg #[.int .i64 (t.rows.getD ((d_4 t).getD q 0) (0, 0)).1, .int .i64 (t.rows.getD ((d_4 t).getD q 0) (0, 0)).2], .agg #[.int .i64 (t.rows.getD ((d_4 t).getD q 0 + 1) (0, 0)).1, .int .i64 (t.rows.getD ((d_4 t).getD q 0 + 1) (0, 0)).2]]) (fun _ => rfl) [rob bl93 106 [.int .i64 t.frm, .int .i64 t.dst, vr, vb, .int .i64 t.err], sl vr 2 t.rows.length (pairs t.rows), sl vb 1 t.brk.length (ints t.brk)] (fun r hr => by simp only [List.mem_cons, List.not_mem_nil, or_false] at hr; rcases hr with rfl | rfl | rfl <;> rfl) (pieces_it bl93 t vr vb hV.len hrl hbl) (fun q L_ => L_ = [(blk bl93 106 [(Value.int .i64 t.frm), (Value.int .i64 t.dst), vr, vb, (Value.int .i64 t.err)]), (blk C 4 [(Value.bool false)]), (blk B 3 [(Value.int .i64 0)]), (blk A 159 [(Value.func (.func 103) #[] #[])]), (blk D 3 [(Value.int .i64 x)]), (blk I 106 [(Value.int .i64 t.frm), (Value.int .i64 t.dst), vr, vb, (Value.int .i64 t.err)]), (sl vr 2 t.rows.length (pairs t.rows)), (sl vb 1 t.brk.length (ints t.brk))] ∧ (∀ j, j < q → m_0 t x ((d_4 t).getD j 0) = false)) (fun L_ => L_ = [(blk bl93 106 [(Value.int .i64 t.frm), (Value.int .i64 t.dst), vr, vb, (Value.int .i64 t.err)]), (blk C 4 [(Value.bool true)]), (blk B 3 [(Value.int .i64 ((e_3 t x).2))]), (blk A 159 [(Value.func (.func 103) #[] #[])]), (blk D 3 [(Value.int .i64 x)]), (blk I 106 [(Value.int .i64 t.frm), (Value.int .i64 t.dst), vr, vb, (Value.int .i64 t.err)]), (sl vr 2 t.rows.length (pairs t.rows)), (sl vb 1 t.brk.length (ints t.brk))] ∧ ((r_8 t x).isSome = true)) (some .ret) ⟨rfl, (fun _ h => absurd h (Nat.not_lt_zero _))⟩ (fun q L_ hI_ G_ W_ r1_ r2_ hW_ => by obtain ⟨rfl, hpc⟩ := hI_; exact (Sep.keep (hW_.to_ro (i := 3) rfl) [2, 3, 9, 10] (by decide) _ rfl rfl)) (fun L_ hI_ G_ W_ r1_ r2_ hW_ => by obtain ⟨rfl, hsm⟩ := hI_; exact (Sep.keep (hW_.to_ro (i := 3) rfl) [2, 3, 9, 10] (by decide) _ rfl rfl)) ?_ ?_ ?_
 ·skip
  intro q hq L_ hL_ G105 CX M D103 rc104 Bb C3 Ax BN; obtain ⟨rfl, hpc⟩ := hL_
  have AU : Fr 62 [] [(29, (Value.agg #[(Value.int .i64 ((t.rows.getD (((d_4 t).getD q 0) + 1) (0, 0)).1)), (Value.int .i64 ((t.rows.getD (((d_4 t).getD q 0) + 1) (0, 0)).2))])), (28, (Value.agg #[(Value.int .i64 ((t.rows.getD (((d_4 t).getD q 0)) (0, 0)).1)), (Value.int .i64 ((t.rows.getD (((d_4 t).getD q 0)) (0, 0)).2))])), (27, (Value.func (.func 121) #[] #[(bptr bl93 0)])), (7, (bptr C 0)), (6, (bptr B 0)), (5, (bptr A 0)), (4, (bptr D 0))] Bb := by rw [Ax]; exact Fr.round2 X (by decide) (by decide)
  clear Ax AD
  have hgq : ((d_4 t).getD q 0) < t.rows.length - 1 := (good_mem hq).1; have hbn := hV.bnd _ (show ((d_4 t).getD q 0) < t.rows.length by omega); have hbn1 := hV.bnd (((d_4 t).getD q 0) + 1) (by omega); unfold tx ty at hbn hbn1
  refine m2 ?_
  refine s2 AU (e_4 BN rfl y_6 (cs := [(Value.int .i64 0), (Value.int .i64 0)]) rfl) ?_
  rintro Bg _ Cn ⟨F, rfl, Af⟩ Q; clear AU BN Bb
  refine s7 Q (c_2 Af rfl i_6 (Q.ev rfl) (Q.ev rfl) (i := 0) rfl (vs := [(Value.int .i64 ((t.rows.getD (((d_4 t).getD q 0)) (0, 0)).1)), (Value.int .i64 ((t.rows.getD (((d_4 t).getD q 0)) (0, 0)).2))]) rfl rfl rfl (Nat.le_of_ble_eq_true rfl)) ?_
  intro _ By Ag AV; clear Q
  have Ah : Sep NoB w By [(blk F 107 [(Value.int .i64 ((t.rows.getD (((d_4 t).getD q 0)) (0, 0)).1)), (Value.int .i64 ((t.rows.getD (((d_4 t).getD q 0)) (0, 0)).2))]), (obR M (.loop (rc104 .ready none))), (g_0 (D103 :: [])), G105, (blk bl93 106 [(Value.int .i64 t.frm), (Value.int .i64 t.dst), vr, vb, (Value.int .i64 t.err)]), (blk C 4 [(Value.bool false)]), (blk B 3 [(Value.int .i64 0)]), (blk A 159 [(Value.func (.func 103) #[] #[])]), (blk D 3 [(Value.int .i64 x)]), (blk I 106 [(Value.int .i64 t.frm), (Value.int .i64 t.dst), vr, vb, (Value.int .i64 t.err)]), (sl vr 2 t.rows.length (pairs t.rows)), (sl vb 1 t.brk.length (ints t.brk))] := Ag; clear Ag Af
  refine n3 ?_
  refine s2 AV (e_4 Ah rfl y_6 (cs := [(Value.int .i64 0), (Value.int .i64 0)]) rfl) ?_
  rintro Bh _ Co ⟨J, rfl, Ai⟩ R; clear AV Ah Bg
  refine s7 R (c_2 Ai rfl i_6 (R.ev rfl) (R.ev rfl) (i := 0) rfl (vs := [(Value.int .i64 ((t.rows.getD (((d_4 t).getD q 0) + 1) (0, 0)).1)), (Value.int .i64 ((t.rows.getD (((d_4 t).getD q 0) + 1) (0, 0)).2))]) rfl rfl rfl (Nat.le_of_ble_eq_true rfl)) ?_
  intro _ BR Aj Y; clear R
  have Ak : Sep NoB w BR [(blk J 107 [(Value.int .i64 ((t.rows.getD (((d_4 t).getD q 0) + 1) (0, 0)).1)), (Value.int .i64 ((t.rows.getD (((d_4 t).getD q 0) + 1) (0, 0)).2))]), (blk F 107 [(Value.int .i64 ((t.rows.getD (((d_4 t).getD q 0)) (0, 0)).1)), (Value.int .i64 ((t.rows.getD (((d_4 t).getD q 0)) (0, 0)).2))]), (obR M (.loop (rc104 .ready none))), (g_0 (D103 :: [])), G105, (blk bl93 106 [(Value.int .i64 t.frm), (Value.int .i64 t.dst), vr, vb, (Value.int .i64 t.err)]), (blk C 4 [(Value.bool false)]), (blk B 3 [(Value.int .i64 0)]), (blk A 159 [(Value.func (.func 103) #[] #[])]), (blk D 3 [(Value.int .i64 x)]), (blk I 106 [(Value.int .i64 t.frm), (Value.int .i64 t.dst), vr, vb, (Value.int .i64 t.err)]), (sl vr 2 t.rows.length (pairs t.rows)), (sl vb 1 t.brk.length (ints t.brk))] := Aj; clear Aj Ai
  refine e_9 ?_
  have Al : Sep NoB w BR [(obR M (.loop (rc104 .ready none))), (g_0 (D103 :: [])), G105, (blk J 107 [(Value.int .i64 ((t.rows.getD (((d_4 t).getD q 0) + 1) (0, 0)).1)), (Value.int .i64 ((t.rows.getD (((d_4 t).getD q 0) + 1) (0, 0)).2))]), (blk F 107 [(Value.int .i64 ((t.rows.getD (((d_4 t).getD q 0)) (0, 0)).1)), (Value.int .i64 ((t.rows.getD (((d_4 t).getD q 0)) (0, 0)).2))]), (blk bl93 106 [(Value.int .i64 t.frm), (Value.int .i64 t.dst), vr, vb, (Value.int .i64 t.err)]), (blk C 4 [(Value.bool false)]), (blk B 3 [(Value.int .i64 0)]), (blk A 159 [(Value.func (.func 103) #[] #[])]), (blk D 3 [(Value.int .i64 x)]), (blk I 106 [(Value.int .i64 t.frm), (Value.int .i64 t.dst), vr, vb, (Value.int .i64 t.err)]), (sl vr 2 t.rows.length (pairs t.rows)), (sl vb 1 t.brk.length (ints t.brk))] := Ak.keep [2, 3, 4, 0, 1, 5, 6, 7, 8, 9, 10, 11, 12] (by decide) _ rfl rfl; clear Ak
  refine ⟨rfl, _, Al, ?_⟩; intro BS E; clear Al
  refine c_7 ?_
  refine m2 ?_
  refine s1 Y (a_3 rfl j_4 (Y.ev rfl)) fun Bi Z => ?_; clear Y Bh
  refine s1 Z (a_2 rfl ty_3 (Z.ev rfl) (E.bk 4 rfl) rfl) fun Bj b => ?_; clear Z Bi
  refine s1 b (a_2 rfl ty_3 (b.ev rfl) (E.bk 9 rfl) rfl) fun Bk S => ?_; clear b Bj
  refine s1 S (f_8 rfl (S.ev rfl) (S.ev rfl)) fun Bl c => ?_; clear S Bk
  refine s1 c (a_1 rfl (c.ev rfl)) fun A0 K => ?_; clear c Bl
  by_cases Ay : ((t.rows.getD (((d_4 t).getD q 0)) (0, 0)).1) < x
  ·skip
   rw [decide_eq_true Ay] at K
   refine s5 K (a_2 rfl ty_3 (K.ev rfl) (E.bk 9 rfl) rfl) fun Bm d => ?_; clear K A0
   refine s5 d (a_3 rfl j_4 (d.ev rfl)) fun Bn e => ?_; clear d Bm
   refine s5 e (a_2 rfl ty_3 (e.ev rfl) (E.bk 3 rfl) rfl) fun Bo T => ?_; clear e Bn
   refine s5 T (f_8 rfl (T.ev rfl) (T.ev rfl)) fun Bp U => ?_; clear T Bo
   refine s1 U (b_9 rfl (U.ev rfl) (U.ev rfl)) fun CZ N => ?_; clear U Bp
   refine n1 ?_
   by_cases Az : x < ((t.rows.getD (((d_4 t).getD q 0) + 1) (0, 0)).1)
   ·skip
    rw [decide_eq_true Az] at N
    have hpb := piece_bds (v := x) (k := ((d_4 t).getD q 0)) hV (by omega) (by unfold tx; omega) (by unfold tx; omega); unfold pieceN pieceD tx ty at hpb; have hdb := downF_bd hpb.1 hpb.2; have hub := upF_bd hpb.1 hpb.2
    refine c_3 N rfl ?_
    refine b_8 ?_
    have AW := N.as [(11, (bptr J 0)), (10, (bptr F 0)), (7, (bptr C 0)), (6, (bptr B 0)), (5, (bptr A 0)), (4, (bptr D 0))] rfl; clear N
    have AX := AW.as [(11, (bptr J 0)), (10, (bptr F 0)), (7, (bptr C 0)), (6, (bptr B 0)), (5, (bptr A 0)), (4, (bptr D 0))] rfl; clear AW
    refine g_3 mixed AX E 21 [[], [0], [], [2], [], [], [5], [4, 6], [], [8], [], [10], [9, 11], [7, 12], [], [14], [], [16], [15, 17], [13, 18], [3, 19]] [(Yd.val (bptr F 1)), (Yd.val (Value.int .i64 ((t.rows.getD (((d_4 t).getD q 0)) (0, 0)).2))), (Yd.val (bptr A 0)), (Yd.val (Value.func (.func 103) #[] #[])), (Yd.val (Value.int .i64 x)), (Yd.val (bptr F 0)), (Yd.val (Value.int .i64 ((t.rows.getD (((d_4 t).getD q 0)) (0, 0)).1))), (Yd.val (Value.int .i64 (x - ((t.rows.getD (((d_4 t).getD q 0)) (0, 0)).1)))), (Yd.val (bptr J 1)), (Yd.val (Value.int .i64 ((t.rows.getD (((d_4 t).getD q 0) + 1) (0, 0)).2))), (Yd.val (bptr F 1)), (Yd.val (Value.int .i64 ((t.rows.getD (((d_4 t).getD q 0)) (0, 0)).2))), (Yd.val (Value.int .i64 (((t.rows.getD (((d_4 t).getD q 0) + 1) (0, 0)).2) - ((t.rows.getD (((d_4 t).getD q 0)) (0, 0)).2)))), (Yd.val (Value.int .i64 ((x - ((t.rows.getD (((d_4 t).getD q 0)) (0, 0)).1)) * (((t.rows.getD (((d_4 t).getD q 0) + 1) (0, 0)).2) - ((t.rows.getD (((d_4 t).getD q 0)) (0, 0)).2))))), (Yd.val (bptr J 0)), (Yd.val (Value.int .i64 ((t.rows.getD (((d_4 t).getD q 0) + 1) (0, 0)).1))), (Yd.val (bptr F 0)), (Yd.val (Value.int .i64 ((t.rows.getD (((d_4 t).getD q 0)) (0, 0)).1))), (Yd.val (Value.int .i64 (((t.rows.getD (((d_4 t).getD q 0) + 1) (0, 0)).1) - ((t.rows.getD (((d_4 t).getD q 0)) (0, 0)).1)))), (Yd.val (Value.agg #[(Value.int .i64 ((x - ((t.rows.getD (((d_4 t).getD q 0)) (0, 0)).1)) * (((t.rows.getD (((d_4 t).getD q 0) + 1) (0, 0)).2) - ((t.rows.getD (((d_4 t).getD q 0)) (0, 0)).2)))), (Value.int .i64 (((t.rows.getD (((d_4 t).getD q 0) + 1) (0, 0)).1) - ((t.rows.getD (((d_4 t).getD q 0)) (0, 0)).1)))])), (Yd.val (Value.int .i64 (upF ((x - ((t.rows.getD (((d_4 t).getD q 0)) (0, 0)).1)) * (((t.rows.getD (((d_4 t).getD q 0) + 1) (0, 0)).2) - ((t.rows.getD (((d_4 t).getD q 0)) (0, 0)).2))) (((t.rows.getD (((d_4 t).getD q 0) + 1) (0, 0)).1) - ((t.rows.getD (((d_4 t).getD q 0)) (0, 0)).1)))))] (by decide +kernel) rfl rfl ?_ ?_
    ·skip
     refine ⟨fun a w hA hS hd => ?_, ?_⟩
     ·skip
      exact b_1 rfl (dv (a_3 rfl l_9 (hA.ev rfl)) hS rfl)
     refine ⟨fun a w hA hS hd => ?_, ?_⟩
     ·skip
      have e0 := f_2 (hd 0 (by decide)) rfl (fun _ h => h)
      exact b_1 rfl (dv (a_2 rfl ty_3 (a_7 e0) (hS.bk 4 rfl) rfl) hS rfl)
     refine ⟨fun a w hA hS hd => ?_, ?_⟩
     ·skip
      exact b_1 rfl (dv (a_3 rfl fd_159_0 (hA.ev rfl)) hS rfl)
     refine ⟨fun a w hA hS hd => ?_, ?_⟩
     ·skip
      have e2 := f_2 (hd 2 (by decide)) rfl (fun _ h => h)
      exact b_1 rfl (dv (a_2 rfl ty_154 (a_7 e2) (hS.bk 8 rfl) rfl) hS rfl)
     refine ⟨fun a w hA hS hd => ?_, ?_⟩
     ·skip
      exact b_1 rfl (dv (a_2 rfl ty_3 (hA.ev rfl) (hS.bk 9 rfl) rfl) hS rfl)
     refine ⟨fun a w hA hS hd => ?_, ?_⟩
     ·skip
      exact b_1 rfl (dv (a_3 rfl j_4 (hA.ev rfl)) hS rfl)
     refine ⟨fun a w hA hS hd => ?_, ?_⟩
     ·skip
      have e5 := f_2 (hd 5 (by decide)) rfl (fun _ h => h)
      exact b_1 rfl (dv (a_2 rfl ty_3 (a_7 e5) (hS.bk 4 rfl) rfl) hS rfl)
     refine ⟨fun a w hA hS hd => ?_, ?_⟩
     ·skip
      have e4 := f_2 (hd 4 (by decide)) rfl (fun _ h => h)
      have e6 := f_2 (hd 6 (by decide)) rfl (fun _ h => h)
      exact b_1 rfl (dv (h_9 rfl (a_7 e4) (a_7 e6) (by omega) (by omega)) hS rfl)
     refine ⟨fun a w hA hS hd => ?_, ?_⟩
     ·skip
      exact b_1 rfl (dv (a_3 rfl l_9 (hA.ev rfl)) hS rfl)
     refine ⟨fun a w hA hS hd => ?_, ?_⟩
     ·skip
      have e8 := f_2 (hd 8 (by decide)) rfl (fun _ h => h)
      exact b_1 rfl (dv (a_2 rfl ty_3 (a_7 e8) (hS.bk 3 rfl) rfl) hS rfl)
     refine ⟨fun a w hA hS hd => ?_, ?_⟩
     ·skip
      exact b_1 rfl (dv (a_3 rfl l_9 (hA.ev rfl)) hS rfl)
     refine ⟨fun a w hA hS hd => ?_, ?_⟩
     ·skip
      have CK := f_2 (hd 10 (by decide)) rfl (fun _ h => h)
      exact b_1 rfl (dv (a_2 rfl ty_3 (a_7 CK) (hS.bk 4 rfl) rfl) hS rfl)
     refine ⟨fun a w hA hS hd => ?_, ?_⟩
     ·skip
      have e9 := f_2 (hd 9 (by decide)) rfl (fun _ h => h)
      have CL := f_2 (hd 11 (by decide)) rfl (fun _ h => h)
      exact b_1 rfl (dv (h_9 rfl (a_7 e9) (a_7 CL) (by omega) (by omega)) hS rfl)
     refine ⟨fun a w hA hS hd => ?_, ?_⟩
     ·skip
      have e7 := f_2 (hd 7 (by decide)) rfl (fun _ h => h)
      have CM := f_2 (hd 12 (by decide)) rfl (fun _ h => h)
      exact b_1 rfl (dv (op_mul rfl (a_7 e7) (a_7 CM) (by omega) (by omega)) hS rfl)
     refine ⟨fun a w hA hS hd => ?_, ?_⟩
     ·skip
      exact b_1 rfl (dv (a_3 rfl j_4 (hA.ev rfl)) hS rfl)
     refine ⟨fun a w hA hS hd => ?_, ?_⟩
     ·skip
      have CO := f_2 (hd 14 (by decide)) rfl (fun _ h => h)
      exact b_1 rfl (dv (a_2 rfl ty_3 (a_7 CO) (hS.bk 3 rfl) rfl) hS rfl)
     refine ⟨fun a w hA hS hd => ?_, ?_⟩
     ·skip
      exact b_1 rfl (dv (a_3 rfl j_4 (hA.ev rfl)) hS rfl)
     refine ⟨fun a w hA hS hd => ?_, ?_⟩
     ·skip
      have CQ := f_2 (hd 16 (by decide)) rfl (fun _ h => h)
      exact b_1 rfl (dv (a_2 rfl ty_3 (a_7 CQ) (hS.bk 4 rfl) rfl) hS rfl)
     refine ⟨fun a w hA hS hd => ?_, ?_⟩
     ·skip
      have CP := f_2 (hd 15 (by decide)) rfl (fun _ h => h)
      have CR := f_2 (hd 17 (by decide)) rfl (fun _ h => h)
      exact b_1 rfl (dv (h_9 rfl (a_7 CP) (a_7 CR) (by omega) (by omega)) hS rfl)
     refine ⟨fun a w hA hS hd => ?_, ?_⟩
     ·skip
      have CN := f_2 (hd 13 (by decide)) rfl (fun _ h => h)
      have CS := f_2 (hd 18 (by decide)) rfl (fun _ h => h)
      exact b_1 rfl (dv (e_5 rfl (pv2 (a_7 CN) (a_7 CS)) (bd_157_0i_1i _ _)) hS rfl)
     refine ⟨fun a w hA hS hd => ?_, ?_⟩
     ·skip
      have e3 := f_2 (hd 3 (by decide)) rfl (fun _ h => h)
      have CT := f_2 (hd 19 (by decide)) rfl (fun _ h => h)
      exact b_1 rfl (dx (k_3 rfl (a_7 e3) en_103 (ev1 (a_7 CT)) (up_ok _ _ _ (by omega) (by omega))) hS (fun _ => rfl))
     trivial
    intro Bq Cp AY Am z; clear AX E
    have AZ := AY.add (hz z 1); clear AY
    have V := AZ.add (hz z 20); clear AZ
    clear z
    refine s1 V (f_4 rfl (V.ev rfl) (V.ev rfl) (by omega) (by omega)) fun Br BU => ?_; clear V Bq
    have hvl : ((t.rows.getD (((d_4 t).getD q 0)) (0, 0)).2) + (upF ((x - ((t.rows.getD (((d_4 t).getD q 0)) (0, 0)).1)) * (((t.rows.getD (((d_4 t).getD q 0) + 1) (0, 0)).2) - ((t.rows.getD (((d_4 t).getD q 0)) (0, 0)).2))) (((t.rows.getD (((d_4 t).getD q 0) + 1) (0, 0)).1) - ((t.rows.getD (((d_4 t).getD q 0)) (0, 0)).1))) = (e_3 t x).2 := by unfold e_3; rw [made_good (fun i hi => hrw i (by omega)) hq hpc (good_piece hq (by assumption) (by assumption))]; rfl
    have W : Fr 62 [] [(61, (Value.int .i64 ((e_3 t x).2))), (60, (Value.int .i64 (upF ((x - ((t.rows.getD (((d_4 t).getD q 0)) (0, 0)).1)) * (((t.rows.getD (((d_4 t).getD q 0) + 1) (0, 0)).2) - ((t.rows.getD (((d_4 t).getD q 0)) (0, 0)).2))) (((t.rows.getD (((d_4 t).getD q 0) + 1) (0, 0)).1) - ((t.rows.getD (((d_4 t).getD q 0)) (0, 0)).1))))), (41, (Value.int .i64 ((t.rows.getD (((d_4 t).getD q 0)) (0, 0)).2))), (11, (bptr J 0)), (10, (bptr F 0)), (7, (bptr C 0)), (6, (bptr B 0)), (5, (bptr A 0)), (4, (bptr D 0))] Br := by rw [← hvl]; exact BU
    refine s7 W (c_2 Am rfl ty_3 (W.ev rfl) (W.ev rfl) (i := 7) rfl (vs := [(Value.int .i64 ((e_3 t x).2))]) rfl rfl rfl (Nat.le_of_ble_eq_true rfl)) ?_
    intro _ Bz An f; clear W
    have Ao : Sep NoB w Bz [(obR M (.loop (rc104 .busy none))), (g_0 (D103 :: [])), G105, (blk J 107 [(Value.int .i64 ((t.rows.getD (((d_4 t).getD q 0) + 1) (0, 0)).1)), (Value.int .i64 ((t.rows.getD (((d_4 t).getD q 0) + 1) (0, 0)).2))]), (blk F 107 [(Value.int .i64 ((t.rows.getD (((d_4 t).getD q 0)) (0, 0)).1)), (Value.int .i64 ((t.rows.getD (((d_4 t).getD q 0)) (0, 0)).2))]), (blk bl93 106 [(Value.int .i64 t.frm), (Value.int .i64 t.dst), vr, vb, (Value.int .i64 t.err)]), (blk C 4 [(Value.bool false)]), (blk B 3 [(Value.int .i64 ((e_3 t x).2))]), (blk A 159 [(Value.func (.func 103) #[] #[])]), (blk D 3 [(Value.int .i64 x)]), (blk I 106 [(Value.int .i64 t.frm), (Value.int .i64 t.dst), vr, vb, (Value.int .i64 t.err)]), (sl vr 2 t.rows.length (pairs t.rows)), (sl vb 1 t.brk.length (ints t.brk))] := An; clear An Am
    refine s7 f (c_2 Ao rfl ty_4 (f.ev rfl) (evc _ _) (i := 6) rfl (vs := [(Value.bool true)]) rfl rfl rfl (Nat.le_of_ble_eq_true rfl)) ?_
    intro _ BT Ap CW; clear f
    have Aq : Sep NoB w BT [(obR M (.loop (rc104 .busy none))), (g_0 (D103 :: [])), G105, (blk J 107 [(Value.int .i64 ((t.rows.getD (((d_4 t).getD q 0) + 1) (0, 0)).1)), (Value.int .i64 ((t.rows.getD (((d_4 t).getD q 0) + 1) (0, 0)).2))]), (blk F 107 [(Value.int .i64 ((t.rows.getD (((d_4 t).getD q 0)) (0, 0)).1)), (Value.int .i64 ((t.rows.getD (((d_4 t).getD q 0)) (0, 0)).2))]), (blk bl93 106 [(Value.int .i64 t.frm), (Value.int .i64 t.dst), vr, vb, (Value.int .i64 t.err)]), (blk C 4 [(Value.bool true)]), (blk B 3 [(Value.int .i64 ((e_3 t x).2))]), (blk A 159 [(Value.func (.func 103) #[] #[])]), (blk D 3 [(Value.int .i64 x)]), (blk I 106 [(Value.int .i64 t.frm), (Value.int .i64 t.dst), vr, vb, (Value.int .i64 t.err)]), (sl vr 2 t.rows.length (pairs t.rows)), (sl vb 1 t.brk.length (ints t.brk))] := Ap; clear Ap Ao
    refine n1 ?_
    refine c_9 ?_
    refine c_6 ?_
    have BW : Sep NoB w BT [(obR M (.loop (rc104 .busy none))), (g_0 (D103 :: [])), G105, (blk bl93 106 [(Value.int .i64 t.frm), (Value.int .i64 t.dst), vr, vb, (Value.int .i64 t.err)]), (blk C 4 [(Value.bool true)]), (blk B 3 [(Value.int .i64 ((e_3 t x).2))]), (blk A 159 [(Value.func (.func 103) #[] #[])]), (blk D 3 [(Value.int .i64 x)]), (blk I 106 [(Value.int .i64 t.frm), (Value.int .i64 t.dst), vr, vb, (Value.int .i64 t.err)]), (sl vr 2 t.rows.length (pairs t.rows)), (sl vb 1 t.brk.length (ints t.brk))] := Aq.keep [0, 1, 2, 5, 6, 7, 8, 9, 10, 11, 12] (by decide) _ rfl rfl; clear Aq
    exact re_ret rfl ⟨_, rfl, ⟨rfl, (by rw [made_good (fun i hi => hrw i (by omega)) hq hpc (good_piece hq (by assumption) (by assumption))]; rfl)⟩⟩ BW
   skip
   rw [decide_eq_false Az] at N
   refine b_7 N rfl ?_
   refine d_0 ?_
   refine h_0 ?_
   have BX : Sep NoB w BS [(obR M (.loop (rc104 .busy none))), (g_0 (D103 :: [])), G105, (blk bl93 106 [(Value.int .i64 t.frm), (Value.int .i64 t.dst), vr, vb, (Value.int .i64 t.err)]), (blk C 4 [(Value.bool false)]), (blk B 3 [(Value.int .i64 0)]), (blk A 159 [(Value.func (.func 103) #[] #[])]), (blk D 3 [(Value.int .i64 x)]), (blk I 106 [(Value.int .i64 t.frm), (Value.int .i64 t.dst), vr, vb, (Value.int .i64 t.err)]), (sl vr 2 t.rows.length (pairs t.rows)), (sl vb 1 t.brk.length (ints t.brk))] := E.keep [0, 1, 2, 5, 6, 7, 8, 9, 10, 11, 12] (by decide) _ rfl rfl; clear E
   exact re_n ⟨_, rfl, ⟨rfl, (fun j hj => by rcases Nat.lt_succ_iff_lt_or_eq.1 hj with h | h; exact hpc j h; subst h; first | exact m_1 (.inl (by assumption)) | exact m_1 (.inr (.inl (by assumption))))⟩⟩ BX
  skip
  rw [decide_eq_false Ay] at K
  refine s3 K fun Bs Aa => ?_; clear K A0
  refine s3 Aa fun Bt Ab => ?_; clear Aa Bs
  refine s3 Ab fun Bu Ac => ?_; clear Ab Bt
  refine s3 Ac fun Bv g => ?_; clear Ac Bu
  refine s1 g (d_3 rfl (g.ev rfl) (evc _ _)) fun Ca BV => ?_; clear g Bv
  refine n1 ?_
  refine b_7 BV rfl ?_
  refine d_0 ?_
  refine h_0 ?_
  have BY : Sep NoB w BS [(obR M (.loop (rc104 .busy none))), (g_0 (D103 :: [])), G105, (blk bl93 106 [(Value.int .i64 t.frm), (Value.int .i64 t.dst), vr, vb, (Value.int .i64 t.err)]), (blk C 4 [(Value.bool false)]), (blk B 3 [(Value.int .i64 0)]), (blk A 159 [(Value.func (.func 103) #[] #[])]), (blk D 3 [(Value.int .i64 x)]), (blk I 106 [(Value.int .i64 t.frm), (Value.int .i64 t.dst), vr, vb, (Value.int .i64 t.err)]), (sl vr 2 t.rows.length (pairs t.rows)), (sl vb 1 t.brk.length (ints t.brk))] := E.keep [0, 1, 2, 5, 6, 7, 8, 9, 10, 11, 12] (by decide) _ rfl rfl; clear E
  exact re_n ⟨_, rfl, ⟨rfl, (fun j hj => by rcases Nat.lt_succ_iff_lt_or_eq.1 hj with h | h; exact hpc j h; subst h; first | exact m_1 (.inl (by assumption)) | exact m_1 (.inr (.inl (by assumption))))⟩⟩ BY
 ·skip
  intro L_ hL_ D188 Cb Cq m Ar; obtain ⟨rfl, hpc⟩ := hL_; clear X AD
  refine h_0 ?_
  refine b_0 ?_
  refine m2 ?_
  refine s7 m (c_2 Ar rfl ty_3 (m.ev rfl) (evc _ _) (i := 4) rfl (vs := [(Value.int .i64 0)]) rfl rfl rfl (Nat.le_of_ble_eq_true rfl)) ?_
  intro _ B0 As o; clear m
  have At : Sep NoB w B0 [(g_0 (D188 :: [])), nilR, (blk bl93 106 [(Value.int .i64 t.frm), (Value.int .i64 t.dst), vr, vb, (Value.int .i64 t.err)]), (blk C 4 [(Value.bool false)]), (blk B 3 [(Value.int .i64 0)]), (blk A 159 [(Value.func (.func 103) #[] #[])]), (blk D 3 [(Value.int .i64 x)]), (blk I 106 [(Value.int .i64 t.frm), (Value.int .i64 t.dst), vr, vb, (Value.int .i64 t.err)]), (sl vr 2 t.rows.length (pairs t.rows)), (sl vb 1 t.brk.length (ints t.brk))] := As; clear As Ar
  refine s7 o (c_2 At rfl ty_4 (o.ev rfl) (evc _ _) (i := 3) rfl (vs := [(Value.bool false)]) rfl rfl rfl (Nat.le_of_ble_eq_true rfl)) ?_
  intro _ B1 Au Ad; clear o
  have Av : Sep NoB w B1 [(g_0 (D188 :: [])), nilR, (blk bl93 106 [(Value.int .i64 t.frm), (Value.int .i64 t.dst), vr, vb, (Value.int .i64 t.err)]), (blk C 4 [(Value.bool false)]), (blk B 3 [(Value.int .i64 0)]), (blk A 159 [(Value.func (.func 103) #[] #[])]), (blk D 3 [(Value.int .i64 x)]), (blk I 106 [(Value.int .i64 t.frm), (Value.int .i64 t.dst), vr, vb, (Value.int .i64 t.err)]), (sl vr 2 t.rows.length (pairs t.rows)), (sl vb 1 t.brk.length (ints t.brk))] := Au; clear Au At
  refine n1 ?_
  refine c_9 ?_
  refine fin_runM Ad (.inl rfl) Av ?_
  intro Cr AA; clear Av
  refine ⟨_, (d_2 Ad rfl (.cell1 rfl ty_3 (AA.bk 3 rfl) rfl) (.cell1 rfl ty_4 (AA.bk 2 rfl) rfl)), ?_⟩
  have hz := (made_goodno (fun i hi => hrw i (by omega)) (fun i hi => hpc i (by omega)))
  exact ⟨by unfold e_3; rw [hz]; rfl, AA.ext⟩
 skip
 intro c_ hc_; cases hc_
 intro L_ hL_ D203 Cc Cs Ae Aw; obtain ⟨rfl, hsm⟩ := hL_; clear X AD
 refine c_9 ?_
 refine c_6 ?_
 refine a_6 ?_
 refine fin_runM Ae (.inl rfl) Aw ?_
 intro Ct AB; clear Aw
 refine ⟨_, (d_2 Ae rfl (.cell1 rfl ty_3 (AB.bk 3 rfl) rfl) (.cell1 rfl ty_4 (AB.bk 2 rfl) rfl)), ?_⟩
 exact ⟨by rw [hsm], AB.ext⟩
theorem around_ok (t : TabD) (vr vb : Value) (w : World) (hr : SlAt w vr 2 t.rows.length (pairs t.rows)) (hb : SlAt w vb 1 t.brk.length (ints t.brk)) (hrl : t.rows.length ≤ 1000000) (hbl : t.brk.length ≤ 1000000) (n : Int) (hV : TabV n t) (x : Int) :
  Calls Try.prog 72 #[(Value.agg #[(Value.int .i64 t.frm), (Value.int .i64 t.dst), vr, vb, (Value.int .i64 t.err)]), (Value.int .i64 x)] w (Ret fun v w' => v = .tuple #[.agg #[.int .i64 (e_3 t x).1, .int .i64 (e_3 t x).2], .bool (r_8 t x).isSome] ∧ Ext NoB w w') := by
 refine a_8 Try.func72 rfl fun r G => ?_
 replace G : Fr 28 [] [(0, (Value.agg #[(Value.int .i64 t.frm), (Value.int .i64 t.dst), vr, vb, (Value.int .i64 t.err)])), (1, (Value.int .i64 x))] r := G
 have o : Sep NoB w w [(sl vr 2 t.rows.length (pairs t.rows)), (sl vb 1 t.brk.length (ints t.brk))] := f_1 ⟨rfl, hr, rfl, hb, trivial⟩
 refine m2 ?_
 refine s2 G (f_0 o rfl (G.ev rfl) (cs := [(Value.int .i64 t.frm), (Value.int .i64 t.dst), vr, vb, (Value.int .i64 t.err)]) rfl) ?_
 rintro a1 _ w3 ⟨b4, rfl, p⟩ k; clear G o r
 refine s2 k (e_4 p rfl z_3 (cs := [(Value.int .i64 0), (Value.int .i64 0)]) rfl) ?_
 rintro a6 _ w8 ⟨q, rfl, C⟩ m; clear k p a1
 refine s1 m (a_0 rfl (evc _ _)) fun s H => ?_; clear m a6
 refine n4 ?_
 refine s1 H (c_5 rfl l_3 (H.ev rfl) (C.bk 1 rfl) (l := [(Value.int .i64 t.frm), (Value.int .i64 t.dst), vr, vb, (Value.int .i64 t.err)]) rfl rfl) fun u I => ?_; clear H s
 refine s1 I (a_1 rfl (I.ev rfl)) fun y Z => ?_; clear I u
 refine s1 Z (e_5 rfl (pv1 (evf _ _)) (bd_159_0f _ _ _)) fun z A => ?_; clear Z y
 refine s2 A (b_4 rfl en_101 (ev3 (A.ev rfl) (A.ev rfl) (A.ev rfl)) (makes_dn t _ _ _ (C.sk 2 rfl) (C.sk 3 rfl) (by omega) (by omega) _ hV x)) ?_
 rintro AA _ AY ⟨rfl, e⟩ J; have D := C.step e; clear e A C z
 refine s1 J (a_1 rfl (J.ev rfl)) fun AB K => ?_; clear J AA
 refine s1 K (d_9 rfl (K.ev rfl) rfl) fun AC L => ?_; clear K AB
 refine s1 L (d_9 rfl (L.ev rfl) rfl) fun AD M => ?_; clear L AC
 refine s1 M (a_0 rfl (M.ev rfl)) fun AE N => ?_; clear M AD
 refine s1 N (a_0 rfl (N.ev rfl)) fun AF a => ?_; clear N AE
 refine n2 ?_
 have O := a.as [(7, (Value.bool ((r_8 t x).isSome))), (6, (Value.int .i64 ((e_3 t x).1))), (4, (bptr q 0)), (2, (bptr b4 0)), (1, (Value.int .i64 x))] rfl; clear a
 refine a_5 ?_
 refine s1 O (c_5 rfl l_3 (O.ev rfl) (D.bk 1 rfl) (l := [(Value.int .i64 t.frm), (Value.int .i64 t.dst), vr, vb, (Value.int .i64 t.err)]) rfl rfl) fun AG P => ?_; clear O AF
 refine s1 P (a_1 rfl (P.ev rfl)) fun AH b => ?_; clear P AG
 refine s1 b (e_5 rfl (pv1 (evf _ _)) (bd_159_0f _ _ _)) fun AI B => ?_; clear b AH
 refine s2 B (b_4 rfl en_101 (ev3 (B.ev rfl) (B.ev rfl) (B.ev rfl)) (makes_up t _ _ _ (D.sk 2 rfl) (D.sk 3 rfl) (by omega) (by omega) _ hV x)) ?_
 rintro AJ _ AZ ⟨rfl, f⟩ Q; have g := D.step f; clear f B D AI
 refine s1 Q (a_1 rfl (Q.ev rfl)) fun AK R => ?_; clear Q AJ
 refine s1 R (d_9 rfl (R.ev rfl) rfl) fun AL S => ?_; clear R AK
 refine s1 S (d_9 rfl (S.ev rfl) rfl) fun AM T => ?_; clear S AL
 refine s1 T (a_0 rfl (T.ev rfl)) fun AN U => ?_; clear T AM
 refine s1 U (a_0 rfl (U.ev rfl)) fun AO c => ?_; clear U AN
 refine n2 ?_
 have V := c.as [(8, (Value.int .i64 ((e_3 t x).2))), (7, (Value.bool ((r_8 t x).isSome))), (6, (Value.int .i64 ((e_3 t x).1))), (4, (bptr q 0))] rfl; clear c
 refine a_5 ?_
 refine s1 V (a_1 rfl (V.ev rfl)) fun AP W => ?_; clear V AO
 refine s1 W (a_1 rfl (W.ev rfl)) fun AQ E => ?_; clear W AP
 refine s1 E (e_5 rfl (pv2 (E.ev rfl) (E.ev rfl)) (l_7 _ _)) fun AR X => ?_; clear E AQ
 refine s1 X (a_1 rfl (X.ev rfl)) fun AS F => ?_; clear X AR
 refine s7 F (c_2 g rfl g_7 (F.ev rfl) (F.ev rfl) (i := 0) rfl (vs := [(Value.int .i64 ((e_3 t x).1)), (Value.int .i64 ((e_3 t x).2))]) rfl rfl rfl (Nat.le_of_ble_eq_true rfl)) ?_
 intro _ AU h Y; clear F
 have j : Sep NoB w AU [(blk q 30 [(Value.int .i64 ((e_3 t x).1)), (Value.int .i64 ((e_3 t x).2))]), (blk b4 106 [(Value.int .i64 t.frm), (Value.int .i64 t.dst), vr, vb, (Value.int .i64 t.err)]), (sl vr 2 t.rows.length (pairs t.rows)), (sl vb 1 t.brk.length (ints t.brk))] := h; clear h g
 refine s1 Y (a_0 rfl (Y.ev rfl)) fun AX d => ?_; clear Y AS
 refine n1 ?_
 refine c_9 ?_
 refine a_9 d (.inl rfl) (d_2 d rfl (.cellA rfl g_7 (j.bk 0 rfl) (l := [(Value.int .i64 ((e_3 t x).1)), (Value.int .i64 ((e_3 t x).2))]) rfl rfl) (.tmp rfl)) ?_
 exact ⟨rfl, j.ext⟩
theorem convert_ok (B C : Int) (t : TabD) (vr vb : Value) (w : World) (hr : SlAt w vr 2 t.rows.length (pairs t.rows)) (hb : SlAt w vb 1 t.brk.length (ints t.brk)) (hrl : t.rows.length ≤ 1000000) (hbl : t.brk.length ≤ 1000000) (n : Int) (hV : TabV n t) :
  Calls Try.prog 50 #[(Value.agg #[(Value.int .i64 t.frm), (Value.int .i64 t.dst), vr, vb, (Value.int .i64 t.err)]), (Value.agg #[(Value.int .i64 B), (Value.int .i64 C)])] w (Ret fun v w' => v = .agg #[.int .i64 (f_3 t (B, C)).1, .int .i64 (f_3 t (B, C)).2] ∧ Ext NoB w w') := by
 refine a_8 Try.func50 rfl fun a0 R => ?_
 replace R : Fr 42 [] [(0, (Value.agg #[(Value.int .i64 t.frm), (Value.int .i64 t.dst), vr, vb, (Value.int .i64 t.err)])), (1, (Value.agg #[(Value.int .i64 B), (Value.int .i64 C)]))] a0 := R
 have DG := madeV_bd hV B; have DH := madeV_bd hV C; have her := hV.err
 have BB : Sep NoB w w [(sl vr 2 t.rows.length (pairs t.rows)), (sl vb 1 t.brk.length (ints t.brk))] := f_1 ⟨rfl, hr, rfl, hb, trivial⟩
 refine m2 ?_
 refine s2 R (f_0 BB rfl (R.ev rfl) (cs := [(Value.int .i64 t.frm), (Value.int .i64 t.dst), vr, vb, (Value.int .i64 t.err)]) rfl) ?_
 rintro a1 _ w3 ⟨J, rfl, BC⟩ AA; clear R BB a0
 refine s2 AA (f_0 BC rfl (AA.ev rfl) (cs := [(Value.int .i64 B), (Value.int .i64 C)]) rfl) ?_
 rintro a6 _ w8 ⟨z, rfl, AM⟩ BA; clear AA BC a1
 refine s2 BA (e_4 AM rfl z_3 (cs := [(Value.int .i64 0), (Value.int .i64 0)]) rfl) ?_
 rintro B1 _ Da ⟨F, rfl, H⟩ S; clear BA AM a6
 refine n4 ?_
 refine s1 S (c_5 rfl l_3 (S.ev rfl) (H.bk 2 rfl) (l := [(Value.int .i64 t.frm), (Value.int .i64 t.dst), vr, vb, (Value.int .i64 t.err)]) rfl rfl) fun B2 T => ?_; clear S B1
 refine s1 T (a_3 rfl p_7 (T.ev rfl)) fun B3 U => ?_; clear T B2
 refine s1 U (a_2 rfl ty_3 (U.ev rfl) (H.bk 1 rfl) rfl) fun B4 K => ?_; clear U B3
 refine s2 K (b_4 rfl en_72 (ev2 (K.ev rfl) (K.ev rfl)) (around_ok t _ _ _ (H.sk 3 rfl) (H.sk 4 rfl) (by omega) (by omega) _ hV B)) ?_
 rintro B5 _ Db ⟨rfl, AK⟩ V; have AN := H.step AK; clear AK K H B4
 refine s1 V (a_1 rfl (V.ev rfl)) fun B6 W => ?_; clear V B5
 refine s1 W (d_9 rfl (W.ev rfl) rfl) fun B7 X => ?_; clear W B6
 refine s1 X (d_9 rfl (X.ev rfl) rfl) fun B8 AB => ?_; clear X B7
 refine s2 AB (e_4 AN rfl z_3 (cs := [(Value.int .i64 0), (Value.int .i64 0)]) rfl) ?_
 rintro B9 _ Dc ⟨E, rfl, AO⟩ L; clear AB AN B8
 refine s7 L (c_2 AO rfl g_7 (L.ev rfl) (L.ev rfl) (i := 0) rfl (vs := [(Value.int .i64 ((e_3 t B).1)), (Value.int .i64 ((e_3 t B).2))]) rfl rfl rfl (Nat.le_of_ble_eq_true rfl)) ?_
 intro _ Ct AP Y; clear L
 have I : Sep NoB w Ct [(blk E 30 [(Value.int .i64 ((e_3 t B).1)), (Value.int .i64 ((e_3 t B).2))]), (blk F 30 [(Value.int .i64 0), (Value.int .i64 0)]), (blk z 30 [(Value.int .i64 B), (Value.int .i64 C)]), (blk J 106 [(Value.int .i64 t.frm), (Value.int .i64 t.dst), vr, vb, (Value.int .i64 t.err)]), (sl vr 2 t.rows.length (pairs t.rows)), (sl vb 1 t.brk.length (ints t.brk))] := AP; clear AP AO
 refine s1 Y (a_0 rfl (Y.ev rfl)) fun CA AC => ?_; clear Y B9
 refine n2 ?_
 have Z := AC.as [(5, (bptr E 0)), (4, (bptr F 0)), (3, (bptr z 0)), (2, (bptr J 0))] rfl; clear AC
 refine a_5 ?_
 refine s1 Z (c_5 rfl l_3 (Z.ev rfl) (I.bk 3 rfl) (l := [(Value.int .i64 t.frm), (Value.int .i64 t.dst), vr, vb, (Value.int .i64 t.err)]) rfl rfl) fun CB b => ?_; clear Z CA
 refine s1 b (a_3 rfl p_8 (b.ev rfl)) fun CC c => ?_; clear b CB
 refine s1 c (a_2 rfl ty_3 (c.ev rfl) (I.bk 2 rfl) rfl) fun CD M => ?_; clear c CC
 refine s2 M (b_4 rfl en_72 (ev2 (M.ev rfl) (M.ev rfl)) (around_ok t _ _ _ (I.sk 4 rfl) (I.sk 5 rfl) (by omega) (by omega) _ hV C)) ?_
 rintro CE _ Dd ⟨rfl, AL⟩ d; have AQ := I.step AL; clear AL M I CD
 refine s1 d (a_1 rfl (d.ev rfl)) fun CF e => ?_; clear d CE
 refine s1 e (d_9 rfl (e.ev rfl) rfl) fun CG f => ?_; clear e CF
 refine s1 f (d_9 rfl (f.ev rfl) rfl) fun CH AD => ?_; clear f CG
 refine s2 AD (e_4 AQ rfl z_3 (cs := [(Value.int .i64 0), (Value.int .i64 0)]) rfl) ?_
 rintro CI _ De ⟨G, rfl, AR⟩ N; clear AD AQ CH
 refine s7 N (c_2 AR rfl g_7 (N.ev rfl) (N.ev rfl) (i := 0) rfl (vs := [(Value.int .i64 ((e_3 t C).1)), (Value.int .i64 ((e_3 t C).2))]) rfl rfl rfl (Nat.le_of_ble_eq_true rfl)) ?_
 intro _ Cu AS g; clear N
 have AT : Sep NoB w Cu [(blk G 30 [(Value.int .i64 ((e_3 t C).1)), (Value.int .i64 ((e_3 t C).2))]), (blk E 30 [(Value.int .i64 ((e_3 t B).1)), (Value.int .i64 ((e_3 t B).2))]), (blk F 30 [(Value.int .i64 0), (Value.int .i64 0)]), (blk z 30 [(Value.int .i64 B), (Value.int .i64 C)]), (blk J 106 [(Value.int .i64 t.frm), (Value.int .i64 t.dst), vr, vb, (Value.int .i64 t.err)]), (sl vr 2 t.rows.length (pairs t.rows)), (sl vb 1 t.brk.length (ints t.brk))] := AS; clear AS AR
 refine s1 g (a_0 rfl (g.ev rfl)) fun DE AE => ?_; clear g CI
 refine n2 ?_
 have AF := AE.as [(7, (bptr G 0)), (5, (bptr E 0)), (4, (bptr F 0)), (2, (bptr J 0))] rfl; clear AE
 have AG := AF.as [(7, (bptr G 0)), (5, (bptr E 0)), (4, (bptr F 0)), (2, (bptr J 0))] rfl; clear AF
 refine w_6 mixed AG AT 18 [[], [0], [], [2], [1, 3], [4], [], [6], [5, 7], [], [9], [], [11], [10, 12], [13], [], [15], [14, 16]] [(fun (A : Nat → Value) (v_ : Value) (rs_ : List Res) => v_ = (bptr E 0) ∧ rs_ = []), (fun (A : Nat → Value) (v_ : Value) (rs_ : List Res) => v_ = (Value.int .i64 ((e_3 t B).1)) ∧ rs_ = []), (fun (A : Nat → Value) (v_ : Value) (rs_ : List Res) => v_ = (bptr G 0) ∧ rs_ = []), (fun (A : Nat → Value) (v_ : Value) (rs_ : List Res) => v_ = (Value.int .i64 ((e_3 t C).1)) ∧ rs_ = []), (fun (A : Nat → Value) (v_ : Value) (rs_ : List Res) => True ∧ rs_ = [(row v_ 3 1 2 [(Value.int .i64 ((e_3 t B).1)), (Value.int .i64 ((e_3 t C).1))])]), (fun (A : Nat → Value) (v_ : Value) (rs_ : List Res) => v_ = (Value.int .i64 (min ((e_3 t B).1) ((e_3 t C).1))) ∧ rs_ = []), (fun (A : Nat → Value) (v_ : Value) (rs_ : List Res) => v_ = (bptr J 4) ∧ rs_ = []), (fun (A : Nat → Value) (v_ : Value) (rs_ : List Res) => v_ = (Value.int .i64 t.err) ∧ rs_ = []), (fun (A : Nat → Value) (v_ : Value) (rs_ : List Res) => v_ = (Value.int .i64 ((min ((e_3 t B).1) ((e_3 t C).1)) - t.err)) ∧ rs_ = []), (fun (A : Nat → Value) (v_ : Value) (rs_ : List Res) => v_ = (bptr E 1) ∧ rs_ = []), (fun (A : Nat → Value) (v_ : Value) (rs_ : List Res) => v_ = (Value.int .i64 ((e_3 t B).2)) ∧ rs_ = []), (fun (A : Nat → Value) (v_ : Value) (rs_ : List Res) => v_ = (bptr G 1) ∧ rs_ = []), (fun (A : Nat → Value) (v_ : Value) (rs_ : List Res) => v_ = (Value.int .i64 ((e_3 t C).2)) ∧ rs_ = []), (fun (A : Nat → Value) (v_ : Value) (rs_ : List Res) => True ∧ rs_ = [(row v_ 3 1 2 [(Value.int .i64 ((e_3 t B).2)), (Value.int .i64 ((e_3 t C).2))])]), (fun (A : Nat → Value) (v_ : Value) (rs_ : List Res) => v_ = (Value.int .i64 (max ((e_3 t B).2) ((e_3 t C).2))) ∧ rs_ = []), (fun (A : Nat → Value) (v_ : Value) (rs_ : List Res) => v_ = (bptr J 4) ∧ rs_ = []), (fun (A : Nat → Value) (v_ : Value) (rs_ : List Res) => v_ = (Value.int .i64 t.err) ∧ rs_ = []), (fun (A : Nat → Value) (v_ : Value) (rs_ : List Res) => v_ = (Value.int .i64 ((max ((e_3 t B).2) ((e_3 t C).2)) + t.err)) ∧ rs_ = [])] (by decide +kernel) (by decide +kernel) rfl rfl ⟨(fun _ _ _ _ _ h_ => h_), (fun _ _ _ _ _ h_ => h_), (fun _ _ _ _ _ h_ => h_), (fun _ _ _ _ _ h_ => h_), (fun _ _ _ _ _ h_ => h_), (fun _ _ _ _ _ h_ => h_), (fun _ _ _ _ _ h_ => h_), (fun _ _ _ _ _ h_ => h_), (fun _ _ _ _ _ h_ => h_), (fun _ _ _ _ _ h_ => h_), (fun _ _ _ _ _ h_ => h_), (fun _ _ _ _ _ h_ => h_), (fun _ _ _ _ _ h_ => h_), (fun _ _ _ _ _ h_ => h_), (fun _ _ _ _ _ h_ => h_), (fun _ _ _ _ _ h_ => h_), (fun _ _ _ _ _ h_ => h_), (fun _ _ _ _ _ h_ => h_), trivial⟩ ?_ ?_
 ·skip
  refine ⟨fun a w A hA hS hd => ?_, ?_⟩
  ·skip
   exact b_1 rfl (vv (a_3 rfl p_7 (hA.ev rfl)) (And.intro rfl rfl))
  refine ⟨fun a w A hA hS hd => ?_, ?_⟩
  ·skip
   obtain ⟨e0, DR, Ck, DI⟩ := hd 0 (by decide)
   obtain ⟨Cc, CT⟩ := Ck; subst CT
   rw [Cc] at e0
   exact b_1 rfl (vv (a_2 rfl ty_3 (a_7 (b_5 e0 rfl)) (hS.bk 1 rfl) rfl) (And.intro rfl rfl))
  refine ⟨fun a w A hA hS hd => ?_, ?_⟩
  ·skip
   exact b_1 rfl (vv (a_3 rfl p_7 (hA.ev rfl)) (And.intro rfl rfl))
  refine ⟨fun a w A hA hS hd => ?_, ?_⟩
  ·skip
   obtain ⟨e2, DT, Cm, DK⟩ := hd 2 (by decide)
   obtain ⟨Ce, CV⟩ := Cm; subst CV
   rw [Ce] at e2
   exact b_1 rfl (vv (a_2 rfl ty_3 (a_7 (b_5 e2 rfl)) (hS.bk 0 rfl) rfl) (And.intro rfl rfl))
  refine ⟨fun a w A hA hS hd => ?_, ?_⟩
  ·skip
   obtain ⟨e1, DS, Cl, DJ⟩ := hd 1 (by decide)
   obtain ⟨Cd, CU⟩ := Cl; subst CU
   rw [Cd] at e1
   obtain ⟨e3, DU, Cn, DL⟩ := hd 3 (by decide)
   obtain ⟨Cf, CW⟩ := Cn; subst CW
   rw [Cf] at e3
   exact b_1 rfl (vblt rfl (pv2 (a_7 (b_5 e1 rfl)) (a_7 (b_5 e3 rfl))) p_4 ty_3 ze_3 (by decide) (cs := [(Value.int .i64 ((e_3 t B).1)), (Value.int .i64 ((e_3 t C).1))]) (u_0 _ _) rfl (by decide) (fun _ => And.intro trivial rfl))
  refine ⟨fun a w A hA hS hd => ?_, ?_⟩
  ·skip
   obtain ⟨e4, DV, Co, CS⟩ := hd 4 (by decide)
   obtain ⟨DQ, CX⟩ := Co; subst CX
   have hp4_0 := CS _ (List.mem_of_getElem? (i := 0) rfl)
   exact b_1 rfl (vx (b_4 rfl en_79 (ev1 (a_7 (b_5 e4 rfl))) (callsI (least_ok [(e_3 t B).1, (e_3 t C).1] _ _ (SlAt.d_7 hp4_0) (by simp) (by simp)) (min ((e_3 t B).1) ((e_3 t C).1)) rfl)) (And.intro rfl rfl))
  refine ⟨fun a w A hA hS hd => ?_, ?_⟩
  ·skip
   exact b_1 rfl (vv (a_3 rfl fd_106_4 (hA.ev rfl)) (And.intro rfl rfl))
  refine ⟨fun a w A hA hS hd => ?_, ?_⟩
  ·skip
   obtain ⟨e6, DX, Cq, DN⟩ := hd 6 (by decide)
   obtain ⟨Ch, CZ⟩ := Cq; subst CZ
   rw [Ch] at e6
   exact b_1 rfl (vv (a_2 rfl ty_3 (a_7 (b_5 e6 rfl)) (hS.bk 4 rfl) rfl) (And.intro rfl rfl))
  refine ⟨fun a w A hA hS hd => ?_, ?_⟩
  ·skip
   obtain ⟨e5, DW, Cp, DM⟩ := hd 5 (by decide)
   obtain ⟨Cg, CY⟩ := Cp; subst CY
   rw [Cg] at e5
   obtain ⟨e7, DY, Cr, DO⟩ := hd 7 (by decide)
   obtain ⟨Ci, Ca⟩ := Cr; subst Ca
   rw [Ci] at e7
   exact b_1 rfl (vv (h_9 rfl (a_7 (b_5 e5 rfl)) (a_7 (b_5 e7 rfl)) (by omega) (by omega)) (And.intro rfl rfl))
  refine ⟨fun a w A hA hS hd => ?_, ?_⟩
  ·skip
   exact b_1 rfl (vv (a_3 rfl p_8 (hA.ev rfl)) (And.intro rfl rfl))
  refine ⟨fun a w A hA hS hd => ?_, ?_⟩
  ·skip
   obtain ⟨e9, DZ, Cs, DP⟩ := hd 9 (by decide)
   obtain ⟨Cj, Cb⟩ := Cs; subst Cb
   rw [Cj] at e9
   exact b_1 rfl (vv (a_2 rfl ty_3 (a_7 (b_5 e9 rfl)) (hS.bk 1 rfl) rfl) (And.intro rfl rfl))
  refine ⟨fun a w A hA hS hd => ?_, ?_⟩
  ·skip
   exact b_1 rfl (vv (a_3 rfl p_8 (hA.ev rfl)) (And.intro rfl rfl))
  refine ⟨fun a w A hA hS hd => ?_, ?_⟩
  ·skip
   obtain ⟨A5, C8, Bk, C1⟩ := hd 11 (by decide)
   obtain ⟨BV, BF⟩ := Bk; subst BF
   rw [BV] at A5
   exact b_1 rfl (vv (a_2 rfl ty_3 (a_7 (b_5 A5 rfl)) (hS.bk 0 rfl) rfl) (And.intro rfl rfl))
  refine ⟨fun a w A hA hS hd => ?_, ?_⟩
  ·skip
   obtain ⟨A4, C7, Bj, C0⟩ := hd 10 (by decide)
   obtain ⟨BU, BE⟩ := Bj; subst BE
   rw [BU] at A4
   obtain ⟨A6, C9, Bl, C2⟩ := hd 12 (by decide)
   obtain ⟨BW, BG⟩ := Bl; subst BG
   rw [BW] at A6
   exact b_1 rfl (vblt rfl (pv2 (a_7 (b_5 A4 rfl)) (a_7 (b_5 A6 rfl))) p_4 ty_3 ze_3 (by decide) (cs := [(Value.int .i64 ((e_3 t B).2)), (Value.int .i64 ((e_3 t C).2))]) (u_0 _ _) rfl (by decide) (fun _ => And.intro trivial rfl))
  refine ⟨fun a w A hA hS hd => ?_, ?_⟩
  ·skip
   obtain ⟨CL, DA, Bm, BD⟩ := hd 13 (by decide)
   obtain ⟨C6, BH⟩ := Bm; subst BH
   have hp13_0 := BD _ (List.mem_of_getElem? (i := 0) rfl)
   exact b_1 rfl (vx (b_4 rfl en_80 (ev1 (a_7 (b_5 CL rfl))) (callsI (greatest_ok [(e_3 t B).2, (e_3 t C).2] _ _ (SlAt.d_7 hp13_0) (by simp) (by simp)) (max ((e_3 t B).2) ((e_3 t C).2)) rfl)) (And.intro rfl rfl))
  refine ⟨fun a w A hA hS hd => ?_, ?_⟩
  ·skip
   exact b_1 rfl (vv (a_3 rfl fd_106_4 (hA.ev rfl)) (And.intro rfl rfl))
  refine ⟨fun a w A hA hS hd => ?_, ?_⟩
  ·skip
   obtain ⟨A8, DC, Bo, C4⟩ := hd 15 (by decide)
   obtain ⟨BY, BJ⟩ := Bo; subst BJ
   rw [BY] at A8
   exact b_1 rfl (vv (a_2 rfl ty_3 (a_7 (b_5 A8 rfl)) (hS.bk 4 rfl) rfl) (And.intro rfl rfl))
  refine ⟨fun a w A hA hS hd => ?_, ?_⟩
  ·skip
   obtain ⟨A7, DB, Bn, C3⟩ := hd 14 (by decide)
   obtain ⟨BX, BI⟩ := Bn; subst BI
   rw [BX] at A7
   obtain ⟨A9, DD, Bp, C5⟩ := hd 16 (by decide)
   obtain ⟨BZ, BK⟩ := Bp; subst BK
   rw [BZ] at A9
   exact b_1 rfl (vv (f_4 rfl (a_7 (b_5 A7 rfl)) (a_7 (b_5 A9 rfl)) (by omega) (by omega)) (And.intro rfl rfl))
  trivial
 intro y Cv A rsf81 AH D h; clear AG AT
 obtain ⟨BL, Bq⟩ := D 0 (by decide)
 obtain ⟨Ba, AX⟩ := Bq
 obtain ⟨BM, Br⟩ := D 1 (by decide)
 obtain ⟨Bb, AY⟩ := Br
 obtain ⟨BN, Bs⟩ := D 2 (by decide)
 obtain ⟨Bc, AZ⟩ := Bs
 obtain ⟨BO, Bt⟩ := D 3 (by decide)
 obtain ⟨Bd, Aa⟩ := Bt
 obtain ⟨BP, Bu⟩ := D 4 (by decide)
 obtain ⟨Be, Ab⟩ := Bu
 obtain ⟨BQ, Bv⟩ := D 5 (by decide)
 obtain ⟨Bf, Ac⟩ := Bv
 obtain ⟨BR, Bw⟩ := D 6 (by decide)
 obtain ⟨Bg, Ad⟩ := Bw
 obtain ⟨BS, Bx⟩ := D 7 (by decide)
 obtain ⟨Bh, Ae⟩ := Bx
 obtain ⟨j, By⟩ := D 8 (by decide)
 obtain ⟨Ah, Af⟩ := By
 obtain ⟨BT, Bz⟩ := D 9 (by decide)
 obtain ⟨Bi, Ag⟩ := Bz
 obtain ⟨Ai, Aw⟩ := D 10 (by decide)
 obtain ⟨Ap, k⟩ := Aw
 obtain ⟨Aj, Ax⟩ := D 11 (by decide)
 obtain ⟨Aq, m⟩ := Ax
 obtain ⟨Ak, Ay⟩ := D 12 (by decide)
 obtain ⟨Ar, o⟩ := Ay
 obtain ⟨Al, Az⟩ := D 13 (by decide)
 obtain ⟨As, p⟩ := Az
 obtain ⟨Am, A0⟩ := D 14 (by decide)
 obtain ⟨At, q⟩ := A0
 obtain ⟨An, A1⟩ := D 15 (by decide)
 obtain ⟨Au, r⟩ := A1
 obtain ⟨Ao, A2⟩ := D 16 (by decide)
 obtain ⟨Av, s⟩ := A2
 obtain ⟨Q, A3⟩ := D 17 (by decide)
 obtain ⟨x, u⟩ := A3
 have AU : Sep NoB w Cv [(row (A 4) 3 1 2 [(Value.int .i64 ((e_3 t B).1)), (Value.int .i64 ((e_3 t C).1))]), (row (A 13) 3 1 2 [(Value.int .i64 ((e_3 t B).2)), (Value.int .i64 ((e_3 t C).2))]), (blk G 30 [(Value.int .i64 ((e_3 t C).1)), (Value.int .i64 ((e_3 t C).2))]), (blk E 30 [(Value.int .i64 ((e_3 t B).1)), (Value.int .i64 ((e_3 t B).2))]), (blk F 30 [(Value.int .i64 0), (Value.int .i64 0)]), (blk z 30 [(Value.int .i64 B), (Value.int .i64 C)]), (blk J 106 [(Value.int .i64 t.frm), (Value.int .i64 t.dst), vr, vb, (Value.int .i64 t.err)]), (sl vr 2 t.rows.length (pairs t.rows)), (sl vb 1 t.brk.length (ints t.brk))] := by rw [show catR rsf81 0 18 = ([(row (A 4) 3 1 2 [(Value.int .i64 ((e_3 t B).1)), (Value.int .i64 ((e_3 t C).1))]), (row (A 13) 3 1 2 [(Value.int .i64 ((e_3 t B).2)), (Value.int .i64 ((e_3 t C).2))])] : List Res) by (try simp only [catR, AX, AY, AZ, Aa, Ab, Ac, Ad, Ae, Af, Ag, k, m, o, p, q, r, s, u]); (try rfl)] at h; exact h
 rw [Ah] at j
 have AI : Fr 42 [] [(31, (Value.int .i64 ((min ((e_3 t B).1) ((e_3 t C).1)) - t.err))), (7, (bptr G 0)), (5, (bptr E 0)), (4, (bptr F 0)), (2, (bptr J 0))] y := AH.add (b_5 j rfl); clear AH
 rw [x] at Q
 have O : Fr 42 [] [(40, (Value.int .i64 ((max ((e_3 t B).2) ((e_3 t C).2)) + t.err))), (31, (Value.int .i64 ((min ((e_3 t B).1) ((e_3 t C).1)) - t.err))), (7, (bptr G 0)), (5, (bptr E 0)), (4, (bptr F 0)), (2, (bptr J 0))] y := AI.add (b_5 Q rfl); clear AI
 clear D h BL BM BN BO BP BQ BR BS j BT Ai Aj Ak Al Am An Ao Q
 clear AX
 clear Ba
 clear AY
 clear Bb
 clear AZ
 clear Bc
 clear Aa
 clear Bd
 clear Ab
 clear Be
 clear Ac
 clear Bf
 clear Ad
 clear Bg
 clear Ae
 clear Bh
 clear Af
 clear Ah
 clear Ag
 clear Bi
 clear k
 clear Ap
 clear m
 clear Aq
 clear o
 clear Ar
 clear p
 clear As
 clear q
 clear At
 clear r
 clear Au
 clear s
 clear Av
 clear u
 clear x
 refine s1 O (e_5 rfl (pv2 (O.ev rfl) (O.ev rfl)) (l_7 _ _)) fun DF P => ?_; clear O y
 refine s7 P (c_2 AU rfl g_7 (P.ev rfl) (P.ev rfl) (i := 4) rfl (vs := [(Value.int .i64 ((min ((e_3 t B).1) ((e_3 t C).1)) - t.err)), (Value.int .i64 ((max ((e_3 t B).2) ((e_3 t C).2)) + t.err))]) rfl rfl rfl (Nat.le_of_ble_eq_true rfl)) ?_
 intro _ Cw AV AJ; clear P
 have AW : Sep NoB w Cw [(row (A 4) 3 1 2 [(Value.int .i64 ((e_3 t B).1)), (Value.int .i64 ((e_3 t C).1))]), (row (A 13) 3 1 2 [(Value.int .i64 ((e_3 t B).2)), (Value.int .i64 ((e_3 t C).2))]), (blk G 30 [(Value.int .i64 ((e_3 t C).1)), (Value.int .i64 ((e_3 t C).2))]), (blk E 30 [(Value.int .i64 ((e_3 t B).1)), (Value.int .i64 ((e_3 t B).2))]), (blk F 30 [(Value.int .i64 ((min ((e_3 t B).1) ((e_3 t C).1)) - t.err)), (Value.int .i64 ((max ((e_3 t B).2) ((e_3 t C).2)) + t.err))]), (blk z 30 [(Value.int .i64 B), (Value.int .i64 C)]), (blk J 106 [(Value.int .i64 t.frm), (Value.int .i64 t.dst), vr, vb, (Value.int .i64 t.err)]), (sl vr 2 t.rows.length (pairs t.rows)), (sl vb 1 t.brk.length (ints t.brk))] := AV; clear AV AU
 refine n1 ?_
 refine c_9 ?_
 refine a_9 AJ (.inl rfl) (a_4 AJ rfl (.cellA rfl g_7 (AW.bk 4 rfl) (l := [(Value.int .i64 ((min ((e_3 t B).1) ((e_3 t C).1)) - t.err)), (Value.int .i64 ((max ((e_3 t B).2) ((e_3 t C).2)) + t.err))]) rfl rfl)) ?_
 exact ⟨rfl, AW.ext⟩
end Go.Proofs.Ytohgladndklciaa

namespace Go.Proofs.Ytohgladndklciaa
open Go.RowKit Go.Shelf Go.Eng Go.Hard
theorem indexB_int (xs : List Int) (lf : Nat → Int) (bm : Nat) (v : Value) (fid : Nat) (fs cs : Array Value) (p : Nat → Bool) (w : World) (hJ : Sep (fun b => b = bm) w w [blk bm 3 [.int .i64 (lf 0)], sl v 1 xs.length (ints xs)]) (hlen : xs.length ≤ 1000000) (hf : AsksB Try.prog w fid fs cs xs.length (fun i => .int .i64 (xs.getD i 0)) p false bm 3 (fun i => [.int .i64 (lf i)])) :
  Calls Try.prog 115 #[v, (Value.func (.func fid) fs cs)] w (Ret fun v w' => v = .int .i64 (fidx p xs.length) ∧ Ext (fun b => b = bm) w w' ∧ ∃ x, (blk bm 3 [.int .i64 x]).p w') := by
 refine a_8 Try.func115 rfl fun l S => ?_
 replace S : Fr 19 [] [(0, v), (1, (Value.func (.func fid) fs cs))] l := S
 have Z : Sep (fun b => b = bm) w w [(blk bm 3 [(Value.int .i64 (lf 0))]), (sl v 1 xs.length (ints xs))] := hJ
 refine m2 ?_
 refine s1 S (a_0 rfl (evc _ _)) fun a1 T => ?_; clear S l
 refine n2 ?_
 refine m2 ?_
 refine s1 T (a_1 rfl (T.ev rfl)) fun a3 U => ?_; clear T a1
 refine s1 U (d_6 rfl p_4 (U.ev rfl) (Z.sk 1 rfl)) fun a5 e => ?_; clear U a3
 refine s1 e (a_1 rfl (evc _ _)) fun a7 f => ?_; clear e a5
 refine n1 ?_
 refine c_7 ?_
 have g := f.as [(8, (Value.int .i64 0)), (7, (Value.int .i64 (xs.length : Int))), (0, v), (1, (Value.func (.func fid) fs cs))] rfl; clear f
 refine h_3 (G := Nat) (fun (k : Nat) a_ w_ => Fr 19 [] [(8, (Value.int .i64 (k : Int))), (7, (Value.int .i64 (xs.length : Int))), (0, v), (1, (Value.func (.func fid) fs cs))] a_ ∧ Sep (fun b => b = bm) w w_ [(blk bm 3 [(Value.int .i64 (lf k))]), (sl v 1 xs.length (ints xs))] ∧ (k ≤ xs.length) ∧ (∀ i, i < k → p i = false)) (fun k => xs.length - k) 0 ⟨g.as _ rfl, Z, by omega, by omega⟩ ?_
 clear g Z a7
 rintro k m AH ⟨D, C, hk, hn⟩
 refine m2 ?_
 refine s1 D (f_8 rfl (D.ev rfl) (D.ev rfl)) fun c A => ?_; clear D m
 refine n2 ?_
 by_cases a : (k : Int) < (xs.length : Int)
 ·skip
  rw [decide_eq_true a] at A
  refine c_3 A rfl ?_
  refine d_0 ?_
  refine b_0 ?_
  refine b_8 ?_
  refine c_7 ?_
  refine m2 ?_
  refine s1 A (a_1 rfl (A.ev rfl)) fun n H => ?_; clear A c
  refine s1 H (a_0 rfl (H.ev rfl)) fun o I => ?_; clear H n
  refine n4 ?_
  refine s1 I (a_1 rfl (I.ev rfl)) fun q J => ?_; clear I o
  refine s1 J (a_1 rfl (J.ev rfl)) fun r K => ?_; clear J q
  refine s1 K (a_1 rfl (K.ev rfl)) fun s E => ?_; clear K r
  refine s1 E (b_3 rfl p_4 ty_3 (E.ev rfl) (i := k) (E.ev rfl) (C.sk 1 rfl) (by decide) (by omega)) fun t L => ?_; clear E s
  refine s1 L (c_4 rfl ty_3 (L.ev rfl) (C.sk 1 rfl) (ints_at (by omega))) fun u F => ?_; clear L t
  refine s2 F (k_3 rfl (F.ev rfl) hf.1 (ev1 (F.ev rfl)) (hf.2 k (by omega) hn _ C.ext (C.bk 0 rfl))) ?_
  rintro d _ AI ⟨rfl, X, Y⟩ B; have Q := C.updB (i := 0) rfl X Y; clear X Y F C u
  refine n1 ?_
  rcases Bool.eq_false_or_eq_true (p k) with R | R
  ·skip
   rw [R] at B
   refine c_3 B rfl ?_
   refine b_8 ?_
   have M := B.as [(5, (Value.int .i64 (k : Int)))] rfl; clear B
   refine a_5 ?_
   refine s1 M (a_1 rfl (M.ev rfl)) fun y N => ?_; clear M d
   refine s1 N (a_0 rfl (N.ev rfl)) fun AE V => ?_; clear N y
   refine n1 ?_
   refine c_9 ?_
   refine c_6 ?_
   refine a_6 ?_
   refine a_6 ?_
   refine c_6 ?_
   refine a_6 ?_
   refine a_9 V (.inl rfl) (a_4 V rfl (.tmp rfl)) ?_
   exact ⟨by first | rw [k_2 (by omega) hn (by assumption)] | rw [i_9 (fun i hi => hn i (by omega))], Q.ext, _, Q.bk 0 rfl⟩
  skip
  rw [R] at B
  refine b_7 B rfl ?_
  refine d_0 ?_
  refine h_0 ?_
  refine b_0 ?_
  have O := B.as [(8, (Value.int .i64 (k : Int))), (7, (Value.int .i64 (xs.length : Int))), (0, v), (1, (Value.func (.func fid) fs cs))] rfl; clear B
  refine a_5 ?_
  refine s1 O (f_4 rfl (O.ev rfl) (evc _ _) (by omega) (by omega)) fun z P => ?_; clear O d
  refine s1 P (a_1 rfl (P.ev rfl)) fun AF j => ?_; clear P z
  refine e_9 ?_
  exact b_0 ⟨k + 1, ⟨j.as _ rfl, Q, by omega, (fun i hi => by rcases Nat.lt_succ_iff_lt_or_eq.1 hi with h | h; exact hn i h; subst h; assumption)⟩, by omega⟩
 skip
 rw [decide_eq_false a] at A
 refine b_7 A rfl ?_
 refine g_8 ?_
 refine b_6 ?_
 refine b_6 ?_
 refine f_5 ?_
 refine b_0 ?_
 refine m2 ?_
 refine s1 A (a_0 rfl (evc _ _)) fun AG W => ?_; clear A c
 refine n1 ?_
 refine c_9 ?_
 refine a_9 W (.inl rfl) (a_4 W rfl (.tmp rfl)) ?_
 exact ⟨by first | rw [k_2 (by omega) hn (by assumption)] | rw [i_9 (fun i hi => hn i (by omega))], C.ext, _, C.bk 0 rfl⟩
theorem contB_int (xs : List Int) (lf : Nat → Int) (bm : Nat) (v : Value) (fid : Nat) (fs cs : Array Value) (p : Nat → Bool) (w : World) (hJ : Sep (fun b => b = bm) w w [blk bm 3 [.int .i64 (lf 0)], sl v 1 xs.length (ints xs)]) (hlen : xs.length ≤ 1000000) (hf : AsksB Try.prog w fid fs cs xs.length (fun i => .int .i64 (xs.getD i 0)) p false bm 3 (fun i => [.int .i64 (lf i)])) :
  Calls Try.prog 99 #[v, (Value.func (.func fid) fs cs)] w (Ret fun v w' => v = .bool ((List.range xs.length).any p) ∧ Ext (fun b => b = bm) w w' ∧ ∃ x, (blk bm 3 [.int .i64 x]).p w') := by
 refine a_8 Try.func99 rfl fun L B => ?_
 replace B : Fr 9 [] [(0, v), (1, (Value.func (.func fid) fs cs))] L := B
 have K : Sep (fun b => b = bm) w w [(blk bm 3 [(Value.int .i64 (lf 0))]), (sl v 1 xs.length (ints xs))] := hJ
 refine m2 ?_
 refine s1 B (a_0 rfl (evc _ _)) fun N E => ?_; clear B L
 refine n4 ?_
 refine s1 E (a_1 rfl (E.ev rfl)) fun O F => ?_; clear E N
 refine s1 F (a_1 rfl (F.ev rfl)) fun P C => ?_; clear F O
 refine s2 C (b_4 rfl en_115 (ev2 (C.ev rfl) (C.ev rfl)) (indexB_int xs lf bm _ _ _ _ p _ hJ hlen hf)) ?_
 rintro Q _ S ⟨rfl, H, lx13, I⟩ G; have J := K.updB (i := 0) rfl H I; clear H I C K P
 refine s1 G (z_0 rfl (G.ev rfl) (evc _ _)) fun M A => ?_; clear G Q
 refine s1 A (a_0 rfl (A.ev rfl)) fun R D => ?_; clear A M
 refine n1 ?_
 refine c_9 ?_
 refine a_9 D (.inl rfl) (a_4 D rfl (.tmp rfl)) ?_
 exact ⟨congrArg Value.bool (s_2 p xs.length), J.ext, _, J.bk 0 rfl⟩
theorem cloB_int (x : Int) (b bm fid : Nat) (L O : Int) (fs cs : Array Value) (q : Bool) (w : World) (hJ : Sep (fun k => k = bm) w w [blk bm 3 [.int .i64 L], rob b 112 [.func (.func fid) fs cs]]) (hen : ∀ args W, (callFunc fid args).run Try.prog W = .ok (.enter fid args) W) (hf : ∀ W, Ext (fun k => k = bm) w W → (blk bm 3 [.int .i64 L]).p W → Calls Try.prog fid (fs ++ #[.int .i64 x] ++ cs) W (Ret fun v w' => v = .bool q ∧ Ext (fun k => k = bm) W w' ∧ (blk bm 3 [.int .i64 O]).p w')) :
  Calls Try.prog 100 #[(Value.int .i64 x), (bptr b 0)] w (Ret fun v w' => v = .bool (!q) ∧ Ext (fun k => k = bm) w w' ∧ (blk bm 3 [.int .i64 O]).p w') := by
 refine a_8 Try.func100 rfl fun M C => ?_
 replace C : Fr 8 [] [(0, (Value.int .i64 x)), (1, (bptr b 0))] M := C
 have A : Sep (fun k => k = bm) w w [(blk bm 3 [(Value.int .i64 L)]), (rob b 112 [(Value.func (.func fid) fs cs)])] := hJ
 refine m2 ?_
 refine s1 C (a_0 rfl (evc _ _)) fun P F => ?_; clear C M
 refine n4 ?_
 refine s1 F (a_2 rfl ty_112 (F.ev rfl) (A.rk 1 rfl) rfl) fun Q G => ?_; clear F P
 refine s1 G (a_1 rfl (G.ev rfl)) fun R D => ?_; clear G Q
 refine s2 D (k_3 rfl (D.ev rfl) hen (ev1 (D.ev rfl)) (hf _ A.ext (A.bk 0 rfl))) ?_
 rintro S _ U ⟨rfl, I, J⟩ H; have K := A.updB (i := 0) rfl I J; clear I J D A R
 refine s1 H (f_6 rfl (H.ev rfl)) fun N B => ?_; clear H S
 refine s1 B (a_0 rfl (B.ev rfl)) fun T E => ?_; clear B N
 refine n1 ?_
 refine c_9 ?_
 refine a_9 E (.inl rfl) (a_4 E rfl (.tmp rfl)) ?_
 exact ⟨rfl, K.ext, K.bk 0 rfl⟩
theorem allB_int (xs : List Int) (lf : Nat → Int) (bm : Nat) (v : Value) (fid : Nat) (fs cs : Array Value) (p : Nat → Bool) (w : World) (hJ : Sep (fun b => b = bm) w w [blk bm 3 [.int .i64 (lf 0)], sl v 1 xs.length (ints xs)]) (hlen : xs.length ≤ 1000000) (hf : AsksB Try.prog w fid fs cs xs.length (fun i => .int .i64 (xs.getD i 0)) p true bm 3 (fun i => [.int .i64 (lf i)])) :
  Calls Try.prog 69 #[v, (Value.func (.func fid) fs cs)] w (Ret fun v w' => v = .bool ((List.range xs.length).all p) ∧ Ext (fun b => b = bm) w w' ∧ ∃ x, (blk bm 3 [.int .i64 x]).p w') := by
 refine a_8 Try.func69 rfl fun N C => ?_
 replace C : Fr 9 [] [(0, v), (1, (Value.func (.func fid) fs cs))] N := C
 have M : Sep (fun b => b = bm) w w [(blk bm 3 [(Value.int .i64 (lf 0))]), (sl v 1 xs.length (ints xs))] := hJ
 refine m2 ?_
 refine s2 C (f_0 M rfl (C.ev rfl) (cs := [(Value.func (.func fid) fs cs)]) rfl) ?_
 rintro S _ Y ⟨R, rfl, A⟩ L; clear C M N
 refine s1 L (a_0 rfl (evc _ _)) fun T G => ?_; clear L S
 refine n4 ?_
 refine s1 G (a_1 rfl (G.ev rfl)) fun U H => ?_; clear G T
 refine s1 H (h_5 rfl ev0 (ev1 (H.ev rfl))) fun O B => ?_; clear H U
 refine s2 B (b_4 rfl en_99 (ev2 (B.ev rfl) (B.ev rfl)) (contB_int xs lf bm _ 100 #[] #[(bptr R 0)] (fun i => !p i) _ (A.lend (i := 1) rfl rfl (L' := [(sl v 1 xs.length (ints xs))]) (js := [2]) ⟨rfl, by decide, A.sk 2 rfl, ⟨_, rfl, fun _ hz => hz⟩, trivial⟩) hlen ⟨en_100, fun i hi hz W hW hb => cloB_int _ _ _ _ _ _ _ _ (p i) W ((A.updB (i := 1) rfl hW hb).lend (i := 1) rfl rfl (L' := [rob R 112 [(Value.func (.func fid) fs cs)]]) (js := [0]) ⟨rfl, by decide, (A.updB (i := 1) rfl hW hb).bk 0 rfl, ⟨_, rfl, fun _ hz => hz⟩, trivial⟩) hf.1 (fun W' hW' hb' => hf.2 i hi (fun j hj => (Bool.not_eq_false' (p j)).mp (hz j hj)) W' (A.ext.trans (hW.trans hW')) hb')⟩)) ?_
 rintro P _ X ⟨rfl, I, lx18, J⟩ D; have K := A.updB (i := 1) rfl I J; clear I J B A O
 refine s1 D (f_6 rfl (D.ev rfl)) fun Q E => ?_; clear D P
 refine s1 E (a_0 rfl (E.ev rfl)) fun V F => ?_; clear E Q
 refine n1 ?_
 refine c_9 ?_
 refine a_9 F (.inl rfl) (a_4 F rfl (.tmp rfl)) ?_
 exact ⟨congrArg Value.bool (any_not p xs.length), K.ext, _, K.bk 1 rfl⟩
end Go.Proofs.Ytohgladndklciaa

namespace Go.Hard
section
variable {n : Int} {t : TabD}
theorem tab_rows (h : (List.range t.rows.length).all (fun i => rowB (t.rows.getD i (0, 0))) = false) : tabB n t = false := by
  cases hb : tabB n t with
  | false => rfl
  | true =>
    have g := (tabB_iff.1 hb).2.2.2.2.2.1
    have : (List.range t.rows.length).all (fun i => rowB (t.rows.getD i (0, 0))) = true := List.all_eq_true.2 fun i hi => g i (List.mem_range.1 hi)
    rw [this] at h; cases h
theorem tab_rest (h1 : inB t.frm 0 (n - 1) = true) (h2 : inB t.dst 0 (n - 1) = true) (h3 : ¬ t.frm = t.dst) (h4 : inB t.err 0 1000 = true) (h5 : 2 ≤ t.rows.length) (h6 : (List.range t.rows.length).all (fun i => rowB (t.rows.getD i (0, 0))) = true) (h7 : ∀ i, i < t.rows.length - 1 → z_7 (aa_2 t) (t.rows.getD i (0, 0)) (t.rows.getD (i + 1) (0, 0)) = true) : tabB n t = (List.range t.brk.length).all (brkB t) := by
  have h7' : allI (t.rows.length - 1) (fun i => z_7 (aa_2 t) (t.rows.getD i (0, 0)) (t.rows.getD (i + 1) (0, 0))) = true := h_7.2 h7
  have h6' : allI t.rows.length (fun i => rowB (t.rows.getD i (0, 0))) = true := h6
  unfold tabB headB
  rw [h1, h2, h4, h6', h7', decide_eq_true (show 2 ≤ (t.rows.length : Int) by omega), decide_eq_false h3]
  rfl
theorem last_bd (i : Nat) (h : ∀ j, j < i → brkB t j = true) : -1 ≤ ab_6 t i ∧ ab_6 t i ≤ (t.rows.length : Int) := by
  induction i with
  | zero => exact ⟨Int.le_refl _, by show (-1 : Int) ≤ _; omega⟩
  | succ i ih =>
    have a := ih fun j hj => h j (by omega)
    have b := j_8.1 (h i (by omega))
    show -1 ≤ t.brk.getD i 0 ∧ t.brk.getD i 0 ≤ _
    omega
end
end Go.Hard

namespace Go.Proofs.Ytohgladndklciaa
open Go.RowKit Go.Shelf Go.Eng Go.Hard
theorem fd_106_0 : fldK Try.prog 106 0 = some 0 := by kernel_rfl
theorem fd_106_1 : fldK Try.prog 106 1 = some 1 := by kernel_rfl
theorem en_95 : ∀ args w, (callFunc 95 args).run Try.prog w = .ok (.enter 95 args) w := enters_of Try.func95 (by kernel_rfl) rfl
theorem en_94 : ∀ args w, (callFunc 94 args).run Try.prog w = .ok (.enter 94 args) w := enters_of Try.func94 (by kernel_rfl) rfl
theorem en_96 : ∀ args w, (callFunc 96 args).run Try.prog w = .ok (.enter 96 args) w := enters_of Try.func96 (by kernel_rfl) rfl
theorem lastclo_ok (x L : Int) (t : TabD) (vr vb : Value) (bm M : Nat) (w : World) (hJ : Sep (fun b => b = bm) w w [blk bm 3 [.int .i64 L], rob M 106 [.int .i64 t.frm, .int .i64 t.dst, vr, vb, .int .i64 t.err], sl vr 2 t.rows.length (pairs t.rows), sl vb 1 t.brk.length (ints t.brk)]) (m : -1 ≤ L ∧ L ≤ 1000000) (hrl : t.rows.length ≤ 1000000) :
  Calls Try.prog 96 #[(Value.int .i64 x), (bptr bm 0), (bptr M 0)] w (Ret fun v w' => v = .bool (inB x (L + 1) ((t.rows.length : Int) - 2)) ∧ Ext (fun b => b = bm) w w' ∧ (blk bm 3 [.int .i64 x]).p w') := by
 refine a_8 Try.func96 rfl fun V K => ?_
 replace K : Fr 16 [] [(0, (Value.int .i64 x)), (1, (bptr bm 0)), (2, (bptr M 0))] V := K
 have C : Sep (fun b => b = bm) w w [(blk bm 3 [(Value.int .i64 L)]), (rob M 106 [(Value.int .i64 t.frm), (Value.int .i64 t.dst), vr, vb, (Value.int .i64 t.err)]), (sl vr 2 t.rows.length (pairs t.rows)), (sl vb 1 t.brk.length (ints t.brk))] := hJ
 refine m2 ?_
 refine s1 K (a_0 rfl (evc _ _)) fun f N => ?_; clear K V
 refine n4 ?_
 refine s1 N (a_1 rfl (N.ev rfl)) fun g Q => ?_; clear N f
 refine s1 Q (a_2 rfl ty_3 (Q.ev rfl) (C.bk 0 rfl) rfl) fun h R => ?_; clear Q g
 refine s1 R (f_4 rfl (R.ev rfl) (evc _ _) (by omega) (by omega)) fun j S => ?_; clear R h
 refine s1 S (a_3 rfl j_3 (S.ev rfl)) fun k D => ?_; clear S j
 refine s1 D (a_2 rfl n_9 (D.ev rfl) (C.rk 1 rfl) rfl) fun W E => ?_; clear D k
 refine s1 E (d_6 rfl k_4 (E.ev rfl) (C.sk 2 rfl)) fun X F => ?_; clear E W
 refine s1 F (h_9 rfl (F.ev rfl) (evc _ _) (by omega) (by omega)) fun Y A => ?_; clear F X
 refine s2 A (b_4 rfl en_47 (ev3 (A.ev rfl) (A.ev rfl) (A.ev rfl)) (o_0 _ _ _ _)) ?_
 rintro Z _ W_ ⟨rfl, hW_⟩ G; have hW2_ := hW_.symm; subst hW2_; clear hW_ A Y
 refine s1 G (a_0 rfl (G.ev rfl)) fun a O => ?_; clear G Z
 refine n2 ?_
 have H := O.as [(5, (Value.bool (inB x (L + 1) ((t.rows.length : Int) - 2)))), (0, (Value.int .i64 x)), (1, (bptr bm 0))] rfl; clear O
 refine a_5 ?_
 refine s1 H (a_1 rfl (H.ev rfl)) fun c B => ?_; clear H a
 refine s7 B (c_2 C rfl ty_3 (B.ev rfl) (B.ev rfl) (i := 0) rfl (vs := [(Value.int .i64 x)]) rfl rfl rfl (Nat.le_of_ble_eq_true rfl)) ?_
 intro _ e T I; clear B
 have U : Sep (fun b => b = bm) w e [(blk bm 3 [(Value.int .i64 x)]), (rob M 106 [(Value.int .i64 t.frm), (Value.int .i64 t.dst), vr, vb, (Value.int .i64 t.err)]), (sl vr 2 t.rows.length (pairs t.rows)), (sl vb 1 t.brk.length (ints t.brk))] := T; clear T C
 refine n4 ?_
 refine s1 I (a_1 rfl (I.ev rfl)) fun d J => ?_; clear I c
 refine s1 J (a_0 rfl (J.ev rfl)) fun l P => ?_; clear J d
 refine n1 ?_
 refine c_9 ?_
 refine a_9 P (.inl rfl) (a_4 P rfl (.tmp rfl)) ?_
 exact ⟨rfl, U.ext, U.bk 0 rfl⟩
set_option maxHeartbeats 4000000 in
theorem table_ok (sc : Int) (vt vm : Value) (h1_ : vt.oneCell' = true) (h2_ : vm.oneCell' = true) (hsc : 1 ≤ sc ∧ sc ≤ 4) (t : TabD) (vr vb : Value) (w : World) (hr : SlAt w vr 2 t.rows.length (pairs t.rows)) (hb : SlAt w vb 1 t.brk.length (ints t.brk)) (hrl : t.rows.length ≤ 1000000) (hbl : t.brk.length ≤ 1000000) :
  Calls Try.prog 65 #[(Value.agg #[(Value.int .i64 sc), vt, vm]), (Value.agg #[(Value.int .i64 t.frm), (Value.int .i64 t.dst), vr, vb, (Value.int .i64 t.err)])] w (Ret fun v w' => v = .bool (tabB sc t) ∧ Ext NoB w w') := by
 refine a_8 Try.func65 rfl fun a0 BN => ?_
 replace BN : Fr 98 [] [(0, (Value.agg #[(Value.int .i64 sc), vt, vm])), (1, (Value.agg #[(Value.int .i64 t.frm), (Value.int .i64 t.dst), vr, vb, (Value.int .i64 t.err)]))] a0 := BN
 have Dy : Sep NoB w w [(sl vr 2 t.rows.length (pairs t.rows)), (sl vb 1 t.brk.length (ints t.brk))] := f_1 ⟨rfl, hr, rfl, hb, trivial⟩
 refine m2 ?_
 refine s2 BN (f_0 Dy rfl (BN.ev rfl) (cs := [(Value.int .i64 sc), vt, vm]) rfl) ?_
 rintro a1 _ w3 ⟨b4, rfl, Dz⟩ DZ; clear BN Dy a0
 refine s2 DZ (f_0 Dz rfl (DZ.ev rfl) (cs := [(Value.int .i64 t.frm), (Value.int .i64 t.dst), vr, vb, (Value.int .i64 t.err)]) rfl) ?_
 rintro a6 _ w8 ⟨M, rfl, BI⟩ Dx; clear DZ Dz a1
 refine s1 Dx (a_0 rfl (evc _ _)) fun GY BQ => ?_; clear Dx a6
 refine n2 ?_
 refine m2 ?_
 refine s1 BQ (c_5 rfl t_9 (BQ.ev rfl) (BI.bk 1 rfl) (l := [(Value.int .i64 sc), vt, vm]) rfl rfl) fun GZ BR => ?_; clear BQ GY
 refine s1 BR (a_3 rfl fd_106_0 (BR.ev rfl)) fun Ga BS => ?_; clear BR GZ
 refine s1 BS (a_2 rfl ty_3 (BS.ev rfl) (BI.bk 0 rfl) rfl) fun Gb AL => ?_; clear BS Ga
 refine s2 AL (b_4 rfl en_93 (ev2 (AL.ev rfl) (AL.ev rfl)) (scale_ok t.frm sc _ _ _ h1_ h2_ hsc)) ?_
 rintro Gc _ HS ⟨rfl, Dn⟩ BT; have p := BI.step Dn; clear Dn AL BI Gb
 refine s1 BT (f_6 rfl (BT.ev rfl)) fun Gd BU => ?_; clear BT Gc
 refine s1 BU (a_1 rfl (BU.ev rfl)) fun Du N => ?_; clear BU Gd
 rcases Bool.eq_false_or_eq_true ((inB t.frm 0 (sc - 1))) with Bj | Bj
 ·skip
  rw [Bj] at N
  refine s5 N (c_5 rfl t_9 (N.ev rfl) (p.bk 1 rfl) (l := [(Value.int .i64 sc), vt, vm]) rfl rfl) fun Ge BV => ?_; clear N Du
  refine s5 BV (a_3 rfl fd_106_1 (BV.ev rfl)) fun Gf BW => ?_; clear BV Ge
  refine s5 BW (a_2 rfl ty_3 (BW.ev rfl) (p.bk 0 rfl) rfl) fun Gg Aq => ?_; clear BW Gf
  refine s6 Aq (b_4 rfl en_93 (ev2 (Aq.ev rfl) (Aq.ev rfl)) (scale_ok t.dst sc _ _ _ h1_ h2_ hsc)) ?_
  rintro Gh _ HT ⟨rfl, Do⟩ BX; have B := p.step Do; clear Do Aq p Gg
  refine s5 BX (f_6 rfl (BX.ev rfl)) fun Gi A0 => ?_; clear BX Gh
  refine s1 A0 (d_3 rfl (A0.ev rfl) (A0.ev rfl)) fun Gj BY => ?_; clear A0 Gi
  refine s1 BY (a_1 rfl (BY.ev rfl)) fun Dv O => ?_; clear BY Gj
  rcases Bool.eq_false_or_eq_true ((inB t.dst 0 (sc - 1))) with Bk | Bk
  ·skip
   rw [Bk] at O
   refine s5 O (a_3 rfl fd_106_0 (O.ev rfl)) fun Gk BZ => ?_; clear O Dv
   refine s5 BZ (a_2 rfl ty_3 (BZ.ev rfl) (B.bk 0 rfl) rfl) fun Gl Ba => ?_; clear BZ Gk
   refine s5 Ba (a_3 rfl fd_106_1 (Ba.ev rfl)) fun Gm Bb => ?_; clear Ba Gl
   refine s5 Bb (a_2 rfl ty_3 (Bb.ev rfl) (B.bk 0 rfl) rfl) fun Gn BF => ?_; clear Bb Gm
   refine s5 BF (n_7 rfl (BF.ev rfl) (BF.ev rfl)) fun Go BG => ?_; clear BF Gn
   refine s1 BG (d_3 rfl (BG.ev rfl) (BG.ev rfl)) fun Gp Bc => ?_; clear BG Go
   refine s1 Bc (a_1 rfl (Bc.ev rfl)) fun Dw P => ?_; clear Bc Gp
   by_cases Dp : t.frm = t.dst
   ·skip
    rw [decide_eq_true Dp] at P
    refine s3 P fun Gq Da => ?_; clear P Dw
    refine s3 Da fun Gr Db => ?_; clear Da Gq
    refine s3 Db fun Gs Dc => ?_; clear Db Gr
    refine s3 Dc fun Gt Bd => ?_; clear Dc Gs
    refine s1 Bd (b_9 rfl (Bd.ev rfl) (evc _ _)) fun Gu Be => ?_; clear Bd Gt
    refine s1 Be (a_1 rfl (Be.ev rfl)) fun Gv Dd => ?_; clear Be Gu
    refine s3 Dd fun Gw De => ?_; clear Dd Gv
    refine s3 De fun Gx Df => ?_; clear De Gw
    refine s3 Df fun Gy Dg => ?_; clear Df Gx
    refine s3 Dg fun Gz Bf => ?_; clear Dg Gy
    refine s1 Bf (b_9 rfl (Bf.ev rfl) (evc _ _)) fun G0 Bg => ?_; clear Bf Gz
    refine s1 Bg (a_1 rfl (Bg.ev rfl)) fun G1 Dh => ?_; clear Bg G0
    refine s3 Dh fun G2 Di => ?_; clear Dh G1
    refine s3 Di fun G3 Dj => ?_; clear Di G2
    refine s3 Dj fun G4 Dk => ?_; clear Dj G3
    refine s3 Dk fun G5 Bh => ?_; clear Dk G4
    refine s1 Bh (b_9 rfl (Bh.ev rfl) (evc _ _)) fun G6 Bi => ?_; clear Bh G5
    refine n1 ?_
    refine c_3 Bi rfl ?_
    refine b_8 ?_
    have Dl := Bi.as [] rfl; clear Bi
    refine a_5 ?_
    refine s1 Dl (a_0 rfl (evc _ _)) fun HR Dm => ?_; clear Dl G6
    refine n1 ?_
    refine c_9 ?_
    refine a_6 ?_
    refine a_9 Dm (.inl rfl) (a_4 Dm rfl (.tmp rfl)) ?_
    exact ⟨congrArg Value.bool (Eq.symm (by first | exact tab_rows (by assumption) | exact p_3 (by first | exact .inl (by assumption) | exact .inr (.inl (by assumption)) | exact .inr (.inr (.inl (by assumption))) | exact .inr (.inr (.inr (.inl (by assumption)))) | exact .inr (.inr (.inr (.inr (by omega))))))), B.ext⟩
   skip
   rw [decide_eq_false Dp] at P
   refine s5 P (a_3 rfl fd_106_4 (P.ev rfl)) fun G7 q => ?_; clear P Dw
   refine s5 q (a_2 rfl ty_3 (q.ev rfl) (B.bk 0 rfl) rfl) fun D0 r => ?_; clear q G7
   refine s6 r (b_4 rfl en_47 (ev3 (r.ev rfl) (evc _ _) (evc _ _)) (o_0 _ _ _ _)) ?_
   rintro D1 _ W_ ⟨rfl, hW_⟩ s; have hW2_ := hW_.symm; subst hW2_; clear hW_ r D0
   refine s5 s (f_6 rfl (s.ev rfl)) fun D2 S => ?_; clear s D1
   refine s1 S (d_3 rfl (S.ev rfl) (S.ev rfl)) fun D3 u => ?_; clear S D2
   refine s1 u (a_1 rfl (u.ev rfl)) fun DR H => ?_; clear u D3
   rcases Bool.eq_false_or_eq_true ((inB t.err 0 1000)) with BK | BK
   ·skip
    rw [BK] at H
    refine s5 H (a_3 rfl j_3 (H.ev rfl)) fun D4 x => ?_; clear H DR
    refine s5 x (a_2 rfl n_9 (x.ev rfl) (B.bk 0 rfl) rfl) fun D5 y => ?_; clear x D4
    refine s5 y (d_6 rfl k_4 (y.ev rfl) (B.sk 2 rfl)) fun D6 z => ?_; clear y D5
    refine s5 z (f_8 rfl (z.ev rfl) (evc _ _)) fun D7 T => ?_; clear z D6
    refine s1 T (d_3 rfl (T.ev rfl) (T.ev rfl)) fun D8 AA => ?_; clear T D7
    refine s1 AA (a_1 rfl (AA.ev rfl)) fun DS I => ?_; clear AA D8
    by_cases DN : (t.rows.length : Int) < 2
    ·skip
     rw [decide_eq_true DN] at I
     refine s3 I fun D9 Bl => ?_; clear I DS
     refine s3 Bl fun EA Bm => ?_; clear Bl D9
     refine s3 Bm fun EB Bn => ?_; clear Bm EA
     refine s3 Bn fun EC AB => ?_; clear Bn EB
     refine s1 AB (b_9 rfl (AB.ev rfl) (evc _ _)) fun ED AC => ?_; clear AB EC
     refine n1 ?_
     refine c_3 AC rfl ?_
     refine b_8 ?_
     have Bo := AC.as [] rfl; clear AC
     refine a_5 ?_
     refine s1 Bo (a_0 rfl (evc _ _)) fun G9 Bp => ?_; clear Bo ED
     refine n1 ?_
     refine c_9 ?_
     refine a_6 ?_
     refine a_9 Bp (.inl rfl) (a_4 Bp rfl (.tmp rfl)) ?_
     exact ⟨congrArg Value.bool (Eq.symm (by first | exact tab_rows (by assumption) | exact p_3 (by first | exact .inl (by assumption) | exact .inr (.inl (by assumption)) | exact .inr (.inr (.inl (by assumption))) | exact .inr (.inr (.inr (.inl (by assumption)))) | exact .inr (.inr (.inr (.inr (by omega))))))), B.ext⟩
    skip
    rw [decide_eq_false DN] at I
    refine s5 I (a_3 rfl j_3 (I.ev rfl)) fun EE AD => ?_; clear I DS
    refine s5 AD (a_2 rfl n_9 (AD.ev rfl) (B.bk 0 rfl) rfl) fun EF AE => ?_; clear AD EE
    refine s6 AE (b_4 rfl en_94 (ev2 (AE.ev rfl) (evf _ _)) (all_row t.rows _ 95 #[] #[] (fun i => rowB (t.rows.getD i (0, 0))) _ (B.sk 2 rfl) (by omega) ⟨en_95, fun i hi W hW => row_ok _ _ W⟩)) ?_
    rintro EG _ HK ⟨rfl, DE⟩ AF; have BJ := B.step DE; clear DE AE B EF
    refine s5 AF (f_6 rfl (AF.ev rfl)) fun EH U => ?_; clear AF EG
    refine s1 U (d_3 rfl (U.ev rfl) (U.ev rfl)) fun EI E => ?_; clear U EH
    refine n1 ?_
    rcases Bool.eq_false_or_eq_true (((List.range t.rows.length).all (fun i => rowB (t.rows.getD i (0, 0))))) with BL | BL
    ·skip
     rw [BL] at E
     refine b_7 E rfl ?_
     refine d_0 ?_
     refine b_0 ?_
     refine b_8 ?_
     have Bq := E.as [(3, (bptr M 0))] rfl; clear E
     have Br := Bq.as [(3, (bptr M 0))] rfl; clear Bq
     refine g_3 mixed Br BJ 10 [[], [0], [1], [2], [3], [], [5], [6], [7], [8]] [(Yd.val (bptr M 2)), (Yd.val vr), (Yd.val (eptr vr (0 * 2))), (Yd.val (eptr vr (0 * 2 + 1))), (Yd.val (Value.int .i64 ((t.rows.getD 0 (0, 0)).2))), (Yd.val (bptr M 2)), (Yd.val vr), (Yd.val (eptr vr (1 * 2))), (Yd.val (eptr vr (1 * 2 + 1))), (Yd.val (Value.int .i64 ((t.rows.getD 1 (0, 0)).2)))] (by decide +kernel) rfl rfl ?_ ?_
     ·skip
      refine dq (fun a w hA hS hd => a_3 rfl j_3 (hA.ev rfl)) ?_
      refine dq (fun a w hA hS hd => a_2 rfl n_9 (hq hd 0) (hS.bk 0 rfl) rfl) ?_
      refine dq (fun a w hA hS hd => b_3 rfl k_4 i_6 (hq hd 1) (i := 0) (show _ = Value.int .i64 ((0 : Nat) : Int) from (evc _ _)) (hS.sk 2 rfl) (by decide) (by omega)) ?_
      refine dq (fun a w hA hS hd => d_1 rfl l_9 (hq hd 2) (hS.sk 2 rfl) (by rw [((hS.sk 2 rfl)).1]; omega)) ?_
      refine dq (fun a w hA hS hd => c_4 rfl ty_3 (hq hd 3) (hS.sk 2 rfl) (h_2 (by omega))) ?_
      refine dq (fun a w hA hS hd => a_3 rfl j_3 (hA.ev rfl)) ?_
      refine dq (fun a w hA hS hd => a_2 rfl n_9 (hq hd 5) (hS.bk 0 rfl) rfl) ?_
      refine dq (fun a w hA hS hd => b_3 rfl k_4 i_6 (hq hd 6) (i := 1) (show _ = Value.int .i64 ((1 : Nat) : Int) from (evc _ _)) (hS.sk 2 rfl) (by decide) (by omega)) ?_
      refine dq (fun a w hA hS hd => d_1 rfl l_9 (hq hd 7) (hS.sk 2 rfl) (by rw [((hS.sk 2 rfl)).1]; omega)) ?_
      refine dq (fun a w hA hS hd => c_4 rfl ty_3 (hq hd 8) (hS.sk 2 rfl) (h_2 (by omega))) ?_
      trivial
     intro EJ HL Bs Q BH; clear Br BJ
     have Bt := Bs.add (hz BH 4); clear Bs
     have V := Bt.add (hz BH 9); clear Bt
     clear BH
     refine s1 V (f_8 rfl (V.ev rfl) (V.ev rfl)) fun EK AG => ?_; clear V EJ
     refine s1 AG (a_0 rfl (AG.ev rfl)) fun EL AH => ?_; clear AG EK
     refine n2 ?_
     refine m2 ?_
     refine s1 AH (a_3 rfl j_3 (AH.ev rfl)) fun EM AI => ?_; clear AH EL
     refine s1 AI (a_2 rfl n_9 (AI.ev rfl) (Q.bk 0 rfl) rfl) fun EN AJ => ?_; clear AI EM
     refine s1 AJ (op_sliceLo rfl k_4 i_6 (AJ.ev rfl) (l := 1) (show _ = Value.int .i64 ((1 : Nat) : Int) from (evc _ _)) (Q.sk 2 rfl) (by omega)) fun EO AK => ?_; clear AJ EN
     refine s1 AK (d_6 rfl k_4 (AK.ev rfl) (SlAt.say (n' := (t.rows.length - 1)) (cs' := (pairs (t.rows.drop 1))) (SlAt.cut (Q.sk 2 rfl) (by omega) (Nat.le_refl _)) rfl (p_9 _))) fun EP Bu => ?_; clear AK EO
     refine s1 Bu (a_1 rfl (evc _ _)) fun EQ Bv => ?_; clear Bu EP
     refine n1 ?_
     refine c_7 ?_
     have Bw := Bv.as [(62, (Value.int .i64 0)), (61, (Value.int .i64 (((t.rows.length - 1) : Nat) : Int))), (60, (slcut vr 1 t.rows.length 2)), (5, (Value.bool (decide (((t.rows.getD 0 (0, 0)).2) < ((t.rows.getD 1 (0, 0)).2))))), (3, (bptr M 0))] rfl; clear Bv
     refine h_3 (G := Nat) (fun (k : Nat) a_ w_ => Fr 98 [] [(62, (Value.int .i64 (k : Int))), (61, (Value.int .i64 (((t.rows.length - 1) : Nat) : Int))), (60, (slcut vr 1 t.rows.length 2)), (5, (Value.bool (decide (((t.rows.getD 0 (0, 0)).2) < ((t.rows.getD 1 (0, 0)).2))))), (3, (bptr M 0))] a_ ∧ Sep NoB w w_ [(blk M 106 [(Value.int .i64 t.frm), (Value.int .i64 t.dst), vr, vb, (Value.int .i64 t.err)]), (blk b4 37 [(Value.int .i64 sc), vt, vm]), (sl vr 2 t.rows.length (pairs t.rows)), (sl vb 1 t.brk.length (ints t.brk))] ∧ (k ≤ t.rows.length - 1) ∧ (∀ i, i < k → z_7 (aa_2 t) (t.rows.getD i (0, 0)) (t.rows.getD (i + 1) (0, 0)) = true)) (fun k => t.rows.length - 1 - k) 0 ⟨Bw.as _ rfl, Q, by omega, (fun _ h => absurd h (Nat.not_lt_zero _))⟩ ?_
     clear Bw Q EQ
     rintro k ER HM ⟨X, L, hkk, hst⟩
     refine m2 ?_
     refine s1 X (f_8 rfl (X.ev rfl) (X.ev rfl)) fun DT C => ?_; clear X ER
     refine n2 ?_
     by_cases DO : (k : Int) < (((t.rows.length - 1) : Nat) : Int)
     ·skip
      rw [decide_eq_true DO] at C
      refine c_3 C rfl ?_
      refine d_0 ?_
      refine b_0 ?_
      refine b_8 ?_
      refine c_7 ?_
      refine m2 ?_
      refine s1 C (a_1 rfl (C.ev rfl)) fun ES Y => ?_; clear C DT
      refine s1 Y (b_3 rfl k_4 i_6 (Y.ev rfl) (i := k) (Y.ev rfl) (SlAt.say (n' := (t.rows.length - 1)) (cs' := (pairs (t.rows.drop 1))) (SlAt.cut (L.sk 2 rfl) (by omega) (Nat.le_refl _)) rfl (p_9 _)) (by decide) (by omega)) fun ET AM => ?_; clear Y ES
      refine s1 AM (e_7 rfl i_6 (AM.ev rfl) (SlAt.say (n' := (t.rows.length - 1)) (cs' := (pairs (t.rows.drop 1))) (SlAt.cut (L.sk 2 rfl) (by omega) (Nat.le_refl _)) rfl (p_9 _)) (dropP_all (by omega)) rfl (by decide)) fun EU Bx => ?_; clear AM ET
      refine s2 Bx (e_4 L rfl y_6 (cs := [(Value.int .i64 0), (Value.int .i64 0)]) rfl) ?_
      rintro EV _ HN ⟨BO, rfl, DH⟩ AN; clear Bx L EU
      refine s1 AN (a_0 rfl (AN.ev rfl)) fun EW Z => ?_; clear AN EV
      refine s7 Z (c_2 DH rfl i_6 (Z.ev rfl) (Z.ev rfl) (i := 0) rfl (vs := [(Value.int .i64 ((t.rows.getD (k + 1) (0, 0)).1)), (Value.int .i64 ((t.rows.getD (k + 1) (0, 0)).2))]) rfl rfl rfl (Nat.le_of_ble_eq_true rfl)) ?_
      intro _ GV DI AO; clear Z
      have R : Sep NoB w GV [(blk BO 107 [(Value.int .i64 ((t.rows.getD (k + 1) (0, 0)).1)), (Value.int .i64 ((t.rows.getD (k + 1) (0, 0)).2))]), (blk M 106 [(Value.int .i64 t.frm), (Value.int .i64 t.dst), vr, vb, (Value.int .i64 t.err)]), (blk b4 37 [(Value.int .i64 sc), vt, vm]), (sl vr 2 t.rows.length (pairs t.rows)), (sl vb 1 t.brk.length (ints t.brk))] := DI; clear DI DH
      refine n4 ?_
      refine s1 AO (a_3 rfl j_3 (AO.ev rfl)) fun EX AP => ?_; clear AO EW
      refine s1 AP (a_2 rfl n_9 (AP.ev rfl) (R.bk 1 rfl) rfl) fun EY AQ => ?_; clear AP EX
      refine s1 AQ (a_1 rfl (AQ.ev rfl)) fun EZ b => ?_; clear AQ EY
      refine s1 b (b_3 rfl k_4 i_6 (b.ev rfl) (i := k) (b.ev rfl) (R.sk 3 rfl) (by decide) (by omega)) fun Ea AR => ?_; clear b EZ
      refine s1 AR (e_7 rfl i_6 (AR.ev rfl) (R.sk 3 rfl) (g_9 (by omega)) rfl (by decide)) fun Eb By => ?_; clear AR Ea
      refine s2 By (e_4 R rfl y_6 (cs := [(Value.int .i64 0), (Value.int .i64 0)]) rfl) ?_
      rintro Ec _ HO ⟨DX, rfl, DJ⟩ c; clear By R Eb
      refine s7 c (c_2 DJ rfl i_6 (c.ev rfl) (c.ev rfl) (i := 0) rfl (vs := [(Value.int .i64 ((t.rows.getD k (0, 0)).1)), (Value.int .i64 ((t.rows.getD k (0, 0)).2))]) rfl rfl rfl (Nat.le_of_ble_eq_true rfl)) ?_
      intro _ Dq DK Bz; clear c
      have A : Sep NoB w Dq [(blk DX 107 [(Value.int .i64 ((t.rows.getD k (0, 0)).1)), (Value.int .i64 ((t.rows.getD k (0, 0)).2))]), (blk BO 107 [(Value.int .i64 ((t.rows.getD (k + 1) (0, 0)).1)), (Value.int .i64 ((t.rows.getD (k + 1) (0, 0)).2))]), (blk M 106 [(Value.int .i64 t.frm), (Value.int .i64 t.dst), vr, vb, (Value.int .i64 t.err)]), (blk b4 37 [(Value.int .i64 sc), vt, vm]), (sl vr 2 t.rows.length (pairs t.rows)), (sl vb 1 t.brk.length (ints t.brk))] := DK; clear DK DJ
      refine n2 ?_
      have AS := Bz.as [(8, (bptr DX 0)), (7, (bptr BO 0)), (62, (Value.int .i64 (k : Int))), (61, (Value.int .i64 (((t.rows.length - 1) : Nat) : Int))), (60, (slcut vr 1 t.rows.length 2)), (5, (Value.bool (decide (((t.rows.getD 0 (0, 0)).2) < ((t.rows.getD 1 (0, 0)).2))))), (3, (bptr M 0))] rfl; clear Bz
      refine a_5 ?_
      refine s1 AS (a_3 rfl j_4 (AS.ev rfl)) fun Ed AT => ?_; clear AS Ec
      refine s1 AT (a_2 rfl ty_3 (AT.ev rfl) (A.bk 1 rfl) rfl) fun Ee AU => ?_; clear AT Ed
      refine s1 AU (a_3 rfl j_4 (AU.ev rfl)) fun Ef AV => ?_; clear AU Ee
      refine s1 AV (a_2 rfl ty_3 (AV.ev rfl) (A.bk 0 rfl) rfl) fun Eg d => ?_; clear AV Ef
      refine s1 d (u_3 rfl (d.ev rfl) (d.ev rfl)) fun Eh AW => ?_; clear d Eg
      refine s1 AW (a_1 rfl (AW.ev rfl)) fun DU J => ?_; clear AW Eh
      by_cases DP : ((t.rows.getD (k + 1) (0, 0)).1) ≤ ((t.rows.getD k (0, 0)).1)
      ·skip
       rw [decide_eq_true DP] at J
       refine s3 J fun Ei B0 => ?_; clear J DU
       refine s3 B0 fun Ej B1 => ?_; clear B0 Ei
       refine s3 B1 fun Ek B2 => ?_; clear B1 Ej
       refine s3 B2 fun El B3 => ?_; clear B2 Ek
       refine s3 B3 fun Em AX => ?_; clear B3 El
       refine s1 AX (b_9 rfl (AX.ev rfl) (evc _ _)) fun En AY => ?_; clear AX Em
       refine s1 AY (a_1 rfl (AY.ev rfl)) fun Eo B4 => ?_; clear AY En
       refine s3 B4 fun Ep B5 => ?_; clear B4 Eo
       refine s3 B5 fun Er B6 => ?_; clear B5 Ep
       refine s3 B6 fun Es B7 => ?_; clear B6 Er
       refine s3 B7 fun Et B8 => ?_; clear B7 Es
       refine s3 B8 fun Eu B9 => ?_; clear B8 Et
       refine s3 B9 fun Ev CA => ?_; clear B9 Eu
       refine s3 CA fun Ew AZ => ?_; clear CA Ev
       refine s1 AZ (b_9 rfl (AZ.ev rfl) (evc _ _)) fun Ex Aa => ?_; clear AZ Ew
       refine n1 ?_
       refine c_3 Aa rfl ?_
       refine b_8 ?_
       have CB := Aa.as [] rfl; clear Aa
       refine a_5 ?_
       refine s1 CB (a_0 rfl (evc _ _)) fun HA CC => ?_; clear CB Ex
       refine n1 ?_
       refine c_9 ?_
       refine c_6 ?_
       refine a_6 ?_
       refine a_6 ?_
       refine c_6 ?_
       refine a_6 ?_
       refine a_9 CC (.inl rfl) (a_4 CC rfl (.tmp rfl)) ?_
       exact ⟨congrArg Value.bool (Eq.symm (u_4 (k := k) (by omega) (by first | exact neq_n (by assumption) | exact r_5 (.inl (by omega)) | exact r_5 (.inr (.inl (by omega)))))), A.ext⟩
      skip
      rw [decide_eq_false DP] at J
      refine s5 J (a_3 rfl l_9 (J.ev rfl)) fun Ey Ab => ?_; clear J DU
      refine s5 Ab (a_2 rfl ty_3 (Ab.ev rfl) (A.bk 1 rfl) rfl) fun Ez Ac => ?_; clear Ab Ey
      refine s5 Ac (a_3 rfl l_9 (Ac.ev rfl)) fun E0 Ad => ?_; clear Ac Ez
      refine s5 Ad (a_2 rfl ty_3 (Ad.ev rfl) (A.bk 0 rfl) rfl) fun E1 e => ?_; clear Ad E0
      refine s5 e (n_7 rfl (e.ev rfl) (e.ev rfl)) fun E2 f => ?_; clear e E1
      refine s1 f (d_3 rfl (f.ev rfl) (f.ev rfl)) fun E3 Ae => ?_; clear f E2
      refine s1 Ae (a_1 rfl (Ae.ev rfl)) fun DV K => ?_; clear Ae E3
      by_cases DQ : ((t.rows.getD (k + 1) (0, 0)).2) = ((t.rows.getD k (0, 0)).2)
      ·skip
       rw [decide_eq_true DQ] at K
       refine s3 K fun E4 CD => ?_; clear K DV
       refine s3 CD fun E5 CE => ?_; clear CD E4
       refine s3 CE fun E6 CF => ?_; clear CE E5
       refine s3 CF fun E7 CG => ?_; clear CF E6
       refine s3 CG fun E8 CH => ?_; clear CG E7
       refine s3 CH fun E9 CI => ?_; clear CH E8
       refine s3 CI fun FA Af => ?_; clear CI E9
       refine s1 Af (b_9 rfl (Af.ev rfl) (evc _ _)) fun FB Ag => ?_; clear Af FA
       refine n1 ?_
       refine c_3 Ag rfl ?_
       refine b_8 ?_
       have CJ := Ag.as [] rfl; clear Ag
       refine a_5 ?_
       refine s1 CJ (a_0 rfl (evc _ _)) fun HB CK => ?_; clear CJ FB
       refine n1 ?_
       refine c_9 ?_
       refine c_6 ?_
       refine a_6 ?_
       refine a_6 ?_
       refine c_6 ?_
       refine a_6 ?_
       refine a_9 CK (.inl rfl) (a_4 CK rfl (.tmp rfl)) ?_
       exact ⟨congrArg Value.bool (Eq.symm (u_4 (k := k) (by omega) (by first | exact neq_n (by assumption) | exact r_5 (.inl (by omega)) | exact r_5 (.inr (.inl (by omega)))))), A.ext⟩
      skip
      rw [decide_eq_false DQ] at K
      refine s5 K (a_3 rfl l_9 (K.ev rfl)) fun FC Ah => ?_; clear K DV
      refine s5 Ah (a_2 rfl ty_3 (Ah.ev rfl) (A.bk 1 rfl) rfl) fun FD Ai => ?_; clear Ah FC
      refine s5 Ai (a_3 rfl l_9 (Ai.ev rfl)) fun FE Aj => ?_; clear Ai FD
      refine s5 Aj (a_2 rfl ty_3 (Aj.ev rfl) (A.bk 0 rfl) rfl) fun FF g => ?_; clear Aj FE
      refine s5 g (j_0 rfl (g.ev rfl) (g.ev rfl)) fun FG Ak => ?_; clear g FF
      refine s5 Ak (a_1 rfl (Ak.ev rfl)) fun FH j => ?_; clear Ak FG
      refine s5 j (op_neqB un_4 rfl (j.ev rfl) (j.ev rfl)) fun FI m => ?_; clear j FH
      refine s1 m (d_3 rfl (m.ev rfl) (m.ev rfl)) fun DW F => ?_; clear m FI
      refine n1 ?_
      rcases Bool.eq_false_or_eq_true ((decide (((t.rows.getD k (0, 0)).2) < ((t.rows.getD (k + 1) (0, 0)).2))) == (decide (((t.rows.getD 0 (0, 0)).2) < ((t.rows.getD 1 (0, 0)).2)))) with BM | BM
      ·skip
       rw [BM] at F
       refine b_7 F rfl ?_
       refine d_0 ?_
       refine h_0 ?_
       refine b_0 ?_
       have Al := F.as [(62, (Value.int .i64 (k : Int))), (61, (Value.int .i64 (((t.rows.length - 1) : Nat) : Int))), (60, (slcut vr 1 t.rows.length 2)), (5, (Value.bool (decide (((t.rows.getD 0 (0, 0)).2) < ((t.rows.getD 1 (0, 0)).2))))), (3, (bptr M 0))] rfl; clear F
       refine a_5 ?_
       refine s1 Al (f_4 rfl (Al.ev rfl) (evc _ _) (by omega) (by omega)) fun FJ Am => ?_; clear Al DW
       refine s1 Am (a_1 rfl (Am.ev rfl)) fun HC Dr => ?_; clear Am FJ
       refine e_9 ?_
       have Ds : Sep NoB w Dq [(blk M 106 [(Value.int .i64 t.frm), (Value.int .i64 t.dst), vr, vb, (Value.int .i64 t.err)]), (blk b4 37 [(Value.int .i64 sc), vt, vm]), (sl vr 2 t.rows.length (pairs t.rows)), (sl vb 1 t.brk.length (ints t.brk))] := A.keep [2, 3, 4, 5] (by decide) _ rfl rfl; clear A
       exact b_0 ⟨k + 1, ⟨Dr.as _ rfl, Ds, by omega, (fun i hi => by rcases Nat.lt_succ_iff_lt_or_eq.1 hi with h | h; exact hst i h; subst h; exact neq_y (by omega) (by omega) (by assumption))⟩, by omega⟩
      skip
      rw [BM] at F
      refine c_3 F rfl ?_
      refine b_8 ?_
      have CL := F.as [] rfl; clear F
      refine a_5 ?_
      refine s1 CL (a_0 rfl (evc _ _)) fun HD CM => ?_; clear CL DW
      refine n1 ?_
      refine c_9 ?_
      refine c_6 ?_
      refine a_6 ?_
      refine a_6 ?_
      refine c_6 ?_
      refine a_6 ?_
      refine a_9 CM (.inl rfl) (a_4 CM rfl (.tmp rfl)) ?_
      exact ⟨congrArg Value.bool (Eq.symm (u_4 (k := k) (by omega) (by first | exact neq_n (by assumption) | exact r_5 (.inl (by omega)) | exact r_5 (.inr (.inl (by omega)))))), A.ext⟩
     skip
     rw [decide_eq_false DO] at C
     refine b_7 C rfl ?_
     refine g_8 ?_
     refine b_6 ?_
     refine b_6 ?_
     refine f_5 ?_
     refine b_0 ?_
     refine m2 ?_
     refine s2 C (e_4 L rfl ze_3 (cs := [(Value.int .i64 0)]) rfl) ?_
     rintro FK _ HP ⟨BP, rfl, DL⟩ An; clear C L DT
     refine s7 An (c_2 DL rfl ty_3 (An.ev rfl) (evc _ _) (i := 0) rfl (vs := [(Value.int .i64 (-1))]) rfl rfl rfl (Nat.le_of_ble_eq_true rfl)) ?_
     intro _ GW DM Ao; clear An
     have D : Sep NoB w GW [(blk BP 3 [(Value.int .i64 (-1))]), (blk M 106 [(Value.int .i64 t.frm), (Value.int .i64 t.dst), vr, vb, (Value.int .i64 t.err)]), (blk b4 37 [(Value.int .i64 sc), vt, vm]), (sl vr 2 t.rows.length (pairs t.rows)), (sl vb 1 t.brk.length (ints t.brk))] := DM; clear DM DL
     refine n4 ?_
     refine s1 Ao (a_3 rfl fd_106_3 (Ao.ev rfl)) fun FL Ap => ?_; clear Ao FK
     refine s1 Ap (a_2 rfl aa_6 (Ap.ev rfl) (D.bk 1 rfl) rfl) fun FM n => ?_; clear Ap FL
     refine s1 n (h_5 rfl ev0 (ev2 (n.ev rfl) (n.ev rfl))) fun FN o => ?_; clear n FM
     refine s2 o (b_4 rfl en_69 (ev2 (o.ev rfl) (o.ev rfl)) (allB_int t.brk (ab_6 t) BP _ 96 #[] #[(bptr BP 0), (bptr M 0)] (brkB t) _ (D.lend (i := 0) rfl rfl (L' := [(sl vb 1 t.brk.length (ints t.brk))]) (js := [4]) ⟨rfl, by decide, D.sk 4 rfl, ⟨_, rfl, fun _ hz => hz⟩, trivial⟩) hbl ⟨en_96, fun i hi hz W hW hb => lastclo_ok _ _ t vr vb _ _ W ((D.updB (i := 0) rfl hW hb).lend (i := 0) rfl rfl (L' := [rob M 106 [.int .i64 t.frm, .int .i64 t.dst, vr, vb, .int .i64 t.err], (sl vr 2 t.rows.length (pairs t.rows)), (sl vb 1 t.brk.length (ints t.brk))]) (js := [1, 3, 4]) ⟨rfl, by decide, (D.updB (i := 0) rfl hW hb).bk 1 rfl, ⟨_, rfl, fun _ hz => hz⟩, rfl, by decide, (D.updB (i := 0) rfl hW hb).sk 3 rfl, ⟨_, rfl, fun _ hz => hz⟩, rfl, by decide, (D.updB (i := 0) rfl hW hb).sk 4 rfl, ⟨_, rfl, fun _ hz => hz⟩, trivial⟩) (by have := last_bd (t := t) i hz; omega) hrl⟩)) ?_
     rintro FO _ HQ ⟨rfl, DF, lx349, DG⟩ Ar; have Dt := D.updB (i := 0) rfl DF DG; clear DF DG o D FN
     refine s1 Ar (a_0 rfl (Ar.ev rfl)) fun HE CN => ?_; clear Ar FO
     refine n1 ?_
     refine c_9 ?_
     refine a_9 CN (.inl rfl) (a_4 CN rfl (.tmp rfl)) ?_
     exact ⟨congrArg Value.bool (Eq.symm (tab_rest (by assumption) (by assumption) (by assumption) (by assumption) (by omega) (by assumption) (fun i hi => hst i (by omega)))), Dt.ext⟩
    skip
    rw [BL] at E
    refine c_3 E rfl ?_
    refine b_8 ?_
    have CO := E.as [] rfl; clear E
    refine a_5 ?_
    refine s1 CO (a_0 rfl (evc _ _)) fun HF CP => ?_; clear CO EI
    refine n1 ?_
    refine c_9 ?_
    refine a_6 ?_
    refine a_9 CP (.inl rfl) (a_4 CP rfl (.tmp rfl)) ?_
    exact ⟨congrArg Value.bool (Eq.symm (by first | exact tab_rows (by assumption) | exact p_3 (by first | exact .inl (by assumption) | exact .inr (.inl (by assumption)) | exact .inr (.inr (.inl (by assumption))) | exact .inr (.inr (.inr (.inl (by assumption)))) | exact .inr (.inr (.inr (.inr (by omega))))))), BJ.ext⟩
   skip
   rw [BK] at H
   refine s3 H fun FP CQ => ?_; clear H DR
   refine s3 CQ fun FQ CR => ?_; clear CQ FP
   refine s3 CR fun FSa CS => ?_; clear CR FQ
   refine s3 CS fun FT As => ?_; clear CS FSa
   refine s1 As (b_9 rfl (As.ev rfl) (evc _ _)) fun FU At => ?_; clear As FT
   refine s1 At (a_1 rfl (At.ev rfl)) fun FV CT => ?_; clear At FU
   refine s3 CT fun FW CU => ?_; clear CT FV
   refine s3 CU fun FX CV => ?_; clear CU FW
   refine s3 CV fun FY CW => ?_; clear CV FX
   refine s3 CW fun FZ Au => ?_; clear CW FY
   refine s1 Au (b_9 rfl (Au.ev rfl) (evc _ _)) fun Fa Av => ?_; clear Au FZ
   refine n1 ?_
   refine c_3 Av rfl ?_
   refine b_8 ?_
   have CX := Av.as [] rfl; clear Av
   refine a_5 ?_
   refine s1 CX (a_0 rfl (evc _ _)) fun HG CY => ?_; clear CX Fa
   refine n1 ?_
   refine c_9 ?_
   refine a_6 ?_
   refine a_9 CY (.inl rfl) (a_4 CY rfl (.tmp rfl)) ?_
   exact ⟨congrArg Value.bool (Eq.symm (by first | exact tab_rows (by assumption) | exact p_3 (by first | exact .inl (by assumption) | exact .inr (.inl (by assumption)) | exact .inr (.inr (.inl (by assumption))) | exact .inr (.inr (.inr (.inl (by assumption)))) | exact .inr (.inr (.inr (.inr (by omega))))))), B.ext⟩
  skip
  rw [Bk] at O
  refine s3 O fun Fb CZ => ?_; clear O Dv
  refine s3 CZ fun Fc Ca => ?_; clear CZ Fb
  refine s3 Ca fun Fd Cb => ?_; clear Ca Fc
  refine s3 Cb fun Fe Cc => ?_; clear Cb Fd
  refine s3 Cc fun Ff Aw => ?_; clear Cc Fe
  refine s1 Aw (b_9 rfl (Aw.ev rfl) (evc _ _)) fun Fg Ax => ?_; clear Aw Ff
  refine s1 Ax (a_1 rfl (Ax.ev rfl)) fun Fh Cd => ?_; clear Ax Fg
  refine s3 Cd fun Fi Ce => ?_; clear Cd Fh
  refine s3 Ce fun Fj Cf => ?_; clear Ce Fi
  refine s3 Cf fun Fk Cg => ?_; clear Cf Fj
  refine s3 Cg fun Fl Ay => ?_; clear Cg Fk
  refine s1 Ay (b_9 rfl (Ay.ev rfl) (evc _ _)) fun Fm Az => ?_; clear Ay Fl
  refine s1 Az (a_1 rfl (Az.ev rfl)) fun Fn Ch => ?_; clear Az Fm
  refine s3 Ch fun Fo Ci => ?_; clear Ch Fn
  refine s3 Ci fun Fp Cj => ?_; clear Ci Fo
  refine s3 Cj fun Fq Ck => ?_; clear Cj Fp
  refine s3 Ck fun Fs A1 => ?_; clear Ck Fq
  refine s1 A1 (b_9 rfl (A1.ev rfl) (evc _ _)) fun Ft A2 => ?_; clear A1 Fs
  refine s1 A2 (a_1 rfl (A2.ev rfl)) fun Fu Cl => ?_; clear A2 Ft
  refine s3 Cl fun Fv Cm => ?_; clear Cl Fu
  refine s3 Cm fun Fw Cn => ?_; clear Cm Fv
  refine s3 Cn fun Fx Co => ?_; clear Cn Fw
  refine s3 Co fun Fy A3 => ?_; clear Co Fx
  refine s1 A3 (b_9 rfl (A3.ev rfl) (evc _ _)) fun Fz A4 => ?_; clear A3 Fy
  refine n1 ?_
  refine c_3 A4 rfl ?_
  refine b_8 ?_
  have Cp := A4.as [] rfl; clear A4
  refine a_5 ?_
  refine s1 Cp (a_0 rfl (evc _ _)) fun HH Cq => ?_; clear Cp Fz
  refine n1 ?_
  refine c_9 ?_
  refine a_6 ?_
  refine a_9 Cq (.inl rfl) (a_4 Cq rfl (.tmp rfl)) ?_
  exact ⟨congrArg Value.bool (Eq.symm (by first | exact tab_rows (by assumption) | exact p_3 (by first | exact .inl (by assumption) | exact .inr (.inl (by assumption)) | exact .inr (.inr (.inl (by assumption))) | exact .inr (.inr (.inr (.inl (by assumption)))) | exact .inr (.inr (.inr (.inr (by omega))))))), B.ext⟩
 skip
 rw [Bj] at N
 refine s3 N fun F0 Cr => ?_; clear N Du
 refine s3 Cr fun F1 Cs => ?_; clear Cr F0
 refine s3 Cs fun F2 Ct => ?_; clear Cs F1
 refine s3 Ct fun F3 Cu => ?_; clear Ct F2
 refine s3 Cu fun F4 A5 => ?_; clear Cu F3
 refine s1 A5 (b_9 rfl (A5.ev rfl) (evc _ _)) fun F5 A6 => ?_; clear A5 F4
 refine s1 A6 (a_1 rfl (A6.ev rfl)) fun F6 Cv => ?_; clear A6 F5
 refine s3 Cv fun F7 Cw => ?_; clear Cv F6
 refine s3 Cw fun F8 Cx => ?_; clear Cw F7
 refine s3 Cx fun F9 Cy => ?_; clear Cx F8
 refine s3 Cy fun GA Cz => ?_; clear Cy F9
 refine s3 Cz fun GB A7 => ?_; clear Cz GA
 refine s1 A7 (b_9 rfl (A7.ev rfl) (evc _ _)) fun GC A8 => ?_; clear A7 GB
 refine s1 A8 (a_1 rfl (A8.ev rfl)) fun GD C0 => ?_; clear A8 GC
 refine s3 C0 fun GE C1 => ?_; clear C0 GD
 refine s3 C1 fun GF C2 => ?_; clear C1 GE
 refine s3 C2 fun GG C3 => ?_; clear C2 GF
 refine s3 C3 fun GH A9 => ?_; clear C3 GG
 refine s1 A9 (b_9 rfl (A9.ev rfl) (evc _ _)) fun GI BA => ?_; clear A9 GH
 refine s1 BA (a_1 rfl (BA.ev rfl)) fun GJ C4 => ?_; clear BA GI
 refine s3 C4 fun GK C5 => ?_; clear C4 GJ
 refine s3 C5 fun GL C6 => ?_; clear C5 GK
 refine s3 C6 fun GM C7 => ?_; clear C6 GL
 refine s3 C7 fun GN BB => ?_; clear C7 GM
 refine s1 BB (b_9 rfl (BB.ev rfl) (evc _ _)) fun GO BC => ?_; clear BB GN
 refine s1 BC (a_1 rfl (BC.ev rfl)) fun GP C8 => ?_; clear BC GO
 refine s3 C8 fun GQ C9 => ?_; clear C8 GP
 refine s3 C9 fun GR DA => ?_; clear C9 GQ
 refine s3 DA fun GS DB => ?_; clear DA GR
 refine s3 DB fun GT BD => ?_; clear DB GS
 refine s1 BD (b_9 rfl (BD.ev rfl) (evc _ _)) fun GU BE => ?_; clear BD GT
 refine n1 ?_
 refine c_3 BE rfl ?_
 refine b_8 ?_
 have DC := BE.as [] rfl; clear BE
 refine a_5 ?_
 refine s1 DC (a_0 rfl (evc _ _)) fun HI DD => ?_; clear DC GU
 refine n1 ?_
 refine c_9 ?_
 refine a_6 ?_
 refine a_9 DD (.inl rfl) (a_4 DD rfl (.tmp rfl)) ?_
 exact ⟨congrArg Value.bool (Eq.symm (by first | exact tab_rows (by assumption) | exact p_3 (by first | exact .inl (by assumption) | exact .inr (.inl (by assumption)) | exact .inr (.inr (.inl (by assumption))) | exact .inr (.inr (.inr (.inl (by assumption)))) | exact .inr (.inr (.inr (.inr (by omega))))))), p.ext⟩
end Go.Proofs.Ytohgladndklciaa

namespace Go.Hard
structure n_4 (b : h_6) : Prop where
  tl : b.tabs.length ≤ 9
  ml : b.macs.length ≤ 9
  tab : ∀ i, (b.tabs.getD i tab0).rows.length ≤ 12 ∧ (b.tabs.getD i tab0).brk.length ≤ 12
  mac : ∀ i, (b.macs.getD i mac0).blocks.length ≤ 8
def y_2 (b : h_6) (n : Nat) : Bool := decide (b.tabs.length ≤ 9) && decide (b.macs.length ≤ 9) && decide (n ≤ 12) && allI b.tabs.length (fun i => decide ((b.tabs.getD i tab0).rows.length ≤ 12) && decide ((b.tabs.getD i tab0).brk.length ≤ 12)) && allI b.macs.length (fun i => decide ((b.macs.getD i mac0).blocks.length ≤ 8))
theorem getD_out {α : Type} {l : List α} {d : α} {i : Nat} (h : l.length ≤ i) : l.getD i d = d := by simp [List.getD, List.getElem?_eq_none h]
theorem thin_iff {b : h_6} {n : Nat} : y_2 b n = true ↔ n_4 b ∧ n ≤ 12 := by
  unfold y_2
  simp only [Bool.and_eq_true, decide_eq_true_eq, h_7]
  constructor
  · rintro ⟨⟨⟨⟨h1, h2⟩, h3⟩, h4⟩, h5⟩
    refine ⟨⟨h1, h2, fun i => ?_, fun i => ?_⟩, h3⟩
    · rcases Nat.lt_or_ge i b.tabs.length with h | h
      · exact h4 i h
      · rw [getD_out h]; exact ⟨Nat.zero_le _, Nat.zero_le _⟩
    · rcases Nat.lt_or_ge i b.macs.length with h | h
      · exact h5 i h
      · rw [getD_out h]; exact Nat.zero_le _
  · rintro ⟨h, h3⟩
    exact ⟨⟨⟨⟨h.tl, h.ml⟩, h3⟩, fun i _ => h.tab i⟩, fun i _ => h.mac i⟩
section
variable {b : h_6} {n : Nat} {k : Nat}
theorem n_4.rl (h : n_4 b) (i : Nat) : (b.tabs.getD i tab0).rows.length ≤ 1000000 := by have := (h.tab i).1; omega
theorem n_4.bl (h : n_4 b) (i : Nat) : (b.tabs.getD i tab0).brk.length ≤ 1000000 := by have := (h.tab i).2; omega
theorem n_4.kl (h : n_4 b) (i : Nat) : (b.macs.getD i mac0).blocks.length ≤ 1000000 := by have := h.mac i; omega
theorem thin_not (h : ¬ (n_4 b ∧ n ≤ 12)) : y_2 b n = false := by
  cases hb : y_2 b n with
  | false => rfl
  | true => exact absurd (thin_iff.1 hb) h
theorem thin_n1 (h : 9 < b.tabs.length ∨ 9 < b.macs.length ∨ 12 < n) : y_2 b n = false := thin_not fun g => by have := g.1.tl; have := g.1.ml; omega
theorem thin_n2 (h : 12 < (b.tabs.getD k tab0).rows.length ∨ 12 < (b.tabs.getD k tab0).brk.length) : y_2 b n = false := thin_not fun g => by have := g.1.tab k; omega
theorem thin_n3 (h : 8 < (b.macs.getD k mac0).blocks.length) : y_2 b n = false := thin_not fun g => by have := g.1.mac k; omega
theorem thin_y (h1 : b.tabs.length ≤ 9) (h2 : b.macs.length ≤ 9) (h3 : n ≤ 12) (h4 : ∀ i, i < b.tabs.length → (b.tabs.getD i tab0).rows.length ≤ 12 ∧ (b.tabs.getD i tab0).brk.length ≤ 12) (h5 : ∀ i, i < b.macs.length → (b.macs.getD i mac0).blocks.length ≤ 8) : y_2 b n = true := by
  unfold y_2
  simp only [Bool.and_eq_true, decide_eq_true_eq, h_7]
  exact ⟨⟨⟨⟨h1, h2⟩, h3⟩, h4⟩, h5⟩
structure g_1 (b : h_6) : Prop where
  tl : b.tabs.length ≤ 6
  ml : b.macs.length ≤ 6
  tab : ∀ i, i < b.tabs.length → (b.tabs.getD i tab0).rows.length ≤ 8
  mac : ∀ i, i < b.macs.length → (b.macs.getD i mac0).blocks.length ≤ 5
theorem v_5 (h : ¬ g_1 b) : f_9 b = 3 := by
  unfold f_9
  split
  · rfl
  · rename_i h1
    split
    · rfl
    · rename_i h2
      split
      · rfl
      · rename_i h3
        rw [Bool.not_eq_false, h_7] at h2 h3
        exact absurd ⟨by omega, by omega, fun i hi => of_decide_eq_true (h2 i hi), fun i hi => of_decide_eq_true (h3 i hi)⟩ h
theorem p_5 (h : g_1 b) : f_9 b = if inB b.scales 1 4 = false ∨ allI b.tabs.length (fun i => tabB b.scales (b.tabs.getD i tab0)) = false ∨ allI b.macs.length (fun i => macB b.scales (b.macs.getD i mac0)) = false then 1 else 0 := by
  unfold f_9
  have a := h.tl; have c := h.ml
  rw [if_neg (by omega), if_neg (by rw [Bool.not_eq_false, h_7]; exact fun i hi => decide_eq_true (h.tab i hi)), if_neg (by rw [Bool.not_eq_false, h_7]; exact fun i hi => decide_eq_true (h.mac i hi))]
theorem m_4 (h : 6 < b.tabs.length ∨ 6 < b.macs.length) : f_9 b = 3 := v_5 fun g => by have := g.tl; have := g.ml; omega
theorem q_6 (hk : k < b.tabs.length) (h : 8 < (b.tabs.getD k tab0).rows.length) : f_9 b = 3 := v_5 fun g => by have := g.tab k hk; omega
theorem q_7 (hk : k < b.macs.length) (h : 5 < (b.macs.getD k mac0).blocks.length) : f_9 b = 3 := v_5 fun g => by have := g.mac k hk; omega
theorem m_9 (g : g_1 b) (h : inB b.scales 1 4 = false) : f_9 b = 1 := by rw [p_5 g, if_pos (.inl h)]
theorem q_5 (g : g_1 b) (hk : k < b.tabs.length) (h : tabB b.scales (b.tabs.getD k tab0) = false) : f_9 b = 1 := by rw [p_5 g, if_pos (.inr (.inl (allI_no hk h)))]
theorem j_7 (g : g_1 b) (hk : k < b.macs.length) (h : macB b.scales (b.macs.getD k mac0) = false) : f_9 b = 1 := by rw [p_5 g, if_pos (.inr (.inr (allI_no hk h)))]
theorem s_9 (g : g_1 b) (h1 : inB b.scales 1 4 = true) (h2 : ∀ i, i < b.tabs.length → tabB b.scales (b.tabs.getD i tab0) = true) (h3 : ∀ i, i < b.macs.length → macB b.scales (b.macs.getD i mac0) = true) : f_9 b = 0 := by
  rw [p_5 g, if_neg]
  rw [h1, h_7.2 h2, h_7.2 h3]; decide
theorem check_3b' (h : (List.range b.tabs.length).all (fun i => decide (((b.tabs.getD i tab0).rows.length : Int) ≤ 8)) = false) : f_9 b = 3 := by
  refine v_5 fun g => ?_
  have : (List.range b.tabs.length).all (fun i => decide (((b.tabs.getD i tab0).rows.length : Int) ≤ 8)) = true := List.all_eq_true.2 fun i hi => decide_eq_true (by have := g.tab i (List.mem_range.1 hi); omega)
  rw [this] at h; cases h
theorem check_3c' (h : (List.range b.macs.length).all (fun i => decide (((b.macs.getD i mac0).blocks.length : Int) ≤ 5)) = false) : f_9 b = 3 := by
  refine v_5 fun g => ?_
  have : (List.range b.macs.length).all (fun i => decide (((b.macs.getD i mac0).blocks.length : Int) ≤ 5)) = true := List.all_eq_true.2 fun i hi => decide_eq_true (by have := g.mac i (List.mem_range.1 hi); omega)
  rw [this] at h; cases h
theorem r_0 (h1 : ¬ 6 < b.tabs.length) (h2 : ¬ 6 < b.macs.length) (h3 : (List.range b.tabs.length).all (fun i => decide (((b.tabs.getD i tab0).rows.length : Int) ≤ 8)) = true) (h4 : (List.range b.macs.length).all (fun i => decide (((b.macs.getD i mac0).blocks.length : Int) ≤ 5)) = true) : g_1 b :=
  ⟨by omega, by omega, fun i hi => by have := of_decide_eq_true (List.all_eq_true.1 h3 i (List.mem_range.2 hi)); omega, fun i hi => by have := of_decide_eq_true (List.all_eq_true.1 h4 i (List.mem_range.2 hi)); omega⟩
theorem check_1b' (g : g_1 b) (h : (List.range b.tabs.length).all (fun i => tabB b.scales (b.tabs.getD i tab0)) = false) : f_9 b = 1 := by rw [p_5 g, if_pos (.inr (.inl h))]
theorem check_1c' (g : g_1 b) (h : (List.range b.macs.length).all (fun i => macB b.scales (b.macs.getD i mac0)) = false) : f_9 b = 1 := by rw [p_5 g, if_pos (.inr (.inr h))]
theorem check_0' (g : g_1 b) (h1 : inB b.scales 1 4 = true) (h2 : (List.range b.tabs.length).all (fun i => tabB b.scales (b.tabs.getD i tab0)) = true) (h3 : (List.range b.macs.length).all (fun i => macB b.scales (b.macs.getD i mac0)) = true) : f_9 b = 0 :=
  s_9 g h1 (h_7.1 h2) (h_7.1 h3)
theorem z_4 {m : MacD} {n : Int} (h : inB m.scale 0 (n - 1) = false) : macB n m = false := by unfold macB; rw [h]; rfl
theorem z_5 {m : MacD} {n : Int} {k : Nat} (hk : k < m.blocks.length) (h : blkB (m.blocks.getD k (0, 0, 0)) = false) : macB n m = false := by unfold macB; rw [allI_no hk h, Bool.and_false]
theorem mac_y {m : MacD} {n : Int} (h1 : inB m.scale 0 (n - 1) = true) (h : ∀ k, k < m.blocks.length → blkB (m.blocks.getD k (0, 0, 0)) = true) : macB n m = true := by unfold macB; rw [h1, h_7.2 h]; rfl
theorem h_0 {x : Int × Int × Int} (h : y_1 (x.1, x.2.1) = false ∨ inB x.2.2 0 100000 = false) : blkB x = false := by unfold blkB; rcases h with h | h <;> rw [h] <;> simp
theorem blk_y {x : Int × Int × Int} (h1 : y_1 (x.1, x.2.1) = true) (h2 : inB x.2.2 0 100000 = true) : blkB x = true := by unfold blkB; rw [h1, h2]; rfl
end
end Go.Hard

namespace Go.Proofs.Ytohgladndklciaa
open Go.RowKit Go.Shelf Go.Eng Go.Hard
theorem p_6 : fldK Try.prog 25 1 = some 1 := by kernel_rfl
theorem ab_2 : tyK Try.prog 22 = some (false, 1) := by kernel_rfl
theorem ab_3 : Try.prog.underlying 22 = some (.slice 46) := by kernel_rfl
theorem o_7 : fldK Try.prog 25 2 = some 2 := by kernel_rfl
theorem aa_4 : tyK Try.prog 23 = some (false, 1) := by kernel_rfl
theorem aa_8 : Try.prog.underlying 23 = some (.slice 61) := by kernel_rfl
theorem z_9 : Try.prog.underlying 49 = some (.slice 67) := by kernel_rfl
theorem fd_25_0 : fldK Try.prog 25 0 = some 0 := by kernel_rfl
theorem en_51 : ∀ args w, (callFunc 51 args).run Try.prog w = .ok (.enter 51 args) w := enters_of Try.func51 (by kernel_rfl) rfl
theorem ze_61 : (Try.prog.info? 61).bind (·.zero) = some (Value.agg #[(Value.int .i64 0), (Value.slice none 0 0)]) := by kernel_rfl
theorem fd_61_0 : fldK Try.prog 61 0 = some 0 := by kernel_rfl
theorem en_52 : ∀ args w, (callFunc 52 args).run Try.prog w = .ok (.enter 52 args) w := enters_of Try.func52 (by kernel_rfl) rfl
theorem w_9 : fldK Try.prog 37 1 = some 1 := by kernel_rfl
theorem ty_34 : tyK Try.prog 34 = some (false, 1) := by kernel_rfl
theorem u_8 : fldK Try.prog 37 2 = some 2 := by kernel_rfl
theorem ty_35 : tyK Try.prog 35 = some (false, 1) := by kernel_rfl
theorem en_62 : ∀ args w, (callFunc 62 args).run Try.prog w = .ok (.enter 62 args) w := enters_of Try.func62 (by kernel_rfl) rfl
theorem en_61 : ∀ args w, (callFunc 61 args).run Try.prog w = .ok (.enter 61 args) w := enters_of Try.func61 (by kernel_rfl) rfl
theorem en_64 : ∀ args w, (callFunc 64 args).run Try.prog w = .ok (.enter 64 args) w := enters_of Try.func64 (by kernel_rfl) rfl
theorem en_63 : ∀ args w, (callFunc 63 args).run Try.prog w = .ok (.enter 63 args) w := enters_of Try.func63 (by kernel_rfl) rfl
theorem en_65 : ∀ args w, (callFunc 65 args).run Try.prog w = .ok (.enter 65 args) w := enters_of Try.func65 (by kernel_rfl) rfl
theorem en_66 : ∀ args w, (callFunc 66 args).run Try.prog w = .ok (.enter 66 args) w := enters_of Try.func66 (by kernel_rfl) rfl
theorem thin_ok (b : h_6) (vt vm : Value) (lr lb lk : Nat → Value) (w : World) (hT : i_5 w vt lr lb b.tabs) (hM : j_6 w vm lk b.macs) (l : List (Int × Int)) (xl : Value) (hxl : SlAt w xl 2 l.length (pairs l)) :
  Calls Try.prog 16 #[(Value.agg #[(Value.int .i64 b.scales), vt, vm]), xl] w (Ret fun v w' => v = .bool (y_2 b l.length) ∧ Ext NoB w w') := by
 refine a_8 Try.func16 rfl fun a0 AH => ?_
 replace AH : Fr 62 [] [(0, (Value.agg #[(Value.int .i64 b.scales), vt, vm])), (1, xl)] a0 := AH
 have BW : Sep NoB w w [(d_8 false vt lr lb b.tabs), (e_6 false vm lk b.macs), (sl xl 2 l.length (pairs l))] := f_1 ⟨rfl, hT, rfl, hM, rfl, hxl, trivial⟩
 refine m2 ?_
 refine s2 AH (f_0 BW rfl (AH.ev rfl) (cs := [(Value.int .i64 b.scales), vt, vm]) rfl) ?_
 rintro a1 _ w3 ⟨S, rfl, K⟩ BV; clear AH BW a0
 refine s1 BV (a_0 rfl (evc _ _)) fun a6 BE => ?_; clear BV a1
 refine n2 ?_
 refine m2 ?_
 refine s1 BE (a_3 rfl p_6 (BE.ev rfl)) fun a8 BK => ?_; clear BE a6
 refine s1 BK (a_2 rfl ab_2 (BK.ev rfl) (K.bk 0 rfl) rfl) fun CE AI => ?_; clear BK a8
 refine s1 AI (d_6 rfl ab_3 (AI.ev rfl) (c_1 (K.ok 1 _ rfl)).tabs) fun CF AJ => ?_; clear AI CE
 refine s1 AJ (j_0 rfl (AJ.ev rfl) (evc _ _)) fun CG AK => ?_; clear AJ CF
 refine s1 AK (a_1 rfl (AK.ev rfl)) fun BR L => ?_; clear AK CG
 by_cases BL : 9 < (b.tabs.length : Int)
 ·skip
  rw [decide_eq_true BL] at L
  refine s3 L fun CH A2 => ?_; clear L BR
  refine s3 A2 fun CI A3 => ?_; clear A2 CH
  refine s3 A3 fun CJ A4 => ?_; clear A3 CI
  refine s3 A4 fun CK AL => ?_; clear A4 CJ
  refine s1 AL (b_9 rfl (AL.ev rfl) (evc _ _)) fun CL AM => ?_; clear AL CK
  refine s1 AM (a_1 rfl (AM.ev rfl)) fun CM A5 => ?_; clear AM CL
  refine s3 A5 fun CN A6 => ?_; clear A5 CM
  refine s3 A6 fun CO A7 => ?_; clear A6 CN
  refine s3 A7 fun CP AN => ?_; clear A7 CO
  refine s1 AN (b_9 rfl (AN.ev rfl) (evc _ _)) fun CQ AO => ?_; clear AN CP
  refine n1 ?_
  refine c_3 AO rfl ?_
  refine b_8 ?_
  have A8 := AO.as [] rfl; clear AO
  refine a_5 ?_
  refine s1 A8 (a_0 rfl (evc _ _)) fun Cv A9 => ?_; clear A8 CQ
  refine n1 ?_
  refine c_9 ?_
  refine a_6 ?_
  refine a_9 A9 (.inl rfl) (a_4 A9 rfl (.tmp rfl)) ?_
  exact ⟨congrArg Value.bool (Eq.symm (by first | exact thin_n1 (by omega) | exact thin_n2 (k := k) (by omega) | exact thin_n3 (k := I) (by omega))), K.ext⟩
 skip
 rw [decide_eq_false BL] at L
 refine s5 L (a_3 rfl o_7 (L.ev rfl)) fun CR AP => ?_; clear L BR
 refine s5 AP (a_2 rfl aa_4 (AP.ev rfl) (K.bk 0 rfl) rfl) fun CS AQ => ?_; clear AP CR
 refine s5 AQ (d_6 rfl aa_8 (AQ.ev rfl) (c_8 (K.ok 2 _ rfl)).macs) fun CT AR => ?_; clear AQ CS
 refine s5 AR (j_0 rfl (AR.ev rfl) (evc _ _)) fun CU AE => ?_; clear AR CT
 refine s1 AE (d_3 rfl (AE.ev rfl) (AE.ev rfl)) fun CV AS => ?_; clear AE CU
 refine s1 AS (a_1 rfl (AS.ev rfl)) fun BS M => ?_; clear AS CV
 by_cases BM : 9 < (b.macs.length : Int)
 ·skip
  rw [decide_eq_true BM] at M
  refine s3 M fun CW BA => ?_; clear M BS
  refine s3 BA fun CX BB => ?_; clear BA CW
  refine s3 BB fun CY AT => ?_; clear BB CX
  refine s1 AT (b_9 rfl (AT.ev rfl) (evc _ _)) fun CZ AU => ?_; clear AT CY
  refine n1 ?_
  refine c_3 AU rfl ?_
  refine b_8 ?_
  have BC := AU.as [] rfl; clear AU
  refine a_5 ?_
  refine s1 BC (a_0 rfl (evc _ _)) fun Cw BD => ?_; clear BC CZ
  refine n1 ?_
  refine c_9 ?_
  refine a_6 ?_
  refine a_9 BD (.inl rfl) (a_4 BD rfl (.tmp rfl)) ?_
  exact ⟨congrArg Value.bool (Eq.symm (by first | exact thin_n1 (by omega) | exact thin_n2 (k := k) (by omega) | exact thin_n3 (k := I) (by omega))), K.ext⟩
 skip
 rw [decide_eq_false BM] at M
 refine s5 M (a_1 rfl (M.ev rfl)) fun Ca AV => ?_; clear M BS
 refine s5 AV (d_6 rfl z_9 (AV.ev rfl) (K.sk 3 rfl)) fun Cb AW => ?_; clear AV Ca
 refine s5 AW (j_0 rfl (AW.ev rfl) (evc _ _)) fun Cc AF => ?_; clear AW Cb
 refine s1 AF (d_3 rfl (AF.ev rfl) (AF.ev rfl)) fun BT J => ?_; clear AF Cc
 refine n1 ?_
 by_cases BN : 12 < (l.length : Int)
 ·skip
  rw [decide_eq_true BN] at J
  refine c_3 J rfl ?_
  refine b_8 ?_
  have BF := J.as [] rfl; clear J
  refine a_5 ?_
  refine s1 BF (a_0 rfl (evc _ _)) fun Cx BG => ?_; clear BF BT
  refine n1 ?_
  refine c_9 ?_
  refine a_6 ?_
  refine a_9 BG (.inl rfl) (a_4 BG rfl (.tmp rfl)) ?_
  exact ⟨congrArg Value.bool (Eq.symm (by first | exact thin_n1 (by omega) | exact thin_n2 (k := k) (by omega) | exact thin_n3 (k := I) (by omega))), K.ext⟩
 skip
 rw [decide_eq_false BN] at J
 refine b_7 J rfl ?_
 refine d_0 ?_
 refine b_0 ?_
 refine b_8 ?_
 refine b_8 ?_
 have BH := J.as [(2, (bptr S 0))] rfl; clear J
 refine a_5 ?_
 refine s1 BH (a_0 rfl (evc _ _)) fun Cd BI => ?_; clear BH BT
 refine n1 ?_
 refine c_7 ?_
 have BJ := BI.as [(5, (Value.int .i64 0)), (2, (bptr S 0))] rfl; clear BI
 refine h_3 (G := Nat) (fun (k : Nat) a_ w_ => Fr 62 [] [(5, (Value.int .i64 (k : Int))), (2, (bptr S 0))] a_ ∧ Sep NoB w w_ [(blk S 25 [(Value.int .i64 b.scales), vt, vm]), (d_8 false vt lr lb b.tabs), (e_6 false vm lk b.macs), (sl xl 2 l.length (pairs l))] ∧ (k ≤ b.tabs.length) ∧ (∀ i, i < k → (b.tabs.getD i tab0).rows.length ≤ 12 ∧ (b.tabs.getD i tab0).brk.length ≤ 12)) (fun k => b.tabs.length - k) 0 ⟨BJ.as _ rfl, K, by omega, (fun _ h => absurd h (Nat.not_lt_zero _))⟩ ?_
 clear BJ K Cd
 rintro k Ce Cy ⟨AX, A, hkk, BX⟩
 refine b_8 ?_
 refine m2 ?_
 refine s1 AX (a_1 rfl (AX.ev rfl)) fun Cf AY => ?_; clear AX Ce
 refine s1 AY (a_3 rfl p_6 (AY.ev rfl)) fun Cg AZ => ?_; clear AY Cf
 refine s1 AZ (a_2 rfl ab_2 (AZ.ev rfl) (A.bk 0 rfl) rfl) fun Ch Aa => ?_; clear AZ Cg
 refine s1 Aa (d_6 rfl ab_3 (Aa.ev rfl) (c_1 (A.ok 1 _ rfl)).tabs) fun Ci AG => ?_; clear Aa Ch
 refine s1 AG (f_8 rfl (AG.ev rfl) (AG.ev rfl)) fun BU H => ?_; clear AG Ci
 refine n1 ?_
 by_cases BO : (k : Int) < (b.tabs.length : Int)
 ·skip
  rw [decide_eq_true BO] at H
  refine c_3 H rfl ?_
  refine d_0 ?_
  refine b_0 ?_
  refine b_8 ?_
  refine c_7 ?_
  refine m2 ?_
  refine s1 H (a_3 rfl p_6 (H.ev rfl)) fun Cj Ab => ?_; clear H BU
  refine s1 Ab (a_2 rfl ab_2 (Ab.ev rfl) (A.bk 0 rfl) rfl) fun Ck T => ?_; clear Ab Cj
  refine s1 T (a_1 rfl (T.ev rfl)) fun BZ N => ?_; clear T Ck
  refine s1 N (b_3 rfl ab_3 y_3 (N.ev rfl) (i := k) (N.ev rfl) (c_1 (A.ok 1 _ rfl)).tabs (by decide) (by omega)) fun Ba U => ?_; clear N BZ
  refine s1 U (d_1 rfl g_5 (U.ev rfl) (c_1 (A.ok 1 _ rfl)).tabs (by rw [((c_1 (A.ok 1 _ rfl)).tabs).1]; omega)) fun Bb V => ?_; clear U Ba
  refine s1 V (c_4 rfl l_5 (V.ev rfl) (c_1 (A.ok 1 _ rfl)).tabs (tabs_at2 (by omega))) fun Bc W => ?_; clear V Bb
  refine s1 W (d_6 rfl l_6 (W.ev rfl) ((c_1 (A.ok 1 _ rfl)).row (i := k) (by omega))) fun Bd X => ?_; clear W Bc
  refine s1 X (j_0 rfl (X.ev rfl) (evc _ _)) fun Be Y => ?_; clear X Bd
  refine s1 Y (a_1 rfl (Y.ev rfl)) fun Ay F => ?_; clear Y Be
  by_cases Au : 12 < ((b.tabs.getD k tab0).rows.length : Int)
  ·skip
   rw [decide_eq_true Au] at F
   refine s3 F fun Bf Ac => ?_; clear F Ay
   refine s3 Ac fun Bg Ad => ?_; clear Ac Bf
   refine s3 Ad fun Bh Ae => ?_; clear Ad Bg
   refine s3 Ae fun Bi Af => ?_; clear Ae Bh
   refine s3 Af fun Bj Ag => ?_; clear Af Bi
   refine s3 Ag fun Bk Ah => ?_; clear Ag Bj
   refine s3 Ah fun Bl Ai => ?_; clear Ah Bk
   refine s3 Ai fun Bm Z => ?_; clear Ai Bl
   refine s1 Z (b_9 rfl (Z.ev rfl) (evc _ _)) fun Bn a => ?_; clear Z Bm
   refine n1 ?_
   refine c_3 a rfl ?_
   refine b_8 ?_
   have Aj := a.as [] rfl; clear a
   refine a_5 ?_
   refine s1 Aj (a_0 rfl (evc _ _)) fun Cm Ak => ?_; clear Aj Bn
   refine n1 ?_
   refine c_9 ?_
   refine c_6 ?_
   refine a_6 ?_
   refine a_6 ?_
   refine c_6 ?_
   refine a_6 ?_
   refine a_9 Ak (.inl rfl) (a_4 Ak rfl (.tmp rfl)) ?_
   exact ⟨congrArg Value.bool (Eq.symm (by first | exact thin_n1 (by omega) | exact thin_n2 (k := k) (by omega) | exact thin_n3 (k := I) (by omega))), A.ext⟩
  skip
  rw [decide_eq_false Au] at F
  refine s5 F (a_3 rfl p_6 (F.ev rfl)) fun Bo c => ?_; clear F Ay
  refine s5 c (a_2 rfl ab_2 (c.ev rfl) (A.bk 0 rfl) rfl) fun Bp d => ?_; clear c Bo
  refine s5 d (a_1 rfl (d.ev rfl)) fun Bq O => ?_; clear d Bp
  refine s5 O (b_3 rfl ab_3 y_3 (O.ev rfl) (i := k) (O.ev rfl) (c_1 (A.ok 1 _ rfl)).tabs (by decide) (by omega)) fun Br e => ?_; clear O Bq
  refine s5 e (d_1 rfl u_9 (e.ev rfl) (c_1 (A.ok 1 _ rfl)).tabs (by rw [((c_1 (A.ok 1 _ rfl)).tabs).1]; omega)) fun Bs f => ?_; clear e Br
  refine s5 f (c_4 rfl aa_6 (f.ev rfl) (c_1 (A.ok 1 _ rfl)).tabs (tabs_at3 (by omega))) fun Bt g => ?_; clear f Bs
  refine s5 g (d_6 rfl p_4 (g.ev rfl) ((c_1 (A.ok 1 _ rfl)).brk (i := k) (by omega))) fun Bu j => ?_; clear g Bt
  refine s5 j (j_0 rfl (j.ev rfl) (evc _ _)) fun Bv P => ?_; clear j Bu
  refine s1 P (d_3 rfl (P.ev rfl) (P.ev rfl)) fun Az D => ?_; clear P Bv
  refine n1 ?_
  by_cases Av : 12 < ((b.tabs.getD k tab0).brk.length : Int)
  ·skip
   rw [decide_eq_true Av] at D
   refine c_3 D rfl ?_
   refine b_8 ?_
   have Al := D.as [] rfl; clear D
   refine a_5 ?_
   refine s1 Al (a_0 rfl (evc _ _)) fun Cn Am => ?_; clear Al Az
   refine n1 ?_
   refine c_9 ?_
   refine c_6 ?_
   refine a_6 ?_
   refine a_6 ?_
   refine c_6 ?_
   refine a_6 ?_
   refine a_9 Am (.inl rfl) (a_4 Am rfl (.tmp rfl)) ?_
   exact ⟨congrArg Value.bool (Eq.symm (by first | exact thin_n1 (by omega) | exact thin_n2 (k := k) (by omega) | exact thin_n3 (k := I) (by omega))), A.ext⟩
  skip
  rw [decide_eq_false Av] at D
  refine b_7 D rfl ?_
  refine d_0 ?_
  refine h_0 ?_
  refine b_0 ?_
  have m := D.as [(5, (Value.int .i64 (k : Int))), (2, (bptr S 0))] rfl; clear D
  refine a_5 ?_
  refine s1 m (a_1 rfl (m.ev rfl)) fun Bw n => ?_; clear m Az
  refine s1 n (f_4 rfl (n.ev rfl) (evc _ _) (by omega) (by omega)) fun Bx o => ?_; clear n Bw
  refine s1 o (a_0 rfl (o.ev rfl)) fun Co BP => ?_; clear o Bx
  refine e_9 ?_
  exact b_0 ⟨k + 1, ⟨BP.as _ rfl, A, by omega, (fun i hi => by rcases Nat.lt_succ_iff_lt_or_eq.1 hi with h | h; exact BX i h; subst h; omega)⟩, by omega⟩
 skip
 rw [decide_eq_false BO] at H
 refine b_7 H rfl ?_
 refine g_8 ?_
 refine b_6 ?_
 refine b_6 ?_
 refine f_5 ?_
 refine b_0 ?_
 refine b_8 ?_
 refine b_8 ?_
 have An := H.as [(2, (bptr S 0))] rfl; clear H
 refine a_5 ?_
 refine s1 An (a_0 rfl (evc _ _)) fun By Ao => ?_; clear An BU
 refine n1 ?_
 refine c_7 ?_
 have Ap := Ao.as [(6, (Value.int .i64 0)), (2, (bptr S 0))] rfl; clear Ao
 refine h_3 (G := Nat) (fun (I : Nat) a_ w_ => Fr 62 [] [(6, (Value.int .i64 (I : Int))), (2, (bptr S 0))] a_ ∧ Sep NoB w w_ [(blk S 25 [(Value.int .i64 b.scales), vt, vm]), (d_8 false vt lr lb b.tabs), (e_6 false vm lk b.macs), (sl xl 2 l.length (pairs l))] ∧ (I ≤ b.macs.length) ∧ (∀ i, i < I → (b.macs.getD i mac0).blocks.length ≤ 8)) (fun I => b.macs.length - I) 0 ⟨Ap.as _ rfl, A, by omega, (fun _ h => absurd h (Nat.not_lt_zero _))⟩ ?_
 clear Ap A By
 rintro I Bz Cu ⟨p, B, hkk1, BY⟩
 refine b_8 ?_
 refine m2 ?_
 refine s1 p (a_1 rfl (p.ev rfl)) fun B0 q => ?_; clear p Bz
 refine s1 q (a_3 rfl o_7 (q.ev rfl)) fun B1 r => ?_; clear q B0
 refine s1 r (a_2 rfl aa_4 (r.ev rfl) (B.bk 0 rfl) rfl) fun B2 s => ?_; clear r B1
 refine s1 s (d_6 rfl aa_8 (s.ev rfl) (c_8 (B.ok 2 _ rfl)).macs) fun B3 Q => ?_; clear s B2
 refine s1 Q (f_8 rfl (Q.ev rfl) (Q.ev rfl)) fun A0 C => ?_; clear Q B3
 refine n1 ?_
 by_cases Aw : (I : Int) < (b.macs.length : Int)
 ·skip
  rw [decide_eq_true Aw] at C
  refine c_3 C rfl ?_
  refine d_0 ?_
  refine b_0 ?_
  refine b_8 ?_
  refine c_7 ?_
  refine m2 ?_
  refine s1 C (a_3 rfl o_7 (C.ev rfl)) fun B4 t => ?_; clear C A0
  refine s1 t (a_2 rfl aa_4 (t.ev rfl) (B.bk 0 rfl) rfl) fun B5 u => ?_; clear t B4
  refine s1 u (a_1 rfl (u.ev rfl)) fun B6 R => ?_; clear u B5
  refine s1 R (b_3 rfl aa_8 z_2 (R.ev rfl) (i := I) (R.ev rfl) (c_8 (B.ok 2 _ rfl)).macs (by decide) (by omega)) fun B7 x => ?_; clear R B6
  refine s1 x (d_1 rfl v_0 (x.ev rfl) (c_8 (B.ok 2 _ rfl)).macs (by rw [((c_8 (B.ok 2 _ rfl)).macs).1]; omega)) fun B8 y => ?_; clear x B7
  refine s1 y (c_4 rfl ty_59 (y.ev rfl) (c_8 (B.ok 2 _ rfl)).macs (macs_at1 (by omega))) fun B9 z => ?_; clear y B8
  refine s1 z (d_6 rfl un_59 (z.ev rfl) ((c_8 (B.ok 2 _ rfl)).blk (i := I) (by omega))) fun CA AA => ?_; clear z B9
  refine s1 AA (j_0 rfl (AA.ev rfl) (evc _ _)) fun A1 E => ?_; clear AA CA
  refine n1 ?_
  by_cases Ax : 8 < ((b.macs.getD I mac0).blocks.length : Int)
  ·skip
   rw [decide_eq_true Ax] at E
   refine c_3 E rfl ?_
   refine b_8 ?_
   have Aq := E.as [] rfl; clear E
   refine a_5 ?_
   refine s1 Aq (a_0 rfl (evc _ _)) fun Cp Ar => ?_; clear Aq A1
   refine n1 ?_
   refine c_9 ?_
   refine c_6 ?_
   refine a_6 ?_
   refine a_6 ?_
   refine c_6 ?_
   refine a_6 ?_
   refine a_9 Ar (.inl rfl) (a_4 Ar rfl (.tmp rfl)) ?_
   exact ⟨congrArg Value.bool (Eq.symm (by first | exact thin_n1 (by omega) | exact thin_n2 (k := k) (by omega) | exact thin_n3 (k := I) (by omega))), B.ext⟩
  skip
  rw [decide_eq_false Ax] at E
  refine b_7 E rfl ?_
  refine d_0 ?_
  refine h_0 ?_
  refine b_0 ?_
  have AB := E.as [(6, (Value.int .i64 (I : Int))), (2, (bptr S 0))] rfl; clear E
  refine a_5 ?_
  refine s1 AB (a_1 rfl (AB.ev rfl)) fun CB AC => ?_; clear AB A1
  refine s1 AC (f_4 rfl (AC.ev rfl) (evc _ _) (by omega) (by omega)) fun CC AD => ?_; clear AC CB
  refine s1 AD (a_0 rfl (AD.ev rfl)) fun Cq BQ => ?_; clear AD CC
  refine e_9 ?_
  exact b_0 ⟨I + 1, ⟨BQ.as _ rfl, B, by omega, (fun i hi => by rcases Nat.lt_succ_iff_lt_or_eq.1 hi with h | h; exact BY i h; subst h; omega)⟩, by omega⟩
 skip
 rw [decide_eq_false Aw] at C
 refine b_7 C rfl ?_
 refine g_8 ?_
 refine b_6 ?_
 refine b_6 ?_
 refine f_5 ?_
 refine b_0 ?_
 refine b_8 ?_
 have As := C.as [] rfl; clear C
 refine a_5 ?_
 refine s1 As (a_0 rfl (evc _ _)) fun Cr At => ?_; clear As A0
 refine n1 ?_
 refine c_9 ?_
 refine a_9 At (.inl rfl) (a_4 At rfl (.tmp rfl)) ?_
 exact ⟨congrArg Value.bool (Eq.symm (thin_y (by omega) (by omega) (by omega) (fun i hi => BX i (by omega)) (fun i hi => BY i (by omega)))), B.ext⟩
set_option maxHeartbeats 4000000 in
theorem rfault_ok (b : h_6) (vt vm : Value) (lr lb lk : Nat → Value) (w : World) (hT : i_5 w vt lr lb b.tabs) (hM : j_6 w vm lk b.macs) (hth : n_4 b) :
  Calls Try.prog 21 #[(Value.agg #[(Value.int .i64 b.scales), vt, vm])] w (Ret fun v w' => v = .int .i64 (f_9 b) ∧ Ext NoB w w') := by
 refine a_8 Try.func21 rfl fun a0 BL => ?_
 replace BL : Fr 113 [] [(0, (Value.agg #[(Value.int .i64 b.scales), vt, vm]))] a0 := BL
 have htl := hth.tl; have hml := hth.ml
 have C4 : Sep NoB w w [(d_8 false vt lr lb b.tabs), (e_6 false vm lk b.macs)] := f_1 ⟨rfl, hT, rfl, hM, trivial⟩
 refine m2 ?_
 refine s2 BL (f_0 C4 rfl (BL.ev rfl) (cs := [(Value.int .i64 b.scales), vt, vm]) rfl) ?_
 rintro a1 _ w3 ⟨E, rfl, m⟩ C3; clear BL C4 a0
 refine s1 C3 (a_0 rfl (evc _ _)) fun a6 Cj => ?_; clear C3 a1
 refine n2 ?_
 refine m2 ?_
 refine s1 Cj (a_3 rfl p_6 (Cj.ev rfl)) fun a8 Cm => ?_; clear Cj a6
 refine s1 Cm (a_2 rfl ab_2 (Cm.ev rfl) (m.bk 0 rfl) rfl) fun ES BM => ?_; clear Cm a8
 refine s1 BM (d_6 rfl ab_3 (BM.ev rfl) (c_1 (m.ok 1 _ rfl)).tabs) fun ET BN => ?_; clear BM ES
 refine s1 BN (j_0 rfl (BN.ev rfl) (evc _ _)) fun EU BO => ?_; clear BN ET
 refine s1 BO (a_1 rfl (BO.ev rfl)) fun Cz g => ?_; clear BO EU
 by_cases Cq : 6 < (b.tabs.length : Int)
 ·skip
  rw [decide_eq_true Cq] at g
  refine s3 g fun EV CZ => ?_; clear g Cz
  refine s3 CZ fun EW Ca => ?_; clear CZ EV
  refine s3 Ca fun EX Cb => ?_; clear Ca EW
  refine s3 Cb fun EY BP => ?_; clear Cb EX
  refine s1 BP (b_9 rfl (BP.ev rfl) (evc _ _)) fun EZ BQ => ?_; clear BP EY
  refine n1 ?_
  refine c_3 BQ rfl ?_
  refine b_8 ?_
  have Cc := BQ.as [] rfl; clear BQ
  refine a_5 ?_
  refine s1 Cc (a_0 rfl (evc _ _)) fun FH Cd => ?_; clear Cc EZ
  refine n1 ?_
  refine c_9 ?_
  refine a_6 ?_
  refine a_9 Cd (.inl rfl) (a_4 Cd rfl (.tmp rfl)) ?_
  exact ⟨i_2 (Eq.symm (by first | exact m_4 (by omega) | exact q_6 (k := k) (by omega) (by omega) | exact q_7 (k := O) (by omega) (by omega) | exact m_9 (⟨by omega, by omega, fun i hi => A i (by omega), fun i hi => B i (by omega)⟩ : g_1 b) (by assumption) | exact q_5 (k := D) (⟨by omega, by omega, fun i hi => A i (by omega), fun i hi => B i (by omega)⟩ : g_1 b) (by omega) (by assumption) | exact j_7 (k := C) (⟨by omega, by omega, fun i hi => A i (by omega), fun i hi => B i (by omega)⟩ : g_1 b) (by omega) (z_4 (by assumption)) | exact j_7 (k := C) (⟨by omega, by omega, fun i hi => A i (by omega), fun i hi => B i (by omega)⟩ : g_1 b) (by omega) (z_5 (k := N) (by omega) (h_0 (by first | exact .inl (by assumption) | exact .inr (by assumption)))) | exact s_9 (⟨by omega, by omega, fun i hi => A i (by omega), fun i hi => B i (by omega)⟩ : g_1 b) (by assumption) (fun i hi => c i (by omega)) (fun i hi => d i (by omega)))), m.ext⟩
 skip
 rw [decide_eq_false Cq] at g
 refine s5 g (a_3 rfl o_7 (g.ev rfl)) fun Ea BR => ?_; clear g Cz
 refine s5 BR (a_2 rfl aa_4 (BR.ev rfl) (m.bk 0 rfl) rfl) fun Eb BS => ?_; clear BR Ea
 refine s5 BS (d_6 rfl aa_8 (BS.ev rfl) (c_8 (m.ok 2 _ rfl)).macs) fun Ec BT => ?_; clear BS Eb
 refine s5 BT (j_0 rfl (BT.ev rfl) (evc _ _)) fun Ed BB => ?_; clear BT Ec
 refine s1 BB (d_3 rfl (BB.ev rfl) (BB.ev rfl)) fun C0 Y => ?_; clear BB Ed
 refine n1 ?_
 by_cases Cr : 6 < (b.macs.length : Int)
 ·skip
  rw [decide_eq_true Cr] at Y
  refine c_3 Y rfl ?_
  refine b_8 ?_
  have Ce := Y.as [] rfl; clear Y
  refine a_5 ?_
  refine s1 Ce (a_0 rfl (evc _ _)) fun FI Cf => ?_; clear Ce C0
  refine n1 ?_
  refine c_9 ?_
  refine a_6 ?_
  refine a_9 Cf (.inl rfl) (a_4 Cf rfl (.tmp rfl)) ?_
  exact ⟨i_2 (Eq.symm (by first | exact m_4 (by omega) | exact q_6 (k := k) (by omega) (by omega) | exact q_7 (k := O) (by omega) (by omega) | exact m_9 (⟨by omega, by omega, fun i hi => A i (by omega), fun i hi => B i (by omega)⟩ : g_1 b) (by assumption) | exact q_5 (k := D) (⟨by omega, by omega, fun i hi => A i (by omega), fun i hi => B i (by omega)⟩ : g_1 b) (by omega) (by assumption) | exact j_7 (k := C) (⟨by omega, by omega, fun i hi => A i (by omega), fun i hi => B i (by omega)⟩ : g_1 b) (by omega) (z_4 (by assumption)) | exact j_7 (k := C) (⟨by omega, by omega, fun i hi => A i (by omega), fun i hi => B i (by omega)⟩ : g_1 b) (by omega) (z_5 (k := N) (by omega) (h_0 (by first | exact .inl (by assumption) | exact .inr (by assumption)))) | exact s_9 (⟨by omega, by omega, fun i hi => A i (by omega), fun i hi => B i (by omega)⟩ : g_1 b) (by assumption) (fun i hi => c i (by omega)) (fun i hi => d i (by omega)))), m.ext⟩
 skip
 rw [decide_eq_false Cr] at Y
 refine b_7 Y rfl ?_
 refine d_0 ?_
 refine b_0 ?_
 refine b_8 ?_
 refine b_8 ?_
 have Cg := Y.as [(1, (bptr E 0))] rfl; clear Y
 refine a_5 ?_
 refine s1 Cg (a_0 rfl (evc _ _)) fun Ee Ch => ?_; clear Cg C0
 refine n1 ?_
 refine c_7 ?_
 have Ci := Ch.as [(3, (Value.int .i64 0)), (1, (bptr E 0))] rfl; clear Ch
 refine h_3 (G := Nat) (fun (k : Nat) a_ w_ => Fr 113 [] [(3, (Value.int .i64 (k : Int))), (1, (bptr E 0))] a_ ∧ Sep NoB w w_ [(blk E 25 [(Value.int .i64 b.scales), vt, vm]), (d_8 false vt lr lb b.tabs), (e_6 false vm lk b.macs)] ∧ (k ≤ b.tabs.length) ∧ (∀ i, i < k → (b.tabs.getD i tab0).rows.length ≤ 8)) (fun k => b.tabs.length - k) 0 ⟨Ci.as _ rfl, m, by omega, (fun _ h => absurd h (Nat.not_lt_zero _))⟩ ?_
 clear Ci m Ee
 rintro k Ef FL ⟨BU, I, hkk, A⟩
 refine b_8 ?_
 refine m2 ?_
 refine s1 BU (a_1 rfl (BU.ev rfl)) fun Eg BV => ?_; clear BU Ef
 refine s1 BV (a_3 rfl p_6 (BV.ev rfl)) fun Eh BW => ?_; clear BV Eg
 refine s1 BW (a_2 rfl ab_2 (BW.ev rfl) (I.bk 0 rfl) rfl) fun Ei BX => ?_; clear BW Eh
 refine s1 BX (d_6 rfl ab_3 (BX.ev rfl) (c_1 (I.ok 1 _ rfl)).tabs) fun Ej BC => ?_; clear BX Ei
 refine s1 BC (f_8 rfl (BC.ev rfl) (BC.ev rfl)) fun C1 X => ?_; clear BC Ej
 refine n1 ?_
 by_cases Cs : (k : Int) < (b.tabs.length : Int)
 ·skip
  rw [decide_eq_true Cs] at X
  refine c_3 X rfl ?_
  refine d_0 ?_
  refine b_0 ?_
  refine b_8 ?_
  refine c_7 ?_
  refine m2 ?_
  refine s1 X (a_3 rfl p_6 (X.ev rfl)) fun Ek BY => ?_; clear X C1
  refine s1 BY (a_2 rfl ab_2 (BY.ev rfl) (I.bk 0 rfl) rfl) fun El BZ => ?_; clear BY Ek
  refine s1 BZ (a_1 rfl (BZ.ev rfl)) fun Em BD => ?_; clear BZ El
  refine s1 BD (b_3 rfl ab_3 y_3 (BD.ev rfl) (i := k) (BD.ev rfl) (c_1 (I.ok 1 _ rfl)).tabs (by decide) (by omega)) fun En Ba => ?_; clear BD Em
  refine s1 Ba (d_1 rfl g_5 (Ba.ev rfl) (c_1 (I.ok 1 _ rfl)).tabs (by rw [((c_1 (I.ok 1 _ rfl)).tabs).1]; omega)) fun Eo Bb => ?_; clear Ba En
  refine s1 Bb (c_4 rfl l_5 (Bb.ev rfl) (c_1 (I.ok 1 _ rfl)).tabs (tabs_at2 (by omega))) fun Ep Bc => ?_; clear Bb Eo
  refine s1 Bc (d_6 rfl l_6 (Bc.ev rfl) ((c_1 (I.ok 1 _ rfl)).row (i := k) (by omega))) fun Er Bd => ?_; clear Bc Ep
  refine s1 Bd (j_0 rfl (Bd.ev rfl) (evc _ _)) fun C2 Z => ?_; clear Bd Er
  refine n1 ?_
  by_cases Ct : 8 < ((b.tabs.getD k tab0).rows.length : Int)
  ·skip
   rw [decide_eq_true Ct] at Z
   refine c_3 Z rfl ?_
   refine b_8 ?_
   have Ck := Z.as [] rfl; clear Z
   refine a_5 ?_
   refine s1 Ck (a_0 rfl (evc _ _)) fun FJ Cl => ?_; clear Ck C2
   refine n1 ?_
   refine c_9 ?_
   refine c_6 ?_
   refine a_6 ?_
   refine a_6 ?_
   refine c_6 ?_
   refine a_6 ?_
   refine a_9 Cl (.inl rfl) (a_4 Cl rfl (.tmp rfl)) ?_
   exact ⟨i_2 (Eq.symm (by first | exact m_4 (by omega) | exact q_6 (k := k) (by omega) (by omega) | exact q_7 (k := O) (by omega) (by omega) | exact m_9 (⟨by omega, by omega, fun i hi => A i (by omega), fun i hi => B i (by omega)⟩ : g_1 b) (by assumption) | exact q_5 (k := D) (⟨by omega, by omega, fun i hi => A i (by omega), fun i hi => B i (by omega)⟩ : g_1 b) (by omega) (by assumption) | exact j_7 (k := C) (⟨by omega, by omega, fun i hi => A i (by omega), fun i hi => B i (by omega)⟩ : g_1 b) (by omega) (z_4 (by assumption)) | exact j_7 (k := C) (⟨by omega, by omega, fun i hi => A i (by omega), fun i hi => B i (by omega)⟩ : g_1 b) (by omega) (z_5 (k := N) (by omega) (h_0 (by first | exact .inl (by assumption) | exact .inr (by assumption)))) | exact s_9 (⟨by omega, by omega, fun i hi => A i (by omega), fun i hi => B i (by omega)⟩ : g_1 b) (by assumption) (fun i hi => c i (by omega)) (fun i hi => d i (by omega)))), I.ext⟩
  skip
  rw [decide_eq_false Ct] at Z
  refine b_7 Z rfl ?_
  refine d_0 ?_
  refine h_0 ?_
  refine b_0 ?_
  have Be := Z.as [(3, (Value.int .i64 (k : Int))), (1, (bptr E 0))] rfl; clear Z
  refine a_5 ?_
  refine s1 Be (a_1 rfl (Be.ev rfl)) fun Es Bf => ?_; clear Be C2
  refine s1 Bf (f_4 rfl (Bf.ev rfl) (evc _ _) (by omega) (by omega)) fun Et Bg => ?_; clear Bf Es
  refine s1 Bg (a_0 rfl (Bg.ev rfl)) fun FK EO => ?_; clear Bg Et
  refine e_9 ?_
  exact b_0 ⟨k + 1, ⟨EO.as _ rfl, I, by omega, (fun i hi => by rcases Nat.lt_succ_iff_lt_or_eq.1 hi with h | h; exact A i h; subst h; omega)⟩, by omega⟩
 skip
 rw [decide_eq_false Cs] at X
 refine b_7 X rfl ?_
 refine g_8 ?_
 refine b_6 ?_
 refine b_6 ?_
 refine f_5 ?_
 refine b_0 ?_
 refine b_8 ?_
 refine b_8 ?_
 have Cn := X.as [(1, (bptr E 0))] rfl; clear X
 refine a_5 ?_
 refine s1 Cn (a_0 rfl (evc _ _)) fun Eu Co => ?_; clear Cn C1
 refine n1 ?_
 refine c_7 ?_
 have Cp := Co.as [(4, (Value.int .i64 0)), (1, (bptr E 0))] rfl; clear Co
 refine h_3 (G := Nat) (fun (O : Nat) a_ w_ => Fr 113 [] [(4, (Value.int .i64 (O : Int))), (1, (bptr E 0))] a_ ∧ Sep NoB w w_ [(blk E 25 [(Value.int .i64 b.scales), vt, vm]), (d_8 false vt lr lb b.tabs), (e_6 false vm lk b.macs)] ∧ (O ≤ b.macs.length) ∧ (∀ i, i < O → (b.macs.getD i mac0).blocks.length ≤ 5)) (fun O => b.macs.length - O) 0 ⟨Cp.as _ rfl, I, by omega, (fun _ h => absurd h (Nat.not_lt_zero _))⟩ ?_
 clear Cp I Eu
 rintro O Ev FM ⟨Bh, H, hkk1, B⟩
 refine b_8 ?_
 refine m2 ?_
 refine s1 Bh (a_1 rfl (Bh.ev rfl)) fun C6 AC => ?_; clear Bh Ev
 refine s1 AC (a_3 rfl o_7 (AC.ev rfl)) fun C7 AD => ?_; clear AC C6
 refine s1 AD (a_2 rfl aa_4 (AD.ev rfl) (H.bk 0 rfl) rfl) fun C8 AE => ?_; clear AD C7
 refine s1 AE (d_6 rfl aa_8 (AE.ev rfl) (c_8 (H.ok 2 _ rfl)).macs) fun C9 n => ?_; clear AE C8
 refine s1 n (f_8 rfl (n.ev rfl) (n.ev rfl)) fun CQ J => ?_; clear n C9
 refine n1 ?_
 by_cases CL : (O : Int) < (b.macs.length : Int)
 ·skip
  rw [decide_eq_true CL] at J
  refine c_3 J rfl ?_
  refine d_0 ?_
  refine b_0 ?_
  refine b_8 ?_
  refine c_7 ?_
  refine m2 ?_
  refine s1 J (a_3 rfl o_7 (J.ev rfl)) fun DA AF => ?_; clear J CQ
  refine s1 AF (a_2 rfl aa_4 (AF.ev rfl) (H.bk 0 rfl) rfl) fun DB AG => ?_; clear AF DA
  refine s1 AG (a_1 rfl (AG.ev rfl)) fun DC o => ?_; clear AG DB
  refine s1 o (b_3 rfl aa_8 z_2 (o.ev rfl) (i := O) (o.ev rfl) (c_8 (H.ok 2 _ rfl)).macs (by decide) (by omega)) fun DD AH => ?_; clear o DC
  refine s1 AH (d_1 rfl v_0 (AH.ev rfl) (c_8 (H.ok 2 _ rfl)).macs (by rw [((c_8 (H.ok 2 _ rfl)).macs).1]; omega)) fun DE AI => ?_; clear AH DD
  refine s1 AI (c_4 rfl ty_59 (AI.ev rfl) (c_8 (H.ok 2 _ rfl)).macs (macs_at1 (by omega))) fun DF AJ => ?_; clear AI DE
  refine s1 AJ (d_6 rfl un_59 (AJ.ev rfl) ((c_8 (H.ok 2 _ rfl)).blk (i := O) (by omega))) fun DG AK => ?_; clear AJ DF
  refine s1 AK (j_0 rfl (AK.ev rfl) (evc _ _)) fun CR P => ?_; clear AK DG
  refine n1 ?_
  by_cases CM : 5 < ((b.macs.getD O mac0).blocks.length : Int)
  ·skip
   rw [decide_eq_true CM] at P
   refine c_3 P rfl ?_
   refine b_8 ?_
   have Bi := P.as [] rfl; clear P
   refine a_5 ?_
   refine s1 Bi (a_0 rfl (evc _ _)) fun Ex Bj => ?_; clear Bi CR
   refine n1 ?_
   refine c_9 ?_
   refine c_6 ?_
   refine a_6 ?_
   refine a_6 ?_
   refine c_6 ?_
   refine a_6 ?_
   refine a_9 Bj (.inl rfl) (a_4 Bj rfl (.tmp rfl)) ?_
   exact ⟨i_2 (Eq.symm (by first | exact m_4 (by omega) | exact q_6 (k := k) (by omega) (by omega) | exact q_7 (k := O) (by omega) (by omega) | exact m_9 (⟨by omega, by omega, fun i hi => A i (by omega), fun i hi => B i (by omega)⟩ : g_1 b) (by assumption) | exact q_5 (k := D) (⟨by omega, by omega, fun i hi => A i (by omega), fun i hi => B i (by omega)⟩ : g_1 b) (by omega) (by assumption) | exact j_7 (k := C) (⟨by omega, by omega, fun i hi => A i (by omega), fun i hi => B i (by omega)⟩ : g_1 b) (by omega) (z_4 (by assumption)) | exact j_7 (k := C) (⟨by omega, by omega, fun i hi => A i (by omega), fun i hi => B i (by omega)⟩ : g_1 b) (by omega) (z_5 (k := N) (by omega) (h_0 (by first | exact .inl (by assumption) | exact .inr (by assumption)))) | exact s_9 (⟨by omega, by omega, fun i hi => A i (by omega), fun i hi => B i (by omega)⟩ : g_1 b) (by assumption) (fun i hi => c i (by omega)) (fun i hi => d i (by omega)))), H.ext⟩
  skip
  rw [decide_eq_false CM] at P
  refine b_7 P rfl ?_
  refine d_0 ?_
  refine h_0 ?_
  refine b_0 ?_
  have AL := P.as [(4, (Value.int .i64 (O : Int))), (1, (bptr E 0))] rfl; clear P
  refine a_5 ?_
  refine s1 AL (a_1 rfl (AL.ev rfl)) fun DH AM => ?_; clear AL CR
  refine s1 AM (f_4 rfl (AM.ev rfl) (evc _ _) (by omega) (by omega)) fun DI AN => ?_; clear AM DH
  refine s1 AN (a_0 rfl (AN.ev rfl)) fun Ey Cu => ?_; clear AN DI
  refine e_9 ?_
  exact b_0 ⟨O + 1, ⟨Cu.as _ rfl, H, by omega, (fun i hi => by rcases Nat.lt_succ_iff_lt_or_eq.1 hi with h | h; exact B i h; subst h; omega)⟩, by omega⟩
 skip
 rw [decide_eq_false CL] at J
 refine b_7 J rfl ?_
 refine g_8 ?_
 refine b_6 ?_
 refine b_6 ?_
 refine f_5 ?_
 refine b_0 ?_
 refine b_8 ?_
 refine b_8 ?_
 have AO := J.as [(1, (bptr E 0))] rfl; clear J
 refine a_5 ?_
 refine s1 AO (a_3 rfl fd_25_0 (AO.ev rfl)) fun DJ AP => ?_; clear AO CQ
 refine s1 AP (a_2 rfl ty_3 (AP.ev rfl) (H.bk 0 rfl) rfl) fun DK AQ => ?_; clear AP DJ
 refine s2 AQ (b_4 rfl ab_1 (ev3 (AQ.ev rfl) (evc _ _) (evc _ _)) (ab_0 _ _ _ _)) ?_
 rintro DL _ W_ ⟨rfl, hW_⟩ AR; have hW2_ := hW_.symm; subst hW2_; clear hW_ AQ DK
 refine s1 AR (f_6 rfl (AR.ev rfl)) fun CS Q => ?_; clear AR DL
 refine n1 ?_
 rcases Bool.eq_false_or_eq_true ((inB b.scales 1 4)) with BG | BG
 ·skip
  rw [BG] at Q
  refine b_7 Q rfl ?_
  refine d_0 ?_
  refine b_0 ?_
  refine b_8 ?_
  refine m2 ?_
  refine s1 Q (a_0 rfl (evc _ _)) fun DM Bk => ?_; clear Q CS
  refine n1 ?_
  refine c_7 ?_
  have Bl := Bk.as [(5, (Value.int .i64 0)), (1, (bptr E 0))] rfl; clear Bk
  refine h_3 (G := Nat) (fun (D : Nat) a_ w_ => Fr 113 [] [(5, (Value.int .i64 (D : Int))), (1, (bptr E 0))] a_ ∧ Sep NoB w w_ [(blk E 25 [(Value.int .i64 b.scales), vt, vm]), (d_8 false vt lr lb b.tabs), (e_6 false vm lk b.macs)] ∧ (D ≤ b.tabs.length) ∧ (∀ i, i < D → tabB b.scales (b.tabs.getD i tab0) = true)) (fun D => b.tabs.length - D) 0 ⟨Bl.as _ rfl, H, by omega, (fun _ h => absurd h (Nat.not_lt_zero _))⟩ ?_
  clear Bl H DM
  rintro D DN FA ⟨AS, e, hkk2, c⟩
  refine b_8 ?_
  refine m2 ?_
  refine s1 AS (a_1 rfl (AS.ev rfl)) fun DO AT => ?_; clear AS DN
  refine s1 AT (a_3 rfl p_6 (AT.ev rfl)) fun DP AU => ?_; clear AT DO
  refine s1 AU (a_2 rfl ab_2 (AU.ev rfl) (e.bk 0 rfl) rfl) fun DQ AV => ?_; clear AU DP
  refine s1 AV (d_6 rfl ab_3 (AV.ev rfl) (c_1 (e.ok 1 _ rfl)).tabs) fun DR p => ?_; clear AV DQ
  refine s1 p (f_8 rfl (p.ev rfl) (p.ev rfl)) fun DS R => ?_; clear p DR
  refine n1 ?_
  by_cases CN : (D : Int) < (b.tabs.length : Int)
  ·skip
   rw [decide_eq_true CN] at R
   refine c_3 R rfl ?_
   refine d_0 ?_
   refine b_0 ?_
   refine b_8 ?_
   refine c_7 ?_
   refine b_8 ?_
   have Bm := R.as [(5, (Value.int .i64 (D : Int))), (1, (bptr E 0))] rfl; clear R
   refine g_3 mixed Bm e 7 [[], [0], [], [2], [], [3, 4], [5]] [(Yd.val (bptr E 0)), (Yd.val (Value.int .i64 b.scales)), (Yd.val (bptr E 1)), (Yd.val vt), (Yd.val (Value.int .i64 (D : Int))), (Yd.val (eptr vt (D * 5))), (Yd.val (Value.agg #[(Value.int .i64 ((b.tabs.getD D tab0).frm)), (Value.int .i64 ((b.tabs.getD D tab0).dst)), (lr D), (lb D), (Value.int .i64 ((b.tabs.getD D tab0).err))]))] (by decide +kernel) rfl rfl ?_ ?_
   ·skip
    refine dq (fun a w hA hS hd => a_3 rfl fd_25_0 (hA.ev rfl)) ?_
    refine dq (fun a w hA hS hd => a_2 rfl ty_3 (hq hd 0) (hS.bk 0 rfl) rfl) ?_
    refine dq (fun a w hA hS hd => a_3 rfl p_6 (hA.ev rfl)) ?_
    refine dq (fun a w hA hS hd => a_2 rfl ab_2 (hq hd 2) (hS.bk 0 rfl) rfl) ?_
    refine dq (fun a w hA hS hd => a_1 rfl (hA.ev rfl)) ?_
    refine dq (fun a w hA hS hd => b_3 rfl ab_3 y_3 (hq hd 3) (i := D) (hq hd 4) (c_1 (hS.ok 1 _ rfl)).tabs (by decide) (by omega)) ?_
    refine dq (fun a w hA hS hd => e_7 rfl y_3 (hq hd 5) (c_1 (hS.ok 1 _ rfl)).tabs (u_5 (by omega)) rfl (by decide)) ?_
    trivial
   intro DT FB Bn AB BE; clear Bm e
   have Bo := Bn.add (hz BE 1); clear Bn
   have q := Bo.add (hz BE 6); clear Bo
   clear BE
   refine s2 q (b_4 rfl en_51 (ev2 (q.ev rfl) (q.ev rfl)) (istable_ok b.scales (j_8.1 (by assumption)) (b.tabs.getD D tab0) _ _ _ ((c_1 (AB.ok 1 _ rfl)).row (i := D) (by omega)) ((c_1 (AB.ok 1 _ rfl)).brk (i := D) (by omega)) (hth.rl _) (hth.bl _))) ?_
   rintro DU _ FC ⟨rfl, CF⟩ AW; have CI := AB.step CF; clear CF q AB DT
   refine s1 AW (f_6 rfl (AW.ev rfl)) fun CT K => ?_; clear AW DU
   refine n1 ?_
   rcases Bool.eq_false_or_eq_true ((tabB b.scales (b.tabs.getD D tab0))) with BH | BH
   ·skip
    rw [BH] at K
    refine b_7 K rfl ?_
    refine d_0 ?_
    refine h_0 ?_
    refine b_0 ?_
    refine a_5 ?_
    refine s1 K (a_1 rfl (K.ev rfl)) fun DV AX => ?_; clear K CT
    refine s1 AX (f_4 rfl (AX.ev rfl) (evc _ _) (by omega) (by omega)) fun DW AY => ?_; clear AX DV
    refine s1 AY (a_0 rfl (AY.ev rfl)) fun Ez Cv => ?_; clear AY DW
    refine e_9 ?_
    exact b_0 ⟨D + 1, ⟨Cv.as _ rfl, CI, by omega, (fun i hi => by rcases Nat.lt_succ_iff_lt_or_eq.1 hi with h | h; exact c i h; subst h; assumption)⟩, by omega⟩
   skip
   rw [BH] at K
   refine c_3 K rfl ?_
   refine b_8 ?_
   have Bp := K.as [] rfl; clear K
   refine a_5 ?_
   refine s1 Bp (a_0 rfl (evc _ _)) fun E0 Bq => ?_; clear Bp CT
   refine n1 ?_
   refine c_9 ?_
   refine c_6 ?_
   refine a_6 ?_
   refine a_6 ?_
   refine c_6 ?_
   refine a_6 ?_
   refine a_9 Bq (.inl rfl) (a_4 Bq rfl (.tmp rfl)) ?_
   exact ⟨i_2 (Eq.symm (by first | exact m_4 (by omega) | exact q_6 (k := k) (by omega) (by omega) | exact q_7 (k := O) (by omega) (by omega) | exact m_9 (⟨by omega, by omega, fun i hi => A i (by omega), fun i hi => B i (by omega)⟩ : g_1 b) (by assumption) | exact q_5 (k := D) (⟨by omega, by omega, fun i hi => A i (by omega), fun i hi => B i (by omega)⟩ : g_1 b) (by omega) (by assumption) | exact j_7 (k := C) (⟨by omega, by omega, fun i hi => A i (by omega), fun i hi => B i (by omega)⟩ : g_1 b) (by omega) (z_4 (by assumption)) | exact j_7 (k := C) (⟨by omega, by omega, fun i hi => A i (by omega), fun i hi => B i (by omega)⟩ : g_1 b) (by omega) (z_5 (k := N) (by omega) (h_0 (by first | exact .inl (by assumption) | exact .inr (by assumption)))) | exact s_9 (⟨by omega, by omega, fun i hi => A i (by omega), fun i hi => B i (by omega)⟩ : g_1 b) (by assumption) (fun i hi => c i (by omega)) (fun i hi => d i (by omega)))), CI.ext⟩
  skip
  rw [decide_eq_false CN] at R
  refine b_7 R rfl ?_
  refine g_8 ?_
  refine b_6 ?_
  refine b_6 ?_
  refine f_5 ?_
  refine b_0 ?_
  refine b_8 ?_
  refine b_8 ?_
  have Br := R.as [(1, (bptr E 0))] rfl; clear R
  refine a_5 ?_
  refine s1 Br (a_0 rfl (evc _ _)) fun DX Bs => ?_; clear Br DS
  refine n1 ?_
  refine c_7 ?_
  have Bt := Bs.as [(6, (Value.int .i64 0)), (1, (bptr E 0))] rfl; clear Bs
  refine h_3 (G := Nat) (fun (C : Nat) a_ w_ => Fr 113 [] [(6, (Value.int .i64 (C : Int))), (1, (bptr E 0))] a_ ∧ Sep NoB w w_ [(blk E 25 [(Value.int .i64 b.scales), vt, vm]), (d_8 false vt lr lb b.tabs), (e_6 false vm lk b.macs)] ∧ (C ≤ b.macs.length) ∧ (∀ i, i < C → macB b.scales (b.macs.getD i mac0) = true)) (fun C => b.macs.length - C) 0 ⟨Bt.as _ rfl, e, by omega, (fun _ h => absurd h (Nat.not_lt_zero _))⟩ ?_
  clear Bt e DX
  rintro C DY FD ⟨AZ, U, hkk3, d⟩
  have hkl3 := hth.kl C; have hsc_ := j_8.1 (show inB b.scales 1 4 = true by assumption)
  refine b_8 ?_
  refine m2 ?_
  refine s1 AZ (a_1 rfl (AZ.ev rfl)) fun DZ Aa => ?_; clear AZ DY
  refine s1 Aa (a_3 rfl o_7 (Aa.ev rfl)) fun Da Ab => ?_; clear Aa DZ
  refine s1 Ab (a_2 rfl aa_4 (Ab.ev rfl) (U.bk 0 rfl) rfl) fun Db Ac => ?_; clear Ab Da
  refine s1 Ac (d_6 rfl aa_8 (Ac.ev rfl) (c_8 (U.ok 2 _ rfl)).macs) fun Dc r => ?_; clear Ac Db
  refine s1 r (f_8 rfl (r.ev rfl) (r.ev rfl)) fun CU L => ?_; clear r Dc
  refine n1 ?_
  by_cases CO : (C : Int) < (b.macs.length : Int)
  ·skip
   rw [decide_eq_true CO] at L
   refine c_3 L rfl ?_
   refine d_0 ?_
   refine b_0 ?_
   refine b_8 ?_
   refine c_7 ?_
   refine m2 ?_
   refine s1 L (a_3 rfl o_7 (L.ev rfl)) fun Dd Ad => ?_; clear L CU
   refine s1 Ad (a_2 rfl aa_4 (Ad.ev rfl) (U.bk 0 rfl) rfl) fun De Ae => ?_; clear Ad Dd
   refine s1 Ae (a_1 rfl (Ae.ev rfl)) fun Df s => ?_; clear Ae De
   refine s1 s (b_3 rfl aa_8 z_2 (s.ev rfl) (i := C) (s.ev rfl) (c_8 (U.ok 2 _ rfl)).macs (by decide) (by omega)) fun Dg Af => ?_; clear s Df
   refine s1 Af (e_7 rfl z_2 (Af.ev rfl) (c_8 (U.ok 2 _ rfl)).macs (u_2 (by omega)) rfl (by decide)) fun Dh Bu => ?_; clear Af Dg
   refine s2 Bu (e_4 U rfl ze_61 (cs := [(Value.int .i64 0), (Value.slice none 0 0)]) rfl) ?_
   rintro Di _ FE ⟨f, rfl, BF⟩ t; clear Bu U Dh
   refine s7 t (c_2 BF rfl z_2 (t.ev rfl) (t.ev rfl) (i := 0) rfl (vs := [(Value.int .i64 ((b.macs.getD C mac0).scale)), (lk C)]) rfl rfl (i_3 rfl (i_3 (SlAt.one ((c_8 (BF.ok 3 _ rfl)).blk (i := C) (by omega))) v_3)) (Nat.le_of_ble_eq_true rfl)) ?_
   intro _ EP CJ Bv; clear t
   have l : Sep NoB w EP [(blk f 61 [(Value.int .i64 ((b.macs.getD C mac0).scale)), (lk C)]), (blk E 25 [(Value.int .i64 b.scales), vt, vm]), (d_8 false vt lr lb b.tabs), (e_6 false vm lk b.macs)] := CJ; clear CJ BF
   refine n2 ?_
   refine b_8 ?_
   have Ag := Bv.as [(7, (bptr f 0)), (6, (Value.int .i64 (C : Int))), (1, (bptr E 0))] rfl; clear Bv
   refine a_5 ?_
   refine s1 Ag (a_3 rfl fd_61_0 (Ag.ev rfl)) fun Dj Ah => ?_; clear Ag Di
   refine s1 Ah (a_2 rfl ty_3 (Ah.ev rfl) (l.bk 0 rfl) rfl) fun Dk Ai => ?_; clear Ah Dj
   refine s1 Ai (a_3 rfl fd_25_0 (Ai.ev rfl)) fun Dl Aj => ?_; clear Ai Dk
   refine s1 Aj (a_2 rfl ty_3 (Aj.ev rfl) (l.bk 1 rfl) rfl) fun Dm Ak => ?_; clear Aj Dl
   refine s1 Ak (h_9 rfl (Ak.ev rfl) (evc _ _) (by omega) (by omega)) fun Dn u => ?_; clear Ak Dm
   refine s2 u (b_4 rfl ab_1 (ev3 (u.ev rfl) (evc _ _) (u.ev rfl)) (ab_0 _ _ _ _)) ?_
   rintro Do _ W_ ⟨rfl, hW_⟩ Al; have hW2_ := hW_.symm; subst hW2_; clear hW_ u Dn
   refine s1 Al (f_6 rfl (Al.ev rfl)) fun CV S => ?_; clear Al Do
   refine n1 ?_
   rcases Bool.eq_false_or_eq_true ((inB ((b.macs.getD C mac0).scale) 0 (b.scales - 1))) with BI | BI
   ·skip
    rw [BI] at S
    refine b_7 S rfl ?_
    refine d_0 ?_
    refine b_0 ?_
    refine b_8 ?_
    have Bw := S.as [(7, (bptr f 0)), (6, (Value.int .i64 (C : Int))), (1, (bptr E 0))] rfl; clear S
    refine a_5 ?_
    refine s1 Bw (a_0 rfl (evc _ _)) fun Dp Bx => ?_; clear Bw CV
    refine n1 ?_
    refine c_7 ?_
    have By := Bx.as [(8, (Value.int .i64 0)), (7, (bptr f 0)), (6, (Value.int .i64 (C : Int))), (1, (bptr E 0))] rfl; clear Bx
    refine h_3 (G := Nat) (fun (N : Nat) a_ w_ => Fr 113 [] [(8, (Value.int .i64 (N : Int))), (7, (bptr f 0)), (6, (Value.int .i64 (C : Int))), (1, (bptr E 0))] a_ ∧ Sep NoB w w_ [(blk f 61 [(Value.int .i64 ((b.macs.getD C mac0).scale)), (lk C)]), (blk E 25 [(Value.int .i64 b.scales), vt, vm]), (d_8 false vt lr lb b.tabs), (e_6 false vm lk b.macs)] ∧ (N ≤ (b.macs.getD C mac0).blocks.length) ∧ (∀ i, i < N → blkB ((b.macs.getD C mac0).blocks.getD i (0, 0, 0)) = true)) (fun N => (b.macs.getD C mac0).blocks.length - N) 0 ⟨By.as _ rfl, l, by omega, (fun _ h => absurd h (Nat.not_lt_zero _))⟩ ?_
    clear By l Dp
    rintro N Dq EQ ⟨Am, F, hkk4, C5⟩
    refine b_8 ?_
    refine m2 ?_
    refine s1 Am (a_1 rfl (Am.ev rfl)) fun Dr An => ?_; clear Am Dq
    refine s1 An (a_3 rfl v_0 (An.ev rfl)) fun Ds Ao => ?_; clear An Dr
    refine s1 Ao (a_2 rfl ty_59 (Ao.ev rfl) (F.bk 0 rfl) rfl) fun Dt Ap => ?_; clear Ao Ds
    refine s1 Ap (d_6 rfl un_59 (Ap.ev rfl) ((c_8 (F.ok 3 _ rfl)).blk (i := C) (by omega))) fun Du x => ?_; clear Ap Dt
    refine s1 x (f_8 rfl (x.ev rfl) (x.ev rfl)) fun CW M => ?_; clear x Du
    refine n1 ?_
    by_cases CP : (N : Int) < ((b.macs.getD C mac0).blocks.length : Int)
    ·skip
     rw [decide_eq_true CP] at M
     refine c_3 M rfl ?_
     refine d_0 ?_
     refine b_0 ?_
     refine b_8 ?_
     refine c_7 ?_
     refine m2 ?_
     refine s1 M (a_3 rfl v_0 (M.ev rfl)) fun Dv Aq => ?_; clear M CW
     refine s1 Aq (a_2 rfl ty_59 (Aq.ev rfl) (F.bk 0 rfl) rfl) fun Dw Ar => ?_; clear Aq Dv
     refine s1 Ar (a_1 rfl (Ar.ev rfl)) fun Dx y => ?_; clear Ar Dw
     refine s1 y (b_3 rfl un_59 ty_63 (y.ev rfl) (i := N) (y.ev rfl) ((c_8 (F.ok 3 _ rfl)).blk (i := C) (by omega)) (by decide) (by omega)) fun Dy As => ?_; clear y Dx
     refine s1 As (d_1 rfl fd_63_0 (As.ev rfl) ((c_8 (F.ok 3 _ rfl)).blk (i := C) (by omega)) (by rw [(((c_8 (F.ok 3 _ rfl)).blk (i := C) (by omega))).1]; omega)) fun Dz At => ?_; clear As Dy
     refine s1 At (e_7 rfl j_5 (At.ev rfl) ((c_8 (F.ok 3 _ rfl)).blk (i := C) (by omega)) (trips_sub0 (by omega)) rfl (by decide)) fun D0 Au => ?_; clear At Dz
     refine s2 Au (b_4 rfl en_52 (ev1 (Au.ev rfl)) (span_ok _ _ _)) ?_
     rintro D1 _ FF ⟨rfl, CG⟩ Av; have V := F.step CG; clear CG Au F D0
     refine s1 Av (f_6 rfl (Av.ev rfl)) fun D2 Aw => ?_; clear Av D1
     refine s1 Aw (a_1 rfl (Aw.ev rfl)) fun CX W => ?_; clear Aw D2
     rcases Bool.eq_false_or_eq_true ((y_1 ((((b.macs.getD C mac0).blocks).getD N (0, 0, 0)).1, (((b.macs.getD C mac0).blocks).getD N (0, 0, 0)).2.1))) with BJ | BJ
     ·skip
      rw [BJ] at W
      refine s5 W (a_3 rfl v_0 (W.ev rfl)) fun D3 Ax => ?_; clear W CX
      refine s5 Ax (a_2 rfl ty_59 (Ax.ev rfl) (V.bk 0 rfl) rfl) fun D4 Ay => ?_; clear Ax D3
      refine s5 Ay (a_1 rfl (Ay.ev rfl)) fun D5 z => ?_; clear Ay D4
      refine s5 z (b_3 rfl un_59 ty_63 (z.ev rfl) (i := N) (z.ev rfl) ((c_8 (V.ok 3 _ rfl)).blk (i := C) (by omega)) (by decide) (by omega)) fun D6 Az => ?_; clear z D5
      refine s5 Az (d_1 rfl fd_63_1 (Az.ev rfl) ((c_8 (V.ok 3 _ rfl)).blk (i := C) (by omega)) (by rw [(((c_8 (V.ok 3 _ rfl)).blk (i := C) (by omega))).1]; omega)) fun D7 A0 => ?_; clear Az D6
      refine s5 A0 (c_4 rfl ty_3 (A0.ev rfl) ((c_8 (V.ok 3 _ rfl)).blk (i := C) (by omega)) (trips_at2 (by omega))) fun D8 A1 => ?_; clear A0 D7
      refine s6 A1 (b_4 rfl en_53 (ev1 (A1.ev rfl)) (rvalue_ok _ _)) ?_
      rintro D9 _ FG ⟨rfl, CH⟩ A2; have CK := V.step CH; clear CH A1 V D8
      refine s5 A2 (f_6 rfl (A2.ev rfl)) fun EA AA => ?_; clear A2 D9
      refine s1 AA (d_3 rfl (AA.ev rfl) (AA.ev rfl)) fun CY T => ?_; clear AA EA
      refine n1 ?_
      rcases Bool.eq_false_or_eq_true ((inB ((((b.macs.getD C mac0).blocks).getD N (0, 0, 0)).2.2) 0 100000)) with BK | BK
      ·skip
       rw [BK] at T
       refine b_7 T rfl ?_
       refine d_0 ?_
       refine h_0 ?_
       refine b_0 ?_
       have A3 := T.as [(8, (Value.int .i64 (N : Int))), (7, (bptr f 0)), (6, (Value.int .i64 (C : Int))), (1, (bptr E 0))] rfl; clear T
       refine a_5 ?_
       refine s1 A3 (a_1 rfl (A3.ev rfl)) fun EB A4 => ?_; clear A3 CY
       refine s1 A4 (f_4 rfl (A4.ev rfl) (evc _ _) (by omega) (by omega)) fun EC A5 => ?_; clear A4 EB
       refine s1 A5 (a_0 rfl (A5.ev rfl)) fun E1 Cw => ?_; clear A5 EC
       refine e_9 ?_
       exact b_0 ⟨N + 1, ⟨Cw.as _ rfl, CK, by omega, (fun i hi => by rcases Nat.lt_succ_iff_lt_or_eq.1 hi with h | h; exact C5 i h; subst h; exact blk_y (by assumption) (by assumption))⟩, by omega⟩
      skip
      rw [BK] at T
      refine c_3 T rfl ?_
      refine b_8 ?_
      have Bz := T.as [] rfl; clear T
      refine a_5 ?_
      refine s1 Bz (a_0 rfl (evc _ _)) fun E2 B0 => ?_; clear Bz CY
      refine n1 ?_
      refine c_9 ?_
      refine c_6 ?_
      refine a_6 ?_
      refine a_6 ?_
      refine c_6 ?_
      refine c_6 ?_
      refine a_6 ?_
      refine a_6 ?_
      refine c_6 ?_
      refine a_6 ?_
      refine a_9 B0 (.inl rfl) (a_4 B0 rfl (.tmp rfl)) ?_
      exact ⟨i_2 (Eq.symm (by first | exact m_4 (by omega) | exact q_6 (k := k) (by omega) (by omega) | exact q_7 (k := O) (by omega) (by omega) | exact m_9 (⟨by omega, by omega, fun i hi => A i (by omega), fun i hi => B i (by omega)⟩ : g_1 b) (by assumption) | exact q_5 (k := D) (⟨by omega, by omega, fun i hi => A i (by omega), fun i hi => B i (by omega)⟩ : g_1 b) (by omega) (by assumption) | exact j_7 (k := C) (⟨by omega, by omega, fun i hi => A i (by omega), fun i hi => B i (by omega)⟩ : g_1 b) (by omega) (z_4 (by assumption)) | exact j_7 (k := C) (⟨by omega, by omega, fun i hi => A i (by omega), fun i hi => B i (by omega)⟩ : g_1 b) (by omega) (z_5 (k := N) (by omega) (h_0 (by first | exact .inl (by assumption) | exact .inr (by assumption)))) | exact s_9 (⟨by omega, by omega, fun i hi => A i (by omega), fun i hi => B i (by omega)⟩ : g_1 b) (by assumption) (fun i hi => c i (by omega)) (fun i hi => d i (by omega)))), CK.ext⟩
     skip
     rw [BJ] at W
     refine s3 W fun ED B1 => ?_; clear W CX
     refine s3 B1 fun EE B2 => ?_; clear B1 ED
     refine s3 B2 fun EF B3 => ?_; clear B2 EE
     refine s3 B3 fun EG B4 => ?_; clear B3 EF
     refine s3 B4 fun EH B5 => ?_; clear B4 EG
     refine s3 B5 fun EI B6 => ?_; clear B5 EH
     refine s3 B6 fun EJ B7 => ?_; clear B6 EI
     refine s3 B7 fun EK A6 => ?_; clear B7 EJ
     refine s1 A6 (b_9 rfl (A6.ev rfl) (evc _ _)) fun EL A7 => ?_; clear A6 EK
     refine n1 ?_
     refine c_3 A7 rfl ?_
     refine b_8 ?_
     have B8 := A7.as [] rfl; clear A7
     refine a_5 ?_
     refine s1 B8 (a_0 rfl (evc _ _)) fun E3 B9 => ?_; clear B8 EL
     refine n1 ?_
     refine c_9 ?_
     refine c_6 ?_
     refine a_6 ?_
     refine a_6 ?_
     refine c_6 ?_
     refine c_6 ?_
     refine a_6 ?_
     refine a_6 ?_
     refine c_6 ?_
     refine a_6 ?_
     refine a_9 B9 (.inl rfl) (a_4 B9 rfl (.tmp rfl)) ?_
     exact ⟨i_2 (Eq.symm (by first | exact m_4 (by omega) | exact q_6 (k := k) (by omega) (by omega) | exact q_7 (k := O) (by omega) (by omega) | exact m_9 (⟨by omega, by omega, fun i hi => A i (by omega), fun i hi => B i (by omega)⟩ : g_1 b) (by assumption) | exact q_5 (k := D) (⟨by omega, by omega, fun i hi => A i (by omega), fun i hi => B i (by omega)⟩ : g_1 b) (by omega) (by assumption) | exact j_7 (k := C) (⟨by omega, by omega, fun i hi => A i (by omega), fun i hi => B i (by omega)⟩ : g_1 b) (by omega) (z_4 (by assumption)) | exact j_7 (k := C) (⟨by omega, by omega, fun i hi => A i (by omega), fun i hi => B i (by omega)⟩ : g_1 b) (by omega) (z_5 (k := N) (by omega) (h_0 (by first | exact .inl (by assumption) | exact .inr (by assumption)))) | exact s_9 (⟨by omega, by omega, fun i hi => A i (by omega), fun i hi => B i (by omega)⟩ : g_1 b) (by assumption) (fun i hi => c i (by omega)) (fun i hi => d i (by omega)))), V.ext⟩
    skip
    rw [decide_eq_false CP] at M
    refine b_7 M rfl ?_
    refine g_8 ?_
    refine b_6 ?_
    refine b_6 ?_
    refine f_5 ?_
    refine h_0 ?_
    refine b_0 ?_
    have A8 := M.as [(6, (Value.int .i64 (C : Int))), (1, (bptr E 0))] rfl; clear M
    refine a_5 ?_
    refine s1 A8 (a_1 rfl (A8.ev rfl)) fun EM A9 => ?_; clear A8 CW
    refine s1 A9 (f_4 rfl (A9.ev rfl) (evc _ _) (by omega) (by omega)) fun EN BA => ?_; clear A9 EM
    refine s1 BA (a_0 rfl (BA.ev rfl)) fun E4 Cx => ?_; clear BA EN
    refine e_9 ?_
    have Cy : Sep NoB w EQ [(blk E 25 [(Value.int .i64 b.scales), vt, vm]), (d_8 false vt lr lb b.tabs), (e_6 false vm lk b.macs)] := F.keep [1, 2, 3] (by decide) _ rfl rfl; clear F
    exact b_0 ⟨C + 1, ⟨Cx.as _ rfl, Cy, by omega, (fun i hi => by rcases Nat.lt_succ_iff_lt_or_eq.1 hi with h | h; exact d i h; subst h; exact mac_y (by assumption) (fun j hj => C5 j (by omega)))⟩, by omega⟩
   skip
   rw [BI] at S
   refine c_3 S rfl ?_
   refine b_8 ?_
   have CA := S.as [] rfl; clear S
   refine a_5 ?_
   refine s1 CA (a_0 rfl (evc _ _)) fun E5 CB => ?_; clear CA CV
   refine n1 ?_
   refine c_9 ?_
   refine a_6 ?_
   refine c_6 ?_
   refine a_6 ?_
   refine a_6 ?_
   refine c_6 ?_
   refine a_6 ?_
   refine a_9 CB (.inl rfl) (a_4 CB rfl (.tmp rfl)) ?_
   exact ⟨i_2 (Eq.symm (by first | exact m_4 (by omega) | exact q_6 (k := k) (by omega) (by omega) | exact q_7 (k := O) (by omega) (by omega) | exact m_9 (⟨by omega, by omega, fun i hi => A i (by omega), fun i hi => B i (by omega)⟩ : g_1 b) (by assumption) | exact q_5 (k := D) (⟨by omega, by omega, fun i hi => A i (by omega), fun i hi => B i (by omega)⟩ : g_1 b) (by omega) (by assumption) | exact j_7 (k := C) (⟨by omega, by omega, fun i hi => A i (by omega), fun i hi => B i (by omega)⟩ : g_1 b) (by omega) (z_4 (by assumption)) | exact j_7 (k := C) (⟨by omega, by omega, fun i hi => A i (by omega), fun i hi => B i (by omega)⟩ : g_1 b) (by omega) (z_5 (k := N) (by omega) (h_0 (by first | exact .inl (by assumption) | exact .inr (by assumption)))) | exact s_9 (⟨by omega, by omega, fun i hi => A i (by omega), fun i hi => B i (by omega)⟩ : g_1 b) (by assumption) (fun i hi => c i (by omega)) (fun i hi => d i (by omega)))), l.ext⟩
  skip
  rw [decide_eq_false CO] at L
  refine b_7 L rfl ?_
  refine g_8 ?_
  refine b_6 ?_
  refine b_6 ?_
  refine f_5 ?_
  refine b_0 ?_
  refine b_8 ?_
  have CC := L.as [] rfl; clear L
  refine a_5 ?_
  refine s1 CC (a_0 rfl (evc _ _)) fun E6 CD => ?_; clear CC CU
  refine n1 ?_
  refine c_9 ?_
  refine a_9 CD (.inl rfl) (a_4 CD rfl (.tmp rfl)) ?_
  exact ⟨i_2 (Eq.symm (by first | exact m_4 (by omega) | exact q_6 (k := k) (by omega) (by omega) | exact q_7 (k := O) (by omega) (by omega) | exact m_9 (⟨by omega, by omega, fun i hi => A i (by omega), fun i hi => B i (by omega)⟩ : g_1 b) (by assumption) | exact q_5 (k := D) (⟨by omega, by omega, fun i hi => A i (by omega), fun i hi => B i (by omega)⟩ : g_1 b) (by omega) (by assumption) | exact j_7 (k := C) (⟨by omega, by omega, fun i hi => A i (by omega), fun i hi => B i (by omega)⟩ : g_1 b) (by omega) (z_4 (by assumption)) | exact j_7 (k := C) (⟨by omega, by omega, fun i hi => A i (by omega), fun i hi => B i (by omega)⟩ : g_1 b) (by omega) (z_5 (k := N) (by omega) (h_0 (by first | exact .inl (by assumption) | exact .inr (by assumption)))) | exact s_9 (⟨by omega, by omega, fun i hi => A i (by omega), fun i hi => B i (by omega)⟩ : g_1 b) (by assumption) (fun i hi => c i (by omega)) (fun i hi => d i (by omega)))), U.ext⟩
 skip
 rw [BG] at Q
 refine c_3 Q rfl ?_
 refine m2 ?_
 refine s1 Q (a_0 rfl (evc _ _)) fun E7 CE => ?_; clear Q CS
 refine n1 ?_
 refine c_9 ?_
 refine a_6 ?_
 refine a_9 CE (.inl rfl) (a_4 CE rfl (.tmp rfl)) ?_
 exact ⟨i_2 (Eq.symm (by first | exact m_4 (by omega) | exact q_6 (k := k) (by omega) (by omega) | exact q_7 (k := O) (by omega) (by omega) | exact m_9 (⟨by omega, by omega, fun i hi => A i (by omega), fun i hi => B i (by omega)⟩ : g_1 b) (by assumption) | exact q_5 (k := D) (⟨by omega, by omega, fun i hi => A i (by omega), fun i hi => B i (by omega)⟩ : g_1 b) (by omega) (by assumption) | exact j_7 (k := C) (⟨by omega, by omega, fun i hi => A i (by omega), fun i hi => B i (by omega)⟩ : g_1 b) (by omega) (z_4 (by assumption)) | exact j_7 (k := C) (⟨by omega, by omega, fun i hi => A i (by omega), fun i hi => B i (by omega)⟩ : g_1 b) (by omega) (z_5 (k := N) (by omega) (h_0 (by first | exact .inl (by assumption) | exact .inr (by assumption)))) | exact s_9 (⟨by omega, by omega, fun i hi => A i (by omega), fun i hi => B i (by omega)⟩ : g_1 b) (by assumption) (fun i hi => c i (by omega)) (fun i hi => d i (by omega)))), H.ext⟩
set_option maxHeartbeats 4000000 in
theorem v_4 (b : h_6) (vt vm : Value) (lr lb lk : Nat → Value) (w : World) (hT : i_5 w vt lr lb b.tabs) (hM : j_6 w vm lk b.macs) (hth : n_4 b) :
  Calls Try.prog 32 #[(Value.agg #[(Value.int .i64 b.scales), vt, vm])] w (Ret fun v w' => v = .int .i64 (f_9 b) ∧ Ext NoB w w') := by
 refine a_8 Try.func32 rfl fun a0 k => ?_
 replace k : Fr 45 [] [(0, (Value.agg #[(Value.int .i64 b.scales), vt, vm]))] a0 := k
 have BI : Sep NoB w w [(d_8 false vt lr lb b.tabs), (e_6 false vm lk b.macs)] := f_1 ⟨rfl, hT, rfl, hM, trivial⟩
 refine m2 ?_
 refine s2 k (f_0 BI rfl (k.ev rfl) (cs := [(Value.int .i64 b.scales), vt, vm]) rfl) ?_
 rintro a1 _ w3 ⟨b4, rfl, D⟩ BH; clear k BI a0
 refine s1 BH (a_0 rfl (evc _ _)) fun a6 A6 => ?_; clear BH a1
 refine n2 ?_
 refine c_7 ?_
 refine m2 ?_
 refine s1 A6 (a_3 rfl w_9 (A6.ev rfl)) fun a8 A7 => ?_; clear A6 a6
 refine s1 A7 (a_2 rfl ty_34 (A7.ev rfl) (D.bk 0 rfl) rfl) fun Bs m => ?_; clear A7 a8
 refine s1 m (d_6 rfl z_8 (m.ev rfl) (c_1 (D.ok 1 _ rfl)).tabs) fun Bt n => ?_; clear m Bs
 refine s1 n (j_0 rfl (n.ev rfl) (evc _ _)) fun Bu o => ?_; clear n Bt
 refine s1 o (a_1 rfl (o.ev rfl)) fun BC I => ?_; clear o Bu
 by_cases BA : 6 < (b.tabs.length : Int)
 ·skip
  rw [decide_eq_true BA] at I
  refine s3 I fun Bv Az => ?_; clear I BC
  refine s3 Az fun Bw A0 => ?_; clear Az Bv
  refine s3 A0 fun Bx A1 => ?_; clear A0 Bw
  refine s3 A1 fun By p => ?_; clear A1 Bx
  refine s1 p (b_9 rfl (p.ev rfl) (evc _ _)) fun Bz q => ?_; clear p By
  refine s1 q (a_0 rfl (q.ev rfl)) fun B0 r => ?_; clear q Bz
  refine n1 ?_
  refine c_3 r rfl ?_
  refine b_8 ?_
  have A2 := r.as [] rfl; clear r
  refine a_5 ?_
  refine s1 A2 (a_0 rfl (evc _ _)) fun CY A3 => ?_; clear A2 B0
  refine n1 ?_
  refine c_9 ?_
  refine c_6 ?_
  refine a_6 ?_
  refine a_9 A3 (.inl rfl) (a_4 A3 rfl (.tmp rfl)) ?_
  exact ⟨i_2 (Eq.symm (by first | exact m_4 (by omega) | exact check_3b' (by assumption) | exact check_3c' (by assumption))), D.ext⟩
 skip
 rw [decide_eq_false BA] at I
 refine s5 I (a_3 rfl u_8 (I.ev rfl)) fun B1 s => ?_; clear I BC
 refine s5 s (a_2 rfl ty_35 (s.ev rfl) (D.bk 0 rfl) rfl) fun B2 t => ?_; clear s B1
 refine s5 t (d_6 rfl ab_7 (t.ev rfl) (c_8 (D.ok 2 _ rfl)).macs) fun B3 u => ?_; clear t B2
 refine s5 u (j_0 rfl (u.ev rfl) (evc _ _)) fun B4 f => ?_; clear u B3
 refine s1 f (d_3 rfl (f.ev rfl) (f.ev rfl)) fun B5 x => ?_; clear f B4
 refine s1 x (a_0 rfl (x.ev rfl)) fun BD G => ?_; clear x B5
 refine n1 ?_
 by_cases BB : 6 < (b.macs.length : Int)
 ·skip
  rw [decide_eq_true BB] at G
  refine c_3 G rfl ?_
  refine b_8 ?_
  have A4 := G.as [] rfl; clear G
  refine a_5 ?_
  refine s1 A4 (a_0 rfl (evc _ _)) fun CZ A5 => ?_; clear A4 BD
  refine n1 ?_
  refine c_9 ?_
  refine c_6 ?_
  refine a_6 ?_
  refine a_9 A5 (.inl rfl) (a_4 A5 rfl (.tmp rfl)) ?_
  exact ⟨i_2 (Eq.symm (by first | exact m_4 (by omega) | exact check_3b' (by assumption) | exact check_3c' (by assumption))), D.ext⟩
 skip
 rw [decide_eq_false BB] at G
 refine b_7 G rfl ?_
 refine b_8 ?_
 have y := G.as [(1, (bptr b4 0))] rfl; clear G
 refine a_5 ?_
 refine s1 y (a_3 rfl w_9 (y.ev rfl)) fun B6 z => ?_; clear y BD
 refine s1 z (a_2 rfl ty_34 (z.ev rfl) (D.bk 0 rfl) rfl) fun B7 AA => ?_; clear z B6
 refine s2 AA (b_4 rfl en_61 (ev2 (AA.ev rfl) (evf _ _)) (all_tab b.tabs lr lb _ 62 #[] #[] (fun i => decide (((b.tabs.getD i tab0).rows.length : Int) ≤ 8)) _ (c_1 (D.ok 1 _ rfl)).tabs (by have := hth.tl; omega) ⟨en_62, fun i hi W hW => tshort_ok (b.tabs.getD i tab0) _ _ W ((c_1 ((D.step hW).ok 1 _ rfl)).row hi) ((c_1 ((D.step hW).ok 1 _ rfl)).brk hi) (hth.rl i) (hth.bl i)⟩ (fun i hi => ⟨((c_1 (D.ok 1 _ rfl)).row hi).one, ((c_1 (D.ok 1 _ rfl)).brk hi).one⟩))) ?_
 rintro B8 _ Ca ⟨rfl, A8⟩ AB; have K := D.step A8; clear A8 AA D B7
 refine s1 AB (f_6 rfl (AB.ev rfl)) fun B9 AC => ?_; clear AB B8
 refine s1 AC (a_0 rfl (AC.ev rfl)) fun BE F => ?_; clear AC B9
 refine n1 ?_
 rcases Bool.eq_false_or_eq_true (((List.range b.tabs.length).all (fun i => decide (((b.tabs.getD i tab0).rows.length : Int) ≤ 8)))) with AP | AP
 ·skip
  rw [AP] at F
  refine b_7 F rfl ?_
  refine m2 ?_
  refine s1 F (a_3 rfl u_8 (F.ev rfl)) fun CA AD => ?_; clear F BE
  refine s1 AD (a_2 rfl ty_35 (AD.ev rfl) (K.bk 0 rfl) rfl) fun CB AE => ?_; clear AD CA
  refine s2 AE (b_4 rfl en_63 (ev2 (AE.ev rfl) (evf _ _)) (all_mac b.macs lk _ 64 #[] #[] (fun i => decide (((b.macs.getD i mac0).blocks.length : Int) ≤ 5)) _ (c_8 (K.ok 2 _ rfl)).macs (by have := hth.ml; omega) ⟨en_64, fun i hi W hW => mshort_ok (b.macs.getD i mac0) _ W ((c_8 ((K.step hW).ok 2 _ rfl)).blk hi)⟩ (fun i hi => ((c_8 (K.ok 2 _ rfl)).blk hi).one))) ?_
  rintro CC _ Cb ⟨rfl, A9⟩ AF; have A := K.step A9; clear A9 AE K CB
  refine s1 AF (f_6 rfl (AF.ev rfl)) fun CD AG => ?_; clear AF CC
  refine s1 AG (a_0 rfl (AG.ev rfl)) fun BF H => ?_; clear AG CD
  refine n1 ?_
  rcases Bool.eq_false_or_eq_true (((List.range b.macs.length).all (fun i => decide (((b.macs.getD i mac0).blocks.length : Int) ≤ 5)))) with AQ | AQ
  ·skip
   rw [AQ] at H
   refine b_7 H rfl ?_
   refine b_8 ?_
   have AH := H.as [(1, (bptr b4 0))] rfl; clear H
   refine a_5 ?_
   refine s1 AH (a_3 rfl fd_37_0 (AH.ev rfl)) fun CE AI => ?_; clear AH BF
   refine s1 AI (a_2 rfl ty_3 (AI.ev rfl) (A.bk 0 rfl) rfl) fun CF AJ => ?_; clear AI CE
   refine s2 AJ (b_4 rfl en_47 (ev3 (AJ.ev rfl) (evc _ _) (evc _ _)) (o_0 _ _ _ _)) ?_
   rintro CG _ W_ ⟨rfl, hW_⟩ AK; have hW2_ := hW_.symm; subst hW2_; clear hW_ AJ CF
   refine s1 AK (f_6 rfl (AK.ev rfl)) fun CH AL => ?_; clear AK CG
   refine s1 AL (a_1 rfl (AL.ev rfl)) fun BG J => ?_; clear AL CH
   rcases Bool.eq_false_or_eq_true ((inB b.scales 1 4)) with AR | AR
   ·skip
    rw [AR] at J
    refine s5 J (a_3 rfl w_9 (J.ev rfl)) fun CI AM => ?_; clear J BG
    refine s5 AM (a_2 rfl ty_34 (AM.ev rfl) (A.bk 0 rfl) rfl) fun CJ AN => ?_; clear AM CI
    refine s5 AN (c_5 rfl t_9 (AN.ev rfl) (A.bk 0 rfl) (l := [(Value.int .i64 b.scales), vt, vm]) rfl rfl) fun CK AO => ?_; clear AN CJ
    refine s5 AO (h_5 rfl (ev1 (AO.ev rfl)) ev0) fun CL g => ?_; clear AO CK
    refine s6 g (b_4 rfl en_61 (ev2 (g.ev rfl) (g.ev rfl)) (all_tab b.tabs lr lb _ 65 #[(Value.agg #[(Value.int .i64 b.scales), vt, vm])] #[] (fun i => tabB b.scales (b.tabs.getD i tab0)) _ (c_1 (A.ok 1 _ rfl)).tabs (by have := hth.tl; omega) ⟨en_65, fun i hi W hW => table_ok b.scales vt vm (c_1 (A.ok 1 _ rfl)).tabs.one (c_8 (A.ok 2 _ rfl)).macs.one (j_8.1 (by assumption)) (b.tabs.getD i tab0) _ _ W ((c_1 ((A.step hW).ok 1 _ rfl)).row hi) ((c_1 ((A.step hW).ok 1 _ rfl)).brk hi) (hth.rl i) (hth.bl i)⟩ (fun i hi => ⟨((c_1 (A.ok 1 _ rfl)).row hi).one, ((c_1 (A.ok 1 _ rfl)).brk hi).one⟩))) ?_
    rintro BJ _ CW ⟨rfl, Au⟩ O; have B := A.step Au; clear Au g A CL
    refine s5 O (f_6 rfl (O.ev rfl)) fun BK L => ?_; clear O BJ
    refine s1 L (d_3 rfl (L.ev rfl) (L.ev rfl)) fun BL P => ?_; clear L BK
    refine s1 P (a_1 rfl (P.ev rfl)) fun Ax E => ?_; clear P BL
    rcases Bool.eq_false_or_eq_true (((List.range b.tabs.length).all (fun i => tabB b.scales (b.tabs.getD i tab0)))) with h | h
    ·skip
     rw [h] at E
     refine s5 E (a_3 rfl u_8 (E.ev rfl)) fun BM Q => ?_; clear E Ax
     refine s5 Q (a_2 rfl ty_35 (Q.ev rfl) (B.bk 0 rfl) rfl) fun BN R => ?_; clear Q BM
     refine s5 R (c_5 rfl t_9 (R.ev rfl) (B.bk 0 rfl) (l := [(Value.int .i64 b.scales), vt, vm]) rfl rfl) fun BO S => ?_; clear R BN
     refine s5 S (h_5 rfl (ev1 (S.ev rfl)) ev0) fun BP M => ?_; clear S BO
     refine s6 M (b_4 rfl en_63 (ev2 (M.ev rfl) (M.ev rfl)) (all_mac b.macs lk _ 66 #[(Value.agg #[(Value.int .i64 b.scales), vt, vm])] #[] (fun i => macB b.scales (b.macs.getD i mac0)) _ (c_8 (B.ok 2 _ rfl)).macs (by have := hth.ml; omega) ⟨en_66, fun i hi W hW => machine_ok b.scales vt vm W (c_1 (B.ok 1 _ rfl)).tabs.one (c_8 (B.ok 2 _ rfl)).macs.one (j_8.1 (by assumption)) (b.macs.getD i mac0) _ ((c_8 ((B.step hW).ok 2 _ rfl)).blk hi) (hth.kl i)⟩ (fun i hi => ((c_8 (B.ok 2 _ rfl)).blk hi).one))) ?_
     rintro BQ _ CX ⟨rfl, Av⟩ T; have Aw := B.step Av; clear Av M B BP
     refine s5 T (f_6 rfl (T.ev rfl)) fun BR N => ?_; clear T BQ
     refine s1 N (d_3 rfl (N.ev rfl) (N.ev rfl)) fun BS U => ?_; clear N BR
     refine s1 U (a_0 rfl (U.ev rfl)) fun Ay C => ?_; clear U BS
     refine n1 ?_
     rcases Bool.eq_false_or_eq_true (((List.range b.macs.length).all (fun i => macB b.scales (b.macs.getD i mac0)))) with j | j
     ·skip
      rw [j] at C
      refine b_7 C rfl ?_
      refine d_0 ?_
      refine h_0 ?_
      refine b_0 ?_
      refine b_8 ?_
      have AS := C.as [] rfl; clear C
      refine a_5 ?_
      refine s1 AS (a_0 rfl (evc _ _)) fun CO AT => ?_; clear AS Ay
      refine n1 ?_
      refine c_9 ?_
      refine a_9 AT (.inl rfl) (a_4 AT rfl (.tmp rfl)) ?_
      exact ⟨i_2 (Eq.symm (check_0' (r_0 (by omega) (by omega) (by assumption) (by assumption)) (by assumption) (by assumption) (by assumption))), Aw.ext⟩
     skip
     rw [j] at C
     refine c_3 C rfl ?_
     refine b_8 ?_
     have AU := C.as [] rfl; clear C
     refine a_5 ?_
     refine s1 AU (a_0 rfl (evc _ _)) fun CP AV => ?_; clear AU Ay
     refine n1 ?_
     refine c_9 ?_
     refine c_6 ?_
     refine a_6 ?_
     refine a_9 AV (.inl rfl) (a_4 AV rfl (.tmp rfl)) ?_
     exact ⟨i_2 (Eq.symm (by first | exact m_9 (r_0 (by omega) (by omega) (by assumption) (by assumption)) (by assumption) | exact check_1b' (r_0 (by omega) (by omega) (by assumption) (by assumption)) (by assumption) | exact check_1c' (r_0 (by omega) (by omega) (by assumption) (by assumption)) (by assumption))), Aw.ext⟩
    skip
    rw [h] at E
    refine s3 E fun BT AW => ?_; clear E Ax
    refine s3 AW fun BU AX => ?_; clear AW BT
    refine s3 AX fun BV AY => ?_; clear AX BU
    refine s3 AY fun BW AZ => ?_; clear AY BV
    refine s3 AZ fun BX Aa => ?_; clear AZ BW
    refine s3 Aa fun BY V => ?_; clear Aa BX
    refine s1 V (b_9 rfl (V.ev rfl) (evc _ _)) fun BZ X => ?_; clear V BY
    refine s1 X (a_0 rfl (X.ev rfl)) fun Ba Y => ?_; clear X BZ
    refine n1 ?_
    refine c_3 Y rfl ?_
    refine b_8 ?_
    have Ab := Y.as [] rfl; clear Y
    refine a_5 ?_
    refine s1 Ab (a_0 rfl (evc _ _)) fun CQ Ac => ?_; clear Ab Ba
    refine n1 ?_
    refine c_9 ?_
    refine c_6 ?_
    refine a_6 ?_
    refine a_9 Ac (.inl rfl) (a_4 Ac rfl (.tmp rfl)) ?_
    exact ⟨i_2 (Eq.symm (by first | exact m_9 (r_0 (by omega) (by omega) (by assumption) (by assumption)) (by assumption) | exact check_1b' (r_0 (by omega) (by omega) (by assumption) (by assumption)) (by assumption) | exact check_1c' (r_0 (by omega) (by omega) (by assumption) (by assumption)) (by assumption))), B.ext⟩
   skip
   rw [AR] at J
   refine s3 J fun Bb Ad => ?_; clear J BG
   refine s3 Ad fun Bc Ae => ?_; clear Ad Bb
   refine s3 Ae fun Bd Af => ?_; clear Ae Bc
   refine s3 Af fun Be Ag => ?_; clear Af Bd
   refine s3 Ag fun Bf Ah => ?_; clear Ag Be
   refine s3 Ah fun Bg Z => ?_; clear Ah Bf
   refine s1 Z (b_9 rfl (Z.ev rfl) (evc _ _)) fun Bh a => ?_; clear Z Bg
   refine s1 a (a_1 rfl (a.ev rfl)) fun Bi Ai => ?_; clear a Bh
   refine s3 Ai fun Bj Aj => ?_; clear Ai Bi
   refine s3 Aj fun Bk Ak => ?_; clear Aj Bj
   refine s3 Ak fun Bl Al => ?_; clear Ak Bk
   refine s3 Al fun Bm Am => ?_; clear Al Bl
   refine s3 Am fun Bn An => ?_; clear Am Bm
   refine s3 An fun Bo c => ?_; clear An Bn
   refine s1 c (b_9 rfl (c.ev rfl) (evc _ _)) fun Bp d => ?_; clear c Bo
   refine s1 d (a_0 rfl (d.ev rfl)) fun Bq e => ?_; clear d Bp
   refine n1 ?_
   refine c_3 e rfl ?_
   refine b_8 ?_
   have Ao := e.as [] rfl; clear e
   refine a_5 ?_
   refine s1 Ao (a_0 rfl (evc _ _)) fun CR Ap => ?_; clear Ao Bq
   refine n1 ?_
   refine c_9 ?_
   refine c_6 ?_
   refine a_6 ?_
   refine a_9 Ap (.inl rfl) (a_4 Ap rfl (.tmp rfl)) ?_
   exact ⟨i_2 (Eq.symm (by first | exact m_9 (r_0 (by omega) (by omega) (by assumption) (by assumption)) (by assumption) | exact check_1b' (r_0 (by omega) (by omega) (by assumption) (by assumption)) (by assumption) | exact check_1c' (r_0 (by omega) (by omega) (by assumption) (by assumption)) (by assumption))), A.ext⟩
  skip
  rw [AQ] at H
  refine c_3 H rfl ?_
  refine b_8 ?_
  have Aq := H.as [] rfl; clear H
  refine a_5 ?_
  refine s1 Aq (a_0 rfl (evc _ _)) fun CS Ar => ?_; clear Aq BF
  refine n1 ?_
  refine c_9 ?_
  refine c_6 ?_
  refine a_6 ?_
  refine a_9 Ar (.inl rfl) (a_4 Ar rfl (.tmp rfl)) ?_
  exact ⟨i_2 (Eq.symm (by first | exact m_4 (by omega) | exact check_3b' (by assumption) | exact check_3c' (by assumption))), A.ext⟩
 skip
 rw [AP] at F
 refine c_3 F rfl ?_
 refine b_8 ?_
 have As := F.as [] rfl; clear F
 refine a_5 ?_
 refine s1 As (a_0 rfl (evc _ _)) fun CT At => ?_; clear As BE
 refine n1 ?_
 refine c_9 ?_
 refine c_6 ?_
 refine a_6 ?_
 refine a_9 At (.inl rfl) (a_4 At rfl (.tmp rfl)) ?_
 exact ⟨i_2 (Eq.symm (by first | exact m_4 (by omega) | exact check_3b' (by assumption) | exact check_3c' (by assumption))), K.ext⟩
end Go.Proofs.Ytohgladndklciaa

namespace Go.Hard
section
variable {b : h_6} {l : List (Int × Int)} {k : Nat} {i : Int}
theorem n_0.mac (h : n_0 b) (hi : k < b.macs.length) : MacV b.scales (b.macs.getD k mac0) := h.macs _ (by simp only [List.getD, List.getElem?_eq_getElem hi, Option.getD_some]; exact List.getElem_mem hi)
theorem n_0.tab (h : n_0 b) (hi : k < b.tabs.length) : TabV b.scales (b.tabs.getD k tab0) := h.tabs _ (by simp only [List.getD, List.getElem?_eq_getElem hi, Option.getD_some]; exact List.getElem_mem hi)
theorem read_c (h : f_9 b ≠ 0) : j_9 b l = f_9 b := by unfold j_9; rw [if_pos h]
theorem read_3 (h : f_9 b = 0) (h2 : 8 < l.length) : j_9 b l = 3 := by unfold j_9; rw [if_neg (not_not_intro h), if_pos h2]
theorem readB_n (h : inB (l.getD k (0, 0)).1 0 ((b.macs.length : Int) - 1) = false ∨ inB (l.getD k (0, 0)).2 0 100000 = false) : r_2 b (l.getD k (0, 0)) = false := by
  unfold r_2; rcases h with h | h <;> rw [h] <;> simp
theorem readB_y (h1 : inB (l.getD k (0, 0)).1 0 ((b.macs.length : Int) - 1) = true) (h2 : inB (l.getD k (0, 0)).2 0 100000 = true) : r_2 b (l.getD k (0, 0)) = true := by unfold r_2; rw [h1, h2]; rfl
theorem read_2 (h : f_9 b = 0) (h2 : ¬ 8 < l.length) (hk : k < l.length) (h3 : r_2 b (l.getD k (0, 0)) = false) : j_9 b l = 2 := by
  unfold j_9; rw [if_neg (not_not_intro h), if_neg h2, if_pos (allI_no hk h3)]
theorem read_2' (h : f_9 b = 0) (h2 : ¬ 8 < l.length) (h3 : (List.range l.length).all (fun i => r_2 b (l.getD i (0, 0))) = false) : j_9 b l = 2 := by
  unfold j_9; rw [if_neg (not_not_intro h), if_neg h2, if_pos (show allI l.length (fun i => r_2 b (l.getD i (0, 0))) = false from h3)]
theorem read_11 (h : f_9 b = 0) (h2 : ¬ 8 < l.length) (h3 : ∀ i, i < l.length → r_2 b (l.getD i (0, 0)) = true) (hk : k < l.length) (h4 : offB (b.macs.getD (l.getD k (0, 0)).1.toNat mac0) = true) : j_9 b l = 11 := by
  unfold j_9; rw [if_neg (not_not_intro h), if_neg h2, if_neg (by rw [h_7.2 h3]; decide), if_pos (allI_no hk (by rw [h4]; rfl))]
theorem read_11' (h : f_9 b = 0) (h2 : ¬ 8 < l.length) (h3 : (List.range l.length).all (fun i => r_2 b (l.getD i (0, 0))) = true) (h4 : (List.range l.length).all (fun i => !offB (b.macs.getD (l.getD i (0, 0)).1.toNat mac0)) = false) : j_9 b l = 11 := by
  unfold j_9; rw [if_neg (not_not_intro h), if_neg h2, if_neg (by rw [show allI l.length (fun i => r_2 b (l.getD i (0, 0))) = true from h3]; decide), if_pos (show allI l.length (fun i => !offB (b.macs.getD (l.getD i (0, 0)).1.toNat mac0)) = false from h4)]
theorem read_0 (h : f_9 b = 0) (h2 : ¬ 8 < l.length) (h3 : ∀ i, i < l.length → r_2 b (l.getD i (0, 0)) = true) (h4 : ∀ i, i < l.length → offB (b.macs.getD (l.getD i (0, 0)).1.toNat mac0) = false) : j_9 b l = 0 := by
  unfold j_9; rw [if_neg (not_not_intro h), if_neg h2, if_neg (by rw [h_7.2 h3]; decide), if_neg]
  rw [h_7.2 fun i hi => by rw [h4 i hi]; rfl]; decide
theorem read_0' (h : f_9 b = 0) (h2 : ¬ 8 < l.length) (h3 : (List.range l.length).all (fun i => r_2 b (l.getD i (0, 0))) = true) (h4 : (List.range l.length).all (fun i => !offB (b.macs.getD (l.getD i (0, 0)).1.toNat mac0)) = true) : j_9 b l = 0 := by
  refine read_0 h h2 (h_7.1 h3) fun i hi => ?_
  have := h_7.1 h4 i hi
  simpa using this
theorem read_check (h : j_9 b l = 0) : f_9 b = 0 := by
  unfold j_9 at h
  split at h
  · rename_i h1; exact absurd h h1
  · rename_i h1; exact Decidable.not_not.1 h1
theorem readB_is (h : r_2 b (l.getD k (0, 0)) = true) : (0 ≤ (l.getD k (0, 0)).1 ∧ (l.getD k (0, 0)).1 ≤ (b.macs.length : Int) - 1) ∧ 0 ≤ (l.getD k (0, 0)).2 ∧ (l.getD k (0, 0)).2 ≤ 100000 := by
  unfold r_2 at h; rwa [Bool.and_eq_true, j_8, j_8] at h
end
def y_7 (b : h_6) (i : Int) : Int := if f_9 b ≠ 0 then f_9 b else if inB i 0 ((b.macs.length : Int) - 1) = false then 2 else if offB (b.macs.getD i.toNat mac0) = true then 11 else 0
def y_8 (b : h_6) (i : Int) : Rng := if y_7 b i = 0 then d_5 (b.macs.getD i.toNat mac0) else (0, 0)
theorem biasE_c {b : h_6} {i : Int} (h : f_9 b ≠ 0) : y_7 b i = f_9 b := by unfold y_7; rw [if_pos h]
theorem biasE_2 {b : h_6} {i : Int} (h : f_9 b = 0) (h2 : inB i 0 ((b.macs.length : Int) - 1) = false) : y_7 b i = 2 := by unfold y_7; rw [if_neg (not_not_intro h), if_pos h2]
theorem biasE_11 {b : h_6} {i : Int} (h : f_9 b = 0) (h2 : inB i 0 ((b.macs.length : Int) - 1) = true) (h3 : offB (b.macs.getD i.toNat mac0) = true) : y_7 b i = 11 := by unfold y_7; rw [if_neg (not_not_intro h), if_neg (by rw [h2]; decide), if_pos h3]
theorem biasE_0 {b : h_6} {i : Int} (h : f_9 b = 0) (h2 : inB i 0 ((b.macs.length : Int) - 1) = true) (h3 : offB (b.macs.getD i.toNat mac0) = false) : y_7 b i = 0 := by unfold y_7; rw [if_neg (not_not_intro h), if_neg (by rw [h2]; decide), if_neg (by rw [h3]; decide)]
theorem biasR_n {b : h_6} {i : Int} (h : y_7 b i ≠ 0) : y_8 b i = (0, 0) := if_neg h
theorem biasR_y {b : h_6} {i : Int} (h : y_7 b i = 0) : y_8 b i = d_5 (b.macs.getD i.toNat mac0) := if_pos h
theorem off_t {m : MacD} (h : (d_5 m).2 < (d_5 m).1) : offB m = true := decide_eq_true h
theorem off_f {m : MacD} (h : ¬ (d_5 m).2 < (d_5 m).1) : offB m = false := decide_eq_false h
def y_9 (b : h_6) (i : Int) (r : Rng) : Int := if f_9 b ≠ 0 then f_9 b else if inB i 0 ((b.tabs.length : Int) - 1) = false ∨ y_1 r = false then 2 else if n_5 (b.tabs.getD i.toNat tab0) r = false then 10 else 0
def z_1 (b : h_6) (i : Int) (r : Rng) : Rng := if y_9 b i r = 0 then f_3 (b.tabs.getD i.toNat tab0) r else (0, 0)
section
variable {b : h_6} {i : Int} {r : Rng}
theorem convE_c (h : f_9 b ≠ 0) : y_9 b i r = f_9 b := by unfold y_9; rw [if_pos h]
theorem convE_2 (h : f_9 b = 0) (h2 : inB i 0 ((b.tabs.length : Int) - 1) = false ∨ y_1 r = false) : y_9 b i r = 2 := by unfold y_9; rw [if_neg (not_not_intro h), if_pos h2]
theorem convE_10 (h : f_9 b = 0) (h2 : inB i 0 ((b.tabs.length : Int) - 1) = true) (h3 : y_1 r = true) (h4 : n_5 (b.tabs.getD i.toNat tab0) r = false) : y_9 b i r = 10 := by unfold y_9; rw [if_neg (not_not_intro h), if_neg (by rw [h2, h3]; decide), if_pos h4]
theorem convE_0 (h : f_9 b = 0) (h2 : inB i 0 ((b.tabs.length : Int) - 1) = true) (h3 : y_1 r = true) (h4 : n_5 (b.tabs.getD i.toNat tab0) r = true) : y_9 b i r = 0 := by unfold y_9; rw [if_neg (not_not_intro h), if_neg (by rw [h2, h3]; decide), if_neg (by rw [h4]; decide)]
theorem convR_n (h : y_9 b i r ≠ 0) : z_1 b i r = (0, 0) := if_neg h
theorem convR_y (h : y_9 b i r = 0) : z_1 b i r = f_3 (b.tabs.getD i.toNat tab0) r := if_pos h
end
end Go.Hard
