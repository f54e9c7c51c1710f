/-
  When a table is one of a book: told by the first thing that is not right.
  The straight lines of a table that are not broken, in order; what a function that goes through them finds.
  When a table is one of a book: told by all its tests at once.
  The error of a book, told by the first thing that is not right; thin books.
-/
import Derived.Test.YtohgladndklciaaBa
import Derived.Test.YtohgladndklciaaEngb
import Derived.Test.YtohgladndklciaaEnga
set_option linter.unusedSimpArgs false
set_option linter.unusedVariables false
namespace Go.Proofs.Ytohgladndklciaa
open Go.RowKit Go.Shelf Go.Eng Go.Hard
theorem o_4 : fldK Try.prog 75 1 = some 1 := by kernel_rfl
theorem ze_75 : (Try.prog.info? 75).bind (·.zero) = some (Value.agg #[(iv 0), (iv 0)]) := by kernel_rfl
theorem en_82 : ∀ args w, (callFunc 82 args).run Try.prog w = .ok (.enter 82 args) w := enters_of Try.func82 (by kernel_rfl) rfl
theorem bd_27_  (w : World) : (Instr.build 27 #[]).run Try.prog w = .ok (.agg #[(iv 0), (iv 0)]) w := by kernel_rfl
theorem en_55 : ∀ args w, (callFunc 55 args).run Try.prog w = .ok (.enter 55 args) w := enters_of Try.func55 (by kernel_rfl) rfl
theorem fd_46_4 : fldK Try.prog 46 4 = some 4 := by kernel_rfl
theorem upF_bd {n d : Int} (hn : -100000000000 ≤ n ∧ n ≤ 100000000000) (hd : 0 < d ∧ d ≤ 100000) : -100000000001 ≤ upF n d ∧ upF n d ≤ 100000000001 := by
 have := downF_bd (n := -n) (d := d) (by omega) hd
 unfold upF; unfold z_0 at this; omega
theorem rmade_ok (t : TabD) (vr vb : Value) (w : World) (hr : SlAt w vr 2 t.rows.length (pairs t.rows)) (hb : SlAt w vb 1 t.brk.length (ints t.brk)) (hrl : t.rows.length ≤ 1000000) (hbl : t.brk.length ≤ 1000000) (n : Int) (hV : TabV n t) (x : Int) :
  Calls Try.prog 55 #[(Value.agg #[(iv t.frm), (iv t.dst), vr, vb, (iv t.err)]), (iv x)] w (Ret fun v w' => v = .tuple #[.agg #[.int .i64 (e_6 t x).1, .int .i64 (e_6 t x).2], .bool (t_9 t x).isSome] ∧ Ext NoB w w') := by
 refine a_8 Try.func55 rfl fun a0 AT => ?_
 replace AT : Fr 104 [] [(0, (Value.agg #[(iv t.frm), (iv t.dst), vr, vb, (iv t.err)])), (1, (iv x))] a0 := AT
 have B3 : Sep NoB w w [(sl vr 2 t.rows.length (pairs t.rows)), (sl vb 1 t.brk.length (ints t.brk))] := f_2 ⟨rfl, hr, rfl, hb, trivial⟩
 refine m2 (s2 AT (f_4 B3 rfl AT.e (cs := [(iv t.frm), (iv t.dst), vr, vb, (iv t.err)]) rfl) ?_)
 rintro a1 _ w3 ⟨E, rfl, B4⟩ B1; clear AT B3 a0
 refine s2 B1 (e_0 B4 rfl ze_27 (cs := [(iv 0), (iv 0)]) rfl) ?_
 rintro a6 _ w8 ⟨F, rfl, Bj⟩ B2; clear B1 B4 a1
 refine s1 B2 (a_0 rfl (evc _ _)) fun Cq BU => ?_; clear B2 a6
 refine n2 (m2 (s1 BU (a_0 rfl (evc _ _)) fun Cr BV => ?_)); clear BU Cq
 refine n1 (c_2 ?_)
 have BW := BV.as [(6, (iv 0)), (4, (bptr F 0)), (2, (bptr E 0)), (1, (iv x))] rfl; clear BV
 refine g_7 (G := Nat) (fun (k : Nat) a_ w_ => Fr 104 [] [(6, (iv (k : Int))), (4, (bptr F 0)), (2, (bptr E 0)), (1, (iv x))] a_ ∧ Sep NoB w w_ [(blk F 27 [(iv 0), (iv 0)]), (blk E 46 [(iv t.frm), (iv t.dst), vr, vb, (iv t.err)]), (sl vr 2 t.rows.length (pairs t.rows)), (sl vb 1 t.brk.length (ints t.brk))] ∧ (k ≤ t.rows.length) ∧ (∀ i, i < k → ¬ tx t i = x)) (fun k => t.rows.length - k) 0 ⟨BW.as _ rfl, Bj, by omega, (fun _ h => absurd h (Nat.not_lt_zero _))⟩ ?_
 clear BW Bj Cr
 rintro k Cs Di ⟨AU, H, hkk, hrw⟩
 refine b_5 (m2 (s1 AU (a_1 rfl AU.e) fun Ct AV => ?_)); clear AU Cs
 refine s1 AV (a_4 rfl h_1 AV.e) fun Cu AW => ?_; clear AV Ct
 refine s1 AW (a_3 rfl m_2 AW.e (H.bk 1 rfl) rfl) fun Cv AX => ?_; clear AW Cu
 refine s1 AX (c_9 rfl m_3 AX.e (H.sk 2 rfl)) fun Cw AJ => ?_; clear AX Cv
 refine s1 AJ (f_5 rfl AJ.e AJ.e) fun B0 L => ?_; clear AJ Cw
 refine n1 ?_
 by_cases Bn : (k : Int) < (t.rows.length : Int)
 ·skip
  rw [decide_eq_true Bn] at L
  refine b_7 L rfl (c_6 (a_7 (b_5 (c_2 (m2 (s1 L (a_4 rfl h_1 L.e) fun Cx AY => ?_)))))); clear L B0
  refine s1 AY (a_3 rfl m_2 AY.e (H.bk 1 rfl) rfl) fun Cy AZ => ?_; clear AY Cx
  refine s1 AZ (a_1 rfl AZ.e) fun Cz AK => ?_; clear AZ Cy
  refine s1 AK (b_0 rfl m_3 o_7 AK.e (i := k) AK.e (H.sk 2 rfl) (by decide) (by omega)) fun C0 Aa => ?_; clear AK Cz
  refine s1 Aa (d_1 rfl l_8 Aa.e (H.sk 2 rfl) (by rw [((H.sk 2 rfl)).1]; omega)) fun C1 Ab => ?_; clear Aa C0
  refine s1 Ab (b_9 rfl ty_3 Ab.e (H.sk 2 rfl) (f_8 (by omega))) fun C2 Ac => ?_; clear Ab C1
  refine s1 Ac (a_1 rfl Ac.e) fun C3 AL => ?_; clear Ac C2
  refine s1 AL (m_4 rfl AL.e AL.e) fun C4 M => ?_; clear AL C3
  refine n1 ?_
  by_cases Bo : ((t.rows.getD k (0, 0)).1) = x
  ·skip
   rw [decide_eq_true Bo] at M
   refine b_7 M rfl (b_5 ?_)
   have BX := M.as [(6, (iv (k : Int))), (4, (bptr F 0)), (2, (bptr E 0))] rfl; clear M
   have BY := BX.as [(6, (iv (k : Int))), (4, (bptr F 0)), (2, (bptr E 0))] rfl; clear BX
   refine g_2 mixed BY H 12 [[], [0], [], [1, 2], [3], [4], [], [6], [], [7, 8], [9], [10]] [(Yd.val (bptr E 2)), (Yd.val vr), (Yd.val (iv (k : Int))), (Yd.val (eptr vr (k * 2))), (Yd.val (eptr vr (k * 2 + 1))), (Yd.val (iv ((t.rows.getD k (0, 0)).2))), (Yd.val (bptr E 2)), (Yd.val vr), (Yd.val (iv (k : Int))), (Yd.val (eptr vr (k * 2))), (Yd.val (eptr vr (k * 2 + 1))), (Yd.val (iv ((t.rows.getD k (0, 0)).2)))] (by decide +kernel) rfl rfl ?_ ?_
   ·skip
    refine dq (fun a w hA hS hd => a_4 rfl h_1 hA.e) ?_
    refine dq (fun a w hA hS hd => a_3 rfl m_2 (hq hd 0) (hS.bk 1 rfl) rfl) ?_
    refine dq (fun a w hA hS hd => a_1 rfl hA.e) ?_
    refine dq (fun a w hA hS hd => b_0 rfl m_3 o_7 (hq hd 1) (i := k) (hq hd 2) (hS.sk 2 rfl) (by decide) (by omega)) ?_
    refine dq (fun a w hA hS hd => d_1 rfl o_4 (hq hd 3) (hS.sk 2 rfl) (by rw [((hS.sk 2 rfl)).1]; omega)) ?_
    refine dq (fun a w hA hS hd => b_9 rfl ty_3 (hq hd 4) (hS.sk 2 rfl) (h_6 (by omega))) ?_
    refine dq (fun a w hA hS hd => a_4 rfl h_1 hA.e) ?_
    refine dq (fun a w hA hS hd => a_3 rfl m_2 (hq hd 6) (hS.bk 1 rfl) rfl) ?_
    refine dq (fun a w hA hS hd => a_1 rfl hA.e) ?_
    refine dq (fun a w hA hS hd => b_0 rfl m_3 o_7 (hq hd 7) (i := k) (hq hd 8) (hS.sk 2 rfl) (by decide) (by omega)) ?_
    refine dq (fun a w hA hS hd => d_1 rfl o_4 (hq hd 9) (hS.sk 2 rfl) (by rw [((hS.sk 2 rfl)).1]; omega)) ?_
    refine dq (fun a w hA hS hd => b_9 rfl ty_3 (hq hd 10) (hS.sk 2 rfl) (h_6 (by omega))) ?_
    trivial
   intro C5 Dj BZ Bk Al; clear BY H
   have Ba := BZ.add (hz Al 5); clear BZ
   have AM := Ba.add (hz Al 11); clear Ba
   clear Al
   refine s1 AM (e_8 rfl (pv2 AM.e AM.e) (n_7 _ _)) fun C6 AN => ?_; clear AM C5
   refine s7 AN (c_0 Bk rfl k_6 AN.e AN.e (i := 0) rfl (vs := [(iv ((t.rows.getD k (0, 0)).2)), (iv ((t.rows.getD k (0, 0)).2))]) rfl rfl rfl (Nat.le_of_ble_eq_true rfl)) ?_
   intro _ DM Bl Bb; clear AN
   have Bm : Sep NoB w DM [(blk F 27 [(iv ((t.rows.getD k (0, 0)).2)), (iv ((t.rows.getD k (0, 0)).2))]), (blk E 46 [(iv t.frm), (iv t.dst), vr, vb, (iv t.err)]), (sl vr 2 t.rows.length (pairs t.rows)), (sl vb 1 t.brk.length (ints t.brk))] := Bl; clear Bl Bk
   refine s1 Bb (a_0 rfl (evc _ _)) fun Dd Bc => ?_; clear Bb C6
   refine n1 (c_4 (c_7 (a_6 (a_6 (c_7 (a_6 (a_9 Bc (.inl rfl) (d_2 Bc rfl (.cellA rfl k_6 (Bm.bk 0 rfl) (l := [(iv ((t.rows.getD k (0, 0)).2)), (iv ((t.rows.getD k (0, 0)).2))]) rfl rfl) (.tmp rfl)) ?_)))))))
   have hz := (made_row (k := k) (by omega) (fun i hi => hrw i (by omega)) (by assumption))
   exact ⟨by unfold e_6; rw [hz]; rfl, Bm.ext⟩
  skip
  rw [decide_eq_false Bo] at M
  refine b_4 M rfl (c_6 (g_6 (a_7 ?_)))
  have Ad := M.as [(6, (iv (k : Int))), (4, (bptr F 0)), (2, (bptr E 0)), (1, (iv x))] rfl; clear M
  refine a_5 (s1 Ad (a_1 rfl Ad.e) fun C7 Ae => ?_); clear Ad C4
  refine s1 Ae (f_0 rfl Ae.e (evc _ _) (by omega) (by omega)) fun C8 Af => ?_; clear Ae C7
  refine s1 Af (a_0 rfl Af.e) fun De Ck => ?_; clear Af C8
  refine e_2 ?_
  exact a_7 ⟨k + 1, ⟨Ck.as _ rfl, H, by omega, (fun i hi => by rcases Nat.lt_succ_iff_lt_or_eq.1 hi with h | h; exact hrw i h; subst h; assumption)⟩, by omega⟩
 skip
 rw [decide_eq_false Bn] at L
 refine b_4 L rfl (g_3 (b_1 (b_1 (f_1 (a_7 (b_5 (b_5 ?_)))))))
 have Bd := L.as [(4, (bptr F 0)), (2, (bptr E 0)), (1, (iv x))] rfl; clear L
 refine a_5 (s1 Bd (a_0 rfl (evc _ _)) fun C9 Be => ?_); clear Bd B0
 refine n1 (c_2 ?_)
 have Bf := Be.as [(7, (iv 0)), (4, (bptr F 0)), (2, (bptr E 0)), (1, (iv x))] rfl; clear Be
 refine g_7 (G := Nat) (fun (A : Nat) a_ w_ => Fr 104 [] [(7, (iv (A : Int))), (4, (bptr F 0)), (2, (bptr E 0)), (1, (iv x))] a_ ∧ Sep NoB w w_ [(blk F 27 [(iv 0), (iv 0)]), (blk E 46 [(iv t.frm), (iv t.dst), vr, vb, (iv t.err)]), (sl vr 2 t.rows.length (pairs t.rows)), (sl vb 1 t.brk.length (ints t.brk))] ∧ (A ≤ t.rows.length) ∧ (∀ i, i < A → m_8 t x i = false)) (fun A => t.rows.length - A) 0 ⟨Bf.as _ rfl, H, by omega, (fun _ h => absurd h (Nat.not_lt_zero _))⟩ ?_
 clear Bf H C9
 rintro A DA Dk ⟨Ag, O, hkk1, hpc⟩
 refine b_5 (m2 (s1 Ag (a_1 rfl Ag.e) fun DB Ah => ?_)); clear Ag DA
 refine s1 Ah (f_0 rfl Ah.e (evc _ _) (by omega) (by omega)) fun DC Ai => ?_; clear Ah DB
 refine s1 Ai (a_4 rfl h_1 Ai.e) fun DD Aj => ?_; clear Ai DC
 refine s1 Aj (a_3 rfl m_2 Aj.e (O.bk 1 rfl) rfl) fun DE Ak => ?_; clear Aj DD
 refine s1 Ak (c_9 rfl m_3 Ak.e (O.sk 2 rfl)) fun DF AO => ?_; clear Ak DE
 refine s1 AO (f_5 rfl AO.e AO.e) fun DG N => ?_; clear AO DF
 refine n1 ?_
 by_cases Bp : ((A : Int) + 1) < (t.rows.length : Int)
 ·skip
  rw [decide_eq_true Bp] at N
  refine b_7 N rfl (c_6 (a_7 (b_5 (c_2 (b_5 ?_)))))
  have Bg := N.as [(7, (iv (A : Int))), (4, (bptr F 0)), (2, (bptr E 0)), (1, (iv x))] rfl; clear N
  have Bh := Bg.as [(7, (iv (A : Int))), (4, (bptr F 0)), (2, (bptr E 0)), (1, (iv x))] rfl; clear Bg
  refine c_drawCD mixed Bh O 14 [(13, 11)] [[], [0], [], [1, 2], [3], [], [5], [], [7], [6, 8], [9], [], [], [4, 11]] [(yw (bptr E 2)), (yw vr), (yw (iv (A : Int))), (yw (eptr vr (A * 2))), (yw (Value.agg #[(iv ((t.rows.getD A (0, 0)).1)), (iv ((t.rows.getD A (0, 0)).2))])), (yw (bptr E 2)), (yw vr), (yw (iv (A : Int))), (yw (iv ((A : Int) + 1))), (yw (eptr vr ((A + 1) * 2))), (yw (Value.agg #[(iv ((t.rows.getD (A + 1) (0, 0)).1)), (iv ((t.rows.getD (A + 1) (0, 0)).2))])), (fun (C : Nat → Value) (v_ : Value) (rs_ : List Res) => ∃ (b11_ : Nat), v_ = (bptr b11_ 0) ∧ rs_ = [(blk b11_ 75 [(iv 0), (iv 0)])]), (fun (C : Nat → Value) (v_ : Value) (rs_ : List Res) => ∃ (b12_ : Nat), v_ = (bptr b12_ 0) ∧ rs_ = [(blk b12_ 75 [(iv 0), (iv 0)])]), (fun (C : Nat → Value) (v_ : Value) (rs_ : List Res) => ∃ (bf13_ : Nat), (C 11) = (bptr bf13_ 0) ∧ rs_ = [(blk bf13_ 75 [(iv ((t.rows.getD A (0, 0)).1)), (iv ((t.rows.getD A (0, 0)).2))])])] (by decide +kernel) (by decide +kernel) (by decide +kernel) (by decide +kernel) rfl rfl ⟨dw, dw, dw, dw, dw, dw, dw, dw, dw, dw, dw, (fun _ _ _ _ _ h_ => h_), (fun _ _ _ _ _ h_ => h_), (fun _ _ _ _ he_ h_ => by dsimp only at h_ ⊢; rw [← he_ 11 (by decide)]; exact h_), trivial⟩ (by decide +kernel) ?_ ?_ ?_
  ·skip
   refine ⟨fun hj_ a w C hA hS hd => gv1 (a_4 rfl h_1 hA.e), ?_⟩
   refine ⟨fun hj_ a w C hA hS hd => gv1 (a_3 rfl m_2 (gu hd 0) (hS.bk 1 rfl) rfl), ?_⟩
   refine ⟨fun hj_ a w C hA hS hd => gv1 (a_1 rfl hA.e), ?_⟩
   refine ⟨fun hj_ a w C hA hS hd => gv1 (b_0 rfl m_3 o_7 (gu hd 1) (i := A) (gu hd 2) (hS.sk 2 rfl) (by decide) (by omega)), ?_⟩
   refine ⟨fun hj_ a w C hA hS hd => gv1 (e_7 rfl o_7 (gu hd 3) (hS.sk 2 rfl) (g_8 (by omega)) rfl (by decide)), ?_⟩
   refine ⟨fun hj_ a w C hA hS hd => gv1 (a_4 rfl h_1 hA.e), ?_⟩
   refine ⟨fun hj_ a w C hA hS hd => gv1 (a_3 rfl m_2 (gu hd 5) (hS.bk 1 rfl) rfl), ?_⟩
   refine ⟨fun hj_ a w C hA hS hd => gv1 (a_1 rfl hA.e), ?_⟩
   refine ⟨fun hj_ a w C hA hS hd => gv1 (f_0 rfl (gu hd 7) (evc _ _) (by omega) (by omega)), ?_⟩
   refine ⟨fun hj_ a w C hA hS hd => gv1 (b_0 rfl m_3 o_7 (gu hd 6) (i := A + 1) ((gu hd 8).trans (congrArg (Value.int .i64) (show ((A : Int) + 1 : Int) = ((A + 1 : Nat) : Int) by omega))) (hS.sk 2 rfl) (by decide) (by omega)), ?_⟩
   refine ⟨fun hj_ a w C hA hS hd => gv1 (e_7 rfl o_7 (gu hd 9) (hS.sk 2 rfl) (g_8 (by omega)) rfl (by decide)), ?_⟩
   refine ⟨fun hj_ a w C hA hS hd => d_4 rfl (valloc rfl ze_75 (cs := [(iv 0), (iv 0)]) rfl (fun b_ => ⟨b_, rfl, rfl⟩)), ?_⟩
   refine ⟨fun hj_ a w C hA hS hd => d_4 rfl (valloc rfl ze_75 (cs := [(iv 0), (iv 0)]) rfl (fun b_ => ⟨b_, rfl, rfl⟩)), ?_⟩
   refine ⟨fun hj_ => absurd hj_ (by decide), ?_⟩
   trivial
  ·skip
   refine ⟨fun o_ ho_ => ?_, ?_⟩
   ·skip
    obtain rfl := Option.some.inj ho_; clear ho_
    intro a w C Dg Lr hA B5 DK hd hL hS
    obtain ⟨b11_, Bq, Cl⟩ := DK; subst Cl
    rw [Bq] at B5
    obtain ⟨e4, Dh, DL, Df⟩ := hd 4 (by decide) (by decide)
    obtain ⟨DJ, DI⟩ := DL; subst DI
    rw [DJ] at e4
    exact d_4 rfl (n_4 (c_0 hS rfl o_7 (b_8 (h_2 B5 rfl)) (b_8 (h_2 e4 rfl)) (i := 0) rfl (vs := [(iv ((t.rows.getD A (0, 0)).1)), (iv ((t.rows.getD A (0, 0)).2))]) rfl rfl rfl (Nat.le_of_ble_eq_true rfl)) fun v_ w_ h_ => ⟨_, ⟨_, Bq, rfl⟩, h_⟩)
   trivial
  skip
  intro BT DN C rsf102 Bi hsl_ B hrq AR; clear Bh O
  have hrq_11 := hrq (13, 11) (by decide)
  obtain ⟨AS, By⟩ := B 12 (by decide) (by decide)
  obtain ⟨b12_, BP, BN⟩ := By
  obtain ⟨Bx, Bz⟩ := B 13 (by decide) (by decide)
  obtain ⟨bf13_, BQ, BO⟩ := Bz
  have BC : Sep NoB w DN [(blk b12_ 75 [(iv 0), (iv 0)]), (blk bf13_ 75 [(iv ((t.rows.getD A (0, 0)).1)), (iv ((t.rows.getD A (0, 0)).2))]), (blk F 27 [(iv 0), (iv 0)]), (blk E 46 [(iv t.frm), (iv t.dst), vr, vb, (iv t.err)]), (sl vr 2 t.rows.length (pairs t.rows)), (sl vb 1 t.brk.length (ints t.brk))] := by rw [show catR rsf102 0 14 = ([(blk b12_ 75 [(iv 0), (iv 0)]), (blk bf13_ 75 [(iv ((t.rows.getD A (0, 0)).1)), (iv ((t.rows.getD A (0, 0)).2))])] : List Res) by (try simp only [catR, gr (B 0 (by decide) (by decide)), gr (B 1 (by decide) (by decide)), gr (B 2 (by decide) (by decide)), gr (B 3 (by decide) (by decide)), gr (B 4 (by decide) (by decide)), gr (B 5 (by decide) (by decide)), gr (B 6 (by decide) (by decide)), gr (B 7 (by decide) (by decide)), gr (B 8 (by decide) (by decide)), gr (B 9 (by decide) (by decide)), gr (B 10 (by decide) (by decide)), BN, BO, hrq_11]); (try rfl)] at AR; exact AR
  have Am := Bi.add (gs (B 10 (by decide) (by decide))); clear Bi
  rw [BP] at AS
  have An : Fr 104 [] [(9, (bptr b12_ 0)), (58, (Value.agg #[(iv ((t.rows.getD (A + 1) (0, 0)).1)), (iv ((t.rows.getD (A + 1) (0, 0)).2))])), (7, (iv (A : Int))), (4, (bptr F 0)), (2, (bptr E 0)), (1, (iv x))] BT := Am.add (h_2 AS rfl); clear Am
  have hf_11 := hsl_ 11 (by decide); rw [BQ] at hf_11
  have P : Fr 104 [] [(8, (bptr bf13_ 0)), (9, (bptr b12_ 0)), (58, (Value.agg #[(iv ((t.rows.getD (A + 1) (0, 0)).1)), (iv ((t.rows.getD (A + 1) (0, 0)).2))])), (7, (iv (A : Int))), (4, (bptr F 0)), (2, (bptr E 0)), (1, (iv x))] BT := An.add (h_2 hf_11 rfl); clear An
  clear hsl_ hf_11
  clear B AR AS Bx hrq hrq_11
  clear BN
  clear BP
  clear BO
  clear BQ
  refine s7 P (c_0 BC rfl o_7 P.e P.e (i := 0) rfl (vs := [(iv ((t.rows.getD (A + 1) (0, 0)).1)), (iv ((t.rows.getD (A + 1) (0, 0)).2))]) rfl rfl rfl (Nat.le_of_ble_eq_true rfl)) ?_
  intro _ Cm BD Z; clear P
  have D : Sep NoB w Cm [(blk b12_ 75 [(iv ((t.rows.getD (A + 1) (0, 0)).1)), (iv ((t.rows.getD (A + 1) (0, 0)).2))]), (blk bf13_ 75 [(iv ((t.rows.getD A (0, 0)).1)), (iv ((t.rows.getD A (0, 0)).2))]), (blk F 27 [(iv 0), (iv 0)]), (blk E 46 [(iv t.frm), (iv t.dst), vr, vb, (iv t.err)]), (sl vr 2 t.rows.length (pairs t.rows)), (sl vb 1 t.brk.length (ints t.brk))] := BD; clear BD BC
  refine n4 (s1 Z (a_1 rfl Z.e) fun B6 b => ?_); clear Z BT
  refine s1 b (a_4 rfl l_8 b.e) fun B7 c => ?_; clear b B6
  refine s1 c (a_3 rfl ty_3 c.e (D.bk 1 rfl) rfl) fun B8 Q => ?_; clear c B7
  refine s1 Q (i_4 rfl Q.e Q.e) fun B9 d => ?_; clear Q B8
  refine s1 d (a_1 rfl d.e) fun BR J => ?_; clear d B9
  by_cases BK : ((t.rows.getD A (0, 0)).1) < x
  ·skip
   rw [decide_eq_true BK] at J
   refine s5 J (a_1 rfl J.e) fun CA f => ?_; clear J BR
   refine s5 f (a_4 rfl l_8 f.e) fun CB g => ?_; clear f CA
   refine s5 g (a_3 rfl ty_3 g.e (D.bk 0 rfl) rfl) fun CC R => ?_; clear g CB
   refine s5 R (f_5 rfl R.e R.e) fun CD S => ?_; clear R CC
   refine s1 S (b_6 rfl S.e S.e) fun CE j => ?_; clear S CD
   refine s1 j (a_1 rfl j.e) fun BS K => ?_; clear j CE
   by_cases BL : x < ((t.rows.getD (A + 1) (0, 0)).1)
   ·skip
    rw [decide_eq_true BL] at K
    have hpb := piece_bds (v := x) (k := A) hV (by omega) (by unfold tx; omega) (by unfold tx; omega); unfold pieceN pieceD tx ty at hpb; have hcn := hV.bnd A (by omega); have hcn1 := hV.bnd (A + 1) (by omega); unfold tx ty at hcn hcn1; have hdb := downF_bd hpb.1 hpb.2; have hub := upF_bd hpb.1 hpb.2
    refine s5 K (c_5 rfl z_9 (K.ev rfl) (D.bk 3 rfl) (l := [(iv t.frm), (iv t.dst), vr, vb, (iv t.err)]) rfl rfl) fun CF m => ?_; clear K BS
    refine s5 m (a_1 rfl m.e) fun CG T => ?_; clear m CF
    refine s6 T (b_3 rfl en_54 (ev2 T.e T.e) (broken_ok (A : Int) t _ _ _ (D.sk 4 rfl) (D.sk 5 rfl) (by omega) (by omega))) ?_
    rintro CH _ Da ⟨rfl, BB⟩ o; have Y := D.step BB; clear BB T D CG
    refine s5 o (g_0 rfl o.e) fun CI U => ?_; clear o CH
    refine s1 U (b_6 rfl U.e U.e) fun CJ I => ?_; clear U CI
    refine n1 ?_
    by_cases BM : (A : Int) ∈ t.brk
    ·skip
     rw [decide_eq_true BM] at I
     refine b_4 I rfl (c_6 (g_6 (a_7 ?_)))
     have p := I.as [(7, (iv (A : Int))), (4, (bptr F 0)), (2, (bptr E 0)), (1, (iv x))] rfl; clear I
     refine a_5 (s1 p (a_1 rfl p.e) fun CK q => ?_); clear p CJ
     refine s1 q (f_0 rfl q.e (evc _ _) (by omega) (by omega)) fun CL r => ?_; clear q CK
     refine s1 r (a_0 rfl r.e) fun DP Br => ?_; clear r CL
     refine e_2 ?_
     have Bu := Y.gkp (gpc 2 (gpc 3 (gpc 4 (gpc 5 gpn)))); clear Y
     exact a_7 ⟨A + 1, ⟨Br.as _ rfl, Bu, by omega, (fun i hi => by rcases Nat.lt_succ_iff_lt_or_eq.1 hi with h | h; exact hpc i h; subst h; first | exact m_9 (.inl (by assumption)) | exact m_9 (.inr (.inl (by assumption))) | exact m_9 (.inr (.inr (by assumption))))⟩, by omega⟩
    skip
    rw [decide_eq_false BM] at I
    refine b_7 I rfl (b_5 ?_)
    have Ao := I.as [(8, (bptr bf13_ 0)), (9, (bptr b12_ 0)), (4, (bptr F 0)), (1, (iv x))] rfl; clear I
    have Ap := Ao.as [(8, (bptr bf13_ 0)), (9, (bptr b12_ 0)), (4, (bptr F 0)), (1, (iv x))] rfl; clear Ao
    refine g_2 mixed Ap Y 16 [[], [], [1], [0, 2], [], [4], [], [6], [5, 7], [3, 8], [], [10], [], [12], [11, 13], [9]] [(Yd.val (iv x)), (Yd.val (bptr bf13_ 0)), (Yd.val (iv ((t.rows.getD A (0, 0)).1))), (Yd.val (iv (x - ((t.rows.getD A (0, 0)).1)))), (Yd.val (bptr b12_ 1)), (Yd.val (iv ((t.rows.getD (A + 1) (0, 0)).2))), (Yd.val (bptr bf13_ 1)), (Yd.val (iv ((t.rows.getD A (0, 0)).2))), (Yd.val (iv (((t.rows.getD (A + 1) (0, 0)).2) - ((t.rows.getD A (0, 0)).2)))), (Yd.val (iv ((x - ((t.rows.getD A (0, 0)).1)) * (((t.rows.getD (A + 1) (0, 0)).2) - ((t.rows.getD A (0, 0)).2))))), (Yd.val (bptr b12_ 0)), (Yd.val (iv ((t.rows.getD (A + 1) (0, 0)).1))), (Yd.val (bptr bf13_ 0)), (Yd.val (iv ((t.rows.getD A (0, 0)).1))), (Yd.val (iv (((t.rows.getD (A + 1) (0, 0)).1) - ((t.rows.getD A (0, 0)).1)))), (Yd.val (iv ((x - ((t.rows.getD A (0, 0)).1)) * (((t.rows.getD (A + 1) (0, 0)).2) - ((t.rows.getD A (0, 0)).2)))))] (by decide +kernel) rfl rfl ?_ ?_
    ·skip
     refine dq (fun a w hA hS hd => a_1 rfl hA.e) ?_
     refine dq (fun a w hA hS hd => a_4 rfl l_8 hA.e) ?_
     refine dq (fun a w hA hS hd => a_3 rfl ty_3 (hq hd 1) (hS.bk 1 rfl) rfl) ?_
     refine dq (fun a w hA hS hd => h_9 rfl (hq hd 0) (hq hd 2) (by omega) (by omega)) ?_
     refine dq (fun a w hA hS hd => a_4 rfl o_4 hA.e) ?_
     refine dq (fun a w hA hS hd => a_3 rfl ty_3 (hq hd 4) (hS.bk 0 rfl) rfl) ?_
     refine dq (fun a w hA hS hd => a_4 rfl o_4 hA.e) ?_
     refine dq (fun a w hA hS hd => a_3 rfl ty_3 (hq hd 6) (hS.bk 1 rfl) rfl) ?_
     refine dq (fun a w hA hS hd => h_9 rfl (hq hd 5) (hq hd 7) (by omega) (by omega)) ?_
     refine dq (fun a w hA hS hd => op_mul rfl (hq hd 3) (hq hd 8) (by omega) (by omega)) ?_
     refine dq (fun a w hA hS hd => a_4 rfl l_8 hA.e) ?_
     refine dq (fun a w hA hS hd => a_3 rfl ty_3 (hq hd 10) (hS.bk 0 rfl) rfl) ?_
     refine dq (fun a w hA hS hd => a_4 rfl l_8 hA.e) ?_
     refine dq (fun a w hA hS hd => a_3 rfl ty_3 (hq hd 12) (hS.bk 1 rfl) rfl) ?_
     refine dq (fun a w hA hS hd => h_9 rfl (hq hd 11) (hq hd 13) (by omega) (by omega)) ?_
     refine dq (fun a w hA hS hd => a_0 rfl (hq hd 9)) ?_
     trivial
    intro CM Db Aq BE AP; clear Ap Y
    have Ar := Aq.add (hz AP 14); clear Aq
    have s := Ar.add (hz AP 15); clear Ar
    clear AP
    refine s1 s (a_0 rfl s.e) fun DQ As => ?_; clear s CM
    refine n2 ?_
    have At := As.as [(11, (iv (((t.rows.getD (A + 1) (0, 0)).1) - ((t.rows.getD A (0, 0)).1)))), (10, (iv ((x - ((t.rows.getD A (0, 0)).1)) * (((t.rows.getD (A + 1) (0, 0)).2) - ((t.rows.getD A (0, 0)).2))))), (8, (bptr bf13_ 0)), (4, (bptr F 0))] rfl; clear As
    refine g_2 mixed At BE 12 [[], [0], [], [], [2, 3], [1, 4], [], [6], [], [], [8, 9], [7, 10]] [(Yd.val (bptr bf13_ 1)), (Yd.val (iv ((t.rows.getD A (0, 0)).2))), (Yd.val (iv ((x - ((t.rows.getD A (0, 0)).1)) * (((t.rows.getD (A + 1) (0, 0)).2) - ((t.rows.getD A (0, 0)).2))))), (Yd.val (iv (((t.rows.getD (A + 1) (0, 0)).1) - ((t.rows.getD A (0, 0)).1)))), (Yd.val (iv (z_0 ((x - ((t.rows.getD A (0, 0)).1)) * (((t.rows.getD (A + 1) (0, 0)).2) - ((t.rows.getD A (0, 0)).2))) (((t.rows.getD (A + 1) (0, 0)).1) - ((t.rows.getD A (0, 0)).1))))), (Yd.val (iv (((t.rows.getD A (0, 0)).2) + (z_0 ((x - ((t.rows.getD A (0, 0)).1)) * (((t.rows.getD (A + 1) (0, 0)).2) - ((t.rows.getD A (0, 0)).2))) (((t.rows.getD (A + 1) (0, 0)).1) - ((t.rows.getD A (0, 0)).1)))))), (Yd.val (bptr bf13_ 1)), (Yd.val (iv ((t.rows.getD A (0, 0)).2))), (Yd.val (iv ((x - ((t.rows.getD A (0, 0)).1)) * (((t.rows.getD (A + 1) (0, 0)).2) - ((t.rows.getD A (0, 0)).2))))), (Yd.val (iv (((t.rows.getD (A + 1) (0, 0)).1) - ((t.rows.getD A (0, 0)).1)))), (Yd.val (iv (upF ((x - ((t.rows.getD A (0, 0)).1)) * (((t.rows.getD (A + 1) (0, 0)).2) - ((t.rows.getD A (0, 0)).2))) (((t.rows.getD (A + 1) (0, 0)).1) - ((t.rows.getD A (0, 0)).1))))), (Yd.val (iv (((t.rows.getD A (0, 0)).2) + (upF ((x - ((t.rows.getD A (0, 0)).1)) * (((t.rows.getD (A + 1) (0, 0)).2) - ((t.rows.getD A (0, 0)).2))) (((t.rows.getD (A + 1) (0, 0)).1) - ((t.rows.getD A (0, 0)).1))))))] (by decide +kernel) rfl rfl ?_ ?_
    ·skip
     refine dq (fun a w hA hS hd => a_4 rfl o_4 hA.e) ?_
     refine dq (fun a w hA hS hd => a_3 rfl ty_3 (hq hd 0) (hS.bk 1 rfl) rfl) ?_
     refine dq (fun a w hA hS hd => a_1 rfl hA.e) ?_
     refine dq (fun a w hA hS hd => a_1 rfl hA.e) ?_
     refine ⟨fun a w hA hS hd => by have e2 := hx hd 2; have e3 := hx hd 3; exact d_4 rfl (dx (b_3 rfl en_81 (ev2 (b_8 e2) (b_8 e3)) (rdown_ok _ _ _ (by omega) (by omega))) hS (fun _ => rfl)), ?_⟩
     refine dq (fun a w hA hS hd => f_0 rfl (hq hd 1) (hq hd 4) (by omega) (by omega)) ?_
     refine dq (fun a w hA hS hd => a_4 rfl o_4 hA.e) ?_
     refine dq (fun a w hA hS hd => a_3 rfl ty_3 (hq hd 6) (hS.bk 1 rfl) rfl) ?_
     refine dq (fun a w hA hS hd => a_1 rfl hA.e) ?_
     refine dq (fun a w hA hS hd => a_1 rfl hA.e) ?_
     refine ⟨fun a w hA hS hd => by have e8 := hx hd 8; have e9 := hx hd 9; exact d_4 rfl (dx (b_3 rfl en_82 (ev2 (b_8 e8) (b_8 e9)) (rup_ok _ _ _ (by omega) (by omega))) hS (fun _ => rfl)), ?_⟩
     refine dq (fun a w hA hS hd => f_0 rfl (hq hd 7) (hq hd 10) (by omega) (by omega)) ?_
     trivial
    intro CN Dc Au BF AQ; clear At BE
    have Av := Au.add (hz AQ 5); clear Au
    have V := Av.add (hz AQ 11); clear Av
    clear AQ
    refine s1 V (e_8 rfl (pv2 V.e V.e) (n_7 _ _)) fun CO W => ?_; clear V CN
    refine s7 W (c_0 BF rfl k_6 W.e W.e (i := 2) rfl (vs := [(iv (((t.rows.getD A (0, 0)).2) + (z_0 ((x - ((t.rows.getD A (0, 0)).1)) * (((t.rows.getD (A + 1) (0, 0)).2) - ((t.rows.getD A (0, 0)).2))) (((t.rows.getD (A + 1) (0, 0)).1) - ((t.rows.getD A (0, 0)).1))))), (iv (((t.rows.getD A (0, 0)).2) + (upF ((x - ((t.rows.getD A (0, 0)).1)) * (((t.rows.getD (A + 1) (0, 0)).2) - ((t.rows.getD A (0, 0)).2))) (((t.rows.getD (A + 1) (0, 0)).1) - ((t.rows.getD A (0, 0)).1)))))]) rfl rfl rfl (Nat.le_of_ble_eq_true rfl)) ?_
    intro _ Cn BG Aw; clear W
    have BH : Sep NoB w Cn [(blk b12_ 75 [(iv ((t.rows.getD (A + 1) (0, 0)).1)), (iv ((t.rows.getD (A + 1) (0, 0)).2))]), (blk bf13_ 75 [(iv ((t.rows.getD A (0, 0)).1)), (iv ((t.rows.getD A (0, 0)).2))]), (blk F 27 [(iv (((t.rows.getD A (0, 0)).2) + (z_0 ((x - ((t.rows.getD A (0, 0)).1)) * (((t.rows.getD (A + 1) (0, 0)).2) - ((t.rows.getD A (0, 0)).2))) (((t.rows.getD (A + 1) (0, 0)).1) - ((t.rows.getD A (0, 0)).1))))), (iv (((t.rows.getD A (0, 0)).2) + (upF ((x - ((t.rows.getD A (0, 0)).1)) * (((t.rows.getD (A + 1) (0, 0)).2) - ((t.rows.getD A (0, 0)).2))) (((t.rows.getD (A + 1) (0, 0)).1) - ((t.rows.getD A (0, 0)).1)))))]), (blk E 46 [(iv t.frm), (iv t.dst), vr, vb, (iv t.err)]), (sl vr 2 t.rows.length (pairs t.rows)), (sl vb 1 t.brk.length (ints t.brk))] := BG; clear BG BF
    refine s1 Aw (a_0 rfl (evc _ _)) fun DR Ax => ?_; clear Aw CO
    refine n1 (c_4 (c_7 (a_6 (a_6 (c_7 (a_6 (a_9 Ax (.inl rfl) (d_2 Ax rfl (.cellA rfl k_6 (BH.bk 2 rfl) (l := [(iv (((t.rows.getD A (0, 0)).2) + (z_0 ((x - ((t.rows.getD A (0, 0)).1)) * (((t.rows.getD (A + 1) (0, 0)).2) - ((t.rows.getD A (0, 0)).2))) (((t.rows.getD (A + 1) (0, 0)).1) - ((t.rows.getD A (0, 0)).1))))), (iv (((t.rows.getD A (0, 0)).2) + (upF ((x - ((t.rows.getD A (0, 0)).1)) * (((t.rows.getD (A + 1) (0, 0)).2) - ((t.rows.getD A (0, 0)).2))) (((t.rows.getD (A + 1) (0, 0)).1) - ((t.rows.getD A (0, 0)).1)))))]) rfl rfl) (.tmp rfl)) ?_)))))))
    have hz := (made_piece (k := A) (fun i hi => hrw i (by omega)) (by omega) hpc (piece_y (by assumption) (by assumption) (by assumption)))
    exact ⟨by unfold e_6; rw [hz]; rfl, BH.ext⟩
   skip
   rw [decide_eq_false BL] at K
   refine s3 K fun CP Ay => ?_; clear K BS
   refine s3 Ay fun CQ Az => ?_; clear Ay CP
   refine s3 Az fun CR A0 => ?_; clear Az CQ
   refine s3 A0 fun CS u => ?_; clear A0 CR
   refine s1 u (d_0 rfl u.e (evc _ _)) fun CT y => ?_; clear u CS
   refine n1 (b_4 y rfl (c_6 (g_6 (a_7 ?_))))
   have z := y.as [(7, (iv (A : Int))), (4, (bptr F 0)), (2, (bptr E 0)), (1, (iv x))] rfl; clear y
   refine a_5 (s1 z (a_1 rfl z.e) fun CU AA => ?_); clear z CT
   refine s1 AA (f_0 rfl AA.e (evc _ _) (by omega) (by omega)) fun CV AB => ?_; clear AA CU
   refine s1 AB (a_0 rfl AB.e) fun DS Bs => ?_; clear AB CV
   refine e_2 ?_
   have Bv := D.gkp (gpc 2 (gpc 3 (gpc 4 (gpc 5 gpn)))); clear D
   exact a_7 ⟨A + 1, ⟨Bs.as _ rfl, Bv, by omega, (fun i hi => by rcases Nat.lt_succ_iff_lt_or_eq.1 hi with h | h; exact hpc i h; subst h; first | exact m_9 (.inl (by assumption)) | exact m_9 (.inr (.inl (by assumption))) | exact m_9 (.inr (.inr (by assumption))))⟩, by omega⟩
  skip
  rw [decide_eq_false BK] at J
  refine s3 J fun CW A1 => ?_; clear J BR
  refine s3 A1 fun CX A2 => ?_; clear A1 CW
  refine s3 A2 fun CY A3 => ?_; clear A2 CX
  refine s3 A3 fun CZ AC => ?_; clear A3 CY
  refine s1 AC (d_0 rfl AC.e (evc _ _)) fun Ca AD => ?_; clear AC CZ
  refine s1 AD (a_1 rfl AD.e) fun Cb A4 => ?_; clear AD Ca
  refine s3 A4 fun Cc A5 => ?_; clear A4 Cb
  refine s3 A5 fun Cd A6 => ?_; clear A5 Cc
  refine s3 A6 fun Ce A7 => ?_; clear A6 Cd
  refine s3 A7 fun Cf AE => ?_; clear A7 Ce
  refine s1 AE (d_0 rfl AE.e (evc _ _)) fun Cg AF => ?_; clear AE Cf
  refine n1 (b_4 AF rfl (c_6 (g_6 (a_7 ?_))))
  have AG := AF.as [(7, (iv (A : Int))), (4, (bptr F 0)), (2, (bptr E 0)), (1, (iv x))] rfl; clear AF
  refine a_5 (s1 AG (a_1 rfl AG.e) fun Ch AH => ?_); clear AG Cg
  refine s1 AH (f_0 rfl AH.e (evc _ _) (by omega) (by omega)) fun Ci AI => ?_; clear AH Ch
  refine s1 AI (a_0 rfl AI.e) fun DT Bt => ?_; clear AI Ci
  refine e_2 ?_
  have Bw := D.gkp (gpc 2 (gpc 3 (gpc 4 (gpc 5 gpn)))); clear D
  exact a_7 ⟨A + 1, ⟨Bt.as _ rfl, Bw, by omega, (fun i hi => by rcases Nat.lt_succ_iff_lt_or_eq.1 hi with h | h; exact hpc i h; subst h; first | exact m_9 (.inl (by assumption)) | exact m_9 (.inr (.inl (by assumption))) | exact m_9 (.inr (.inr (by assumption))))⟩, by omega⟩
 skip
 rw [decide_eq_false Bp] at N
 refine b_4 N rfl (g_3 (b_1 (b_1 (f_1 (a_7 (b_5 ?_))))))
 have A8 := N.as [(4, (bptr F 0))] rfl; clear N
 refine a_5 (s1 A8 (e_8 rfl pv0 bd_27_) fun Cj X => ?_); clear A8 DG
 refine s7 X (c_0 O rfl k_6 X.e X.e (i := 0) rfl (vs := [(iv 0), (iv 0)]) rfl rfl rfl (Nat.le_of_ble_eq_true rfl)) ?_
 intro _ Co BI A9; clear X
 have BJ : Sep NoB w Co [(blk F 27 [(iv 0), (iv 0)]), (blk E 46 [(iv t.frm), (iv t.dst), vr, vb, (iv t.err)]), (sl vr 2 t.rows.length (pairs t.rows)), (sl vb 1 t.brk.length (ints t.brk))] := BI; clear BI O
 refine s1 A9 (a_0 rfl (evc _ _)) fun DU BA => ?_; clear A9 Cj
 refine n1 (c_4 (a_9 BA (.inl rfl) (d_2 BA rfl (.cellA rfl k_6 (BJ.bk 0 rfl) (l := [(iv 0), (iv 0)]) rfl rfl) (.tmp rfl)) ?_))
 have hz := (made_no (fun i hi => hrw i (by omega)) (fun i hi => hpc i (by omega)))
 exact ⟨by unfold e_6; rw [hz]; rfl, BJ.ext⟩
theorem rconvert_ok (A B : Int) (t : TabD) (vr vb : Value) (w : World) (hr : SlAt w vr 2 t.rows.length (pairs t.rows)) (hb : SlAt w vb 1 t.brk.length (ints t.brk)) (hrl : t.rows.length ≤ 1000000) (hbl : t.brk.length ≤ 1000000) (n : Int) (hV : TabV n t) :
  Calls Try.prog 24 #[(Value.agg #[(iv t.frm), (iv t.dst), vr, vb, (iv t.err)]), (Value.agg #[(iv A), (iv B)])] w (Ret fun v w' => v = .agg #[.int .i64 (g_1 t (A, B)).1, .int .i64 (g_1 t (A, B)).2] ∧ Ext NoB w w') := by
 refine a_8 Try.func24 rfl fun a0 S => ?_
 replace S : Fr 40 [] [(0, (Value.agg #[(iv t.frm), (iv t.dst), vr, vb, (iv t.err)])), (1, (Value.agg #[(iv A), (iv B)]))] a0 := S
 have BC := madeV_bd hV A; have BD := madeV_bd hV B; have her := hV.err
 have AU : Sep NoB w w [(sl vr 2 t.rows.length (pairs t.rows)), (sl vb 1 t.brk.length (ints t.brk))] := f_2 ⟨rfl, hr, rfl, hb, trivial⟩
 refine m2 (s2 S (f_4 AU rfl S.e (cs := [(iv t.frm), (iv t.dst), vr, vb, (iv t.err)]) rfl) ?_)
 rintro a1 _ w3 ⟨b4, rfl, AV⟩ AE; clear S AU a0
 refine s2 AE (f_4 AV rfl AE.e (cs := [(iv A), (iv B)]) rfl) ?_
 rintro a6 _ w8 ⟨b9, rfl, AL⟩ AT; clear AE AV a1
 refine s2 AT (e_0 AL rfl ze_27 (cs := [(iv 0), (iv 0)]) rfl) ?_
 rintro Ab _ BE ⟨Q, rfl, D⟩ T; clear AT AL a6
 refine n4 (s1 T (c_5 rfl z_9 (T.ev rfl) (D.bk 2 rfl) (l := [(iv t.frm), (iv t.dst), vr, vb, (iv t.err)]) rfl rfl) fun Ac U => ?_); clear T Ab
 refine s1 U (a_4 rfl l_6 U.e) fun Ad V => ?_; clear U Ac
 refine s1 V (a_3 rfl ty_3 V.e (D.bk 1 rfl) rfl) fun Ae J => ?_; clear V Ad
 refine s2 J (b_3 rfl en_55 (ev2 J.e J.e) (rmade_ok t _ _ _ (D.sk 3 rfl) (D.sk 4 rfl) (by omega) (by omega) _ hV A)) ?_
 rintro Af _ BF ⟨rfl, AJ⟩ W; have AM := D.step AJ; clear AJ J D Ae
 refine s1 W (a_1 rfl W.e) fun Ag X => ?_; clear W Af
 refine s1 X (e_9 rfl X.e rfl) fun Ah Y => ?_; clear X Ag
 refine s1 Y (e_9 rfl Y.e rfl) fun Ai AF => ?_; clear Y Ah
 refine s2 AF (e_0 AM rfl ze_27 (cs := [(iv 0), (iv 0)]) rfl) ?_
 rintro Aj _ BG ⟨R, rfl, AN⟩ K; clear AF AM Ai
 refine s7 K (c_0 AN rfl k_6 K.e K.e (i := 0) rfl (vs := [(iv ((e_6 t A).1)), (iv ((e_6 t A).2))]) rfl rfl rfl (Nat.le_of_ble_eq_true rfl)) ?_
 intro _ A7 AO Z; clear K
 have E : Sep NoB w A7 [(blk R 27 [(iv ((e_6 t A).1)), (iv ((e_6 t A).2))]), (blk Q 27 [(iv 0), (iv 0)]), (blk b9 27 [(iv A), (iv B)]), (blk b4 46 [(iv t.frm), (iv t.dst), vr, vb, (iv t.err)]), (sl vr 2 t.rows.length (pairs t.rows)), (sl vb 1 t.brk.length (ints t.brk))] := AO; clear AO AN
 refine s1 Z (a_0 rfl Z.e) fun Ak AG => ?_; clear Z Aj
 refine n2 ?_
 have a := AG.as [(5, (bptr R 0)), (4, (bptr Q 0)), (3, (bptr b9 0)), (2, (bptr b4 0))] rfl; clear AG
 refine a_5 (s1 a (c_5 rfl z_9 (a.ev rfl) (E.bk 3 rfl) (l := [(iv t.frm), (iv t.dst), vr, vb, (iv t.err)]) rfl rfl) fun Al b => ?_); clear a Ak
 refine s1 b (a_4 rfl l_7 b.e) fun Am c => ?_; clear b Al
 refine s1 c (a_3 rfl ty_3 c.e (E.bk 2 rfl) rfl) fun An L => ?_; clear c Am
 refine s2 L (b_3 rfl en_55 (ev2 L.e L.e) (rmade_ok t _ _ _ (E.sk 4 rfl) (E.sk 5 rfl) (by omega) (by omega) _ hV B)) ?_
 rintro Ao _ BH ⟨rfl, AK⟩ d; have AP := E.step AK; clear AK L E An
 refine s1 d (a_1 rfl d.e) fun Ap f => ?_; clear d Ao
 refine s1 f (e_9 rfl f.e rfl) fun Aq g => ?_; clear f Ap
 refine s1 g (e_9 rfl g.e rfl) fun Ar AH => ?_; clear g Aq
 refine s2 AH (e_0 AP rfl ze_27 (cs := [(iv 0), (iv 0)]) rfl) ?_
 rintro As _ BI ⟨AD, rfl, AQ⟩ M; clear AH AP Ar
 refine s7 M (c_0 AQ rfl k_6 M.e M.e (i := 0) rfl (vs := [(iv ((e_6 t B).1)), (iv ((e_6 t B).2))]) rfl rfl rfl (Nat.le_of_ble_eq_true rfl)) ?_
 intro _ A8 AR h; clear M
 have C : Sep NoB w A8 [(blk AD 27 [(iv ((e_6 t B).1)), (iv ((e_6 t B).2))]), (blk R 27 [(iv ((e_6 t A).1)), (iv ((e_6 t A).2))]), (blk Q 27 [(iv 0), (iv 0)]), (blk b9 27 [(iv A), (iv B)]), (blk b4 46 [(iv t.frm), (iv t.dst), vr, vb, (iv t.err)]), (sl vr 2 t.rows.length (pairs t.rows)), (sl vb 1 t.brk.length (ints t.brk))] := AR; clear AR AQ
 refine s1 h (a_0 rfl h.e) fun At AI => ?_; clear h As
 refine n2 ?_
 have j := AI.as [(7, (bptr AD 0)), (5, (bptr R 0)), (4, (bptr Q 0)), (2, (bptr b4 0))] rfl; clear AI
 refine a_5 (s1 j (a_4 rfl l_6 j.e) fun Au k => ?_); clear j At
 refine s1 k (a_3 rfl ty_3 k.e (C.bk 1 rfl) rfl) fun Av m => ?_; clear k Au
 refine s1 m (a_4 rfl l_6 m.e) fun Aw o => ?_; clear m Av
 refine s1 o (a_3 rfl ty_3 o.e (C.bk 0 rfl) rfl) fun Ax N => ?_; clear o Aw
 refine s1 N (op_min rfl N.e N.e) fun Ay p => ?_; clear N Ax
 refine s1 p (a_4 rfl fd_46_4 p.e) fun Az q => ?_; clear p Ay
 refine s1 q (a_3 rfl ty_3 q.e (C.bk 4 rfl) rfl) fun A0 O => ?_; clear q Az
 refine s1 O (h_9 rfl O.e O.e (by omega) (by omega)) fun A1 r => ?_; clear O A0
 refine s1 r (a_4 rfl l_7 r.e) fun A2 s => ?_; clear r A1
 refine s1 s (a_3 rfl ty_3 s.e (C.bk 1 rfl) rfl) fun A3 u => ?_; clear s A2
 refine s1 u (a_4 rfl l_7 u.e) fun A4 x => ?_; clear u A3
 refine s1 x (a_3 rfl ty_3 x.e (C.bk 0 rfl) rfl) fun A5 P => ?_; clear x A4
 refine s1 P (op_max rfl P.e P.e) fun A6 y => ?_; clear P A5
 refine s1 y (a_4 rfl fd_46_4 y.e) fun AW I => ?_; clear y A6
 refine s1 I (a_3 rfl ty_3 I.e (C.bk 4 rfl) rfl) fun AX F => ?_; clear I AW
 refine s1 F (f_0 rfl F.e F.e (by omega) (by omega)) fun AY G => ?_; clear F AX
 refine s1 G (e_8 rfl (pv2 G.e G.e) (n_7 _ _)) fun BA H => ?_; clear G AY
 refine s7 H (c_0 C rfl k_6 H.e H.e (i := 2) rfl (vs := [(iv ((min ((e_6 t A).1) ((e_6 t B).1)) - t.err)), (iv ((max ((e_6 t A).2) ((e_6 t B).2)) + t.err))]) rfl rfl rfl (Nat.le_of_ble_eq_true rfl)) ?_
 intro _ AZ AA z; clear H
 have AB : Sep NoB w AZ [(blk AD 27 [(iv ((e_6 t B).1)), (iv ((e_6 t B).2))]), (blk R 27 [(iv ((e_6 t A).1)), (iv ((e_6 t A).2))]), (blk Q 27 [(iv ((min ((e_6 t A).1) ((e_6 t B).1)) - t.err)), (iv ((max ((e_6 t A).2) ((e_6 t B).2)) + t.err))]), (blk b9 27 [(iv A), (iv B)]), (blk b4 46 [(iv t.frm), (iv t.dst), vr, vb, (iv t.err)]), (sl vr 2 t.rows.length (pairs t.rows)), (sl vb 1 t.brk.length (ints t.brk))] := AA; clear AA C
 refine n1 (c_4 (a_9 z (.inl rfl) (a_2 z rfl (.cellA rfl k_6 (AB.bk 2 rfl) (l := [(iv ((min ((e_6 t A).1) ((e_6 t B).1)) - t.err)), (iv ((max ((e_6 t A).2) ((e_6 t B).2)) + t.err))]) rfl rfl)) ?_))
 exact ⟨rfl, AB.ext⟩
end Go.Proofs.Ytohgladndklciaa

namespace Go.Hard
section
variable {n : Int} {t : TabD} {k : Nat}
theorem tabB_iff : tabB n t = true ↔ inB t.frm 0 (n - 1) = true ∧ inB t.dst 0 (n - 1) = true ∧ t.frm ≠ t.dst ∧ inB t.err 0 1000 = true ∧ 2 ≤ (t.rows.length : Int) ∧ (∀ i, i < t.rows.length → rowB (t.rows.getD i (0, 0)) = true) ∧ (∀ i, i < t.rows.length - 1 → ac_0 (ac_3 t) (t.rows.getD i (0, 0)) (t.rows.getD (i + 1) (0, 0)) = true) ∧ ∀ i, i < t.brk.length → brkB t i = true := by
  unfold tabB headB
  simp only [Bool.and_eq_true, Bool.not_eq_true', decide_eq_false_iff_not, decide_eq_true_eq, i_5, ne_eq, and_assoc]
theorem q_8 (h : inB t.frm 0 (n - 1) = false ∨ inB t.dst 0 (n - 1) = false ∨ t.frm = t.dst ∨ inB t.err 0 1000 = false ∨ (t.rows.length : Int) < 2) : tabB n t = false := by
  cases hb : tabB n t with
  | false => rfl
  | true =>
    have g := tabB_iff.1 hb
    rcases h with h | h | h | h | h
    · rw [h] at g; cases g.1
    · rw [h] at g; cases g.2.1
    · exact absurd h g.2.2.1
    · rw [h] at g; cases g.2.2.2.1
    · have := g.2.2.2.2.1; omega
theorem tab_row (hk : k < t.rows.length) (h : rowB (t.rows.getD k (0, 0)) = false) : tabB n t = false := by
  cases hb : tabB n t with
  | false => rfl
  | true => have g := (tabB_iff.1 hb).2.2.2.2.2.1 k hk; rw [h] at g; cases g
theorem x_0 (hk : k + 1 < t.rows.length) (h : ac_0 (ac_3 t) (t.rows.getD k (0, 0)) (t.rows.getD (k + 1) (0, 0)) = false) : tabB n t = false := by
  cases hb : tabB n t with
  | false => rfl
  | true => have g := (tabB_iff.1 hb).2.2.2.2.2.2.1 k (by omega); rw [h] at g; cases g
theorem tab_brk (hk : k < t.brk.length) (h : brkB t k = false) : tabB n t = false := by
  cases hb : tabB n t with
  | false => rfl
  | true => have g := (tabB_iff.1 hb).2.2.2.2.2.2.2 k hk; rw [h] at g; cases g
theorem t_6 {r : Bool} {a b : Int × Int} (h : ¬ a.1 < b.1 ∨ b.2 = a.2 ∨ decide (a.2 < b.2) ≠ r) : ac_0 r a b = false := by
  cases hb : ac_0 r a b with
  | false => rfl
  | true =>
    unfold ac_0 at hb
    simp only [Bool.and_eq_true, decide_eq_true_eq, Bool.not_eq_true', decide_eq_false_iff_not, beq_iff_eq] at hb
    rcases h with h | h | h
    · exact absurd hb.1.1 h
    · exact absurd h hb.1.2
    · exact absurd hb.2 h
theorem step_y {r : Bool} {a b : Int × Int} (h1 : a.1 < b.1) (h2 : ¬ b.2 = a.2) (h3 : decide (a.2 < b.2) = r) : ac_0 r a b = true := by
  unfold ac_0
  simp only [Bool.and_eq_true, decide_eq_true_eq, Bool.not_eq_true', decide_eq_false_iff_not, beq_iff_eq]
  exact ⟨⟨h1, h2⟩, h3⟩
theorem brk_y0 (h : inB (t.brk.getD 0 0) 0 ((t.rows.length : Int) - 2) = true) : brkB t 0 = true := by
  unfold brkB; rw [show ad_7 t 0 = -1 from rfl]; rw [k_3] at h ⊢; omega
theorem brk_y1 (h : inB (t.brk.getD (k + 1) 0) 0 ((t.rows.length : Int) - 2) = true) (h2 : t.brk.getD k 0 < t.brk.getD (k + 1) 0) : brkB t (k + 1) = true := by
  unfold brkB ad_7; rw [k_3] at h ⊢; dsimp only; omega
theorem brk_n {i : Nat} (hp : ∀ j, j < i → 0 ≤ t.brk.getD j 0) (h : inB (t.brk.getD i 0) 0 ((t.rows.length : Int) - 2) = false) : brkB t i = false := by
  cases hb : brkB t i with
  | false => rfl
  | true =>
    unfold brkB at hb
    rw [k_3] at hb
    have : inB (t.brk.getD i 0) 0 ((t.rows.length : Int) - 2) = true := by
      rw [k_3]
      cases i with
      | zero => rw [show ad_7 t 0 = -1 from rfl] at hb; omega
      | succ j => have := hp j (by omega); unfold ad_7 at hb; dsimp only at hb; omega
    rw [this] at h; cases h
theorem brk_n1 (h : ¬ t.brk.getD k 0 < t.brk.getD (k + 1) 0) : brkB t (k + 1) = false := by
  cases hb : brkB t (k + 1) with
  | false => rfl
  | true => unfold brkB ad_7 at hb; rw [k_3] at hb; dsimp only at hb; omega
end
end Go.Hard

namespace Go.Proofs.Ytohgladndklciaa
open Go.RowKit Go.Shelf Go.Eng Go.Hard
theorem list_same {l m : List Int} (h : l.length = m.length) (he : ∀ i, i < l.length → l.getD i 0 = m.getD i 0) : l = m := by
 refine List.ext_getElem h fun i A B => ?_
 have := he i A
 simpa [List.getD, List.getElem?_eq_getElem A, List.getElem?_eq_getElem B] using this
theorem ints_ok (l : List Int) (xl : Value) (w : World) (hxl : SlAt w xl 1 l.length (ints l)) (m : List Int) (xm : Value) (hxm : SlAt w xm 1 m.length (ints m)) (hlb : l.length ≤ 1000000) :
  Calls Try.prog 36 #[xl, xm] w (Ret fun v w' => v = .bool (decide (l = m)) ∧ Ext NoB w w') := by
 refine a_8 Try.func36 rfl fun u P => ?_
 replace P : Fr 26 [] [(0, xl), (1, xm)] u := P
 have I : Sep NoB w w [(sl xl 1 l.length (ints l)), (sl xm 1 m.length (ints m))] := f_2 ⟨rfl, hxl, rfl, hxm, trivial⟩
 refine m2 (s1 P (a_0 rfl (evc _ _)) fun a1 T => ?_); clear P u
 refine n2 (m2 (s1 T (a_1 rfl T.e) fun a3 X => ?_)); clear T a1
 refine s1 X (c_9 rfl j_3 X.e (I.sk 0 rfl)) fun a5 g => ?_; clear X a3
 refine s1 g (a_1 rfl g.e) fun a7 j => ?_; clear g a5
 refine s1 j (c_9 rfl j_3 j.e (I.sk 1 rfl)) fun a9 D => ?_; clear j a7
 refine s1 D (u_1 rfl D.e D.e) fun r B => ?_; clear D a9
 refine n1 ?_
 by_cases o : (l.length : Int) = (m.length : Int)
 ·skip
  rw [decide_eq_true o] at B
  refine b_4 B rfl (c_6 (a_7 (b_5 (b_5 ?_))))
  have Q := B.as [(0, xl), (1, xm)] rfl; clear B
  refine a_5 (s1 Q (a_0 rfl (evc _ _)) fun x R => ?_); clear Q r
  refine n1 (c_2 ?_)
  have S := R.as [(5, (iv 0)), (0, xl), (1, xm)] rfl; clear R
  refine g_7 (G := Nat) (fun (k : Nat) a_ w_ => Fr 26 [] [(5, (iv (k : Int))), (0, xl), (1, xm)] a_ ∧ Sep NoB w w_ [(sl xl 1 l.length (ints l)), (sl xm 1 m.length (ints m))] ∧ (k ≤ l.length) ∧ (l.length = m.length) ∧ (∀ i, i < k → l.getD i 0 = m.getD i 0)) (fun k => l.length - k) 0 ⟨S.as _ rfl, I, by omega, by omega, (fun _ h => absurd h (Nat.not_lt_zero _))⟩ ?_
  clear S I x
  rintro k y AP ⟨J, H, hkk, hln, hq_⟩
  refine b_5 (m2 (s1 J (a_1 rfl J.e) fun z K => ?_)); clear J y
  refine s1 K (a_1 rfl K.e) fun AA L => ?_; clear K z
  refine s1 L (c_9 rfl j_3 L.e (H.sk 0 rfl)) fun AB E => ?_; clear L AA
  refine s1 E (f_5 rfl E.e E.e) fun AC C => ?_; clear E AB
  refine n1 ?_
  by_cases p : (k : Int) < (l.length : Int)
  ·skip
   rw [decide_eq_true p] at C
   refine b_7 C rfl (c_6 (a_7 (b_5 (c_2 (b_5 ?_)))))
   have U := C.as [(5, (iv (k : Int))), (0, xl), (1, xm)] rfl; clear C
   refine g_2 mixed U H 8 [[], [], [0, 1], [2], [], [], [4, 5], [6]] [(Yd.val xl), (Yd.val (iv (k : Int))), (Yd.val (eptr xl (k * 1))), (Yd.val (iv (l.getD k 0))), (Yd.val xm), (Yd.val (iv (k : Int))), (Yd.val (eptr xm (k * 1))), (Yd.val (iv (m.getD k 0)))] (by decide +kernel) rfl rfl ?_ ?_
   ·skip
    refine dq (fun a w hA hS hd => a_1 rfl hA.e) ?_
    refine dq (fun a w hA hS hd => a_1 rfl hA.e) ?_
    refine dq (fun a w hA hS hd => b_0 rfl j_3 ty_3 (hq hd 0) (i := k) (hq hd 1) (hS.sk 0 rfl) (by decide) (by omega)) ?_
    refine dq (fun a w hA hS hd => b_9 rfl ty_3 (hq hd 2) (hS.sk 0 rfl) (ints_at (by omega))) ?_
    refine dq (fun a w hA hS hd => a_1 rfl hA.e) ?_
    refine dq (fun a w hA hS hd => a_1 rfl hA.e) ?_
    refine dq (fun a w hA hS hd => b_0 rfl j_3 ty_3 (hq hd 4) (i := k) (hq hd 5) (hS.sk 1 rfl) (by decide) (by omega)) ?_
    refine dq (fun a w hA hS hd => b_9 rfl ty_3 (hq hd 6) (hS.sk 1 rfl) (ints_at (by omega))) ?_
    trivial
   intro AD AQ V n O; clear U H
   have W := V.add (hz O 3); clear V
   have F := W.add (hz O 7); clear W
   clear O
   refine s1 F (u_1 rfl F.e F.e) fun s A => ?_; clear F AD
   refine n1 ?_
   by_cases q : (l.getD k 0) = (m.getD k 0)
   ·skip
    rw [decide_eq_true q] at A
    refine b_4 A rfl (c_6 (g_6 (a_7 (a_5 (s1 A (a_1 rfl A.e) fun AE M => ?_))))); clear A s
    refine s1 M (f_0 rfl M.e (evc _ _) (by omega) (by omega)) fun AF N => ?_; clear M AE
    refine s1 N (a_0 rfl N.e) fun AL t => ?_; clear N AF
    refine e_2 ?_
    exact a_7 ⟨k + 1, ⟨t.as _ rfl, n, by omega, hln, (fun i hi => by rcases Nat.lt_succ_iff_lt_or_eq.1 hi with h | h; exact hq_ i h; subst h; assumption)⟩, by omega⟩
   skip
   rw [decide_eq_false q] at A
   refine b_7 A rfl (b_5 ?_)
   have Y := A.as [] rfl; clear A
   refine a_5 (s1 Y (a_0 rfl (evc _ _)) fun AM Z => ?_); clear Y s
   refine n1 (c_4 (c_7 (a_6 (a_6 (c_7 (a_6 (a_9 Z (.inl rfl) (a_2 Z rfl (.tmp rfl)) ?_)))))))
   exact ⟨congrArg Value.bool (Eq.symm (decide_eq_false (fun h_ => by subst h_; omega))), n.ext⟩
  skip
  rw [decide_eq_false p] at C
  refine b_4 C rfl (g_3 (b_1 (b_1 (f_1 (a_7 (b_5 ?_))))))
  have b := C.as [] rfl; clear C
  refine a_5 (s1 b (a_0 rfl (evc _ _)) fun AN c => ?_); clear b AC
  exact n1 (c_4 (a_9 c (.inl rfl) (a_2 c rfl (.tmp rfl)) (⟨congrArg Value.bool (Eq.symm (decide_eq_true (list_same (by omega) (fun i hi => hq_ i (by omega))))), H.ext⟩)))
 skip
 rw [decide_eq_false o] at B
 refine b_7 B rfl (b_5 ?_)
 have d := B.as [] rfl; clear B
 refine a_5 (s1 d (a_0 rfl (evc _ _)) fun AO f => ?_); clear d r
 refine n1 (c_4 (a_6 (a_9 f (.inl rfl) (a_2 f rfl (.tmp rfl)) ?_)))
 exact ⟨congrArg Value.bool (Eq.symm (decide_eq_false (fun h_ => by subst h_; omega))), I.ext⟩
end Go.Proofs.Ytohgladndklciaa

namespace Go.Proofs.Ytohgladndklciaa
open Go.RowKit Go.Shelf Go.Eng Go.Hard
theorem z_2 : fldK Try.prog 46 0 = some 0 := by kernel_rfl
theorem t_7 : fldK Try.prog 46 1 = some 1 := by kernel_rfl
theorem un_4 : Try.prog.underlying 4 = some .bool := by kernel_rfl
theorem neq_n {r : Bool} {a b : Int × Int} (h : (decide (a.2 < b.2) == r) = false) : ac_0 r a b = false := t_6 (.inr (.inr (fun e => by rw [e] at h; simp at h)))
theorem neq_y {r : Bool} {a b : Int × Int} (A : a.1 < b.1) (B : ¬ b.2 = a.2) (h : (decide (a.2 < b.2) == r) = true) : ac_0 r a b = true := step_y A B (by simpa using h)
theorem back1 {k : Nat} (h : 0 < (k : Int)) : ∃ i, k = i + 1 := ⟨k - 1, by omega⟩
theorem pred1 (i : Nat) : ((((i + 1 : Nat) : Int)) - 1).toNat = i := by omega
set_option maxHeartbeats 4000000 in
theorem istable_ok (n : Int) (hn : 1 ≤ n ∧ n ≤ 4) (t : TabD) (vr vb : Value) (w : World) (hr : SlAt w vr 2 t.rows.length (pairs t.rows)) (hb : SlAt w vb 1 t.brk.length (ints t.brk)) (hrl : t.rows.length ≤ 1000000) (hbl : t.brk.length ≤ 1000000) :
  Calls Try.prog 51 #[(iv n), (Value.agg #[(iv t.frm), (iv t.dst), vr, vb, (iv t.err)])] w (Ret fun v w' => v = .bool (tabB n t) ∧ Ext NoB w w') := by
 refine a_8 Try.func51 rfl fun a0 BT => ?_
 replace BT : Fr 165 [] [(0, (iv n)), (1, (Value.agg #[(iv t.frm), (iv t.dst), vr, vb, (iv t.err)]))] a0 := BT
 have EY : Sep NoB w w [(sl vr 2 t.rows.length (pairs t.rows)), (sl vb 1 t.brk.length (ints t.brk))] := f_2 ⟨rfl, hr, rfl, hb, trivial⟩
 refine m2 (s2 BT (f_4 EY rfl BT.e (cs := [(iv t.frm), (iv t.dst), vr, vb, (iv t.err)]) rfl) ?_)
 rintro a1 _ w3 ⟨B, rfl, L⟩ EX; clear BT EY a0
 refine s1 EX (a_0 rfl (evc _ _)) fun a6 EC => ?_; clear EX a1
 refine n2 (m2 (s1 EC (a_4 rfl z_2 EC.e) fun a8 EI => ?_)); clear EC a6
 refine s1 EI (a_3 rfl ty_3 EI.e (L.bk 0 rfl) rfl) fun Gh BV => ?_; clear EI a8
 refine s1 BV (a_1 rfl BV.e) fun Gi BW => ?_; clear BV Gh
 refine s1 BW (h_9 rfl BW.e (evc _ _) (by omega) (by omega)) fun Gj AP => ?_; clear BW Gi
 refine s2 AP (b_3 rfl ad_0 (ev3 AP.e (evc _ _) AP.e) (ac_9 _ _ _ _)) ?_
 rintro Gk _ W_ ⟨rfl, hW_⟩ BX; have hW2_ := hW_.symm; subst hW2_; clear hW_ AP Gj
 refine s1 BX (g_0 rfl BX.e) fun Gl BY => ?_; clear BX Gk
 refine s1 BY (a_1 rfl BY.e) fun ET N => ?_; clear BY Gl
 rcases Bool.eq_false_or_eq_true ((inB t.frm 0 (n - 1))) with Bs | Bs
 ·skip
  rw [Bs] at N
  refine s5 N (a_4 rfl t_7 N.e) fun Gm BZ => ?_; clear N ET
  refine s5 BZ (a_3 rfl ty_3 BZ.e (L.bk 0 rfl) rfl) fun Gn Ba => ?_; clear BZ Gm
  refine s5 Ba (a_1 rfl Ba.e) fun Go Bb => ?_; clear Ba Gn
  refine s5 Bb (h_9 rfl Bb.e (evc _ _) (by omega) (by omega)) fun Gp Ao => ?_; clear Bb Go
  refine s6 Ao (b_3 rfl ad_0 (ev3 Ao.e (evc _ _) Ao.e) (ac_9 _ _ _ _)) ?_
  rintro Gq _ W_ ⟨rfl, hW_⟩ Bc; have hW2_ := hW_.symm; subst hW2_; clear hW_ Ao Gp
  refine s5 Bc (g_0 rfl Bc.e) fun Gr Aw => ?_; clear Bc Gq
  refine s1 Aw (d_0 rfl Aw.e Aw.e) fun Gs Bd => ?_; clear Aw Gr
  refine s1 Bd (a_1 rfl Bd.e) fun EU O => ?_; clear Bd Gs
  rcases Bool.eq_false_or_eq_true ((inB t.dst 0 (n - 1))) with Bt | Bt
  ·skip
   rw [Bt] at O
   refine s5 O (a_4 rfl z_2 O.e) fun Gt Be => ?_; clear O EU
   refine s5 Be (a_3 rfl ty_3 Be.e (L.bk 0 rfl) rfl) fun Gu Bf => ?_; clear Be Gt
   refine s5 Bf (a_4 rfl t_7 Bf.e) fun Gv Bg => ?_; clear Bf Gu
   refine s5 Bg (a_3 rfl ty_3 Bg.e (L.bk 0 rfl) rfl) fun Gw BG => ?_; clear Bg Gv
   refine s5 BG (m_4 rfl BG.e BG.e) fun Gx BK => ?_; clear BG Gw
   refine s1 BK (d_0 rfl BK.e BK.e) fun Gy Bh => ?_; clear BK Gx
   refine s1 Bh (a_1 rfl Bh.e) fun EV P => ?_; clear Bh Gy
   by_cases EJ : t.frm = t.dst
   ·skip
    rw [decide_eq_true EJ] at P
    refine s3 P fun Gz D8 => ?_; clear P EV
    refine s3 D8 fun G0 D9 => ?_; clear D8 Gz
    refine s3 D9 fun G1 EA => ?_; clear D9 G0
    refine s3 EA fun G2 Bi => ?_; clear EA G1
    refine s1 Bi (b_6 rfl Bi.e (evc _ _)) fun G3 Bj => ?_; clear Bi G2
    refine s1 Bj (a_1 rfl Bj.e) fun G4 EB => ?_; clear Bj G3
    refine s3 EB fun G5 ED => ?_; clear EB G4
    refine s3 ED fun G6 EE => ?_; clear ED G5
    refine s3 EE fun G7 EF => ?_; clear EE G6
    refine s3 EF fun G8 Bk => ?_; clear EF G7
    refine s1 Bk (b_6 rfl Bk.e (evc _ _)) fun G9 Bl => ?_; clear Bk G8
    refine n1 (b_7 Bl rfl (b_5 ?_))
    have EG := Bl.as [] rfl; clear Bl
    refine a_5 (s1 EG (a_0 rfl (evc _ _)) fun Hk EH => ?_); clear EG G9
    exact n1 (c_4 (a_6 (a_9 EH (.inl rfl) (a_2 EH rfl (.tmp rfl)) (⟨congrArg Value.bool (Eq.symm (q_8 (by first | exact .inl (by assumption) | exact .inr (.inl (by assumption)) | exact .inr (.inr (.inl (by assumption))) | exact .inr (.inr (.inr (.inl (by assumption)))) | exact .inr (.inr (.inr (.inr (by omega))))))), L.ext⟩))))
   skip
   rw [decide_eq_false EJ] at P
   refine s5 P (a_4 rfl fd_46_4 P.e) fun HA Bm => ?_; clear P EV
   refine s5 Bm (a_3 rfl ty_3 Bm.e (L.bk 0 rfl) rfl) fun HB Bn => ?_; clear Bm HA
   refine s6 Bn (b_3 rfl ad_0 (ev3 Bn.e (evc _ _) (evc _ _)) (ac_9 _ _ _ _)) ?_
   rintro HC _ W_ ⟨rfl, hW_⟩ Bo; have hW2_ := hW_.symm; subst hW2_; clear hW_ Bn HB
   refine s5 Bo (g_0 rfl Bo.e) fun HD BM => ?_; clear Bo HC
   refine s1 BM (d_0 rfl BM.e BM.e) fun HE Bp => ?_; clear BM HD
   refine s1 Bp (a_1 rfl Bp.e) fun EW Q => ?_; clear Bp HE
   rcases Bool.eq_false_or_eq_true ((inB t.err 0 1000)) with Bu | Bu
   ·skip
    rw [Bu] at Q
    refine s5 Q (a_4 rfl h_1 Q.e) fun HF Bq => ?_; clear Q EW
    refine s5 Bq (a_3 rfl m_2 Bq.e (L.bk 0 rfl) rfl) fun HG Br => ?_; clear Bq HF
    refine s5 Br (c_9 rfl m_3 Br.e (L.sk 1 rfl)) fun EZ AG => ?_; clear Br HG
    refine s5 AG (f_5 rfl AG.e (evc _ _)) fun Ea Y => ?_; clear AG EZ
    refine s1 Y (d_0 rfl Y.e Y.e) fun Eb F => ?_; clear Y Ea
    refine n1 ?_
    by_cases Dr : (t.rows.length : Int) < 2
    ·skip
     rw [decide_eq_true Dr] at F
     refine b_7 F rfl (b_5 ?_)
     have Bv := F.as [] rfl; clear F
     refine a_5 (s1 Bv (a_0 rfl (evc _ _)) fun HI Bw => ?_); clear Bv Eb
     exact n1 (c_4 (a_6 (a_9 Bw (.inl rfl) (a_2 Bw rfl (.tmp rfl)) (⟨congrArg Value.bool (Eq.symm (q_8 (by first | exact .inl (by assumption) | exact .inr (.inl (by assumption)) | exact .inr (.inr (.inl (by assumption))) | exact .inr (.inr (.inr (.inl (by assumption)))) | exact .inr (.inr (.inr (.inr (by omega))))))), L.ext⟩))))
    skip
    rw [decide_eq_false Dr] at F
    refine b_4 F rfl (c_6 (a_7 (b_5 ?_)))
    have Bx := F.as [(3, (bptr B 0))] rfl; clear F
    have By := Bx.as [(3, (bptr B 0))] rfl; clear Bx
    refine g_2 mixed By L 10 [[], [0], [1], [2], [3], [], [5], [6], [7], [8]] [(Yd.val (bptr B 2)), (Yd.val vr), (Yd.val (eptr vr (1 * 2))), (Yd.val (eptr vr (1 * 2 + 1))), (Yd.val (iv ((t.rows.getD 1 (0, 0)).2))), (Yd.val (bptr B 2)), (Yd.val vr), (Yd.val (eptr vr (0 * 2))), (Yd.val (eptr vr (0 * 2 + 1))), (Yd.val (iv ((t.rows.getD 0 (0, 0)).2)))] (by decide +kernel) rfl rfl ?_ ?_
    ·skip
     refine dq (fun a w hA hS hd => a_4 rfl h_1 hA.e) ?_
     refine dq (fun a w hA hS hd => a_3 rfl m_2 (hq hd 0) (hS.bk 0 rfl) rfl) ?_
     refine dq (fun a w hA hS hd => b_0 rfl m_3 o_7 (hq hd 1) (i := 1) (show _ = Value.int .i64 ((1 : Nat) : Int) from (evc _ _)) (hS.sk 1 rfl) (by decide) (by omega)) ?_
     refine dq (fun a w hA hS hd => d_1 rfl o_4 (hq hd 2) (hS.sk 1 rfl) (by rw [((hS.sk 1 rfl)).1]; omega)) ?_
     refine dq (fun a w hA hS hd => b_9 rfl ty_3 (hq hd 3) (hS.sk 1 rfl) (h_6 (by omega))) ?_
     refine dq (fun a w hA hS hd => a_4 rfl h_1 hA.e) ?_
     refine dq (fun a w hA hS hd => a_3 rfl m_2 (hq hd 5) (hS.bk 0 rfl) rfl) ?_
     refine dq (fun a w hA hS hd => b_0 rfl m_3 o_7 (hq hd 6) (i := 0) (show _ = Value.int .i64 ((0 : Nat) : Int) from (evc _ _)) (hS.sk 1 rfl) (by decide) (by omega)) ?_
     refine dq (fun a w hA hS hd => d_1 rfl o_4 (hq hd 7) (hS.sk 1 rfl) (by rw [((hS.sk 1 rfl)).1]; omega)) ?_
     refine dq (fun a w hA hS hd => b_9 rfl ty_3 (hq hd 8) (hS.sk 1 rfl) (h_6 (by omega))) ?_
     trivial
    intro Ec Ha Bz Do BN; clear By L
    have B0 := Bz.add (hz BN 4); clear Bz
    have Z := B0.add (hz BN 9); clear B0
    clear BN
    refine s1 Z (i_4 rfl Z.e Z.e) fun Ed AH => ?_; clear Z Ec
    refine s1 AH (a_0 rfl AH.e) fun Ee B1 => ?_; clear AH Ed
    refine n2 (m2 (s1 B1 (a_0 rfl (evc _ _)) fun Ef B2 => ?_)); clear B1 Ee
    refine n1 (c_2 ?_)
    have B3 := B2.as [(6, (iv 0)), (5, (Value.bool (decide (((t.rows.getD 0 (0, 0)).2) < ((t.rows.getD 1 (0, 0)).2))))), (3, (bptr B 0))] rfl; clear B2
    refine g_7 (G := Nat) (fun (k : Nat) a_ w_ => Fr 165 [] [(6, (iv (k : Int))), (5, (Value.bool (decide (((t.rows.getD 0 (0, 0)).2) < ((t.rows.getD 1 (0, 0)).2))))), (3, (bptr B 0))] a_ ∧ Sep NoB w w_ [(blk B 46 [(iv t.frm), (iv t.dst), vr, vb, (iv t.err)]), (sl vr 2 t.rows.length (pairs t.rows)), (sl vb 1 t.brk.length (ints t.brk))] ∧ (k ≤ t.rows.length) ∧ (∀ i, i < k → rowB (t.rows.getD i (0, 0)) = true) ∧ (∀ i, i + 1 < k → ac_0 (ac_3 t) (t.rows.getD i (0, 0)) (t.rows.getD (i + 1) (0, 0)) = true)) (fun k => t.rows.length - k) 0 ⟨B3.as _ rfl, Do, by omega, (fun _ h => absurd h (Nat.not_lt_zero _)), (fun _ h => absurd h (Nat.not_lt_zero _))⟩ ?_
    clear B3 Do Ef
    rintro k Eg Hb ⟨AI, A, hkk, hrw, hst⟩
    refine b_5 (m2 (s1 AI (a_1 rfl AI.e) fun Eh AJ => ?_)); clear AI Eg
    refine s1 AJ (a_4 rfl h_1 AJ.e) fun Ei AK => ?_; clear AJ Eh
    refine s1 AK (a_3 rfl m_2 AK.e (A.bk 0 rfl) rfl) fun Ej AL => ?_; clear AK Ei
    refine s1 AL (c_9 rfl m_3 AL.e (A.sk 1 rfl)) fun Ek b => ?_; clear AL Ej
    refine s1 b (f_5 rfl b.e b.e) fun Dx D => ?_; clear b Ek
    refine n1 ?_
    by_cases Ds : (k : Int) < (t.rows.length : Int)
    ·skip
     rw [decide_eq_true Ds] at D
     refine b_7 D rfl (c_6 (a_7 (b_5 (c_2 (b_5 (m2 (s1 D (a_4 rfl h_1 D.e) fun El AM => ?_))))))); clear D Dx
     refine s1 AM (a_3 rfl m_2 AM.e (A.bk 0 rfl) rfl) fun Em AN => ?_; clear AM El
     refine s1 AN (a_1 rfl AN.e) fun En c => ?_; clear AN Em
     refine s1 c (b_0 rfl m_3 o_7 c.e (i := k) c.e (A.sk 1 rfl) (by decide) (by omega)) fun Eo AO => ?_; clear c En
     refine s1 AO (d_1 rfl l_8 AO.e (A.sk 1 rfl) (by rw [((A.sk 1 rfl)).1]; omega)) fun Ep AQ => ?_; clear AO Eo
     refine s1 AQ (b_9 rfl ty_3 AQ.e (A.sk 1 rfl) (f_8 (by omega))) fun Er AR => ?_; clear AQ Ep
     refine s2 AR (b_3 rfl ad_0 (ev3 AR.e (evc _ _) (evc _ _)) (ac_9 _ _ _ _)) ?_
     rintro Es _ W_ ⟨rfl, hW_⟩ AS; have hW2_ := hW_.symm; subst hW2_; clear hW_ AR Er
     refine s1 AS (g_0 rfl AS.e) fun Et AT => ?_; clear AS Es
     refine s1 AT (a_1 rfl AT.e) fun Dy M => ?_; clear AT Et
     rcases Bool.eq_false_or_eq_true ((inB ((t.rows.getD k (0, 0)).1) 1 100000)) with BO | BO
     ·skip
      rw [BO] at M
      refine s5 M (a_4 rfl h_1 M.e) fun Eu AU => ?_; clear M Dy
      refine s5 AU (a_3 rfl m_2 AU.e (A.bk 0 rfl) rfl) fun Ev AV => ?_; clear AU Eu
      refine s5 AV (a_1 rfl AV.e) fun Ew d => ?_; clear AV Ev
      refine s5 d (b_0 rfl m_3 o_7 d.e (i := k) d.e (A.sk 1 rfl) (by decide) (by omega)) fun Ex AW => ?_; clear d Ew
      refine s5 AW (d_1 rfl o_4 AW.e (A.sk 1 rfl) (by rw [((A.sk 1 rfl)).1]; omega)) fun Ey AX => ?_; clear AW Ex
      refine s5 AX (b_9 rfl ty_3 AX.e (A.sk 1 rfl) (h_6 (by omega))) fun Ez AY => ?_; clear AX Ey
      refine s6 AY (b_3 rfl ad_0 (ev3 AY.e (evc _ _) (evc _ _)) (ac_9 _ _ _ _)) ?_
      rintro E0 _ W_ ⟨rfl, hW_⟩ AZ; have hW2_ := hW_.symm; subst hW2_; clear hW_ AY Ez
      refine s5 AZ (g_0 rfl AZ.e) fun E1 f => ?_; clear AZ E0
      refine s1 f (d_0 rfl f.e f.e) fun E2 H => ?_; clear f E1
      refine n1 ?_
      rcases Bool.eq_false_or_eq_true ((inB ((t.rows.getD k (0, 0)).2) 1 100000)) with BP | BP
      ·skip
       rw [BP] at H
       refine b_4 H rfl (c_6 (a_7 (b_5 ?_)))
       have B4 := H.as [(6, (iv (k : Int))), (5, (Value.bool (decide (((t.rows.getD 0 (0, 0)).2) < ((t.rows.getD 1 (0, 0)).2))))), (3, (bptr B 0))] rfl; clear H
       have g := B4.as [(6, (iv (k : Int))), (5, (Value.bool (decide (((t.rows.getD 0 (0, 0)).2) < ((t.rows.getD 1 (0, 0)).2))))), (3, (bptr B 0))] rfl; clear B4
       by_cases AD : 0 < (k : Int)
       ·skip
        have l := g.as [(6, (iv (k : Int))), (5, (Value.bool (decide (((t.rows.getD 0 (0, 0)).2) < ((t.rows.getD 1 (0, 0)).2))))), (3, (bptr B 0))] rfl; clear g
        by_cases BQ : ((t.rows.getD k (0, 0)).1) ≤ ((t.rows.getD (((k : Int) - 1).toNat) (0, 0)).1)
        ·skip
         have B5 := l.as [(6, (iv (k : Int))), (5, (Value.bool (decide (((t.rows.getD 0 (0, 0)).2) < ((t.rows.getD 1 (0, 0)).2))))), (3, (bptr B 0))] rfl; clear l
         refine g_2 mixed B5 A 49 [[], [0], [1], [2], [2, 3], [2], [2, 4, 5], [2, 6], [2, 7], [2], [2, 9], [2], [2, 11], [2, 10, 12], [2, 13], [2, 14], [2, 8, 15], [2, 16], [17], [17, 18], [17], [17, 19, 20], [17, 21], [17, 22], [17], [17, 24], [17], [17, 26], [17, 25, 27], [17, 28], [17, 29], [17, 23, 30], [2, 17, 31], [2, 32], [33], [33, 34], [33], [33, 35, 36], [33, 37], [33, 38], [33], [33, 40], [33], [33, 42], [33, 41, 43], [33, 44], [33, 45], [33, 39, 46], [33]] [(Yd.val (iv (k : Int))), (Yd.val (Value.bool true)), (Yd.val (Value.bool true)), (Yd.val (bptr B 2)), (Yd.val vr), (Yd.val (iv (k : Int))), (Yd.val (eptr vr (k * 2))), (Yd.val (eptr vr (k * 2 + 0))), (Yd.val (iv ((t.rows.getD k (0, 0)).1))), (Yd.val (bptr B 2)), (Yd.val vr), (Yd.val (iv (k : Int))), (Yd.val (iv ((k : Int) - 1))), (Yd.val (eptr vr (((k : Int) - 1).toNat * 2))), (Yd.val (eptr vr (((k : Int) - 1).toNat * 2 + 0))), (Yd.val (iv ((t.rows.getD (((k : Int) - 1).toNat) (0, 0)).1))), (Yd.val (Value.bool true)), (Yd.val (Value.bool true)), (Yd.val undef), (Yd.val undef), (Yd.val undef), (Yd.val undef), (Yd.val undef), (Yd.val undef), (Yd.val undef), (Yd.val undef), (Yd.val undef), (Yd.val undef), (Yd.val undef), (Yd.val undef), (Yd.val undef), (Yd.val undef), (Yd.val (Value.bool true)), (Yd.val (Value.bool true)), (Yd.val undef), (Yd.val undef), (Yd.val undef), (Yd.val undef), (Yd.val undef), (Yd.val undef), (Yd.val undef), (Yd.val undef), (Yd.val undef), (Yd.val undef), (Yd.val undef), (Yd.val undef), (Yd.val undef), (Yd.val undef), (Yd.val undef)] (by decide +kernel) rfl rfl ?_ ?_
         ·skip
          refine dq (fun a w hA hS hd => a_1 rfl hA.e) ?_
          refine ⟨fun a w hA hS hd => by have e0 := hx hd 0; exact d_4 rfl (dv (i_4 rfl (b_8 e0) (evc _ _)) hS (by show Value.bool _ = _; simp only [decide_eq_true AD, decide_true, decide_false, Bool.not_true, Bool.not_false])), ?_⟩
          refine dq (fun a w hA hS hd => a_1 rfl (hq hd 1)) ?_
          refine dy 2 (fun a w hA hS hd => a_4 rfl h_1 hA.e) ?_
          refine dy 2 (fun a w hA hS hd => a_3 rfl m_2 (hq hd 3) (hS.bk 0 rfl) rfl) ?_
          refine dy 2 (fun a w hA hS hd => a_1 rfl hA.e) ?_
          refine dy 2 (fun a w hA hS hd => b_0 rfl m_3 o_7 (hq hd 4) (i := k) (hq hd 5) (hS.sk 1 rfl) (by decide) (by omega)) ?_
          refine dy 2 (fun a w hA hS hd => d_1 rfl l_8 (hq hd 6) (hS.sk 1 rfl) (by rw [((hS.sk 1 rfl)).1]; omega)) ?_
          refine dy 2 (fun a w hA hS hd => b_9 rfl ty_3 (hq hd 7) (hS.sk 1 rfl) (f_8 (by omega))) ?_
          refine dy 2 (fun a w hA hS hd => a_4 rfl h_1 hA.e) ?_
          refine dy 2 (fun a w hA hS hd => a_3 rfl m_2 (hq hd 9) (hS.bk 0 rfl) rfl) ?_
          refine dy 2 (fun a w hA hS hd => a_1 rfl hA.e) ?_
          refine dy 2 (fun a w hA hS hd => h_9 rfl (hq hd 11) (evc _ _) (by omega) (by omega)) ?_
          refine dy 2 (fun a w hA hS hd => b_0 rfl m_3 o_7 (hq hd 10) (i := ((k : Int) - 1).toNat) ((hq hd 12).trans (h_4 (by omega))) (hS.sk 1 rfl) (by decide) (by omega)) ?_
          refine dy 2 (fun a w hA hS hd => d_1 rfl l_8 (hq hd 13) (hS.sk 1 rfl) (by rw [((hS.sk 1 rfl)).1]; omega)) ?_
          refine dy 2 (fun a w hA hS hd => b_9 rfl ty_3 (hq hd 14) (hS.sk 1 rfl) (f_8 (by omega))) ?_
          refine ⟨fun a w hA hS hd => by have e2 := hx hd 2; have e8 := hx hd 8; have BS := hx hd 15; exact f_7 rfl rfl e2 (dv (w_8 rfl (b_8 e8) (b_8 BS)) hS (by show Value.bool _ = _; simp only [decide_eq_true BQ, decide_true, decide_false, Bool.not_true, Bool.not_false])), ?_⟩
          refine dy 2 (fun a w hA hS hd => a_1 rfl (hq hd 16)) ?_
          refine dn 17 (dn 17 (dn 17 (dn 17 (dn 17 (dn 17 (dn 17 (dn 17 (dn 17 (dn 17 (dn 17 (dn 17 (dn 17 ?_))))))))))))
          refine dn 17 (dy 2 (fun a w hA hS hd => b_6 rfl (hq hd 17) (evc _ _)) ?_)
          refine dy 2 (fun a w hA hS hd => a_1 rfl (hq hd 32)) ?_
          refine dn 33 (dn 33 (dn 33 (dn 33 (dn 33 (dn 33 (dn 33 (dn 33 (dn 33 (dn 33 (dn 33 (dn 33 (dn 33 ?_))))))))))))
          refine dn 33 (dn 33 ?_)
          trivial
         intro E3 Hc B6 EO R; clear B5 A
         have B7 := B6.add (hz R 2); clear B6
         have B8 := B7.add (hz R 33); clear B7
         have B9 := B8.add (hz R 47); clear B8
         have CA := B9.add (hz R 48); clear B9
         clear R
         refine s3 CA fun E4 Aa => ?_; clear CA E3
         refine s5 Aa (b_6 rfl Aa.e (evc _ _)) fun E5 m => ?_; clear Aa E4
         refine s1 m (b_6 rfl m.e m.e) fun E6 Ab => ?_; clear m E5
         refine n1 (b_7 Ab rfl (b_5 ?_))
         have CB := Ab.as [] rfl; clear Ab
         refine a_5 (s1 CB (a_0 rfl (evc _ _)) fun HJ CC => ?_); clear CB E6
         refine n1 (c_4 (c_7 (a_6 (a_6 (c_7 (a_6 (a_9 CC (.inl rfl) (a_2 CC rfl (.tmp rfl)) ?_)))))))
         exact ⟨congrArg Value.bool (Eq.symm (by first | exact tab_row (k := k) (by omega) (by unfold rowB; rw [Bool.and_eq_false_iff]; first | exact .inl (by assumption) | exact .inr (by assumption)) | (obtain ⟨i, rfl⟩ := back1 (k := k) (by omega); simp only [pred1] at *; exact x_0 (k := i) (by omega) (by first | exact neq_n (by assumption) | exact t_6 (.inl (by omega)) | exact t_6 (.inr (.inl (by omega))))))), EO.ext⟩
        skip
        have o := l.as [(6, (iv (k : Int))), (5, (Value.bool (decide (((t.rows.getD 0 (0, 0)).2) < ((t.rows.getD 1 (0, 0)).2))))), (3, (bptr B 0))] rfl; clear l
        by_cases Dt : ((t.rows.getD k (0, 0)).2) = ((t.rows.getD (((k : Int) - 1).toNat) (0, 0)).2)
        ·skip
         have CD := o.as [(6, (iv (k : Int))), (5, (Value.bool (decide (((t.rows.getD 0 (0, 0)).2) < ((t.rows.getD 1 (0, 0)).2))))), (3, (bptr B 0))] rfl; clear o
         refine g_2 mixed CD A 49 [[], [0], [1], [2], [2, 3], [2], [2, 4, 5], [2, 6], [2, 7], [2], [2, 9], [2], [2, 11], [2, 10, 12], [2, 13], [2, 14], [2, 8, 15], [2, 16], [17], [17, 18], [17], [17, 19, 20], [17, 21], [17, 22], [17], [17, 24], [17], [17, 26], [17, 25, 27], [17, 28], [17, 29], [17, 23, 30], [2, 17, 31], [2, 32], [33], [33, 34], [33], [33, 35, 36], [33, 37], [33, 38], [33], [33, 40], [33], [33, 42], [33, 41, 43], [33, 44], [33, 45], [33, 39, 46], [33]] [(Yd.val (iv (k : Int))), (Yd.val (Value.bool true)), (Yd.val (Value.bool true)), (Yd.val (bptr B 2)), (Yd.val vr), (Yd.val (iv (k : Int))), (Yd.val (eptr vr (k * 2))), (Yd.val (eptr vr (k * 2 + 0))), (Yd.val (iv ((t.rows.getD k (0, 0)).1))), (Yd.val (bptr B 2)), (Yd.val vr), (Yd.val (iv (k : Int))), (Yd.val (iv ((k : Int) - 1))), (Yd.val (eptr vr (((k : Int) - 1).toNat * 2))), (Yd.val (eptr vr (((k : Int) - 1).toNat * 2 + 0))), (Yd.val (iv ((t.rows.getD (((k : Int) - 1).toNat) (0, 0)).1))), (Yd.val (Value.bool false)), (Yd.val (Value.bool false)), (Yd.val (bptr B 2)), (Yd.val vr), (Yd.val (iv (k : Int))), (Yd.val (eptr vr (k * 2))), (Yd.val (eptr vr (k * 2 + 1))), (Yd.val (iv ((t.rows.getD k (0, 0)).2))), (Yd.val (bptr B 2)), (Yd.val vr), (Yd.val (iv (k : Int))), (Yd.val (iv ((k : Int) - 1))), (Yd.val (eptr vr (((k : Int) - 1).toNat * 2))), (Yd.val (eptr vr (((k : Int) - 1).toNat * 2 + 1))), (Yd.val (iv ((t.rows.getD (((k : Int) - 1).toNat) (0, 0)).2))), (Yd.val (Value.bool true)), (Yd.val (Value.bool true)), (Yd.val (Value.bool true)), (Yd.val undef), (Yd.val undef), (Yd.val undef), (Yd.val undef), (Yd.val undef), (Yd.val undef), (Yd.val undef), (Yd.val undef), (Yd.val undef), (Yd.val undef), (Yd.val undef), (Yd.val undef), (Yd.val undef), (Yd.val undef), (Yd.val undef)] (by decide +kernel) rfl rfl ?_ ?_
         ·skip
          refine dq (fun a w hA hS hd => a_1 rfl hA.e) ?_
          refine ⟨fun a w hA hS hd => by have e0 := hx hd 0; exact d_4 rfl (dv (i_4 rfl (b_8 e0) (evc _ _)) hS (by show Value.bool _ = _; simp only [decide_eq_true AD, decide_true, decide_false, Bool.not_true, Bool.not_false])), ?_⟩
          refine dq (fun a w hA hS hd => a_1 rfl (hq hd 1)) ?_
          refine dy 2 (fun a w hA hS hd => a_4 rfl h_1 hA.e) ?_
          refine dy 2 (fun a w hA hS hd => a_3 rfl m_2 (hq hd 3) (hS.bk 0 rfl) rfl) ?_
          refine dy 2 (fun a w hA hS hd => a_1 rfl hA.e) ?_
          refine dy 2 (fun a w hA hS hd => b_0 rfl m_3 o_7 (hq hd 4) (i := k) (hq hd 5) (hS.sk 1 rfl) (by decide) (by omega)) ?_
          refine dy 2 (fun a w hA hS hd => d_1 rfl l_8 (hq hd 6) (hS.sk 1 rfl) (by rw [((hS.sk 1 rfl)).1]; omega)) ?_
          refine dy 2 (fun a w hA hS hd => b_9 rfl ty_3 (hq hd 7) (hS.sk 1 rfl) (f_8 (by omega))) ?_
          refine dy 2 (fun a w hA hS hd => a_4 rfl h_1 hA.e) ?_
          refine dy 2 (fun a w hA hS hd => a_3 rfl m_2 (hq hd 9) (hS.bk 0 rfl) rfl) ?_
          refine dy 2 (fun a w hA hS hd => a_1 rfl hA.e) ?_
          refine dy 2 (fun a w hA hS hd => h_9 rfl (hq hd 11) (evc _ _) (by omega) (by omega)) ?_
          refine dy 2 (fun a w hA hS hd => b_0 rfl m_3 o_7 (hq hd 10) (i := ((k : Int) - 1).toNat) ((hq hd 12).trans (h_4 (by omega))) (hS.sk 1 rfl) (by decide) (by omega)) ?_
          refine dy 2 (fun a w hA hS hd => d_1 rfl l_8 (hq hd 13) (hS.sk 1 rfl) (by rw [((hS.sk 1 rfl)).1]; omega)) ?_
          refine dy 2 (fun a w hA hS hd => b_9 rfl ty_3 (hq hd 14) (hS.sk 1 rfl) (f_8 (by omega))) ?_
          refine ⟨fun a w hA hS hd => by have e2 := hx hd 2; have e8 := hx hd 8; have BS := hx hd 15; exact f_7 rfl rfl e2 (dv (w_8 rfl (b_8 e8) (b_8 BS)) hS (by show Value.bool _ = _; simp only [decide_eq_false BQ, decide_true, decide_false, Bool.not_true, Bool.not_false])), ?_⟩
          refine dy 2 (fun a w hA hS hd => a_1 rfl (hq hd 16)) ?_
          refine dy 17 (fun a w hA hS hd => a_4 rfl h_1 hA.e) ?_
          refine dy 17 (fun a w hA hS hd => a_3 rfl m_2 (hq hd 18) (hS.bk 0 rfl) rfl) ?_
          refine dy 17 (fun a w hA hS hd => a_1 rfl hA.e) ?_
          refine dy 17 (fun a w hA hS hd => b_0 rfl m_3 o_7 (hq hd 19) (i := k) (hq hd 20) (hS.sk 1 rfl) (by decide) (by omega)) ?_
          refine dy 17 (fun a w hA hS hd => d_1 rfl o_4 (hq hd 21) (hS.sk 1 rfl) (by rw [((hS.sk 1 rfl)).1]; omega)) ?_
          refine dy 17 (fun a w hA hS hd => b_9 rfl ty_3 (hq hd 22) (hS.sk 1 rfl) (h_6 (by omega))) ?_
          refine dy 17 (fun a w hA hS hd => a_4 rfl h_1 hA.e) ?_
          refine dy 17 (fun a w hA hS hd => a_3 rfl m_2 (hq hd 24) (hS.bk 0 rfl) rfl) ?_
          refine dy 17 (fun a w hA hS hd => a_1 rfl hA.e) ?_
          refine dy 17 (fun a w hA hS hd => h_9 rfl (hq hd 26) (evc _ _) (by omega) (by omega)) ?_
          refine dy 17 (fun a w hA hS hd => b_0 rfl m_3 o_7 (hq hd 25) (i := ((k : Int) - 1).toNat) ((hq hd 27).trans (h_4 (by omega))) (hS.sk 1 rfl) (by decide) (by omega)) ?_
          refine dy 17 (fun a w hA hS hd => d_1 rfl o_4 (hq hd 28) (hS.sk 1 rfl) (by rw [((hS.sk 1 rfl)).1]; omega)) ?_
          refine dy 17 (fun a w hA hS hd => b_9 rfl ty_3 (hq hd 29) (hS.sk 1 rfl) (h_6 (by omega))) ?_
          refine ⟨fun a w hA hS hd => by have D3 := hx hd 17; have D5 := hx hd 23; have D6 := hx hd 30; exact f_7 rfl rfl D3 (dv (m_4 rfl (b_8 D5) (b_8 D6)) hS (by show Value.bool _ = _; simp only [decide_eq_true Dt, decide_true, decide_false, Bool.not_true, Bool.not_false])), ?_⟩
          refine dy 2 (fun a w hA hS hd => d_0 rfl (hq hd 17) (hq hd 31)) ?_
          refine dy 2 (fun a w hA hS hd => a_1 rfl (hq hd 32)) ?_
          refine dn 33 (dn 33 (dn 33 (dn 33 (dn 33 (dn 33 (dn 33 (dn 33 (dn 33 (dn 33 (dn 33 (dn 33 (dn 33 ?_))))))))))))
          refine dn 33 (dn 33 ?_)
          trivial
         intro E7 Hd CE EP S; clear CD A
         have CF := CE.add (hz S 2); clear CE
         have CG := CF.add (hz S 33); clear CF
         have CH := CG.add (hz S 47); clear CG
         have CI := CH.add (hz S 48); clear CH
         clear S
         refine s3 CI fun E8 Ac => ?_; clear CI E7
         refine s5 Ac (b_6 rfl Ac.e (evc _ _)) fun E9 p => ?_; clear Ac E8
         refine s1 p (b_6 rfl p.e p.e) fun FA Ad => ?_; clear p E9
         refine n1 (b_7 Ad rfl (b_5 ?_))
         have CJ := Ad.as [] rfl; clear Ad
         refine a_5 (s1 CJ (a_0 rfl (evc _ _)) fun HK CK => ?_); clear CJ FA
         refine n1 (c_4 (c_7 (a_6 (a_6 (c_7 (a_6 (a_9 CK (.inl rfl) (a_2 CK rfl (.tmp rfl)) ?_)))))))
         exact ⟨congrArg Value.bool (Eq.symm (by first | exact tab_row (k := k) (by omega) (by unfold rowB; rw [Bool.and_eq_false_iff]; first | exact .inl (by assumption) | exact .inr (by assumption)) | (obtain ⟨i, rfl⟩ := back1 (k := k) (by omega); simp only [pred1] at *; exact x_0 (k := i) (by omega) (by first | exact neq_n (by assumption) | exact t_6 (.inl (by omega)) | exact t_6 (.inr (.inl (by omega))))))), EP.ext⟩
        skip
        have CL := o.as [(6, (iv (k : Int))), (5, (Value.bool (decide (((t.rows.getD 0 (0, 0)).2) < ((t.rows.getD 1 (0, 0)).2))))), (3, (bptr B 0))] rfl; clear o
        refine g_2 mixed CL A 49 [[], [0], [1], [2], [2, 3], [2], [2, 4, 5], [2, 6], [2, 7], [2], [2, 9], [2], [2, 11], [2, 10, 12], [2, 13], [2, 14], [2, 8, 15], [2, 16], [17], [17, 18], [17], [17, 19, 20], [17, 21], [17, 22], [17], [17, 24], [17], [17, 26], [17, 25, 27], [17, 28], [17, 29], [17, 23, 30], [2, 17, 31], [2, 32], [33], [33, 34], [33], [33, 35, 36], [33, 37], [33, 38], [33], [33, 40], [33], [33, 42], [33, 41, 43], [33, 44], [33, 45], [33, 39, 46], [33]] [(Yd.val (iv (k : Int))), (Yd.val (Value.bool true)), (Yd.val (Value.bool true)), (Yd.val (bptr B 2)), (Yd.val vr), (Yd.val (iv (k : Int))), (Yd.val (eptr vr (k * 2))), (Yd.val (eptr vr (k * 2 + 0))), (Yd.val (iv ((t.rows.getD k (0, 0)).1))), (Yd.val (bptr B 2)), (Yd.val vr), (Yd.val (iv (k : Int))), (Yd.val (iv ((k : Int) - 1))), (Yd.val (eptr vr (((k : Int) - 1).toNat * 2))), (Yd.val (eptr vr (((k : Int) - 1).toNat * 2 + 0))), (Yd.val (iv ((t.rows.getD (((k : Int) - 1).toNat) (0, 0)).1))), (Yd.val (Value.bool false)), (Yd.val (Value.bool false)), (Yd.val (bptr B 2)), (Yd.val vr), (Yd.val (iv (k : Int))), (Yd.val (eptr vr (k * 2))), (Yd.val (eptr vr (k * 2 + 1))), (Yd.val (iv ((t.rows.getD k (0, 0)).2))), (Yd.val (bptr B 2)), (Yd.val vr), (Yd.val (iv (k : Int))), (Yd.val (iv ((k : Int) - 1))), (Yd.val (eptr vr (((k : Int) - 1).toNat * 2))), (Yd.val (eptr vr (((k : Int) - 1).toNat * 2 + 1))), (Yd.val (iv ((t.rows.getD (((k : Int) - 1).toNat) (0, 0)).2))), (Yd.val (Value.bool false)), (Yd.val (Value.bool false)), (Yd.val (Value.bool false)), (Yd.val (bptr B 2)), (Yd.val vr), (Yd.val (iv (k : Int))), (Yd.val (eptr vr (k * 2))), (Yd.val (eptr vr (k * 2 + 1))), (Yd.val (iv ((t.rows.getD k (0, 0)).2))), (Yd.val (bptr B 2)), (Yd.val vr), (Yd.val (iv (k : Int))), (Yd.val (iv ((k : Int) - 1))), (Yd.val (eptr vr (((k : Int) - 1).toNat * 2))), (Yd.val (eptr vr (((k : Int) - 1).toNat * 2 + 1))), (Yd.val (iv ((t.rows.getD (((k : Int) - 1).toNat) (0, 0)).2))), (Yd.val (Value.bool (decide (((t.rows.getD (((k : Int) - 1).toNat) (0, 0)).2) < ((t.rows.getD k (0, 0)).2))))), (Yd.val (Value.bool (decide (((t.rows.getD 0 (0, 0)).2) < ((t.rows.getD 1 (0, 0)).2)))))] (by decide +kernel) rfl rfl ?_ ?_
        ·skip
         refine dq (fun a w hA hS hd => a_1 rfl hA.e) ?_
         refine ⟨fun a w hA hS hd => by have e0 := hx hd 0; exact d_4 rfl (dv (i_4 rfl (b_8 e0) (evc _ _)) hS (by show Value.bool _ = _; simp only [decide_eq_true AD, decide_true, decide_false, Bool.not_true, Bool.not_false])), ?_⟩
         refine dq (fun a w hA hS hd => a_1 rfl (hq hd 1)) ?_
         refine dy 2 (fun a w hA hS hd => a_4 rfl h_1 hA.e) ?_
         refine dy 2 (fun a w hA hS hd => a_3 rfl m_2 (hq hd 3) (hS.bk 0 rfl) rfl) ?_
         refine dy 2 (fun a w hA hS hd => a_1 rfl hA.e) ?_
         refine dy 2 (fun a w hA hS hd => b_0 rfl m_3 o_7 (hq hd 4) (i := k) (hq hd 5) (hS.sk 1 rfl) (by decide) (by omega)) ?_
         refine dy 2 (fun a w hA hS hd => d_1 rfl l_8 (hq hd 6) (hS.sk 1 rfl) (by rw [((hS.sk 1 rfl)).1]; omega)) ?_
         refine dy 2 (fun a w hA hS hd => b_9 rfl ty_3 (hq hd 7) (hS.sk 1 rfl) (f_8 (by omega))) ?_
         refine dy 2 (fun a w hA hS hd => a_4 rfl h_1 hA.e) ?_
         refine dy 2 (fun a w hA hS hd => a_3 rfl m_2 (hq hd 9) (hS.bk 0 rfl) rfl) ?_
         refine dy 2 (fun a w hA hS hd => a_1 rfl hA.e) ?_
         refine dy 2 (fun a w hA hS hd => h_9 rfl (hq hd 11) (evc _ _) (by omega) (by omega)) ?_
         refine dy 2 (fun a w hA hS hd => b_0 rfl m_3 o_7 (hq hd 10) (i := ((k : Int) - 1).toNat) ((hq hd 12).trans (h_4 (by omega))) (hS.sk 1 rfl) (by decide) (by omega)) ?_
         refine dy 2 (fun a w hA hS hd => d_1 rfl l_8 (hq hd 13) (hS.sk 1 rfl) (by rw [((hS.sk 1 rfl)).1]; omega)) ?_
         refine dy 2 (fun a w hA hS hd => b_9 rfl ty_3 (hq hd 14) (hS.sk 1 rfl) (f_8 (by omega))) ?_
         refine ⟨fun a w hA hS hd => by have e2 := hx hd 2; have e8 := hx hd 8; have BS := hx hd 15; exact f_7 rfl rfl e2 (dv (w_8 rfl (b_8 e8) (b_8 BS)) hS (by show Value.bool _ = _; simp only [decide_eq_false BQ, decide_true, decide_false, Bool.not_true, Bool.not_false])), ?_⟩
         refine dy 2 (fun a w hA hS hd => a_1 rfl (hq hd 16)) ?_
         refine dy 17 (fun a w hA hS hd => a_4 rfl h_1 hA.e) ?_
         refine dy 17 (fun a w hA hS hd => a_3 rfl m_2 (hq hd 18) (hS.bk 0 rfl) rfl) ?_
         refine dy 17 (fun a w hA hS hd => a_1 rfl hA.e) ?_
         refine dy 17 (fun a w hA hS hd => b_0 rfl m_3 o_7 (hq hd 19) (i := k) (hq hd 20) (hS.sk 1 rfl) (by decide) (by omega)) ?_
         refine dy 17 (fun a w hA hS hd => d_1 rfl o_4 (hq hd 21) (hS.sk 1 rfl) (by rw [((hS.sk 1 rfl)).1]; omega)) ?_
         refine dy 17 (fun a w hA hS hd => b_9 rfl ty_3 (hq hd 22) (hS.sk 1 rfl) (h_6 (by omega))) ?_
         refine dy 17 (fun a w hA hS hd => a_4 rfl h_1 hA.e) ?_
         refine dy 17 (fun a w hA hS hd => a_3 rfl m_2 (hq hd 24) (hS.bk 0 rfl) rfl) ?_
         refine dy 17 (fun a w hA hS hd => a_1 rfl hA.e) ?_
         refine dy 17 (fun a w hA hS hd => h_9 rfl (hq hd 26) (evc _ _) (by omega) (by omega)) ?_
         refine dy 17 (fun a w hA hS hd => b_0 rfl m_3 o_7 (hq hd 25) (i := ((k : Int) - 1).toNat) ((hq hd 27).trans (h_4 (by omega))) (hS.sk 1 rfl) (by decide) (by omega)) ?_
         refine dy 17 (fun a w hA hS hd => d_1 rfl o_4 (hq hd 28) (hS.sk 1 rfl) (by rw [((hS.sk 1 rfl)).1]; omega)) ?_
         refine dy 17 (fun a w hA hS hd => b_9 rfl ty_3 (hq hd 29) (hS.sk 1 rfl) (h_6 (by omega))) ?_
         refine ⟨fun a w hA hS hd => by have D3 := hx hd 17; have D5 := hx hd 23; have D6 := hx hd 30; exact f_7 rfl rfl D3 (dv (m_4 rfl (b_8 D5) (b_8 D6)) hS (by show Value.bool _ = _; simp only [decide_eq_false Dt, decide_true, decide_false, Bool.not_true, Bool.not_false])), ?_⟩
         refine dy 2 (fun a w hA hS hd => d_0 rfl (hq hd 17) (hq hd 31)) ?_
         refine dy 2 (fun a w hA hS hd => a_1 rfl (hq hd 32)) ?_
         refine dy 33 (fun a w hA hS hd => a_4 rfl h_1 hA.e) ?_
         refine dy 33 (fun a w hA hS hd => a_3 rfl m_2 (hq hd 34) (hS.bk 0 rfl) rfl) ?_
         refine dy 33 (fun a w hA hS hd => a_1 rfl hA.e) ?_
         refine dy 33 (fun a w hA hS hd => b_0 rfl m_3 o_7 (hq hd 35) (i := k) (hq hd 36) (hS.sk 1 rfl) (by decide) (by omega)) ?_
         refine dy 33 (fun a w hA hS hd => d_1 rfl o_4 (hq hd 37) (hS.sk 1 rfl) (by rw [((hS.sk 1 rfl)).1]; omega)) ?_
         refine dy 33 (fun a w hA hS hd => b_9 rfl ty_3 (hq hd 38) (hS.sk 1 rfl) (h_6 (by omega))) ?_
         refine dy 33 (fun a w hA hS hd => a_4 rfl h_1 hA.e) ?_
         refine dy 33 (fun a w hA hS hd => a_3 rfl m_2 (hq hd 40) (hS.bk 0 rfl) rfl) ?_
         refine dy 33 (fun a w hA hS hd => a_1 rfl hA.e) ?_
         refine dy 33 (fun a w hA hS hd => h_9 rfl (hq hd 42) (evc _ _) (by omega) (by omega)) ?_
         refine dy 33 (fun a w hA hS hd => b_0 rfl m_3 o_7 (hq hd 41) (i := ((k : Int) - 1).toNat) ((hq hd 43).trans (h_4 (by omega))) (hS.sk 1 rfl) (by decide) (by omega)) ?_
         refine dy 33 (fun a w hA hS hd => d_1 rfl o_4 (hq hd 44) (hS.sk 1 rfl) (by rw [((hS.sk 1 rfl)).1]; omega)) ?_
         refine dy 33 (fun a w hA hS hd => b_9 rfl ty_3 (hq hd 45) (hS.sk 1 rfl) (h_6 (by omega))) ?_
         refine dy 33 (fun a w hA hS hd => i_4 rfl (hq hd 39) (hq hd 46)) ?_
         refine dy 33 (fun a w hA hS hd => a_1 rfl hA.e) ?_
         trivial
        intro FB He CM Dp T; clear CL A
        have CN := CM.add (hz T 2); clear CM
        have CO := CN.add (hz T 33); clear CN
        have CP := CO.add (hz T 47); clear CO
        have q := CP.add (hz T 48); clear CP
        clear T
        refine s5 q (op_neqB un_4 rfl q.e q.e) fun FC r => ?_; clear q FB
        refine s5 r (d_0 rfl r.e r.e) fun FD s => ?_; clear r FC
        refine s1 s (b_6 rfl s.e s.e) fun Dz I => ?_; clear s FD
        refine n1 ?_
        rcases Bool.eq_false_or_eq_true ((decide (((t.rows.getD (((k : Int) - 1).toNat) (0, 0)).2) < ((t.rows.getD k (0, 0)).2))) == (decide (((t.rows.getD 0 (0, 0)).2) < ((t.rows.getD 1 (0, 0)).2)))) with BR | BR
        ·skip
         rw [BR] at I
         refine b_4 I rfl (c_6 (g_6 (a_7 ?_)))
         have Ae := I.as [(6, (iv (k : Int))), (5, (Value.bool (decide (((t.rows.getD 0 (0, 0)).2) < ((t.rows.getD 1 (0, 0)).2))))), (3, (bptr B 0))] rfl; clear I
         refine a_5 (s1 Ae (a_1 rfl Ae.e) fun FE Af => ?_); clear Ae Dz
         refine s1 Af (f_0 rfl Af.e (evc _ _) (by omega) (by omega)) fun FF Ag => ?_; clear Af FE
         refine s1 Ag (a_0 rfl Ag.e) fun HL EK => ?_; clear Ag FF
         refine e_2 ?_
         exact a_7 ⟨k + 1, ⟨EK.as _ rfl, Dp, by omega, (fun i hi => by rcases Nat.lt_succ_iff_lt_or_eq.1 hi with h | h; exact hrw i h; subst h; (unfold rowB; rw [Bool.and_eq_true]; exact ⟨by assumption, by assumption⟩)), (fun i hi => by rcases Nat.lt_succ_iff_lt_or_eq.1 hi with h | h; exact hst i h; subst h; first | (exfalso; omega) | (simp only [pred1] at *; exact neq_y (by omega) (by omega) (by assumption)))⟩, by omega⟩
        skip
        rw [BR] at I
        refine b_7 I rfl (b_5 ?_)
        have CQ := I.as [] rfl; clear I
        refine a_5 (s1 CQ (a_0 rfl (evc _ _)) fun HM CR => ?_); clear CQ Dz
        refine n1 (c_4 (c_7 (a_6 (a_6 (c_7 (a_6 (a_9 CR (.inl rfl) (a_2 CR rfl (.tmp rfl)) ?_)))))))
        exact ⟨congrArg Value.bool (Eq.symm (by first | exact tab_row (k := k) (by omega) (by unfold rowB; rw [Bool.and_eq_false_iff]; first | exact .inl (by assumption) | exact .inr (by assumption)) | (obtain ⟨i, rfl⟩ := back1 (k := k) (by omega); simp only [pred1] at *; exact x_0 (k := i) (by omega) (by first | exact neq_n (by assumption) | exact t_6 (.inl (by omega)) | exact t_6 (.inr (.inl (by omega))))))), Dp.ext⟩
       skip
       have CS := g.as [(6, (iv (k : Int))), (5, (Value.bool (decide (((t.rows.getD 0 (0, 0)).2) < ((t.rows.getD 1 (0, 0)).2))))), (3, (bptr B 0))] rfl; clear g
       refine g_2 mixed CS A 49 [[], [0], [1], [2], [2, 3], [2], [2, 4, 5], [2, 6], [2, 7], [2], [2, 9], [2], [2, 11], [2, 10, 12], [2, 13], [2, 14], [2, 8, 15], [2, 16], [17], [17, 18], [17], [17, 19, 20], [17, 21], [17, 22], [17], [17, 24], [17], [17, 26], [17, 25, 27], [17, 28], [17, 29], [17, 23, 30], [2, 17, 31], [2, 32], [33], [33, 34], [33], [33, 35, 36], [33, 37], [33, 38], [33], [33, 40], [33], [33, 42], [33, 41, 43], [33, 44], [33, 45], [33, 39, 46], [33]] [(Yd.val (iv (k : Int))), (Yd.val (Value.bool false)), (Yd.val (Value.bool false)), (Yd.val undef), (Yd.val undef), (Yd.val undef), (Yd.val undef), (Yd.val undef), (Yd.val undef), (Yd.val undef), (Yd.val undef), (Yd.val undef), (Yd.val undef), (Yd.val undef), (Yd.val undef), (Yd.val undef), (Yd.val undef), (Yd.val undef), (Yd.val undef), (Yd.val undef), (Yd.val undef), (Yd.val undef), (Yd.val undef), (Yd.val undef), (Yd.val undef), (Yd.val undef), (Yd.val undef), (Yd.val undef), (Yd.val undef), (Yd.val undef), (Yd.val undef), (Yd.val undef), (Yd.val undef), (Yd.val undef), (Yd.val undef), (Yd.val undef), (Yd.val undef), (Yd.val undef), (Yd.val undef), (Yd.val undef), (Yd.val undef), (Yd.val undef), (Yd.val undef), (Yd.val undef), (Yd.val undef), (Yd.val undef), (Yd.val undef), (Yd.val undef), (Yd.val undef)] (by decide +kernel) rfl rfl ?_ ?_
       ·skip
        refine dq (fun a w hA hS hd => a_1 rfl hA.e) ?_
        refine ⟨fun a w hA hS hd => by have e0 := hx hd 0; exact d_4 rfl (dv (i_4 rfl (b_8 e0) (evc _ _)) hS (by show Value.bool _ = _; simp only [decide_eq_false AD, decide_true, decide_false, Bool.not_true, Bool.not_false])), ?_⟩
        refine dq (fun a w hA hS hd => a_1 rfl (hq hd 1)) ?_
        refine dn 2 (dn 2 (dn 2 (dn 2 (dn 2 (dn 2 (dn 2 (dn 2 (dn 2 (dn 2 (dn 2 (dn 2 (dn 2 ?_))))))))))))
        refine dn 2 (dn 2 (du 17 (du 17 (du 17 (du 17 (du 17 (du 17 (du 17 (du 17 (du 17 (du 17 (du 17 ?_))))))))))))
        refine du 17 (du 17 (du 17 (dn 2 (dn 2 (du 33 (du 33 (du 33 (du 33 (du 33 (du 33 (du 33 (du 33 ?_))))))))))))
        refine du 33 (du 33 (du 33 (du 33 (du 33 (du 33 (du 33 ?_))))))
        trivial
       intro FG Hf CT EQ U; clear CS A
       have CU := CT.add (hz U 2); clear CT
       have CV := CU.add (hz U 33); clear CU
       have CW := CV.add (hz U 47); clear CV
       have CX := CW.add (hz U 48); clear CW
       clear U
       refine s4 CX fun FH CY => ?_; clear CX FG
       refine s3 CY fun FI Ah => ?_; clear CY FH
       refine s1 Ah (d_0 rfl Ah.e (evc _ _)) fun FJ Ai => ?_; clear Ah FI
       refine n1 (b_4 Ai rfl (c_6 (g_6 (a_7 ?_))))
       have Aj := Ai.as [(6, (iv (k : Int))), (5, (Value.bool (decide (((t.rows.getD 0 (0, 0)).2) < ((t.rows.getD 1 (0, 0)).2))))), (3, (bptr B 0))] rfl; clear Ai
       refine a_5 (s1 Aj (a_1 rfl Aj.e) fun FK Ak => ?_); clear Aj FJ
       refine s1 Ak (f_0 rfl Ak.e (evc _ _) (by omega) (by omega)) fun FL Al => ?_; clear Ak FK
       refine s1 Al (a_0 rfl Al.e) fun HN EL => ?_; clear Al FL
       refine e_2 ?_
       exact a_7 ⟨k + 1, ⟨EL.as _ rfl, EQ, by omega, (fun i hi => by rcases Nat.lt_succ_iff_lt_or_eq.1 hi with h | h; exact hrw i h; subst h; (unfold rowB; rw [Bool.and_eq_true]; exact ⟨by assumption, by assumption⟩)), (fun i hi => by rcases Nat.lt_succ_iff_lt_or_eq.1 hi with h | h; exact hst i h; subst h; first | (exfalso; omega) | (simp only [pred1] at *; exact neq_y (by omega) (by omega) (by assumption)))⟩, by omega⟩
      skip
      rw [BP] at H
      refine b_7 H rfl (b_5 ?_)
      have CZ := H.as [] rfl; clear H
      refine a_5 (s1 CZ (a_0 rfl (evc _ _)) fun HO Ca => ?_); clear CZ E2
      refine n1 (c_4 (a_6 (c_7 (a_6 (a_6 (c_7 (a_6 (a_9 Ca (.inl rfl) (a_2 Ca rfl (.tmp rfl)) ?_))))))))
      exact ⟨congrArg Value.bool (Eq.symm (by first | exact tab_row (k := k) (by omega) (by unfold rowB; rw [Bool.and_eq_false_iff]; first | exact .inl (by assumption) | exact .inr (by assumption)) | (obtain ⟨i, rfl⟩ := back1 (k := k) (by omega); simp only [pred1] at *; exact x_0 (k := i) (by omega) (by first | exact neq_n (by assumption) | exact t_6 (.inl (by omega)) | exact t_6 (.inr (.inl (by omega))))))), A.ext⟩
     skip
     rw [BO] at M
     refine s3 M fun FM Cb => ?_; clear M Dy
     refine s3 Cb fun FN Cc => ?_; clear Cb FM
     refine s3 Cc fun FO Cd => ?_; clear Cc FN
     refine s3 Cd fun FP Ce => ?_; clear Cd FO
     refine s3 Ce fun FQ Cf => ?_; clear Ce FP
     refine s3 Cf fun FSa Cg => ?_; clear Cf FQ
     refine s3 Cg fun FT Ch => ?_; clear Cg FSa
     refine s3 Ch fun FU Am => ?_; clear Ch FT
     refine s1 Am (b_6 rfl Am.e (evc _ _)) fun FV An => ?_; clear Am FU
     refine n1 (b_7 An rfl (b_5 ?_))
     have Ci := An.as [] rfl; clear An
     refine a_5 (s1 Ci (a_0 rfl (evc _ _)) fun HP Cj => ?_); clear Ci FV
     refine n1 (c_4 (a_6 (c_7 (a_6 (a_6 (c_7 (a_6 (a_9 Cj (.inl rfl) (a_2 Cj rfl (.tmp rfl)) ?_))))))))
     exact ⟨congrArg Value.bool (Eq.symm (by first | exact tab_row (k := k) (by omega) (by unfold rowB; rw [Bool.and_eq_false_iff]; first | exact .inl (by assumption) | exact .inr (by assumption)) | (obtain ⟨i, rfl⟩ := back1 (k := k) (by omega); simp only [pred1] at *; exact x_0 (k := i) (by omega) (by first | exact neq_n (by assumption) | exact t_6 (.inl (by omega)) | exact t_6 (.inr (.inl (by omega))))))), A.ext⟩
    skip
    rw [decide_eq_false Ds] at D
    refine b_4 D rfl (g_3 (b_1 (b_1 (f_1 (a_7 (b_5 (b_5 ?_)))))))
    have Ck := D.as [(3, (bptr B 0))] rfl; clear D
    refine a_5 (s1 Ck (a_0 rfl (evc _ _)) fun FW Cl => ?_); clear Ck Dx
    refine n1 (c_2 ?_)
    have Cm := Cl.as [(7, (iv 0)), (3, (bptr B 0))] rfl; clear Cl
    refine g_7 (G := Nat) (fun (C : Nat) a_ w_ => Fr 165 [] [(7, (iv (C : Int))), (3, (bptr B 0))] a_ ∧ Sep NoB w w_ [(blk B 46 [(iv t.frm), (iv t.dst), vr, vb, (iv t.err)]), (sl vr 2 t.rows.length (pairs t.rows)), (sl vb 1 t.brk.length (ints t.brk))] ∧ (C ≤ t.brk.length) ∧ (∀ i, i < C → 0 ≤ t.brk.getD i 0) ∧ (∀ i, i < C → brkB t i = true)) (fun C => t.brk.length - C) 0 ⟨Cm.as _ rfl, A, by omega, (fun _ h => absurd h (Nat.not_lt_zero _)), (fun _ h => absurd h (Nat.not_lt_zero _))⟩ ?_
    clear Cm A FW
    rintro C FX Hg ⟨Ap, E, hkk1, hbk0, hbk⟩
    refine b_5 (m2 (s1 Ap (a_1 rfl Ap.e) fun FY Aq => ?_)); clear Ap FX
    refine s1 Aq (a_4 rfl x_6 Aq.e) fun FZ Ar => ?_; clear Aq FY
    refine s1 Ar (a_3 rfl ab_1 Ar.e (E.bk 0 rfl) rfl) fun Fa As => ?_; clear Ar FZ
    refine s1 As (c_9 rfl j_3 As.e (E.sk 2 rfl)) fun Fb u => ?_; clear As Fa
    refine s1 u (f_5 rfl u.e u.e) fun Fc J => ?_; clear u Fb
    refine n1 ?_
    by_cases Du : (C : Int) < (t.brk.length : Int)
    ·skip
     rw [decide_eq_true Du] at J
     refine b_7 J rfl (c_6 (a_7 (b_5 (c_2 (b_5 ?_)))))
     have x := J.as [(7, (iv (C : Int))), (3, (bptr B 0))] rfl; clear J
     rcases Bool.eq_false_or_eq_true ((inB (t.brk.getD C 0) 0 ((t.rows.length : Int) - 2))) with AE | AE
     ·skip
      have y := x.as [(7, (iv (C : Int))), (3, (bptr B 0))] rfl; clear x
      by_cases Dv : 0 < (C : Int)
      ·skip
       have Cn := y.as [(7, (iv (C : Int))), (3, (bptr B 0))] rfl; clear y
       refine g_2 mixed Cn E 26 [[], [0], [], [1, 2], [3], [], [5], [6], [7], [4, 8], [9], [10], [11], [11, 12], [11, 13], [14], [14, 15], [14], [14, 16, 17], [14, 18], [14], [14, 20], [14], [14, 22], [14, 21, 23], [14, 24]] [(Yd.val (bptr B 3)), (Yd.val vb), (Yd.val (iv (C : Int))), (Yd.val (eptr vb (C * 1))), (Yd.val (iv (t.brk.getD C 0))), (Yd.val (bptr B 2)), (Yd.val vr), (Yd.val (iv (t.rows.length : Int))), (Yd.val (iv ((t.rows.length : Int) - 2))), (Yd.val (Value.bool true)), (Yd.val (Value.bool (!true))), (Yd.val (Value.bool (!true))), (Yd.val (iv (C : Int))), (Yd.val (Value.bool true)), (Yd.val (Value.bool true)), (Yd.val (bptr B 3)), (Yd.val vb), (Yd.val (iv (C : Int))), (Yd.val (eptr vb (C * 1))), (Yd.val (iv (t.brk.getD C 0))), (Yd.val (bptr B 3)), (Yd.val vb), (Yd.val (iv (C : Int))), (Yd.val (iv ((C : Int) - 1))), (Yd.val (eptr vb (((C : Int) - 1).toNat * 1))), (Yd.val (iv (t.brk.getD (((C : Int) - 1).toNat) 0)))] (by decide +kernel) rfl rfl ?_ ?_
       ·skip
        refine dq (fun a w hA hS hd => a_4 rfl x_6 hA.e) ?_
        refine dq (fun a w hA hS hd => a_3 rfl ab_1 (hq hd 0) (hS.bk 0 rfl) rfl) ?_
        refine dq (fun a w hA hS hd => a_1 rfl hA.e) ?_
        refine dq (fun a w hA hS hd => b_0 rfl j_3 ty_3 (hq hd 1) (i := C) (hq hd 2) (hS.sk 2 rfl) (by decide) (by omega)) ?_
        refine dq (fun a w hA hS hd => b_9 rfl ty_3 (hq hd 3) (hS.sk 2 rfl) (ints_at (by omega))) ?_
        refine dq (fun a w hA hS hd => a_4 rfl h_1 hA.e) ?_
        refine dq (fun a w hA hS hd => a_3 rfl m_2 (hq hd 5) (hS.bk 0 rfl) rfl) ?_
        refine dq (fun a w hA hS hd => c_9 rfl m_3 (hq hd 6) (hS.sk 1 rfl)) ?_
        refine dq (fun a w hA hS hd => h_9 rfl (hq hd 7) (evc _ _) (by omega) (by omega)) ?_
        refine ⟨fun a w hA hS hd => by have e4 := hx hd 4; have e8 := hx hd 8; exact d_4 rfl (dv (b_3 rfl ad_0 (ev3 (b_8 e4) (evc _ _) (b_8 e8)) (ac_9 _ _ _ _)) hS (by show Value.bool _ = _; simp only [AE, decide_true, decide_false, Bool.not_true, Bool.not_false])), ?_⟩
        refine dq (fun a w hA hS hd => g_0 rfl (hq hd 9)) ?_
        refine dq (fun a w hA hS hd => a_1 rfl (hq hd 10)) ?_
        refine dy 11 (fun a w hA hS hd => a_1 rfl hA.e) ?_
        refine ⟨fun a w hA hS hd => by have D1 := hx hd 11; have D2 := hx hd 12; exact f_7 rfl rfl D1 (dv (i_4 rfl (b_8 D2) (evc _ _)) hS (by show Value.bool _ = _; simp only [decide_eq_true Dv, decide_true, decide_false, Bool.not_true, Bool.not_false])), ?_⟩
        refine dy 11 (fun a w hA hS hd => a_1 rfl (hq hd 13)) ?_
        refine dy 14 (fun a w hA hS hd => a_4 rfl x_6 hA.e) ?_
        refine dy 14 (fun a w hA hS hd => a_3 rfl ab_1 (hq hd 15) (hS.bk 0 rfl) rfl) ?_
        refine dy 14 (fun a w hA hS hd => a_1 rfl hA.e) ?_
        refine dy 14 (fun a w hA hS hd => b_0 rfl j_3 ty_3 (hq hd 16) (i := C) (hq hd 17) (hS.sk 2 rfl) (by decide) (by omega)) ?_
        refine dy 14 (fun a w hA hS hd => b_9 rfl ty_3 (hq hd 18) (hS.sk 2 rfl) (ints_at (by omega))) ?_
        refine dy 14 (fun a w hA hS hd => a_4 rfl x_6 hA.e) ?_
        refine dy 14 (fun a w hA hS hd => a_3 rfl ab_1 (hq hd 20) (hS.bk 0 rfl) rfl) ?_
        refine dy 14 (fun a w hA hS hd => a_1 rfl hA.e) ?_
        refine dy 14 (fun a w hA hS hd => h_9 rfl (hq hd 22) (evc _ _) (by omega) (by omega)) ?_
        refine dy 14 (fun a w hA hS hd => b_0 rfl j_3 ty_3 (hq hd 21) (i := ((C : Int) - 1).toNat) ((hq hd 23).trans (h_4 (by omega))) (hS.sk 2 rfl) (by decide) (by omega)) ?_
        refine dy 14 (fun a w hA hS hd => b_9 rfl ty_3 (hq hd 24) (hS.sk 2 rfl) (ints_at (by omega))) ?_
        trivial
       intro Fd Hh Co Dq V; clear Cn E
       have Cp := Co.add (hz V 11); clear Co
       have Cq := Cp.add (hz V 14); clear Cp
       have Cr := Cq.add (hz V 19); clear Cq
       have z := Cr.add (hz V 25); clear Cr
       clear V
       refine s5 z (w_8 rfl z.e z.e) fun Fe AA => ?_; clear z Fd
       refine s5 AA (b_6 rfl AA.e AA.e) fun Ff AB => ?_; clear AA Fe
       refine s1 AB (d_0 rfl AB.e AB.e) fun D0 K => ?_; clear AB Ff
       refine n1 ?_
       by_cases Dw : (t.brk.getD C 0) ≤ (t.brk.getD (((C : Int) - 1).toNat) 0)
       ·skip
        rw [decide_eq_true Dw] at K
        refine b_7 K rfl (b_5 ?_)
        have Cs := K.as [] rfl; clear K
        refine a_5 (s1 Cs (a_0 rfl (evc _ _)) fun HQ Ct => ?_); clear Cs D0
        refine n1 (c_4 (c_7 (a_6 (a_6 (c_7 (a_6 (a_9 Ct (.inl rfl) (a_2 Ct rfl (.tmp rfl)) ?_)))))))
        exact ⟨congrArg Value.bool (Eq.symm (by first | exact tab_brk (k := C) (by omega) (brk_n (fun j hj => hbk0 j hj) (by assumption)) | (obtain ⟨j, rfl⟩ := back1 (k := C) (by omega); simp only [pred1] at *; exact tab_brk (k := j + 1) (by omega) (brk_n1 (by omega))))), Dq.ext⟩
       skip
       rw [decide_eq_false Dw] at K
       refine b_4 K rfl (c_6 (g_6 (a_7 ?_)))
       have At := K.as [(7, (iv (C : Int))), (3, (bptr B 0))] rfl; clear K
       refine a_5 (s1 At (a_1 rfl At.e) fun Fg Au => ?_); clear At D0
       refine s1 Au (f_0 rfl Au.e (evc _ _) (by omega) (by omega)) fun Fh Av => ?_; clear Au Fg
       refine s1 Av (a_0 rfl Av.e) fun HR EM => ?_; clear Av Fh
       refine e_2 ?_
       exact a_7 ⟨C + 1, ⟨EM.as _ rfl, Dq, by omega, (fun i hi => by rcases Nat.lt_succ_iff_lt_or_eq.1 hi with h | h; exact hbk0 i h; subst h; (have hz_ := k_3.1 (by assumption : inB (t.brk.getD i 0) 0 ((t.rows.length : Int) - 2) = true); omega)), (fun i hi => by rcases Nat.lt_succ_iff_lt_or_eq.1 hi with h | h; exact hbk i h; subst h; (cases i with | zero => exact brk_y0 (by assumption) | succ j => have e5_ : ((((j + 1 : Nat) : Int)) - 1).toNat = j := (by omega); have e6_ : t.brk.getD (((j + 1 : Nat) : Int) - 1).toNat 0 = t.brk.getD j 0 := (by rw [e5_]); exact brk_y1 (by assumption) (by omega)))⟩, by omega⟩
      skip
      have Cu := y.as [(7, (iv (C : Int))), (3, (bptr B 0))] rfl; clear y
      refine g_2 mixed Cu E 26 [[], [0], [], [1, 2], [3], [], [5], [6], [7], [4, 8], [9], [10], [11], [11, 12], [11, 13], [14], [14, 15], [14], [14, 16, 17], [14, 18], [14], [14, 20], [14], [14, 22], [14, 21, 23], [14, 24]] [(Yd.val (bptr B 3)), (Yd.val vb), (Yd.val (iv (C : Int))), (Yd.val (eptr vb (C * 1))), (Yd.val (iv (t.brk.getD C 0))), (Yd.val (bptr B 2)), (Yd.val vr), (Yd.val (iv (t.rows.length : Int))), (Yd.val (iv ((t.rows.length : Int) - 2))), (Yd.val (Value.bool true)), (Yd.val (Value.bool (!true))), (Yd.val (Value.bool (!true))), (Yd.val (iv (C : Int))), (Yd.val (Value.bool false)), (Yd.val (Value.bool false)), (Yd.val undef), (Yd.val undef), (Yd.val undef), (Yd.val undef), (Yd.val undef), (Yd.val undef), (Yd.val undef), (Yd.val undef), (Yd.val undef), (Yd.val undef), (Yd.val undef)] (by decide +kernel) rfl rfl ?_ ?_
      ·skip
       refine dq (fun a w hA hS hd => a_4 rfl x_6 hA.e) ?_
       refine dq (fun a w hA hS hd => a_3 rfl ab_1 (hq hd 0) (hS.bk 0 rfl) rfl) ?_
       refine dq (fun a w hA hS hd => a_1 rfl hA.e) ?_
       refine dq (fun a w hA hS hd => b_0 rfl j_3 ty_3 (hq hd 1) (i := C) (hq hd 2) (hS.sk 2 rfl) (by decide) (by omega)) ?_
       refine dq (fun a w hA hS hd => b_9 rfl ty_3 (hq hd 3) (hS.sk 2 rfl) (ints_at (by omega))) ?_
       refine dq (fun a w hA hS hd => a_4 rfl h_1 hA.e) ?_
       refine dq (fun a w hA hS hd => a_3 rfl m_2 (hq hd 5) (hS.bk 0 rfl) rfl) ?_
       refine dq (fun a w hA hS hd => c_9 rfl m_3 (hq hd 6) (hS.sk 1 rfl)) ?_
       refine dq (fun a w hA hS hd => h_9 rfl (hq hd 7) (evc _ _) (by omega) (by omega)) ?_
       refine ⟨fun a w hA hS hd => by have e4 := hx hd 4; have e8 := hx hd 8; exact d_4 rfl (dv (b_3 rfl ad_0 (ev3 (b_8 e4) (evc _ _) (b_8 e8)) (ac_9 _ _ _ _)) hS (by show Value.bool _ = _; simp only [AE, decide_true, decide_false, Bool.not_true, Bool.not_false])), ?_⟩
       refine dq (fun a w hA hS hd => g_0 rfl (hq hd 9)) ?_
       refine dq (fun a w hA hS hd => a_1 rfl (hq hd 10)) ?_
       refine dy 11 (fun a w hA hS hd => a_1 rfl hA.e) ?_
       refine ⟨fun a w hA hS hd => by have D1 := hx hd 11; have D2 := hx hd 12; exact f_7 rfl rfl D1 (dv (i_4 rfl (b_8 D2) (evc _ _)) hS (by show Value.bool _ = _; simp only [decide_eq_false Dv, decide_true, decide_false, Bool.not_true, Bool.not_false])), ?_⟩
       refine dy 11 (fun a w hA hS hd => a_1 rfl (hq hd 13)) ?_
       refine dn 14 (dn 14 (dn 14 (dn 14 (dn 14 (dn 14 (dn 14 (dn 14 (dn 14 (dn 14 (dn 14 ?_))))))))))
       trivial
      intro Fi Hi Cv ER W; clear Cu E
      have Cw := Cv.add (hz W 11); clear Cv
      have Cx := Cw.add (hz W 14); clear Cw
      have Cy := Cx.add (hz W 19); clear Cx
      have Cz := Cy.add (hz W 25); clear Cy
      clear W
      refine s3 Cz fun Fj Ax => ?_; clear Cz Fi
      refine s5 Ax (d_0 rfl Ax.e (evc _ _)) fun Fk AC => ?_; clear Ax Fj
      refine s1 AC (d_0 rfl AC.e AC.e) fun Fl Ay => ?_; clear AC Fk
      refine n1 (b_4 Ay rfl (c_6 (g_6 (a_7 ?_))))
      have Az := Ay.as [(7, (iv (C : Int))), (3, (bptr B 0))] rfl; clear Ay
      refine a_5 (s1 Az (a_1 rfl Az.e) fun Fm A0 => ?_); clear Az Fl
      refine s1 A0 (f_0 rfl A0.e (evc _ _) (by omega) (by omega)) fun Fn A1 => ?_; clear A0 Fm
      refine s1 A1 (a_0 rfl A1.e) fun HS EN => ?_; clear A1 Fn
      refine e_2 ?_
      exact a_7 ⟨C + 1, ⟨EN.as _ rfl, ER, by omega, (fun i hi => by rcases Nat.lt_succ_iff_lt_or_eq.1 hi with h | h; exact hbk0 i h; subst h; (have hz_ := k_3.1 (by assumption : inB (t.brk.getD i 0) 0 ((t.rows.length : Int) - 2) = true); omega)), (fun i hi => by rcases Nat.lt_succ_iff_lt_or_eq.1 hi with h | h; exact hbk i h; subst h; (cases i with | zero => exact brk_y0 (by assumption) | succ j => have e5_ : ((((j + 1 : Nat) : Int)) - 1).toNat = j := (by omega); have e6_ : t.brk.getD (((j + 1 : Nat) : Int) - 1).toNat 0 = t.brk.getD j 0 := (by rw [e5_]); exact brk_y1 (by assumption) (by omega)))⟩, by omega⟩
     skip
     have C0 := x.as [(7, (iv (C : Int))), (3, (bptr B 0))] rfl; clear x
     refine g_2 mixed C0 E 26 [[], [0], [], [1, 2], [3], [], [5], [6], [7], [4, 8], [9], [10], [11], [11, 12], [11, 13], [14], [14, 15], [14], [14, 16, 17], [14, 18], [14], [14, 20], [14], [14, 22], [14, 21, 23], [14, 24]] [(Yd.val (bptr B 3)), (Yd.val vb), (Yd.val (iv (C : Int))), (Yd.val (eptr vb (C * 1))), (Yd.val (iv (t.brk.getD C 0))), (Yd.val (bptr B 2)), (Yd.val vr), (Yd.val (iv (t.rows.length : Int))), (Yd.val (iv ((t.rows.length : Int) - 2))), (Yd.val (Value.bool false)), (Yd.val (Value.bool (!false))), (Yd.val (Value.bool (!false))), (Yd.val undef), (Yd.val undef), (Yd.val undef), (Yd.val undef), (Yd.val undef), (Yd.val undef), (Yd.val undef), (Yd.val undef), (Yd.val undef), (Yd.val undef), (Yd.val undef), (Yd.val undef), (Yd.val undef), (Yd.val undef)] (by decide +kernel) rfl rfl ?_ ?_
     ·skip
      refine dq (fun a w hA hS hd => a_4 rfl x_6 hA.e) ?_
      refine dq (fun a w hA hS hd => a_3 rfl ab_1 (hq hd 0) (hS.bk 0 rfl) rfl) ?_
      refine dq (fun a w hA hS hd => a_1 rfl hA.e) ?_
      refine dq (fun a w hA hS hd => b_0 rfl j_3 ty_3 (hq hd 1) (i := C) (hq hd 2) (hS.sk 2 rfl) (by decide) (by omega)) ?_
      refine dq (fun a w hA hS hd => b_9 rfl ty_3 (hq hd 3) (hS.sk 2 rfl) (ints_at (by omega))) ?_
      refine dq (fun a w hA hS hd => a_4 rfl h_1 hA.e) ?_
      refine dq (fun a w hA hS hd => a_3 rfl m_2 (hq hd 5) (hS.bk 0 rfl) rfl) ?_
      refine dq (fun a w hA hS hd => c_9 rfl m_3 (hq hd 6) (hS.sk 1 rfl)) ?_
      refine dq (fun a w hA hS hd => h_9 rfl (hq hd 7) (evc _ _) (by omega) (by omega)) ?_
      refine ⟨fun a w hA hS hd => by have e4 := hx hd 4; have e8 := hx hd 8; exact d_4 rfl (dv (b_3 rfl ad_0 (ev3 (b_8 e4) (evc _ _) (b_8 e8)) (ac_9 _ _ _ _)) hS (by show Value.bool _ = _; simp only [AE, decide_true, decide_false, Bool.not_true, Bool.not_false])), ?_⟩
      refine dq (fun a w hA hS hd => g_0 rfl (hq hd 9)) ?_
      refine dq (fun a w hA hS hd => a_1 rfl (hq hd 10)) ?_
      refine dn 11 (dn 11 (dn 11 (du 14 (du 14 (du 14 (du 14 (du 14 (du 14 (du 14 (du 14 (du 14 (du 14 ?_))))))))))))
      refine du 14 ?_
      trivial
     intro Fo Hj C1 ES X; clear C0 E
     have C2 := C1.add (hz X 11); clear C1
     have C3 := C2.add (hz X 14); clear C2
     have C4 := C3.add (hz X 19); clear C3
     have C5 := C4.add (hz X 25); clear C4
     clear X
     refine s4 C5 fun Fp C6 => ?_; clear C5 Fo
     refine s3 C6 fun Fq A2 => ?_; clear C6 Fp
     refine s1 A2 (b_6 rfl A2.e (evc _ _)) fun Fs A3 => ?_; clear A2 Fq
     refine n1 (b_7 A3 rfl (b_5 ?_))
     have C7 := A3.as [] rfl; clear A3
     refine a_5 (s1 C7 (a_0 rfl (evc _ _)) fun HT C8 => ?_); clear C7 Fs
     refine n1 (c_4 (c_7 (a_6 (a_6 (c_7 (a_6 (a_9 C8 (.inl rfl) (a_2 C8 rfl (.tmp rfl)) ?_)))))))
     exact ⟨congrArg Value.bool (Eq.symm (by first | exact tab_brk (k := C) (by omega) (brk_n (fun j hj => hbk0 j hj) (by assumption)) | (obtain ⟨j, rfl⟩ := back1 (k := C) (by omega); simp only [pred1] at *; exact tab_brk (k := j + 1) (by omega) (brk_n1 (by omega))))), ES.ext⟩
    skip
    rw [decide_eq_false Du] at J
    refine b_4 J rfl (g_3 (b_1 (b_1 (f_1 (a_7 (b_5 ?_))))))
    have C9 := J.as [] rfl; clear J
    refine a_5 (s1 C9 (a_0 rfl (evc _ _)) fun HU DA => ?_); clear C9 Fc
    refine n1 (c_4 (a_9 DA (.inl rfl) (a_2 DA rfl (.tmp rfl)) ?_))
    exact ⟨congrArg Value.bool (Eq.symm (tabB_iff.2 ⟨by assumption, by assumption, by assumption, by assumption, by omega, fun i hi => hrw i (by omega), fun i hi => hst i (by omega), fun i hi => hbk i (by omega)⟩)), E.ext⟩
   skip
   rw [Bu] at Q
   refine s3 Q fun Ft DB => ?_; clear Q EW
   refine s3 DB fun Fu DC => ?_; clear DB Ft
   refine s3 DC fun Fv DD => ?_; clear DC Fu
   refine s3 DD fun Fw A4 => ?_; clear DD Fv
   refine s1 A4 (b_6 rfl A4.e (evc _ _)) fun Fx A5 => ?_; clear A4 Fw
   refine n1 (b_7 A5 rfl (b_5 ?_))
   have DE := A5.as [] rfl; clear A5
   refine a_5 (s1 DE (a_0 rfl (evc _ _)) fun HV DF => ?_); clear DE Fx
   exact n1 (c_4 (a_6 (a_9 DF (.inl rfl) (a_2 DF rfl (.tmp rfl)) (⟨congrArg Value.bool (Eq.symm (q_8 (by first | exact .inl (by assumption) | exact .inr (.inl (by assumption)) | exact .inr (.inr (.inl (by assumption))) | exact .inr (.inr (.inr (.inl (by assumption)))) | exact .inr (.inr (.inr (.inr (by omega))))))), L.ext⟩))))
  skip
  rw [Bt] at O
  refine s3 O fun Fy DG => ?_; clear O EU
  refine s3 DG fun Fz DH => ?_; clear DG Fy
  refine s3 DH fun F0 DI => ?_; clear DH Fz
  refine s3 DI fun F1 DJ => ?_; clear DI F0
  refine s3 DJ fun F2 A6 => ?_; clear DJ F1
  refine s1 A6 (b_6 rfl A6.e (evc _ _)) fun F3 A7 => ?_; clear A6 F2
  refine s1 A7 (a_1 rfl A7.e) fun F4 DK => ?_; clear A7 F3
  refine s3 DK fun F5 DL => ?_; clear DK F4
  refine s3 DL fun F6 DM => ?_; clear DL F5
  refine s3 DM fun F7 DN => ?_; clear DM F6
  refine s3 DN fun F8 A8 => ?_; clear DN F7
  refine s1 A8 (b_6 rfl A8.e (evc _ _)) fun F9 A9 => ?_; clear A8 F8
  refine s1 A9 (a_1 rfl A9.e) fun GA DO => ?_; clear A9 F9
  refine s3 DO fun GB DP => ?_; clear DO GA
  refine s3 DP fun GC DQ => ?_; clear DP GB
  refine s3 DQ fun GD DR => ?_; clear DQ GC
  refine s3 DR fun GE BA => ?_; clear DR GD
  refine s1 BA (b_6 rfl BA.e (evc _ _)) fun GF BB => ?_; clear BA GE
  refine n1 (b_7 BB rfl (b_5 ?_))
  have DS := BB.as [] rfl; clear BB
  refine a_5 (s1 DS (a_0 rfl (evc _ _)) fun HW DT => ?_); clear DS GF
  exact n1 (c_4 (a_6 (a_9 DT (.inl rfl) (a_2 DT rfl (.tmp rfl)) (⟨congrArg Value.bool (Eq.symm (q_8 (by first | exact .inl (by assumption) | exact .inr (.inl (by assumption)) | exact .inr (.inr (.inl (by assumption))) | exact .inr (.inr (.inr (.inl (by assumption)))) | exact .inr (.inr (.inr (.inr (by omega))))))), L.ext⟩))))
 skip
 rw [Bs] at N
 refine s3 N fun GG DU => ?_; clear N ET
 refine s3 DU fun GH DV => ?_; clear DU GG
 refine s3 DV fun GI DW => ?_; clear DV GH
 refine s3 DW fun GJ DX => ?_; clear DW GI
 refine s3 DX fun GK DY => ?_; clear DX GJ
 refine s3 DY fun GL BC => ?_; clear DY GK
 refine s1 BC (b_6 rfl BC.e (evc _ _)) fun GM BD => ?_; clear BC GL
 refine s1 BD (a_1 rfl BD.e) fun GN DZ => ?_; clear BD GM
 refine s3 DZ fun GO Da => ?_; clear DZ GN
 refine s3 Da fun GP Db => ?_; clear Da GO
 refine s3 Db fun GQ Dc => ?_; clear Db GP
 refine s3 Dc fun GR Dd => ?_; clear Dc GQ
 refine s3 Dd fun GS BE => ?_; clear Dd GR
 refine s1 BE (b_6 rfl BE.e (evc _ _)) fun GT BF => ?_; clear BE GS
 refine s1 BF (a_1 rfl BF.e) fun GU De => ?_; clear BF GT
 refine s3 De fun GV Df => ?_; clear De GU
 refine s3 Df fun GW Dg => ?_; clear Df GV
 refine s3 Dg fun GX Dh => ?_; clear Dg GW
 refine s3 Dh fun GY BH => ?_; clear Dh GX
 refine s1 BH (b_6 rfl BH.e (evc _ _)) fun GZ BI => ?_; clear BH GY
 refine s1 BI (a_1 rfl BI.e) fun Ga Di => ?_; clear BI GZ
 refine s3 Di fun Gb Dj => ?_; clear Di Ga
 refine s3 Dj fun Gc Dk => ?_; clear Dj Gb
 refine s3 Dk fun Gd Dl => ?_; clear Dk Gc
 refine s3 Dl fun Ge BJ => ?_; clear Dl Gd
 refine s1 BJ (b_6 rfl BJ.e (evc _ _)) fun Gf BL => ?_; clear BJ Ge
 refine n1 (b_7 BL rfl (b_5 ?_))
 have Dm := BL.as [] rfl; clear BL
 refine a_5 (s1 Dm (a_0 rfl (evc _ _)) fun HX Dn => ?_); clear Dm Gf
 exact n1 (c_4 (a_6 (a_9 Dn (.inl rfl) (a_2 Dn rfl (.tmp rfl)) (⟨congrArg Value.bool (Eq.symm (q_8 (by first | exact .inl (by assumption) | exact .inr (.inl (by assumption)) | exact .inr (.inr (.inl (by assumption))) | exact .inr (.inr (.inr (.inl (by assumption)))) | exact .inr (.inr (.inr (.inr (by omega))))))), L.ext⟩))))
end Go.Proofs.Ytohgladndklciaa

namespace Go.Hard
open Go.RowKit Go.Eng
theorem r_8 (xs : List (Int × Int)) : ((pairs xs).drop (1 * 2)).take ((xs.length - 1) * 2) = pairs (xs.drop 1) := by
  cases xs with
  | nil => rfl
  | cons x xs =>
    show ((pairs (x :: xs)).drop 2).take ((xs.length + 1 - 1) * 2) = pairs xs
    have : (pairs (x :: xs)).drop 2 = pairs xs := rfl
    rw [this, Nat.add_sub_cancel, List.take_of_length_le (by rw [b_2]; exact Nat.le_refl _)]
theorem drop_getD {xs : List (Int × Int)} {i : Nat} : (xs.drop 1).getD i (0, 0) = xs.getD (i + 1) (0, 0) := by
  simp [List.getD, Nat.add_comm]
theorem dropP_all {xs : List (Int × Int)} {i : Nat} (h : i < xs.length - 1) : ((pairs (xs.drop 1)).drop (i * 2)).take 2 = [.int .i64 (xs.getD (i + 1) (0, 0)).1, .int .i64 (xs.getD (i + 1) (0, 0)).2] := by
  rw [g_8 (by rw [List.length_drop]; exact h), drop_getD]
def p_0 (t : TabD) (k : Nat) : List Nat := (List.range k).filter fun i => !decide ((i : Int) ∈ t.brk)
def d_8 (t : TabD) : List Nat := p_0 t (t.rows.length - 1)
theorem good_no {t : TabD} {k : Nat} (h : (k : Int) ∈ t.brk) : p_0 t (k + 1) = p_0 t k := by
  unfold p_0; rw [List.range_succ, List.filter_append]; simp [h]
theorem good_yes {t : TabD} {k : Nat} (h : ¬ (k : Int) ∈ t.brk) : p_0 t (k + 1) = p_0 t k ++ [k] := by
  unfold p_0; rw [List.range_succ, List.filter_append]; simp [h]
theorem good_pre {t : TabD} {k m : Nat} (h : k ≤ m) : p_0 t k <+: p_0 t m := by
  obtain ⟨d, rfl⟩ := Nat.exists_eq_add_of_le h
  unfold p_0
  rw [List.range_add, List.filter_append]
  exact List.prefix_append _ _
theorem good_at {t : TabD} {k m : Nat} (hk : k < m) (h : ¬ (k : Int) ∈ t.brk) : (p_0 t k).length < (p_0 t m).length ∧ (p_0 t m).getD (p_0 t k).length 0 = k := by
  obtain ⟨r, e⟩ := good_pre (t := t) (show k + 1 ≤ m by omega)
  rw [good_yes h] at e
  rw [← e]
  constructor
  · simp only [List.length_append, List.length_singleton]; omega
  · simp [List.getD]
theorem good_mem {t : TabD} {m q : Nat} (h : q < (p_0 t m).length) : (p_0 t m).getD q 0 < m ∧ ¬ (((p_0 t m).getD q 0 : Nat) : Int) ∈ t.brk := by
  have hm : (p_0 t m).getD q 0 ∈ p_0 t m := by
    simp only [List.getD, List.getElem?_eq_getElem h, Option.getD_some]; exact List.getElem_mem h
  generalize (p_0 t m).getD q 0 = i at hm
  unfold p_0 at hm
  rw [List.mem_filter, List.mem_range] at hm
  exact ⟨hm.1, by simpa using hm.2⟩
theorem good_sorted (t : TabD) (m : Nat) : (p_0 t m).Pairwise (· < ·) := by
  unfold p_0
  exact List.Pairwise.filter _ List.pairwise_lt_range
theorem good_before {t : TabD} {m q i : Nat} (hq : q < (p_0 t m).length) (hi : i < (p_0 t m).getD q 0) (hb : ¬ (i : Int) ∈ t.brk) : ∃ j, j < q ∧ (p_0 t m).getD j 0 = i := by
  have him : i ∈ p_0 t m := by
    unfold p_0
    have := (good_mem hq).1
    rw [List.mem_filter, List.mem_range]
    exact ⟨by omega, by simpa using hb⟩
  obtain ⟨j, hj, e⟩ := List.getElem_of_mem him
  refine ⟨j, ?_, by simp only [List.getD, List.getElem?_eq_getElem hj, Option.getD_some]; exact e⟩
  rcases Nat.lt_or_ge j q with h | h
  · exact h
  · exfalso
    rcases Nat.lt_or_ge q j with h2 | h2
    · have := List.pairwise_iff_getElem.1 (good_sorted t m) q j hq hj h2
      simp only [List.getD, List.getElem?_eq_getElem hq, Option.getD_some] at hi
      omega
    · obtain rfl : q = j := by omega
      simp only [List.getD, List.getElem?_eq_getElem hq, Option.getD_some] at hi
      omega
theorem made_good {t : TabD} {v : Int} {q : Nat} (hn : ∀ i, i < t.rows.length → ¬ tx t i = v) (hq : q < (d_8 t).length) (h : ∀ j, j < q → m_8 t v ((d_8 t).getD j 0) = false) (e : m_8 t v ((d_8 t).getD q 0) = true) : t_9 t v = some (pieceR t v ((d_8 t).getD q 0)) := by
  have hg := good_mem hq
  refine made_piece hn (by have := hg.1; unfold d_8; omega) (fun i hi => ?_) e
  by_cases hb : (i : Int) ∈ t.brk
  · exact m_9 (.inr (.inr hb))
  · obtain ⟨j, hj, rfl⟩ := good_before hq hi hb
    exact h j hj
theorem made_goodno {t : TabD} {v : Int} (hn : ∀ i, i < t.rows.length → ¬ tx t i = v) (h : ∀ j, j < (d_8 t).length → m_8 t v ((d_8 t).getD j 0) = false) : t_9 t v = none := by
  refine made_no hn fun i hi => ?_
  by_cases hb : (i : Int) ∈ t.brk
  · exact m_9 (.inr (.inr hb))
  · have := good_at (t := t) (show i < t.rows.length - 1 by omega) hb
    have h2 := h _ this.1
    rw [show (d_8 t).getD (p_0 t i).length 0 = i from this.2] at h2
    exact h2
theorem good_piece {t : TabD} {v : Int} {q : Nat} (hq : q < (d_8 t).length) (h1 : tx t ((d_8 t).getD q 0) < v) (h2 : v < tx t ((d_8 t).getD q 0 + 1)) : m_8 t v ((d_8 t).getD q 0) = true := piece_y h1 h2 (good_mem hq).2
end Go.Hard

namespace Go.Proofs.Ytohgladndklciaa
open Go.RowKit Go.Shelf Go.Eng Go.Hard
theorem aa_2 : (Try.prog.info? 107).bind (·.zero) = some (Value.agg #[(iv 0), (iv 0)]) := by kernel_rfl
theorem en_122 : ∀ args w, (callFunc 122 args).run Try.prog w = .ok (.enter 122 args) w := enters_of Try.func122 (by kernel_rfl) rfl
theorem pieces_it (C : Nat) (t : TabD) (vr vb : Value) (hln : 2 ≤ t.rows.length) (hrl : t.rows.length ≤ 1000000) (hbl : t.brk.length ≤ 1000000) :
  IterG Try.prog 121 #[bptr C 0] nilR [rob C 106 [.int .i64 t.frm, .int .i64 t.dst, vr, vb, .int .i64 t.err], sl vr 2 t.rows.length (pairs t.rows), sl vb 1 t.brk.length (ints t.brk)] (d_8 t).length (fun q => #[.agg #[.int .i64 (t.rows.getD ((d_8 t).getD q 0) (0, 0)).1, .int .i64 (t.rows.getD ((d_8 t).getD q 0) (0, 0)).2], .agg #[.int .i64 (t.rows.getD ((d_8 t).getD q 0 + 1) (0, 0)).1, .int .i64 (t.rows.getD ((d_8 t).getD q 0 + 1) (0, 0)).2]]) := by
 intro l J Jx W hJ hJx hD hDx h0 hy
 refine a_8 Try.func121 rfl fun a0 R => ?_
 replace R : Fr 31 [] [(0, (Value.func (.yield l) #[] #[])), (1, (bptr C 0))] a0 := R
 have T : Sep nilR.S W W [nilR, (rob C 106 [(iv t.frm), (iv t.dst), vr, vb, (iv t.err)]), (sl vr 2 t.rows.length (pairs t.rows)), (sl vb 1 t.brk.length (ints t.brk))] := (hD _ _ _ h0).2
 refine m2 (s1 R (a_4 rfl j_7 R.e) fun a2 r => ?_); clear R a0
 refine s1 r (a_3 rfl p_1 r.e (T.rk 1 rfl) rfl) fun a4 AA => ?_; clear r a2
 refine s1 AA (op_sliceLo rfl l_1 j_2 AA.e (l := 1) (show _ = Value.int .i64 ((1 : Nat) : Int) from (evc _ _)) (T.sk 2 rfl) (by omega)) fun a6 AG => ?_; clear AA a4
 refine s1 AG (c_9 rfl l_1 AG.e (SlAt.say (n' := (t.rows.length - 1)) (cs' := (pairs (t.rows.drop 1))) (SlAt.cut (T.sk 2 rfl) (by omega) (Nat.le_refl _)) rfl (r_8 _))) fun a8 AT => ?_; clear AG a6
 refine s1 AT (a_1 rfl (evc _ _)) fun Af n => ?_; clear AT a8
 refine n1 (c_2 ?_)
 have o := n.as [(9, (iv 0)), (8, (iv (((t.rows.length - 1) : Nat) : Int))), (7, (slcut vr 1 t.rows.length 2)), (0, (Value.func (.yield l) #[] #[])), (1, (bptr C 0))] rfl; clear n
 refine g_7 (G := Nat) (fun (k : Nat) a_ w_ => Fr 31 [] [(9, (iv (k : Int))), (8, (iv (((t.rows.length - 1) : Nat) : Int))), (7, (slcut vr 1 t.rows.length 2)), (0, (Value.func (.yield l) #[] #[])), (1, (bptr C 0))] a_ ∧ True ∧ (k ≤ t.rows.length - 1) ∧ (J (p_0 t k).length nilR w_)) (fun k => t.rows.length - k) 0 ⟨o.as _ rfl, trivial, by omega, (hJ _ _ _ _ _ h0 (Sep.keep T [0] (by decide) _ rfl rfl) rfl)⟩ ?_
 clear o T Af
 rintro k Ag AQ ⟨K, Ab, hk, hj⟩
 clear Ab
 have I : Sep nilR.S AQ AQ [nilR, (rob C 106 [(iv t.frm), (iv t.dst), vr, vb, (iv t.err)]), (sl vr 2 t.rows.length (pairs t.rows)), (sl vb 1 t.brk.length (ints t.brk))] := (hD _ _ _ hj).2
 refine m2 (s1 K (f_5 rfl K.e K.e) fun Ah B => ?_); clear K Ag
 refine n2 ?_
 by_cases AN : (k : Int) < (((t.rows.length - 1) : Nat) : Int)
 ·skip
  rw [decide_eq_true AN] at B
  refine b_7 B rfl (c_6 (a_7 (b_5 (c_2 (m2 (s1 B (a_1 rfl B.e) fun Ai L => ?_)))))); clear B Ah
  refine s1 L (b_0 rfl l_1 j_2 L.e (i := k) L.e (SlAt.say (n' := (t.rows.length - 1)) (cs' := (pairs (t.rows.drop 1))) (SlAt.cut (I.sk 2 rfl) (by omega) (Nat.le_refl _)) rfl (r_8 _)) (by decide) (by omega)) fun Aj U => ?_; clear L Ai
  refine s1 U (e_7 rfl j_2 U.e (SlAt.say (n' := (t.rows.length - 1)) (cs' := (pairs (t.rows.drop 1))) (SlAt.cut (I.sk 2 rfl) (by omega) (Nat.le_refl _)) rfl (r_8 _)) (dropP_all (by omega)) rfl (by decide)) fun Ak p => ?_; clear U Aj
  refine s2 p (e_0 I rfl aa_2 (cs := [(iv 0), (iv 0)]) rfl) ?_
  rintro Al _ BA ⟨j, rfl, AK⟩ V; clear p I Ak
  refine s1 V (a_0 rfl V.e) fun A5 M => ?_; clear V Al
  refine s7 M (c_0 AK rfl j_2 M.e M.e (i := 0) rfl (vs := [(iv ((t.rows.getD (k + 1) (0, 0)).1)), (iv ((t.rows.getD (k + 1) (0, 0)).2))]) rfl rfl rfl (Nat.le_of_ble_eq_true rfl)) ?_
  intro _ A0 AL s; clear M
  have Q : Sep nilR.S AQ A0 [(blk j 107 [(iv ((t.rows.getD (k + 1) (0, 0)).1)), (iv ((t.rows.getD (k + 1) (0, 0)).2))]), nilR, (rob C 106 [(iv t.frm), (iv t.dst), vr, vb, (iv t.err)]), (sl vr 2 t.rows.length (pairs t.rows)), (sl vb 1 t.brk.length (ints t.brk))] := AL; clear AL AK
  refine n2 ?_
  have N := s.as [(3, (iv (k : Int))), (4, (bptr j 0)), (9, (iv (k : Int))), (8, (iv (((t.rows.length - 1) : Nat) : Int))), (7, (slcut vr 1 t.rows.length 2)), (0, (Value.func (.yield l) #[] #[])), (1, (bptr C 0))] rfl; clear s
  by_cases AO : (k : Int) ∈ t.brk
  ·skip
   have u := N.as [(3, (iv (k : Int))), (4, (bptr j 0)), (9, (iv (k : Int))), (8, (iv (((t.rows.length - 1) : Nat) : Int))), (7, (slcut vr 1 t.rows.length 2)), (0, (Value.func (.yield l) #[] #[])), (1, (bptr C 0))] rfl; clear N
   refine g_2 mixed u Q 13 [[], [0], [], [1, 2], [3], [4], [5], [5], [5, 7], [5], [5, 8, 9], [5, 10], [5]] [(Yd.val (bptr C 3)), (Yd.val vb), (Yd.val (iv (k : Int))), (Yd.val (Value.bool true)), (Yd.val (Value.bool (!true))), (Yd.val (Value.bool (!true))), (Yd.val undef), (Yd.val undef), (Yd.val undef), (Yd.val undef), (Yd.val undef), (Yd.val undef), (Yd.val undef)] (by decide +kernel) rfl rfl ?_ ?_
   ·skip
    refine ⟨fun a w hA hS hd => ?_, ?_⟩
    ·skip
     exact d_4 rfl (dv (a_4 rfl fd_106_3 hA.e) hS rfl)
    refine ⟨fun a w hA hS hd => ?_, ?_⟩
    ·skip
     have e0 := e_5 (hd 0 (by decide)) rfl (fun _ h => h)
     exact d_4 rfl (dv (a_3 rfl ab_1 (b_8 e0) (hS.rk 2 rfl) rfl) hS rfl)
    refine ⟨fun a w hA hS hd => ?_, ?_⟩
    ·skip
     exact d_4 rfl (dv (a_1 rfl hA.e) hS rfl)
    refine ⟨fun a w hA hS hd => ?_, ?_⟩
    ·skip
     have e1 := e_5 (hd 1 (by decide)) rfl (fun _ h => h)
     have e2 := e_5 (hd 2 (by decide)) rfl (fun _ h => h)
     exact d_4 rfl (dx (b_3 rfl en_122 (ev2 (b_8 e1) (b_8 e2)) (contains_ok t.brk (k : Int) _ _ (hS.sk 4 rfl) (by omega))) hS (fun _ => (by show Value.bool _ = _; simp [AO])))
    refine ⟨fun a w hA hS hd => ?_, ?_⟩
    ·skip
     have e3 := e_5 (hd 3 (by decide)) rfl (fun _ h => h)
     exact d_4 rfl (dv (g_0 rfl (b_8 e3)) hS rfl)
    refine ⟨fun a w hA hS hd => ?_, ?_⟩
    ·skip
     have e4 := e_5 (hd 4 (by decide)) rfl (fun _ h => h)
     exact d_4 rfl (dv (a_1 rfl (b_8 e4)) hS rfl)
    refine ⟨fun a w hA hS hd => ?_, ?_⟩
    ·skip
     have A := e_5 (hd 5 (by decide)) rfl (fun _ h => h)
     exact opG_no rfl rfl A rfl (dskip hS rfl)
    refine ⟨fun a w hA hS hd => ?_, ?_⟩
    ·skip
     have A := e_5 (hd 5 (by decide)) rfl (fun _ h => h)
     exact opG_no rfl rfl A rfl (dskip hS rfl)
    refine ⟨fun a w hA hS hd => ?_, ?_⟩
    ·skip
     have A := e_5 (hd 5 (by decide)) rfl (fun _ h => h)
     have e7 := e_5 (hd 7 (by decide)) rfl (fun _ h => h)
     exact opG_no rfl rfl A rfl (dskip hS rfl)
    refine ⟨fun a w hA hS hd => ?_, ?_⟩
    ·skip
     have A := e_5 (hd 5 (by decide)) rfl (fun _ h => h)
     exact opG_no rfl rfl A rfl (dskip hS rfl)
    refine ⟨fun a w hA hS hd => ?_, ?_⟩
    ·skip
     have A := e_5 (hd 5 (by decide)) rfl (fun _ h => h)
     have e8 := e_5 (hd 8 (by decide)) rfl (fun _ h => h)
     have e9 := e_5 (hd 9 (by decide)) rfl (fun _ h => h)
     exact opG_no rfl rfl A rfl (dskip hS rfl)
    refine ⟨fun a w hA hS hd => ?_, ?_⟩
    ·skip
     have A := e_5 (hd 5 (by decide)) rfl (fun _ h => h)
     have AS := e_5 (hd 10 (by decide)) rfl (fun _ h => h)
     exact opG_no rfl rfl A rfl (dskip hS rfl)
    refine ⟨fun a w hA hS hd => ?_, ?_⟩
    ·skip
     have A := e_5 (hd 5 (by decide)) rfl (fun _ h => h)
     exact opG_no rfl rfl A rfl (dskip hS rfl)
    trivial
   intro Am BB v Ac F; clear u Q
   have x := v.add (hz F 5); clear v
   have y := x.add (hz F 6); clear x
   have z := y.add (hz F 11); clear y
   have AB := z.add (hz F 12); clear z
   clear F
   refine s3 AB fun An AC => ?_; clear AB Am
   refine s3 AC fun Ao X => ?_; clear AC An
   refine s1 X (d_0 rfl X.e (evc _ _)) fun Ap Y => ?_; clear X Ao
   refine n1 (b_4 Y rfl (c_6 (g_6 (a_7 ?_))))
   have Z := Y.as [(9, (iv (k : Int))), (8, (iv (((t.rows.length - 1) : Nat) : Int))), (7, (slcut vr 1 t.rows.length 2)), (0, (Value.func (.yield l) #[] #[])), (1, (bptr C 0))] rfl; clear Y
   refine a_5 (s1 Z (f_0 rfl Z.e (evc _ _) (by omega) (by omega)) fun Aq b => ?_); clear Z Ap
   refine s1 b (a_1 rfl b.e) fun A6 AZ => ?_; clear b Aq
   refine e_2 ?_
   exact a_7 ⟨k + 1, ⟨AZ.as _ rfl, trivial, by omega, (by rw [good_no (by assumption)]; exact (hJ _ _ _ _ _ hj (Sep.keep Ac [1] (by decide) _ rfl rfl) rfl))⟩, by omega⟩
  skip
  have AD := N.as [(3, (iv (k : Int))), (4, (bptr j 0)), (9, (iv (k : Int))), (8, (iv (((t.rows.length - 1) : Nat) : Int))), (7, (slcut vr 1 t.rows.length 2)), (0, (Value.func (.yield l) #[] #[])), (1, (bptr C 0))] rfl; clear N
  refine g_2 mixed AD Q 13 [[], [0], [], [1, 2], [3], [4], [5], [5], [5, 7], [5], [5, 8, 9], [5, 10], [5]] [(Yd.val (bptr C 3)), (Yd.val vb), (Yd.val (iv (k : Int))), (Yd.val (Value.bool false)), (Yd.val (Value.bool (!false))), (Yd.val (Value.bool (!false))), (Yd.val (Value.func (.yield l) #[] #[])), (Yd.val (bptr C 2)), (Yd.val vr), (Yd.val (iv (k : Int))), (Yd.val (eptr vr (k * 2))), (Yd.val (Value.agg #[(iv ((t.rows.getD k (0, 0)).1)), (iv ((t.rows.getD k (0, 0)).2))])), (Yd.val (Value.agg #[(iv ((t.rows.getD (k + 1) (0, 0)).1)), (iv ((t.rows.getD (k + 1) (0, 0)).2))]))] (by decide +kernel) rfl rfl ?_ ?_
  ·skip
   refine ⟨fun a w hA hS hd => ?_, ?_⟩
   ·skip
    exact d_4 rfl (dv (a_4 rfl fd_106_3 hA.e) hS rfl)
   refine ⟨fun a w hA hS hd => ?_, ?_⟩
   ·skip
    have e0 := e_5 (hd 0 (by decide)) rfl (fun _ h => h)
    exact d_4 rfl (dv (a_3 rfl ab_1 (b_8 e0) (hS.rk 2 rfl) rfl) hS rfl)
   refine ⟨fun a w hA hS hd => ?_, ?_⟩
   ·skip
    exact d_4 rfl (dv (a_1 rfl hA.e) hS rfl)
   refine ⟨fun a w hA hS hd => ?_, ?_⟩
   ·skip
    have e1 := e_5 (hd 1 (by decide)) rfl (fun _ h => h)
    have e2 := e_5 (hd 2 (by decide)) rfl (fun _ h => h)
    exact d_4 rfl (dx (b_3 rfl en_122 (ev2 (b_8 e1) (b_8 e2)) (contains_ok t.brk (k : Int) _ _ (hS.sk 4 rfl) (by omega))) hS (fun _ => (by show Value.bool _ = _; simp [AO])))
   refine ⟨fun a w hA hS hd => ?_, ?_⟩
   ·skip
    have e3 := e_5 (hd 3 (by decide)) rfl (fun _ h => h)
    exact d_4 rfl (dv (g_0 rfl (b_8 e3)) hS rfl)
   refine ⟨fun a w hA hS hd => ?_, ?_⟩
   ·skip
    have e4 := e_5 (hd 4 (by decide)) rfl (fun _ h => h)
    exact d_4 rfl (dv (a_1 rfl (b_8 e4)) hS rfl)
   refine ⟨fun a w hA hS hd => ?_, ?_⟩
   ·skip
    have A := e_5 (hd 5 (by decide)) rfl (fun _ h => h)
    exact f_7 rfl rfl A (dv (a_1 rfl hA.e) hS rfl)
   refine ⟨fun a w hA hS hd => ?_, ?_⟩
   ·skip
    have A := e_5 (hd 5 (by decide)) rfl (fun _ h => h)
    exact f_7 rfl rfl A (dv (a_4 rfl j_7 hA.e) hS rfl)
   refine ⟨fun a w hA hS hd => ?_, ?_⟩
   ·skip
    have A := e_5 (hd 5 (by decide)) rfl (fun _ h => h)
    have e7 := e_5 (hd 7 (by decide)) rfl (fun _ h => h)
    exact f_7 rfl rfl A (dv (a_3 rfl p_1 (b_8 e7) (hS.rk 2 rfl) rfl) hS rfl)
   refine ⟨fun a w hA hS hd => ?_, ?_⟩
   ·skip
    have A := e_5 (hd 5 (by decide)) rfl (fun _ h => h)
    exact f_7 rfl rfl A (dv (a_1 rfl hA.e) hS rfl)
   refine ⟨fun a w hA hS hd => ?_, ?_⟩
   ·skip
    have A := e_5 (hd 5 (by decide)) rfl (fun _ h => h)
    have e8 := e_5 (hd 8 (by decide)) rfl (fun _ h => h)
    have e9 := e_5 (hd 9 (by decide)) rfl (fun _ h => h)
    exact f_7 rfl rfl A (dv (b_0 rfl l_1 j_2 (b_8 e8) (i := k) (b_8 e9) (hS.sk 3 rfl) (by decide) (by omega)) hS rfl)
   refine ⟨fun a w hA hS hd => ?_, ?_⟩
   ·skip
    have A := e_5 (hd 5 (by decide)) rfl (fun _ h => h)
    have AS := e_5 (hd 10 (by decide)) rfl (fun _ h => h)
    exact f_7 rfl rfl A (dv (e_7 rfl j_2 (b_8 AS) (hS.sk 3 rfl) (g_8 (by omega)) rfl (by decide)) hS rfl)
   refine ⟨fun a w hA hS hd => ?_, ?_⟩
   ·skip
    have A := e_5 (hd 5 (by decide)) rfl (fun _ h => h)
    exact f_7 rfl rfl A (dv (c_5 rfl j_2 (hA.ev rfl) (hS.bk 0 rfl) (l := [(iv ((t.rows.getD (k + 1) (0, 0)).1)), (iv ((t.rows.getD (k + 1) (0, 0)).2))]) rfl rfl) hS rfl)
   trivial
  intro Ar BC AE AM H; clear AD Q
  have AF := AE.add (hz H 5); clear AE
  have AH := AF.add (hz H 6); clear AF
  have AI := AH.add (hz H 11); clear AH
  have E := AI.add (hz H 12); clear AI
  clear H
  have AP := good_at (t := t) (m := t.rows.length - 1) (k := k) (by omega) (by assumption)
  refine s6 E (op_yield rfl E.e (ev2 E.e E.e) (by have hz := hy (p_0 t k).length AP.1 _ _ (hJ _ _ _ _ _ hj (Sep.keep AM [1] (by decide) _ rfl rfl) rfl); dsimp only at hz; rw [show (d_8 t).getD (p_0 t k).length 0 = k from AP.2] at hz; exact hz)) ?_
  rintro AR A9 BD Ad D; clear E AM Ar
  rcases Ad with ⟨rfl, g⟩ | ⟨rfl, g⟩
  ·skip
   refine s5 D (g_0 rfl D.e) fun As O => ?_; clear D AR
   refine s1 O (b_6 rfl O.e O.e) fun At c => ?_; clear O As
   refine n1 (b_4 c rfl (c_6 (g_6 (a_7 ?_))))
   have d := c.as [(9, (iv (k : Int))), (8, (iv (((t.rows.length - 1) : Nat) : Int))), (7, (slcut vr 1 t.rows.length 2)), (0, (Value.func (.yield l) #[] #[])), (1, (bptr C 0))] rfl; clear c
   refine a_5 (s1 d (f_0 rfl d.e (evc _ _) (by omega) (by omega)) fun Au f => ?_); clear d At
   refine s1 f (a_1 rfl f.e) fun A7 Aa => ?_; clear f Au
   refine e_2 ?_
   exact a_7 ⟨k + 1, ⟨Aa.as _ rfl, trivial, by omega, (by rw [good_yes (by assumption), List.length_append, List.length_singleton]; exact g)⟩, by omega⟩
  skip
  refine s5 D (g_0 rfl D.e) fun Av P => ?_; clear D AR
  refine s1 P (b_6 rfl P.e P.e) fun A8 AJ => ?_; clear P Av
  exact n1 (b_7 AJ rfl (c_4 (c_7 (a_6 (a_6 (c_7 (a_9 AJ (.inl rfl) (run_results0 rfl _) (.inr ⟨_, g⟩))))))))
 skip
 rw [decide_eq_false AN] at B
 refine b_4 B rfl (g_3 (b_1 (b_1 (f_1 (a_9 B (.inr rfl) (run_results0 rfl _) ?_)))))
 exact .inl (by have hz := (hJ _ _ _ _ _ hj (Sep.keep I [0] (by decide) _ rfl rfl) rfl); rw [show k = t.rows.length - 1 by omega] at hz; exact hz)
theorem pieces_ok (t : TabD) (vr vb : Value) (w : World) (h1_ : vr.oneCell' = true) (h2_ : vb.oneCell' = true) :
  Calls Try.prog 116 #[(Value.agg #[(iv t.frm), (iv t.dst), vr, vb, (iv t.err)])] w (Ret fun v w' => ∃ H, v = .func (.func 121) #[] #[bptr H 0] ∧ Sep NoB w w' [blk H 106 [.int .i64 t.frm, .int .i64 t.dst, vr, vb, .int .i64 t.err]]) := by
 refine a_8 Try.func116 rfl fun G A => ?_
 replace A : Fr 4 [] [(0, (Value.agg #[(iv t.frm), (iv t.dst), vr, vb, (iv t.err)]))] G := A
 have F : Sep NoB w w [] := Sep.start _ _
 refine m2 (s2 A (f_4 F rfl A.e (cs := [(iv t.frm), (iv t.dst), vr, vb, (iv t.err)]) rfl) ?_)
 rintro J _ O ⟨N, rfl, I⟩ E; clear A F G
 refine s1 E (a_0 rfl (evc _ _)) fun K C => ?_; clear E J
 refine n4 (s1 C (h_8 rfl ev0 (ev1 C.e)) fun L D => ?_); clear C K
 refine s1 D (a_0 rfl D.e) fun M B => ?_; clear D L
 exact n1 (c_4 (a_9 B (.inl rfl) (a_2 B rfl (.tmp rfl)) (⟨_, rfl, I⟩)))
end Go.Proofs.Ytohgladndklciaa

namespace Go.Proofs.Ytohgladndklciaa
open Go.RowKit Go.Shelf Go.Eng Go.Hard
theorem ze_4 : (Try.prog.info? 4).bind (·.zero) = some (Value.bool false) := by kernel_rfl
theorem ty_4 : tyK Try.prog 4 = some (false, 1) := by kernel_rfl
theorem en_116 : ∀ args w, (callFunc 116 args).run Try.prog w = .ok (.enter 116 args) w := enters_of Try.func116 (by kernel_rfl) rfl
theorem en_121 : ∀ args w, (callFunc 121 args).run Try.prog w = .ok (.enter 121 args) w := enters_of Try.func121 (by kernel_rfl) rfl
theorem fd_159_0 : fldK Try.prog 159 0 = some 0 := by kernel_rfl
theorem ty_154 : tyK Try.prog 154 = some (false, 1) := by kernel_rfl
theorem en_103 : ∀ args w, (callFunc 103 args).run Try.prog w = .ok (.enter 103 args) w := enters_of Try.func103 (by kernel_rfl) rfl
theorem bd_159_0f (x0_0 : Fn) (x0_0a x0_0b : Array Value) (w : World) : (Instr.build 159 #[(0, (.func x0_0 x0_0a x0_0b))]).run Try.prog w = .ok (.agg #[(.func x0_0 x0_0a x0_0b)]) w := by kernel_rfl
theorem en_101 : ∀ args w, (callFunc 101 args).run Try.prog w = .ok (.enter 101 args) w := enters_of Try.func101 (by kernel_rfl) rfl
theorem en_72 : ∀ args w, (callFunc 72 args).run Try.prog w = .ok (.enter 72 args) w := enters_of Try.func72 (by kernel_rfl) rfl
theorem fd_106_4 : fldK Try.prog 106 4 = some 4 := by kernel_rfl
theorem makes_dn (t : TabD) (vr vb : Value) (w : World) (hr : SlAt w vr 2 t.rows.length (pairs t.rows)) (hb : SlAt w vb 1 t.brk.length (ints t.brk)) (hrl : t.rows.length ≤ 1000000) (hbl : t.brk.length ≤ 1000000) (n : Int) (hV : TabV n t) (x : Int) :
  Calls Try.prog 101 #[(Value.agg #[(iv t.frm), (iv t.dst), vr, vb, (iv t.err)]), (iv x), (Value.agg #[(Value.func (.func 102) #[] #[])])] w (Ret fun v w' => v = .tuple #[.int .i64 (e_6 t x).1, .bool (t_9 t x).isSome] ∧ Ext NoB w w') := by
 refine calls_enterM Try.func101 rfl fun a0 AF => ?_
 replace AF : Fr 62 (marks []) [(0, (Value.agg #[(iv t.frm), (iv t.dst), vr, vb, (iv t.err)])), (1, (iv x)), (2, (Value.agg #[(Value.func (.func 102) #[] #[])]))] a0 := AF
 have Ba : Sep NoB w w [(i_2 []), (sl vr 2 t.rows.length (pairs t.rows)), (sl vb 1 t.brk.length (ints t.brk))] := sep_marks (f_2 ⟨rfl, hr, rfl, hb, trivial⟩)
 refine m2 (s2 AF (f_4 Ba rfl AF.e (cs := [(iv t.frm), (iv t.dst), vr, vb, (iv t.err)]) rfl) ?_)
 rintro a1 _ w3 ⟨M, rfl, Bb⟩ A4; clear AF Ba a0
 refine s2 A4 (f_4 Bb rfl A4.e (cs := [(iv x)]) rfl) ?_
 rintro a6 _ w8 ⟨H, rfl, BC⟩ A9; clear A4 Bb a1
 refine s2 A9 (f_4 BC rfl A9.e (cs := [(Value.func (.func 102) #[] #[])]) rfl) ?_
 rintro B1 _ Cx ⟨A, rfl, BD⟩ A2; clear A9 BC a6
 refine s2 A2 (e_0 BD rfl ze_3 (cs := [(iv 0)]) rfl) ?_
 rintro B2 _ Cy ⟨B, rfl, BE⟩ A3; clear A2 BD B1
 refine s2 A3 (e_0 BE rfl ze_4 (cs := [(Value.bool false)]) rfl) ?_
 rintro B3 _ Cz ⟨C, rfl, AC⟩ AG; clear A3 BE B2
 refine n2 (m2 (s1 AG (a_4 rfl j_7 AG.e) fun B4 AH => ?_)); clear AG B3
 refine s1 AH (a_3 rfl p_1 AH.e (AC.bk 4 rfl) rfl) fun B5 AI => ?_; clear AH B4
 refine s1 AI (c_9 rfl l_1 AI.e (AC.sk 6 rfl)) fun B6 A5 => ?_; clear AI B5
 refine s1 A5 (a_1 rfl (evc _ _)) fun B7 A6 => ?_; clear A5 B6
 refine n1 (c_2 ?_)
 have A7 := A6.as [(15, (iv 0)), (14, (iv (t.rows.length : Int))), (13, vr), (7, (bptr C 0)), (6, (bptr B 0)), (5, (bptr A 0)), (4, (bptr H 0)), (3, (bptr M 0))] rfl; clear A6
 refine g_7 (G := Nat) (fun (k : Nat) a_ w_ => Fr 62 (marks []) [(15, (iv (k : Int))), (14, (iv (t.rows.length : Int))), (13, vr), (7, (bptr C 0)), (6, (bptr B 0)), (5, (bptr A 0)), (4, (bptr H 0)), (3, (bptr M 0))] a_ ∧ Sep NoB w w_ [(blk C 4 [(Value.bool false)]), (blk B 3 [(iv 0)]), (blk A 159 [(Value.func (.func 102) #[] #[])]), (blk H 3 [(iv x)]), (blk M 106 [(iv t.frm), (iv t.dst), vr, vb, (iv t.err)]), (i_2 []), (sl vr 2 t.rows.length (pairs t.rows)), (sl vb 1 t.brk.length (ints t.brk))] ∧ (k ≤ t.rows.length) ∧ (∀ i, i < k → ¬ tx t i = x)) (fun k => t.rows.length - k) 0 ⟨A7.as _ rfl, AC, by omega, (fun _ h => absurd h (Nat.not_lt_zero _))⟩ ?_
 clear A7 AC B7
 rintro k B8 C0 ⟨p, N, hkk, hrw⟩
 refine m2 (s1 p (f_5 rfl p.e p.e) fun BX F => ?_); clear p B8
 refine n2 ?_
 by_cases BQ : (k : Int) < (t.rows.length : Int)
 ·skip
  rw [decide_eq_true BQ] at F
  refine b_7 F rfl (c_6 (a_7 (b_5 (c_2 (m2 (s1 F (b_0 rfl l_1 j_2 F.e (i := k) F.e (N.sk 6 rfl) (by decide) (by omega)) fun B9 AJ => ?_)))))); clear F BX
  refine s1 AJ (e_7 rfl j_2 AJ.e (N.sk 6 rfl) (g_8 (by omega)) rfl (by decide)) fun CA A8 => ?_; clear AJ B9
  refine s2 A8 (e_0 N rfl aa_2 (cs := [(iv 0), (iv 0)]) rfl) ?_
  rintro CB _ C1 ⟨AU, rfl, BF⟩ s; clear A8 N CA
  refine s7 s (c_0 BF rfl j_2 s.e s.e (i := 0) rfl (vs := [(iv ((t.rows.getD k (0, 0)).1)), (iv ((t.rows.getD k (0, 0)).2))]) rfl rfl rfl (Nat.le_of_ble_eq_true rfl)) ?_
  intro _ CS BG AK; clear s
  have O : Sep NoB w CS [(blk AU 107 [(iv ((t.rows.getD k (0, 0)).1)), (iv ((t.rows.getD k (0, 0)).2))]), (blk C 4 [(Value.bool false)]), (blk B 3 [(iv 0)]), (blk A 159 [(Value.func (.func 102) #[] #[])]), (blk H 3 [(iv x)]), (blk M 106 [(iv t.frm), (iv t.dst), vr, vb, (iv t.err)]), (i_2 []), (sl vr 2 t.rows.length (pairs t.rows)), (sl vb 1 t.brk.length (ints t.brk))] := BG; clear BG BF
  refine n4 (s1 AK (a_4 rfl j_8 AK.e) fun CC AL => ?_); clear AK CB
  refine s1 AL (a_3 rfl ty_3 AL.e (O.bk 0 rfl) rfl) fun CD AM => ?_; clear AL CC
  refine s1 AM (a_3 rfl ty_3 AM.e (O.bk 4 rfl) rfl) fun CE u => ?_; clear AM CD
  refine s1 u (m_4 rfl u.e u.e) fun BY K => ?_; clear u CE
  refine n1 ?_
  by_cases BR : ((t.rows.getD k (0, 0)).1) = x
  ·skip
   rw [decide_eq_true BR] at K
   refine b_7 K rfl (b_5 ?_)
   have AN := K.as [(9, (bptr AU 0)), (7, (bptr C 0)), (6, (bptr B 0))] rfl; clear K
   refine a_5 (s1 AN (a_4 rfl m_7 AN.e) fun CF AO => ?_); clear AN BY
   refine s1 AO (a_3 rfl ty_3 AO.e (O.bk 0 rfl) rfl) fun Cu y => ?_; clear AO CF
   refine s7 y (c_0 O rfl ty_3 y.e y.e (i := 2) rfl (vs := [(iv ((t.rows.getD k (0, 0)).2))]) rfl rfl rfl (Nat.le_of_ble_eq_true rfl)) ?_
   intro _ CT BH AP; clear y
   have BI : Sep NoB w CT [(blk AU 107 [(iv ((t.rows.getD k (0, 0)).1)), (iv ((t.rows.getD k (0, 0)).2))]), (blk C 4 [(Value.bool false)]), (blk B 3 [(iv ((t.rows.getD k (0, 0)).2))]), (blk A 159 [(Value.func (.func 102) #[] #[])]), (blk H 3 [(iv x)]), (blk M 106 [(iv t.frm), (iv t.dst), vr, vb, (iv t.err)]), (i_2 []), (sl vr 2 t.rows.length (pairs t.rows)), (sl vb 1 t.brk.length (ints t.brk))] := BH; clear BH O
   refine s7 AP (c_0 BI rfl ty_4 AP.e (evc _ _) (i := 1) rfl (vs := [(Value.bool true)]) rfl rfl rfl (Nat.le_of_ble_eq_true rfl)) ?_
   intro _ CU BJ BA; clear AP
   have BK : Sep NoB w CU [(blk AU 107 [(iv ((t.rows.getD k (0, 0)).1)), (iv ((t.rows.getD k (0, 0)).2))]), (blk C 4 [(Value.bool true)]), (blk B 3 [(iv ((t.rows.getD k (0, 0)).2))]), (blk A 159 [(Value.func (.func 102) #[] #[])]), (blk H 3 [(iv x)]), (blk M 106 [(iv t.frm), (iv t.dst), vr, vb, (iv t.err)]), (i_2 []), (sl vr 2 t.rows.length (pairs t.rows)), (sl vb 1 t.brk.length (ints t.brk))] := BJ; clear BJ BI
   refine n1 (c_4 (c_7 (a_6 (a_6 (c_7 (a_6 ?_))))))
   have BL := BK.gkp (gpc 6 (gpc 0 (gpc 1 (gpc 2 (gpc 3 (gpc 4 (gpc 5 (gpc 7 (gpc 8 gpn))))))))); clear BK
   refine fin_runM BA (.inl rfl) BL ?_
   intro C2 AT; clear BL
   refine ⟨_, (d_2 BA rfl (.cell1 rfl ty_3 (AT.bk 2 rfl) rfl) (.cell1 rfl ty_4 (AT.bk 1 rfl) rfl)), ?_⟩
   have hz := (made_row (k := k) (by omega) (fun i hi => hrw i (by omega)) (by assumption))
   exact ⟨by unfold e_6; rw [hz]; rfl, AT.ext⟩
  skip
  rw [decide_eq_false BR] at K
  refine b_4 K rfl (c_6 (g_6 (a_7 ?_)))
  have AQ := K.as [(15, (iv (k : Int))), (14, (iv (t.rows.length : Int))), (13, vr), (7, (bptr C 0)), (6, (bptr B 0)), (5, (bptr A 0)), (4, (bptr H 0)), (3, (bptr M 0))] rfl; clear K
  refine a_5 (s1 AQ (f_0 rfl AQ.e (evc _ _) (by omega) (by omega)) fun CG AR => ?_); clear AQ BY
  refine s1 AR (a_1 rfl AR.e) fun Cv Bs => ?_; clear AR CG
  refine e_2 ?_
  have Bt := O.gkp (gpc 1 (gpc 2 (gpc 3 (gpc 4 (gpc 5 (gpc 6 (gpc 7 (gpc 8 gpn)))))))); clear O
  exact a_7 ⟨k + 1, ⟨Bs.as _ rfl, Bt, by omega, (fun i hi => by rcases Nat.lt_succ_iff_lt_or_eq.1 hi with h | h; exact hrw i h; subst h; assumption)⟩, by omega⟩
 skip
 rw [decide_eq_false BQ] at F
 refine b_4 F rfl (g_3 (b_1 (b_1 (f_1 (a_7 (b_5 (m2 (s1 F (c_5 rfl m_0 (F.ev rfl) (N.bk 4 rfl) (l := [(iv t.frm), (iv t.dst), vr, vb, (iv t.err)]) rfl rfl) fun CH AS => ?_)))))))); clear F BX
 refine s2 AS (b_3 rfl en_116 (ev1 AS.e) (pieces_ok t vr vb _ hr.one hb.one)) ?_
 rintro Cw _ C3 ⟨bl93, rfl, BP⟩ BB; have BM := N.aa_5 BP rfl; clear BP AS N CH
 refine n1 (c_2 ?_)
 have W := BB.as [(27, (Value.func (.func 121) #[] #[(bptr bl93 0)])), (7, (bptr C 0)), (6, (bptr B 0)), (5, (bptr A 0)), (4, (bptr H 0))] rfl; clear BB
 have BN := BM.nilR; clear BM
 have AD := BN.gkp (gpc 7 (gpc 0 (gpc 1 (gpc 2 (gpc 3 (gpc 4 (gpc 5 (gpc 6 (gpc 8 (gpc 9 gpn)))))))))); clear BN
 refine c_rangeG W nilR rfl AD W.e en_121 ((d_8 t).length) (fun q => #[.agg #[.int .i64 (t.rows.getD ((d_8 t).getD q 0) (0, 0)).1, .int .i64 (t.rows.getD ((d_8 t).getD q 0) (0, 0)).2], .agg #[.int .i64 (t.rows.getD ((d_8 t).getD q 0 + 1) (0, 0)).1, .int .i64 (t.rows.getD ((d_8 t).getD q 0 + 1) (0, 0)).2]]) (fun _ => rfl) [rob bl93 106 [.int .i64 t.frm, .int .i64 t.dst, vr, vb, .int .i64 t.err], sl vr 2 t.rows.length (pairs t.rows), sl vb 1 t.brk.length (ints t.brk)] (fun r hr => by simp only [List.mem_cons, List.not_mem_nil, or_false] at hr; rcases hr with rfl | rfl | rfl <;> rfl) (pieces_it bl93 t vr vb hV.len hrl hbl) (fun q L_ => L_ = [(blk bl93 106 [(iv t.frm), (iv t.dst), vr, vb, (iv t.err)]), (blk C 4 [(Value.bool false)]), (blk B 3 [(iv 0)]), (blk A 159 [(Value.func (.func 102) #[] #[])]), (blk H 3 [(iv x)]), (blk M 106 [(iv t.frm), (iv t.dst), vr, vb, (iv t.err)]), (sl vr 2 t.rows.length (pairs t.rows)), (sl vb 1 t.brk.length (ints t.brk))] ∧ (∀ j, j < q → m_8 t x ((d_8 t).getD j 0) = false)) (fun L_ => L_ = [(blk bl93 106 [(iv t.frm), (iv t.dst), vr, vb, (iv t.err)]), (blk C 4 [(Value.bool true)]), (blk B 3 [(iv ((e_6 t x).1))]), (blk A 159 [(Value.func (.func 102) #[] #[])]), (blk H 3 [(iv x)]), (blk M 106 [(iv t.frm), (iv t.dst), vr, vb, (iv t.err)]), (sl vr 2 t.rows.length (pairs t.rows)), (sl vb 1 t.brk.length (ints t.brk))] ∧ ((t_9 t x).isSome = true)) (some .ret) ⟨rfl, (fun _ h => absurd h (Nat.not_lt_zero _))⟩ (fun q L_ hI_ G_ W_ r1_ r2_ hW_ => by obtain ⟨rfl, hpc⟩ := hI_; exact (Sep.keep (hW_.to_ro (i := 3) rfl) [2, 3, 9, 10] (by decide) _ rfl rfl)) (fun L_ hI_ G_ W_ r1_ r2_ hW_ => by obtain ⟨rfl, hsm⟩ := hI_; exact (Sep.keep (hW_.to_ro (i := 3) rfl) [2, 3, 9, 10] (by decide) _ rfl rfl)) ?_ ?_ ?_
 ·skip
  intro q hq L_ hL_ G105 CW AE D103 rc104 BZ C4 Ay BO; obtain ⟨rfl, hpc⟩ := hL_
  have AV : Fr 62 [] [(29, (Value.agg #[(iv ((t.rows.getD (((d_8 t).getD q 0) + 1) (0, 0)).1)), (iv ((t.rows.getD (((d_8 t).getD q 0) + 1) (0, 0)).2))])), (28, (Value.agg #[(iv ((t.rows.getD (((d_8 t).getD q 0)) (0, 0)).1)), (iv ((t.rows.getD (((d_8 t).getD q 0)) (0, 0)).2))])), (27, (Value.func (.func 121) #[] #[(bptr bl93 0)])), (7, (bptr C 0)), (6, (bptr B 0)), (5, (bptr A 0)), (4, (bptr H 0))] BZ := by rw [Ay]; exact Fr.round2 W (by decide) (by decide)
  clear Ay AD
  have hgq : ((d_8 t).getD q 0) < t.rows.length - 1 := (good_mem hq).1; have hbn := hV.bnd _ (show ((d_8 t).getD q 0) < t.rows.length by omega); have hbn1 := hV.bnd (((d_8 t).getD q 0) + 1) (by omega); unfold tx ty at hbn hbn1
  refine m2 (s2 AV (e_0 BO rfl aa_2 (cs := [(iv 0), (iv 0)]) rfl) ?_)
  rintro Bc _ Cm ⟨E, rfl, Ag⟩ P; clear AV BO BZ
  refine s7 P (c_0 Ag rfl j_2 P.e P.e (i := 0) rfl (vs := [(iv ((t.rows.getD (((d_8 t).getD q 0)) (0, 0)).1)), (iv ((t.rows.getD (((d_8 t).getD q 0)) (0, 0)).2))]) rfl rfl rfl (Nat.le_of_ble_eq_true rfl)) ?_
  intro _ Bu Ah AW; clear P
  have Ai : Sep NoB w Bu [(blk E 107 [(iv ((t.rows.getD (((d_8 t).getD q 0)) (0, 0)).1)), (iv ((t.rows.getD (((d_8 t).getD q 0)) (0, 0)).2))]), (obR AE (.loop (rc104 .ready none))), (i_2 (D103 :: [])), G105, (blk bl93 106 [(iv t.frm), (iv t.dst), vr, vb, (iv t.err)]), (blk C 4 [(Value.bool false)]), (blk B 3 [(iv 0)]), (blk A 159 [(Value.func (.func 102) #[] #[])]), (blk H 3 [(iv x)]), (blk M 106 [(iv t.frm), (iv t.dst), vr, vb, (iv t.err)]), (sl vr 2 t.rows.length (pairs t.rows)), (sl vb 1 t.brk.length (ints t.brk))] := Ah; clear Ah Ag
  refine n3 (s2 AW (e_0 Ai rfl aa_2 (cs := [(iv 0), (iv 0)]) rfl) ?_)
  rintro Bd _ Cn ⟨J, rfl, Aj⟩ Q; clear AW Ai Bc
  refine s7 Q (c_0 Aj rfl j_2 Q.e Q.e (i := 0) rfl (vs := [(iv ((t.rows.getD (((d_8 t).getD q 0) + 1) (0, 0)).1)), (iv ((t.rows.getD (((d_8 t).getD q 0) + 1) (0, 0)).2))]) rfl rfl rfl (Nat.le_of_ble_eq_true rfl)) ?_
  intro _ Bv Ak X; clear Q
  have Al : Sep NoB w Bv [(blk J 107 [(iv ((t.rows.getD (((d_8 t).getD q 0) + 1) (0, 0)).1)), (iv ((t.rows.getD (((d_8 t).getD q 0) + 1) (0, 0)).2))]), (blk E 107 [(iv ((t.rows.getD (((d_8 t).getD q 0)) (0, 0)).1)), (iv ((t.rows.getD (((d_8 t).getD q 0)) (0, 0)).2))]), (obR AE (.loop (rc104 .ready none))), (i_2 (D103 :: [])), G105, (blk bl93 106 [(iv t.frm), (iv t.dst), vr, vb, (iv t.err)]), (blk C 4 [(Value.bool false)]), (blk B 3 [(iv 0)]), (blk A 159 [(Value.func (.func 102) #[] #[])]), (blk H 3 [(iv x)]), (blk M 106 [(iv t.frm), (iv t.dst), vr, vb, (iv t.err)]), (sl vr 2 t.rows.length (pairs t.rows)), (sl vb 1 t.brk.length (ints t.brk))] := Ak; clear Ak Aj
  refine e_2 ?_
  have Am := Al.gkp (gpc 2 (gpc 3 (gpc 4 (gpc 0 (gpc 1 (gpc 5 (gpc 6 (gpc 7 (gpc 8 (gpc 9 (gpc 10 (gpc 11 (gpc 12 gpn))))))))))))); clear Al
  refine ⟨rfl, _, Am, ?_⟩; intro Co D; clear Am
  refine c_2 (m2 (s1 X (a_4 rfl j_8 X.e) fun Be Y => ?_)); clear X Bd
  refine s1 Y (a_3 rfl ty_3 Y.e (D.bk 4 rfl) rfl) fun Bf Z => ?_; clear Y Be
  refine s1 Z (a_3 rfl ty_3 Z.e (D.bk 9 rfl) rfl) fun Bg R => ?_; clear Z Bf
  refine s1 R (f_5 rfl R.e R.e) fun Bh b => ?_; clear R Bg
  refine s1 b (a_1 rfl b.e) fun A1 I => ?_; clear b Bh
  by_cases Az : ((t.rows.getD (((d_8 t).getD q 0)) (0, 0)).1) < x
  ·skip
   rw [decide_eq_true Az] at I
   refine s5 I (a_3 rfl ty_3 I.e (D.bk 9 rfl) rfl) fun Bi c => ?_; clear I A1
   refine s5 c (a_4 rfl j_8 c.e) fun Bj d => ?_; clear c Bi
   refine s5 d (a_3 rfl ty_3 d.e (D.bk 3 rfl) rfl) fun Bk S => ?_; clear d Bj
   refine s5 S (f_5 rfl S.e S.e) fun Bl T => ?_; clear S Bk
   refine s1 T (b_6 rfl T.e T.e) fun CY L => ?_; clear T Bl
   refine n1 ?_
   by_cases A0 : x < ((t.rows.getD (((d_8 t).getD q 0) + 1) (0, 0)).1)
   ·skip
    rw [decide_eq_true A0] at L
    have hpb := piece_bds (v := x) (k := ((d_8 t).getD q 0)) hV (by omega) (by unfold tx; omega) (by unfold tx; omega); unfold pieceN pieceD tx ty at hpb; have hdb := downF_bd hpb.1 hpb.2; have hub := upF_bd hpb.1 hpb.2
    refine b_7 L rfl (b_5 ?_)
    have AX := L.as [(11, (bptr J 0)), (10, (bptr E 0)), (7, (bptr C 0)), (6, (bptr B 0)), (5, (bptr A 0)), (4, (bptr H 0))] rfl; clear L
    have AY := AX.as [(11, (bptr J 0)), (10, (bptr E 0)), (7, (bptr C 0)), (6, (bptr B 0)), (5, (bptr A 0)), (4, (bptr H 0))] rfl; clear AX
    refine g_2 mixed AY D 21 [[], [0], [], [2], [], [], [5], [4, 6], [], [8], [], [10], [9, 11], [7, 12], [], [14], [], [16], [15, 17], [13, 18], [3, 19]] [(Yd.val (bptr E 1)), (Yd.val (iv ((t.rows.getD (((d_8 t).getD q 0)) (0, 0)).2))), (Yd.val (bptr A 0)), (Yd.val (Value.func (.func 102) #[] #[])), (Yd.val (iv x)), (Yd.val (bptr E 0)), (Yd.val (iv ((t.rows.getD (((d_8 t).getD q 0)) (0, 0)).1))), (Yd.val (iv (x - ((t.rows.getD (((d_8 t).getD q 0)) (0, 0)).1)))), (Yd.val (bptr J 1)), (Yd.val (iv ((t.rows.getD (((d_8 t).getD q 0) + 1) (0, 0)).2))), (Yd.val (bptr E 1)), (Yd.val (iv ((t.rows.getD (((d_8 t).getD q 0)) (0, 0)).2))), (Yd.val (iv (((t.rows.getD (((d_8 t).getD q 0) + 1) (0, 0)).2) - ((t.rows.getD (((d_8 t).getD q 0)) (0, 0)).2)))), (Yd.val (iv ((x - ((t.rows.getD (((d_8 t).getD q 0)) (0, 0)).1)) * (((t.rows.getD (((d_8 t).getD q 0) + 1) (0, 0)).2) - ((t.rows.getD (((d_8 t).getD q 0)) (0, 0)).2))))), (Yd.val (bptr J 0)), (Yd.val (iv ((t.rows.getD (((d_8 t).getD q 0) + 1) (0, 0)).1))), (Yd.val (bptr E 0)), (Yd.val (iv ((t.rows.getD (((d_8 t).getD q 0)) (0, 0)).1))), (Yd.val (iv (((t.rows.getD (((d_8 t).getD q 0) + 1) (0, 0)).1) - ((t.rows.getD (((d_8 t).getD q 0)) (0, 0)).1)))), (Yd.val (Value.agg #[(iv ((x - ((t.rows.getD (((d_8 t).getD q 0)) (0, 0)).1)) * (((t.rows.getD (((d_8 t).getD q 0) + 1) (0, 0)).2) - ((t.rows.getD (((d_8 t).getD q 0)) (0, 0)).2)))), (iv (((t.rows.getD (((d_8 t).getD q 0) + 1) (0, 0)).1) - ((t.rows.getD (((d_8 t).getD q 0)) (0, 0)).1)))])), (Yd.val (iv (z_0 ((x - ((t.rows.getD (((d_8 t).getD q 0)) (0, 0)).1)) * (((t.rows.getD (((d_8 t).getD q 0) + 1) (0, 0)).2) - ((t.rows.getD (((d_8 t).getD q 0)) (0, 0)).2))) (((t.rows.getD (((d_8 t).getD q 0) + 1) (0, 0)).1) - ((t.rows.getD (((d_8 t).getD q 0)) (0, 0)).1)))))] (by decide +kernel) rfl rfl ?_ ?_
    ·skip
     refine ⟨fun a w hA hS hd => ?_, ?_⟩
     ·skip
      exact d_4 rfl (dv (a_4 rfl m_7 hA.e) hS rfl)
     refine ⟨fun a w hA hS hd => ?_, ?_⟩
     ·skip
      have e0 := e_5 (hd 0 (by decide)) rfl (fun _ h => h)
      exact d_4 rfl (dv (a_3 rfl ty_3 (b_8 e0) (hS.bk 4 rfl) rfl) hS rfl)
     refine ⟨fun a w hA hS hd => ?_, ?_⟩
     ·skip
      exact d_4 rfl (dv (a_4 rfl fd_159_0 hA.e) hS rfl)
     refine ⟨fun a w hA hS hd => ?_, ?_⟩
     ·skip
      have e2 := e_5 (hd 2 (by decide)) rfl (fun _ h => h)
      exact d_4 rfl (dv (a_3 rfl ty_154 (b_8 e2) (hS.bk 8 rfl) rfl) hS rfl)
     refine ⟨fun a w hA hS hd => ?_, ?_⟩
     ·skip
      exact d_4 rfl (dv (a_3 rfl ty_3 hA.e (hS.bk 9 rfl) rfl) hS rfl)
     refine ⟨fun a w hA hS hd => ?_, ?_⟩
     ·skip
      exact d_4 rfl (dv (a_4 rfl j_8 hA.e) hS rfl)
     refine ⟨fun a w hA hS hd => ?_, ?_⟩
     ·skip
      have e5 := e_5 (hd 5 (by decide)) rfl (fun _ h => h)
      exact d_4 rfl (dv (a_3 rfl ty_3 (b_8 e5) (hS.bk 4 rfl) rfl) hS rfl)
     refine ⟨fun a w hA hS hd => ?_, ?_⟩
     ·skip
      have e4 := e_5 (hd 4 (by decide)) rfl (fun _ h => h)
      have e6 := e_5 (hd 6 (by decide)) rfl (fun _ h => h)
      exact d_4 rfl (dv (h_9 rfl (b_8 e4) (b_8 e6) (by omega) (by omega)) hS rfl)
     refine ⟨fun a w hA hS hd => ?_, ?_⟩
     ·skip
      exact d_4 rfl (dv (a_4 rfl m_7 hA.e) hS rfl)
     refine ⟨fun a w hA hS hd => ?_, ?_⟩
     ·skip
      have e8 := e_5 (hd 8 (by decide)) rfl (fun _ h => h)
      exact d_4 rfl (dv (a_3 rfl ty_3 (b_8 e8) (hS.bk 3 rfl) rfl) hS rfl)
     refine ⟨fun a w hA hS hd => ?_, ?_⟩
     ·skip
      exact d_4 rfl (dv (a_4 rfl m_7 hA.e) hS rfl)
     refine ⟨fun a w hA hS hd => ?_, ?_⟩
     ·skip
      have CI := e_5 (hd 10 (by decide)) rfl (fun _ h => h)
      exact d_4 rfl (dv (a_3 rfl ty_3 (b_8 CI) (hS.bk 4 rfl) rfl) hS rfl)
     refine ⟨fun a w hA hS hd => ?_, ?_⟩
     ·skip
      have e9 := e_5 (hd 9 (by decide)) rfl (fun _ h => h)
      have CJ := e_5 (hd 11 (by decide)) rfl (fun _ h => h)
      exact d_4 rfl (dv (h_9 rfl (b_8 e9) (b_8 CJ) (by omega) (by omega)) hS rfl)
     refine ⟨fun a w hA hS hd => ?_, ?_⟩
     ·skip
      have e7 := e_5 (hd 7 (by decide)) rfl (fun _ h => h)
      have CK := e_5 (hd 12 (by decide)) rfl (fun _ h => h)
      exact d_4 rfl (dv (op_mul rfl (b_8 e7) (b_8 CK) (by omega) (by omega)) hS rfl)
     refine ⟨fun a w hA hS hd => ?_, ?_⟩
     ·skip
      exact d_4 rfl (dv (a_4 rfl j_8 hA.e) hS rfl)
     refine ⟨fun a w hA hS hd => ?_, ?_⟩
     ·skip
      have CM := e_5 (hd 14 (by decide)) rfl (fun _ h => h)
      exact d_4 rfl (dv (a_3 rfl ty_3 (b_8 CM) (hS.bk 3 rfl) rfl) hS rfl)
     refine ⟨fun a w hA hS hd => ?_, ?_⟩
     ·skip
      exact d_4 rfl (dv (a_4 rfl j_8 hA.e) hS rfl)
     refine ⟨fun a w hA hS hd => ?_, ?_⟩
     ·skip
      have CO := e_5 (hd 16 (by decide)) rfl (fun _ h => h)
      exact d_4 rfl (dv (a_3 rfl ty_3 (b_8 CO) (hS.bk 4 rfl) rfl) hS rfl)
     refine ⟨fun a w hA hS hd => ?_, ?_⟩
     ·skip
      have CN := e_5 (hd 15 (by decide)) rfl (fun _ h => h)
      have CP := e_5 (hd 17 (by decide)) rfl (fun _ h => h)
      exact d_4 rfl (dv (h_9 rfl (b_8 CN) (b_8 CP) (by omega) (by omega)) hS rfl)
     refine ⟨fun a w hA hS hd => ?_, ?_⟩
     ·skip
      have CL := e_5 (hd 13 (by decide)) rfl (fun _ h => h)
      have CQ := e_5 (hd 18 (by decide)) rfl (fun _ h => h)
      exact d_4 rfl (dv (e_8 rfl (pv2 (b_8 CL) (b_8 CQ)) (bd_157_0i_1i _ _)) hS rfl)
     refine ⟨fun a w hA hS hd => ?_, ?_⟩
     ·skip
      have e3 := e_5 (hd 3 (by decide)) rfl (fun _ h => h)
      have CR := e_5 (hd 19 (by decide)) rfl (fun _ h => h)
      exact d_4 rfl (dx (i_9 rfl (b_8 e3) en_102 (ev1 (b_8 CR)) (down_ok _ _ _ (by omega) (by omega))) hS (fun _ => rfl))
     trivial
    intro Bm Cp AZ An z; clear AY D
    have Aa := AZ.add (hz z 1); clear AZ
    have U := Aa.add (hz z 20); clear Aa
    clear z
    refine s1 U (f_0 rfl U.e U.e (by omega) (by omega)) fun Bn BS => ?_; clear U Bm
    have hvl : ((t.rows.getD (((d_8 t).getD q 0)) (0, 0)).2) + (z_0 ((x - ((t.rows.getD (((d_8 t).getD q 0)) (0, 0)).1)) * (((t.rows.getD (((d_8 t).getD q 0) + 1) (0, 0)).2) - ((t.rows.getD (((d_8 t).getD q 0)) (0, 0)).2))) (((t.rows.getD (((d_8 t).getD q 0) + 1) (0, 0)).1) - ((t.rows.getD (((d_8 t).getD q 0)) (0, 0)).1))) = (e_6 t x).1 := by unfold e_6; rw [made_good (fun i hi => hrw i (by omega)) hq hpc (good_piece hq (by assumption) (by assumption))]; rfl
    have V : Fr 62 [] [(61, (iv ((e_6 t x).1))), (60, (iv (z_0 ((x - ((t.rows.getD (((d_8 t).getD q 0)) (0, 0)).1)) * (((t.rows.getD (((d_8 t).getD q 0) + 1) (0, 0)).2) - ((t.rows.getD (((d_8 t).getD q 0)) (0, 0)).2))) (((t.rows.getD (((d_8 t).getD q 0) + 1) (0, 0)).1) - ((t.rows.getD (((d_8 t).getD q 0)) (0, 0)).1))))), (41, (iv ((t.rows.getD (((d_8 t).getD q 0)) (0, 0)).2))), (11, (bptr J 0)), (10, (bptr E 0)), (7, (bptr C 0)), (6, (bptr B 0)), (5, (bptr A 0)), (4, (bptr H 0))] Bn := by rw [← hvl]; exact BS
    refine s7 V (c_0 An rfl ty_3 V.e V.e (i := 7) rfl (vs := [(iv ((e_6 t x).1))]) rfl rfl rfl (Nat.le_of_ble_eq_true rfl)) ?_
    intro _ Bw Ao f; clear V
    have Ap : Sep NoB w Bw [(obR AE (.loop (rc104 .busy none))), (i_2 (D103 :: [])), G105, (blk J 107 [(iv ((t.rows.getD (((d_8 t).getD q 0) + 1) (0, 0)).1)), (iv ((t.rows.getD (((d_8 t).getD q 0) + 1) (0, 0)).2))]), (blk E 107 [(iv ((t.rows.getD (((d_8 t).getD q 0)) (0, 0)).1)), (iv ((t.rows.getD (((d_8 t).getD q 0)) (0, 0)).2))]), (blk bl93 106 [(iv t.frm), (iv t.dst), vr, vb, (iv t.err)]), (blk C 4 [(Value.bool false)]), (blk B 3 [(iv ((e_6 t x).1))]), (blk A 159 [(Value.func (.func 102) #[] #[])]), (blk H 3 [(iv x)]), (blk M 106 [(iv t.frm), (iv t.dst), vr, vb, (iv t.err)]), (sl vr 2 t.rows.length (pairs t.rows)), (sl vb 1 t.brk.length (ints t.brk))] := Ao; clear Ao An
    refine s7 f (c_0 Ap rfl ty_4 f.e (evc _ _) (i := 6) rfl (vs := [(Value.bool true)]) rfl rfl rfl (Nat.le_of_ble_eq_true rfl)) ?_
    intro _ Bx Aq CV; clear f
    have Ar : Sep NoB w Bx [(obR AE (.loop (rc104 .busy none))), (i_2 (D103 :: [])), G105, (blk J 107 [(iv ((t.rows.getD (((d_8 t).getD q 0) + 1) (0, 0)).1)), (iv ((t.rows.getD (((d_8 t).getD q 0) + 1) (0, 0)).2))]), (blk E 107 [(iv ((t.rows.getD (((d_8 t).getD q 0)) (0, 0)).1)), (iv ((t.rows.getD (((d_8 t).getD q 0)) (0, 0)).2))]), (blk bl93 106 [(iv t.frm), (iv t.dst), vr, vb, (iv t.err)]), (blk C 4 [(Value.bool true)]), (blk B 3 [(iv ((e_6 t x).1))]), (blk A 159 [(Value.func (.func 102) #[] #[])]), (blk H 3 [(iv x)]), (blk M 106 [(iv t.frm), (iv t.dst), vr, vb, (iv t.err)]), (sl vr 2 t.rows.length (pairs t.rows)), (sl vb 1 t.brk.length (ints t.brk))] := Aq; clear Aq Ap
    refine n1 (c_4 (c_7 ?_))
    have BU := Ar.gkp (gpc 0 (gpc 1 (gpc 2 (gpc 5 (gpc 6 (gpc 7 (gpc 8 (gpc 9 (gpc 10 (gpc 11 (gpc 12 gpn))))))))))); clear Ar
    exact re_ret rfl ⟨_, rfl, ⟨rfl, (by rw [made_good (fun i hi => hrw i (by omega)) hq hpc (good_piece hq (by assumption) (by assumption))]; rfl)⟩⟩ BU
   skip
   rw [decide_eq_false A0] at L
   refine b_4 L rfl (c_6 (g_6 ?_))
   have BV := D.gkp (gpc 0 (gpc 1 (gpc 2 (gpc 5 (gpc 6 (gpc 7 (gpc 8 (gpc 9 (gpc 10 (gpc 11 (gpc 12 gpn))))))))))); clear D
   exact re_n ⟨_, rfl, ⟨rfl, (fun j hj => by rcases Nat.lt_succ_iff_lt_or_eq.1 hj with h | h; exact hpc j h; subst h; first | exact m_9 (.inl (by assumption)) | exact m_9 (.inr (.inl (by assumption))))⟩⟩ BV
  skip
  rw [decide_eq_false Az] at I
  refine s3 I fun Bo Ab => ?_; clear I A1
  refine s3 Ab fun Bp Ac => ?_; clear Ab Bo
  refine s3 Ac fun Bq Ad => ?_; clear Ac Bp
  refine s3 Ad fun Br g => ?_; clear Ad Bq
  refine s1 g (d_0 rfl g.e (evc _ _)) fun CZ BT => ?_; clear g Br
  refine n1 (b_4 BT rfl (c_6 (g_6 ?_)))
  have BW := D.gkp (gpc 0 (gpc 1 (gpc 2 (gpc 5 (gpc 6 (gpc 7 (gpc 8 (gpc 9 (gpc 10 (gpc 11 (gpc 12 gpn))))))))))); clear D
  exact re_n ⟨_, rfl, ⟨rfl, (fun j hj => by rcases Nat.lt_succ_iff_lt_or_eq.1 hj with h | h; exact hpc j h; subst h; first | exact m_9 (.inl (by assumption)) | exact m_9 (.inr (.inl (by assumption))))⟩⟩ BW
 ·skip
  intro L_ hL_ D188 Ca Cq m As; obtain ⟨rfl, hpc⟩ := hL_; clear W AD
  refine g_6 (a_7 (m2 (s7 m (c_0 As rfl ty_3 m.e (evc _ _) (i := 4) rfl (vs := [(iv 0)]) rfl rfl rfl (Nat.le_of_ble_eq_true rfl)) ?_)))
  intro _ By At o; clear m
  have Au : Sep NoB w By [(i_2 (D188 :: [])), nilR, (blk bl93 106 [(iv t.frm), (iv t.dst), vr, vb, (iv t.err)]), (blk C 4 [(Value.bool false)]), (blk B 3 [(iv 0)]), (blk A 159 [(Value.func (.func 102) #[] #[])]), (blk H 3 [(iv x)]), (blk M 106 [(iv t.frm), (iv t.dst), vr, vb, (iv t.err)]), (sl vr 2 t.rows.length (pairs t.rows)), (sl vb 1 t.brk.length (ints t.brk))] := At; clear At As
  refine s7 o (c_0 Au rfl ty_4 o.e (evc _ _) (i := 3) rfl (vs := [(Value.bool false)]) rfl rfl rfl (Nat.le_of_ble_eq_true rfl)) ?_
  intro _ Bz Av Ae; clear o
  have Aw : Sep NoB w Bz [(i_2 (D188 :: [])), nilR, (blk bl93 106 [(iv t.frm), (iv t.dst), vr, vb, (iv t.err)]), (blk C 4 [(Value.bool false)]), (blk B 3 [(iv 0)]), (blk A 159 [(Value.func (.func 102) #[] #[])]), (blk H 3 [(iv x)]), (blk M 106 [(iv t.frm), (iv t.dst), vr, vb, (iv t.err)]), (sl vr 2 t.rows.length (pairs t.rows)), (sl vb 1 t.brk.length (ints t.brk))] := Av; clear Av Au
  refine n1 (c_4 (fin_runM Ae (.inl rfl) Aw ?_))
  intro Cr AA; clear Aw
  refine ⟨_, (d_2 Ae rfl (.cell1 rfl ty_3 (AA.bk 3 rfl) rfl) (.cell1 rfl ty_4 (AA.bk 2 rfl) rfl)), ?_⟩
  have hz := (made_goodno (fun i hi => hrw i (by omega)) (fun i hi => hpc i (by omega)))
  exact ⟨by unfold e_6; rw [hz]; rfl, AA.ext⟩
 skip
 intro c_ hc_; cases hc_
 intro L_ hL_ D203 Cb Cs Af Ax; obtain ⟨rfl, hsm⟩ := hL_; clear W AD
 refine c_4 (c_7 (a_6 (fin_runM Af (.inl rfl) Ax ?_)))
 intro Ct AB; clear Ax
 refine ⟨_, (d_2 Af rfl (.cell1 rfl ty_3 (AB.bk 3 rfl) rfl) (.cell1 rfl ty_4 (AB.bk 2 rfl) rfl)), ?_⟩
 exact ⟨by rw [hsm], AB.ext⟩
theorem makes_up (t : TabD) (vr vb : Value) (w : World) (hr : SlAt w vr 2 t.rows.length (pairs t.rows)) (hb : SlAt w vb 1 t.brk.length (ints t.brk)) (hrl : t.rows.length ≤ 1000000) (hbl : t.brk.length ≤ 1000000) (n : Int) (hV : TabV n t) (x : Int) :
  Calls Try.prog 101 #[(Value.agg #[(iv t.frm), (iv t.dst), vr, vb, (iv t.err)]), (iv x), (Value.agg #[(Value.func (.func 103) #[] #[])])] w (Ret fun v w' => v = .tuple #[.int .i64 (e_6 t x).2, .bool (t_9 t x).isSome] ∧ Ext NoB w w') := by
 refine calls_enterM Try.func101 rfl fun a0 AF => ?_
 replace AF : Fr 62 (marks []) [(0, (Value.agg #[(iv t.frm), (iv t.dst), vr, vb, (iv t.err)])), (1, (iv x)), (2, (Value.agg #[(Value.func (.func 103) #[] #[])]))] a0 := AF
 have Ba : Sep NoB w w [(i_2 []), (sl vr 2 t.rows.length (pairs t.rows)), (sl vb 1 t.brk.length (ints t.brk))] := sep_marks (f_2 ⟨rfl, hr, rfl, hb, trivial⟩)
 refine m2 (s2 AF (f_4 Ba rfl AF.e (cs := [(iv t.frm), (iv t.dst), vr, vb, (iv t.err)]) rfl) ?_)
 rintro a1 _ w3 ⟨M, rfl, Bb⟩ A4; clear AF Ba a0
 refine s2 A4 (f_4 Bb rfl A4.e (cs := [(iv x)]) rfl) ?_
 rintro a6 _ w8 ⟨H, rfl, BC⟩ A9; clear A4 Bb a1
 refine s2 A9 (f_4 BC rfl A9.e (cs := [(Value.func (.func 103) #[] #[])]) rfl) ?_
 rintro B1 _ Cx ⟨A, rfl, BD⟩ A2; clear A9 BC a6
 refine s2 A2 (e_0 BD rfl ze_3 (cs := [(iv 0)]) rfl) ?_
 rintro B2 _ Cy ⟨B, rfl, BE⟩ A3; clear A2 BD B1
 refine s2 A3 (e_0 BE rfl ze_4 (cs := [(Value.bool false)]) rfl) ?_
 rintro B3 _ Cz ⟨C, rfl, AC⟩ AG; clear A3 BE B2
 refine n2 (m2 (s1 AG (a_4 rfl j_7 AG.e) fun B4 AH => ?_)); clear AG B3
 refine s1 AH (a_3 rfl p_1 AH.e (AC.bk 4 rfl) rfl) fun B5 AI => ?_; clear AH B4
 refine s1 AI (c_9 rfl l_1 AI.e (AC.sk 6 rfl)) fun B6 A5 => ?_; clear AI B5
 refine s1 A5 (a_1 rfl (evc _ _)) fun B7 A6 => ?_; clear A5 B6
 refine n1 (c_2 ?_)
 have A7 := A6.as [(15, (iv 0)), (14, (iv (t.rows.length : Int))), (13, vr), (7, (bptr C 0)), (6, (bptr B 0)), (5, (bptr A 0)), (4, (bptr H 0)), (3, (bptr M 0))] rfl; clear A6
 refine g_7 (G := Nat) (fun (k : Nat) a_ w_ => Fr 62 (marks []) [(15, (iv (k : Int))), (14, (iv (t.rows.length : Int))), (13, vr), (7, (bptr C 0)), (6, (bptr B 0)), (5, (bptr A 0)), (4, (bptr H 0)), (3, (bptr M 0))] a_ ∧ Sep NoB w w_ [(blk C 4 [(Value.bool false)]), (blk B 3 [(iv 0)]), (blk A 159 [(Value.func (.func 103) #[] #[])]), (blk H 3 [(iv x)]), (blk M 106 [(iv t.frm), (iv t.dst), vr, vb, (iv t.err)]), (i_2 []), (sl vr 2 t.rows.length (pairs t.rows)), (sl vb 1 t.brk.length (ints t.brk))] ∧ (k ≤ t.rows.length) ∧ (∀ i, i < k → ¬ tx t i = x)) (fun k => t.rows.length - k) 0 ⟨A7.as _ rfl, AC, by omega, (fun _ h => absurd h (Nat.not_lt_zero _))⟩ ?_
 clear A7 AC B7
 rintro k B8 C0 ⟨p, N, hkk, hrw⟩
 refine m2 (s1 p (f_5 rfl p.e p.e) fun BX F => ?_); clear p B8
 refine n2 ?_
 by_cases BQ : (k : Int) < (t.rows.length : Int)
 ·skip
  rw [decide_eq_true BQ] at F
  refine b_7 F rfl (c_6 (a_7 (b_5 (c_2 (m2 (s1 F (b_0 rfl l_1 j_2 F.e (i := k) F.e (N.sk 6 rfl) (by decide) (by omega)) fun B9 AJ => ?_)))))); clear F BX
  refine s1 AJ (e_7 rfl j_2 AJ.e (N.sk 6 rfl) (g_8 (by omega)) rfl (by decide)) fun CA A8 => ?_; clear AJ B9
  refine s2 A8 (e_0 N rfl aa_2 (cs := [(iv 0), (iv 0)]) rfl) ?_
  rintro CB _ C1 ⟨AU, rfl, BF⟩ s; clear A8 N CA
  refine s7 s (c_0 BF rfl j_2 s.e s.e (i := 0) rfl (vs := [(iv ((t.rows.getD k (0, 0)).1)), (iv ((t.rows.getD k (0, 0)).2))]) rfl rfl rfl (Nat.le_of_ble_eq_true rfl)) ?_
  intro _ CS BG AK; clear s
  have O : Sep NoB w CS [(blk AU 107 [(iv ((t.rows.getD k (0, 0)).1)), (iv ((t.rows.getD k (0, 0)).2))]), (blk C 4 [(Value.bool false)]), (blk B 3 [(iv 0)]), (blk A 159 [(Value.func (.func 103) #[] #[])]), (blk H 3 [(iv x)]), (blk M 106 [(iv t.frm), (iv t.dst), vr, vb, (iv t.err)]), (i_2 []), (sl vr 2 t.rows.length (pairs t.rows)), (sl vb 1 t.brk.length (ints t.brk))] := BG; clear BG BF
  refine n4 (s1 AK (a_4 rfl j_8 AK.e) fun CC AL => ?_); clear AK CB
  refine s1 AL (a_3 rfl ty_3 AL.e (O.bk 0 rfl) rfl) fun CD AM => ?_; clear AL CC
  refine s1 AM (a_3 rfl ty_3 AM.e (O.bk 4 rfl) rfl) fun CE u => ?_; clear AM CD
  refine s1 u (m_4 rfl u.e u.e) fun BY K => ?_; clear u CE
  refine n1 ?_
  by_cases BR : ((t.rows.getD k (0, 0)).1) = x
  ·skip
   rw [decide_eq_true BR] at K
   refine b_7 K rfl (b_5 ?_)
   have AN := K.as [(9, (bptr AU 0)), (7, (bptr C 0)), (6, (bptr B 0))] rfl; clear K
   refine a_5 (s1 AN (a_4 rfl m_7 AN.e) fun CF AO => ?_); clear AN BY
   refine s1 AO (a_3 rfl ty_3 AO.e (O.bk 0 rfl) rfl) fun Cu y => ?_; clear AO CF
   refine s7 y (c_0 O rfl ty_3 y.e y.e (i := 2) rfl (vs := [(iv ((t.rows.getD k (0, 0)).2))]) rfl rfl rfl (Nat.le_of_ble_eq_true rfl)) ?_
   intro _ CT BH AP; clear y
   have BI : Sep NoB w CT [(blk AU 107 [(iv ((t.rows.getD k (0, 0)).1)), (iv ((t.rows.getD k (0, 0)).2))]), (blk C 4 [(Value.bool false)]), (blk B 3 [(iv ((t.rows.getD k (0, 0)).2))]), (blk A 159 [(Value.func (.func 103) #[] #[])]), (blk H 3 [(iv x)]), (blk M 106 [(iv t.frm), (iv t.dst), vr, vb, (iv t.err)]), (i_2 []), (sl vr 2 t.rows.length (pairs t.rows)), (sl vb 1 t.brk.length (ints t.brk))] := BH; clear BH O
   refine s7 AP (c_0 BI rfl ty_4 AP.e (evc _ _) (i := 1) rfl (vs := [(Value.bool true)]) rfl rfl rfl (Nat.le_of_ble_eq_true rfl)) ?_
   intro _ CU BJ BA; clear AP
   have BK : Sep NoB w CU [(blk AU 107 [(iv ((t.rows.getD k (0, 0)).1)), (iv ((t.rows.getD k (0, 0)).2))]), (blk C 4 [(Value.bool true)]), (blk B 3 [(iv ((t.rows.getD k (0, 0)).2))]), (blk A 159 [(Value.func (.func 103) #[] #[])]), (blk H 3 [(iv x)]), (blk M 106 [(iv t.frm), (iv t.dst), vr, vb, (iv t.err)]), (i_2 []), (sl vr 2 t.rows.length (pairs t.rows)), (sl vb 1 t.brk.length (ints t.brk))] := BJ; clear BJ BI
   refine n1 (c_4 (c_7 (a_6 (a_6 (c_7 (a_6 ?_))))))
   have BL := BK.gkp (gpc 6 (gpc 0 (gpc 1 (gpc 2 (gpc 3 (gpc 4 (gpc 5 (gpc 7 (gpc 8 gpn))))))))); clear BK
   refine fin_runM BA (.inl rfl) BL ?_
   intro C2 AT; clear BL
   refine ⟨_, (d_2 BA rfl (.cell1 rfl ty_3 (AT.bk 2 rfl) rfl) (.cell1 rfl ty_4 (AT.bk 1 rfl) rfl)), ?_⟩
   have hz := (made_row (k := k) (by omega) (fun i hi => hrw i (by omega)) (by assumption))
   exact ⟨by unfold e_6; rw [hz]; rfl, AT.ext⟩
  skip
  rw [decide_eq_false BR] at K
  refine b_4 K rfl (c_6 (g_6 (a_7 ?_)))
  have AQ := K.as [(15, (iv (k : Int))), (14, (iv (t.rows.length : Int))), (13, vr), (7, (bptr C 0)), (6, (bptr B 0)), (5, (bptr A 0)), (4, (bptr H 0)), (3, (bptr M 0))] rfl; clear K
  refine a_5 (s1 AQ (f_0 rfl AQ.e (evc _ _) (by omega) (by omega)) fun CG AR => ?_); clear AQ BY
  refine s1 AR (a_1 rfl AR.e) fun Cv Bs => ?_; clear AR CG
  refine e_2 ?_
  have Bt := O.gkp (gpc 1 (gpc 2 (gpc 3 (gpc 4 (gpc 5 (gpc 6 (gpc 7 (gpc 8 gpn)))))))); clear O
  exact a_7 ⟨k + 1, ⟨Bs.as _ rfl, Bt, by omega, (fun i hi => by rcases Nat.lt_succ_iff_lt_or_eq.1 hi with h | h; exact hrw i h; subst h; assumption)⟩, by omega⟩
 skip
 rw [decide_eq_false BQ] at F
 refine b_4 F rfl (g_3 (b_1 (b_1 (f_1 (a_7 (b_5 (m2 (s1 F (c_5 rfl m_0 (F.ev rfl) (N.bk 4 rfl) (l := [(iv t.frm), (iv t.dst), vr, vb, (iv t.err)]) rfl rfl) fun CH AS => ?_)))))))); clear F BX
 refine s2 AS (b_3 rfl en_116 (ev1 AS.e) (pieces_ok t vr vb _ hr.one hb.one)) ?_
 rintro Cw _ C3 ⟨bl93, rfl, BP⟩ BB; have BM := N.aa_5 BP rfl; clear BP AS N CH
 refine n1 (c_2 ?_)
 have W := BB.as [(27, (Value.func (.func 121) #[] #[(bptr bl93 0)])), (7, (bptr C 0)), (6, (bptr B 0)), (5, (bptr A 0)), (4, (bptr H 0))] rfl; clear BB
 have BN := BM.nilR; clear BM
 have AD := BN.gkp (gpc 7 (gpc 0 (gpc 1 (gpc 2 (gpc 3 (gpc 4 (gpc 5 (gpc 6 (gpc 8 (gpc 9 gpn)))))))))); clear BN
 refine c_rangeG W nilR rfl AD W.e en_121 ((d_8 t).length) (fun q => #[.agg #[.int .i64 (t.rows.getD ((d_8 t).getD q 0) (0, 0)).1, .int .i64 (t.rows.getD ((d_8 t).getD q 0) (0, 0)).2], .agg #[.int .i64 (t.rows.getD ((d_8 t).getD q 0 + 1) (0, 0)).1, .int .i64 (t.rows.getD ((d_8 t).getD q 0 + 1) (0, 0)).2]]) (fun _ => rfl) [rob bl93 106 [.int .i64 t.frm, .int .i64 t.dst, vr, vb, .int .i64 t.err], sl vr 2 t.rows.length (pairs t.rows), sl vb 1 t.brk.length (ints t.brk)] (fun r hr => by simp only [List.mem_cons, List.not_mem_nil, or_false] at hr; rcases hr with rfl | rfl | rfl <;> rfl) (pieces_it bl93 t vr vb hV.len hrl hbl) (fun q L_ => L_ = [(blk bl93 106 [(iv t.frm), (iv t.dst), vr, vb, (iv t.err)]), (blk C 4 [(Value.bool false)]), (blk B 3 [(iv 0)]), (blk A 159 [(Value.func (.func 103) #[] #[])]), (blk H 3 [(iv x)]), (blk M 106 [(iv t.frm), (iv t.dst), vr, vb, (iv t.err)]), (sl vr 2 t.rows.length (pairs t.rows)), (sl vb 1 t.brk.length (ints t.brk))] ∧ (∀ j, j < q → m_8 t x ((d_8 t).getD j 0) = false)) (fun L_ => L_ = [(blk bl93 106 [(iv t.frm), (iv t.dst), vr, vb, (iv t.err)]), (blk C 4 [(Value.bool true)]), (blk B 3 [(iv ((e_6 t x).2))]), (blk A 159 [(Value.func (.func 103) #[] #[])]), (blk H 3 [(iv x)]), (blk M 106 [(iv t.frm), (iv t.dst), vr, vb, (iv t.err)]), (sl vr 2 t.rows.length (pairs t.rows)), (sl vb 1 t.brk.length (ints t.brk))] ∧ ((t_9 t x).isSome = true)) (some .ret) ⟨rfl, (fun _ h => absurd h (Nat.not_lt_zero _))⟩ (fun q L_ hI_ G_ W_ r1_ r2_ hW_ => by obtain ⟨rfl, hpc⟩ := hI_; exact (Sep.keep (hW_.to_ro (i := 3) rfl) [2, 3, 9, 10] (by decide) _ rfl rfl)) (fun L_ hI_ G_ W_ r1_ r2_ hW_ => by obtain ⟨rfl, hsm⟩ := hI_; exact (Sep.keep (hW_.to_ro (i := 3) rfl) [2, 3, 9, 10] (by decide) _ rfl rfl)) ?_ ?_ ?_
 ·skip
  intro q hq L_ hL_ G105 CW AE D103 rc104 BZ C4 Ay BO; obtain ⟨rfl, hpc⟩ := hL_
  have AV : Fr 62 [] [(29, (Value.agg #[(iv ((t.rows.getD (((d_8 t).getD q 0) + 1) (0, 0)).1)), (iv ((t.rows.getD (((d_8 t).getD q 0) + 1) (0, 0)).2))])), (28, (Value.agg #[(iv ((t.rows.getD (((d_8 t).getD q 0)) (0, 0)).1)), (iv ((t.rows.getD (((d_8 t).getD q 0)) (0, 0)).2))])), (27, (Value.func (.func 121) #[] #[(bptr bl93 0)])), (7, (bptr C 0)), (6, (bptr B 0)), (5, (bptr A 0)), (4, (bptr H 0))] BZ := by rw [Ay]; exact Fr.round2 W (by decide) (by decide)
  clear Ay AD
  have hgq : ((d_8 t).getD q 0) < t.rows.length - 1 := (good_mem hq).1; have hbn := hV.bnd _ (show ((d_8 t).getD q 0) < t.rows.length by omega); have hbn1 := hV.bnd (((d_8 t).getD q 0) + 1) (by omega); unfold tx ty at hbn hbn1
  refine m2 (s2 AV (e_0 BO rfl aa_2 (cs := [(iv 0), (iv 0)]) rfl) ?_)
  rintro Bc _ Cm ⟨E, rfl, Ag⟩ P; clear AV BO BZ
  refine s7 P (c_0 Ag rfl j_2 P.e P.e (i := 0) rfl (vs := [(iv ((t.rows.getD (((d_8 t).getD q 0)) (0, 0)).1)), (iv ((t.rows.getD (((d_8 t).getD q 0)) (0, 0)).2))]) rfl rfl rfl (Nat.le_of_ble_eq_true rfl)) ?_
  intro _ Bu Ah AW; clear P
  have Ai : Sep NoB w Bu [(blk E 107 [(iv ((t.rows.getD (((d_8 t).getD q 0)) (0, 0)).1)), (iv ((t.rows.getD (((d_8 t).getD q 0)) (0, 0)).2))]), (obR AE (.loop (rc104 .ready none))), (i_2 (D103 :: [])), G105, (blk bl93 106 [(iv t.frm), (iv t.dst), vr, vb, (iv t.err)]), (blk C 4 [(Value.bool false)]), (blk B 3 [(iv 0)]), (blk A 159 [(Value.func (.func 103) #[] #[])]), (blk H 3 [(iv x)]), (blk M 106 [(iv t.frm), (iv t.dst), vr, vb, (iv t.err)]), (sl vr 2 t.rows.length (pairs t.rows)), (sl vb 1 t.brk.length (ints t.brk))] := Ah; clear Ah Ag
  refine n3 (s2 AW (e_0 Ai rfl aa_2 (cs := [(iv 0), (iv 0)]) rfl) ?_)
  rintro Bd _ Cn ⟨J, rfl, Aj⟩ Q; clear AW Ai Bc
  refine s7 Q (c_0 Aj rfl j_2 Q.e Q.e (i := 0) rfl (vs := [(iv ((t.rows.getD (((d_8 t).getD q 0) + 1) (0, 0)).1)), (iv ((t.rows.getD (((d_8 t).getD q 0) + 1) (0, 0)).2))]) rfl rfl rfl (Nat.le_of_ble_eq_true rfl)) ?_
  intro _ Bv Ak X; clear Q
  have Al : Sep NoB w Bv [(blk J 107 [(iv ((t.rows.getD (((d_8 t).getD q 0) + 1) (0, 0)).1)), (iv ((t.rows.getD (((d_8 t).getD q 0) + 1) (0, 0)).2))]), (blk E 107 [(iv ((t.rows.getD (((d_8 t).getD q 0)) (0, 0)).1)), (iv ((t.rows.getD (((d_8 t).getD q 0)) (0, 0)).2))]), (obR AE (.loop (rc104 .ready none))), (i_2 (D103 :: [])), G105, (blk bl93 106 [(iv t.frm), (iv t.dst), vr, vb, (iv t.err)]), (blk C 4 [(Value.bool false)]), (blk B 3 [(iv 0)]), (blk A 159 [(Value.func (.func 103) #[] #[])]), (blk H 3 [(iv x)]), (blk M 106 [(iv t.frm), (iv t.dst), vr, vb, (iv t.err)]), (sl vr 2 t.rows.length (pairs t.rows)), (sl vb 1 t.brk.length (ints t.brk))] := Ak; clear Ak Aj
  refine e_2 ?_
  have Am := Al.gkp (gpc 2 (gpc 3 (gpc 4 (gpc 0 (gpc 1 (gpc 5 (gpc 6 (gpc 7 (gpc 8 (gpc 9 (gpc 10 (gpc 11 (gpc 12 gpn))))))))))))); clear Al
  refine ⟨rfl, _, Am, ?_⟩; intro Co D; clear Am
  refine c_2 (m2 (s1 X (a_4 rfl j_8 X.e) fun Be Y => ?_)); clear X Bd
  refine s1 Y (a_3 rfl ty_3 Y.e (D.bk 4 rfl) rfl) fun Bf Z => ?_; clear Y Be
  refine s1 Z (a_3 rfl ty_3 Z.e (D.bk 9 rfl) rfl) fun Bg R => ?_; clear Z Bf
  refine s1 R (f_5 rfl R.e R.e) fun Bh b => ?_; clear R Bg
  refine s1 b (a_1 rfl b.e) fun A1 I => ?_; clear b Bh
  by_cases Az : ((t.rows.getD (((d_8 t).getD q 0)) (0, 0)).1) < x
  ·skip
   rw [decide_eq_true Az] at I
   refine s5 I (a_3 rfl ty_3 I.e (D.bk 9 rfl) rfl) fun Bi c => ?_; clear I A1
   refine s5 c (a_4 rfl j_8 c.e) fun Bj d => ?_; clear c Bi
   refine s5 d (a_3 rfl ty_3 d.e (D.bk 3 rfl) rfl) fun Bk S => ?_; clear d Bj
   refine s5 S (f_5 rfl S.e S.e) fun Bl T => ?_; clear S Bk
   refine s1 T (b_6 rfl T.e T.e) fun CY L => ?_; clear T Bl
   refine n1 ?_
   by_cases A0 : x < ((t.rows.getD (((d_8 t).getD q 0) + 1) (0, 0)).1)
   ·skip
    rw [decide_eq_true A0] at L
    have hpb := piece_bds (v := x) (k := ((d_8 t).getD q 0)) hV (by omega) (by unfold tx; omega) (by unfold tx; omega); unfold pieceN pieceD tx ty at hpb; have hdb := downF_bd hpb.1 hpb.2; have hub := upF_bd hpb.1 hpb.2
    refine b_7 L rfl (b_5 ?_)
    have AX := L.as [(11, (bptr J 0)), (10, (bptr E 0)), (7, (bptr C 0)), (6, (bptr B 0)), (5, (bptr A 0)), (4, (bptr H 0))] rfl; clear L
    have AY := AX.as [(11, (bptr J 0)), (10, (bptr E 0)), (7, (bptr C 0)), (6, (bptr B 0)), (5, (bptr A 0)), (4, (bptr H 0))] rfl; clear AX
    refine g_2 mixed AY D 21 [[], [0], [], [2], [], [], [5], [4, 6], [], [8], [], [10], [9, 11], [7, 12], [], [14], [], [16], [15, 17], [13, 18], [3, 19]] [(Yd.val (bptr E 1)), (Yd.val (iv ((t.rows.getD (((d_8 t).getD q 0)) (0, 0)).2))), (Yd.val (bptr A 0)), (Yd.val (Value.func (.func 103) #[] #[])), (Yd.val (iv x)), (Yd.val (bptr E 0)), (Yd.val (iv ((t.rows.getD (((d_8 t).getD q 0)) (0, 0)).1))), (Yd.val (iv (x - ((t.rows.getD (((d_8 t).getD q 0)) (0, 0)).1)))), (Yd.val (bptr J 1)), (Yd.val (iv ((t.rows.getD (((d_8 t).getD q 0) + 1) (0, 0)).2))), (Yd.val (bptr E 1)), (Yd.val (iv ((t.rows.getD (((d_8 t).getD q 0)) (0, 0)).2))), (Yd.val (iv (((t.rows.getD (((d_8 t).getD q 0) + 1) (0, 0)).2) - ((t.rows.getD (((d_8 t).getD q 0)) (0, 0)).2)))), (Yd.val (iv ((x - ((t.rows.getD (((d_8 t).getD q 0)) (0, 0)).1)) * (((t.rows.getD (((d_8 t).getD q 0) + 1) (0, 0)).2) - ((t.rows.getD (((d_8 t).getD q 0)) (0, 0)).2))))), (Yd.val (bptr J 0)), (Yd.val (iv ((t.rows.getD (((d_8 t).getD q 0) + 1) (0, 0)).1))), (Yd.val (bptr E 0)), (Yd.val (iv ((t.rows.getD (((d_8 t).getD q 0)) (0, 0)).1))), (Yd.val (iv (((t.rows.getD (((d_8 t).getD q 0) + 1) (0, 0)).1) - ((t.rows.getD (((d_8 t).getD q 0)) (0, 0)).1)))), (Yd.val (Value.agg #[(iv ((x - ((t.rows.getD (((d_8 t).getD q 0)) (0, 0)).1)) * (((t.rows.getD (((d_8 t).getD q 0) + 1) (0, 0)).2) - ((t.rows.getD (((d_8 t).getD q 0)) (0, 0)).2)))), (iv (((t.rows.getD (((d_8 t).getD q 0) + 1) (0, 0)).1) - ((t.rows.getD (((d_8 t).getD q 0)) (0, 0)).1)))])), (Yd.val (iv (upF ((x - ((t.rows.getD (((d_8 t).getD q 0)) (0, 0)).1)) * (((t.rows.getD (((d_8 t).getD q 0) + 1) (0, 0)).2) - ((t.rows.getD (((d_8 t).getD q 0)) (0, 0)).2))) (((t.rows.getD (((d_8 t).getD q 0) + 1) (0, 0)).1) - ((t.rows.getD (((d_8 t).getD q 0)) (0, 0)).1)))))] (by decide +kernel) rfl rfl ?_ ?_
    ·skip
     refine ⟨fun a w hA hS hd => ?_, ?_⟩
     ·skip
      exact d_4 rfl (dv (a_4 rfl m_7 hA.e) hS rfl)
     refine ⟨fun a w hA hS hd => ?_, ?_⟩
     ·skip
      have e0 := e_5 (hd 0 (by decide)) rfl (fun _ h => h)
      exact d_4 rfl (dv (a_3 rfl ty_3 (b_8 e0) (hS.bk 4 rfl) rfl) hS rfl)
     refine ⟨fun a w hA hS hd => ?_, ?_⟩
     ·skip
      exact d_4 rfl (dv (a_4 rfl fd_159_0 hA.e) hS rfl)
     refine ⟨fun a w hA hS hd => ?_, ?_⟩
     ·skip
      have e2 := e_5 (hd 2 (by decide)) rfl (fun _ h => h)
      exact d_4 rfl (dv (a_3 rfl ty_154 (b_8 e2) (hS.bk 8 rfl) rfl) hS rfl)
     refine ⟨fun a w hA hS hd => ?_, ?_⟩
     ·skip
      exact d_4 rfl (dv (a_3 rfl ty_3 hA.e (hS.bk 9 rfl) rfl) hS rfl)
     refine ⟨fun a w hA hS hd => ?_, ?_⟩
     ·skip
      exact d_4 rfl (dv (a_4 rfl j_8 hA.e) hS rfl)
     refine ⟨fun a w hA hS hd => ?_, ?_⟩
     ·skip
      have e5 := e_5 (hd 5 (by decide)) rfl (fun _ h => h)
      exact d_4 rfl (dv (a_3 rfl ty_3 (b_8 e5) (hS.bk 4 rfl) rfl) hS rfl)
     refine ⟨fun a w hA hS hd => ?_, ?_⟩
     ·skip
      have e4 := e_5 (hd 4 (by decide)) rfl (fun _ h => h)
      have e6 := e_5 (hd 6 (by decide)) rfl (fun _ h => h)
      exact d_4 rfl (dv (h_9 rfl (b_8 e4) (b_8 e6) (by omega) (by omega)) hS rfl)
     refine ⟨fun a w hA hS hd => ?_, ?_⟩
     ·skip
      exact d_4 rfl (dv (a_4 rfl m_7 hA.e) hS rfl)
     refine ⟨fun a w hA hS hd => ?_, ?_⟩
     ·skip
      have e8 := e_5 (hd 8 (by decide)) rfl (fun _ h => h)
      exact d_4 rfl (dv (a_3 rfl ty_3 (b_8 e8) (hS.bk 3 rfl) rfl) hS rfl)
     refine ⟨fun a w hA hS hd => ?_, ?_⟩
     ·skip
      exact d_4 rfl (dv (a_4 rfl m_7 hA.e) hS rfl)
     refine ⟨fun a w hA hS hd => ?_, ?_⟩
     ·skip
      have CI := e_5 (hd 10 (by decide)) rfl (fun _ h => h)
      exact d_4 rfl (dv (a_3 rfl ty_3 (b_8 CI) (hS.bk 4 rfl) rfl) hS rfl)
     refine ⟨fun a w hA hS hd => ?_, ?_⟩
     ·skip
      have e9 := e_5 (hd 9 (by decide)) rfl (fun _ h => h)
      have CJ := e_5 (hd 11 (by decide)) rfl (fun _ h => h)
      exact d_4 rfl (dv (h_9 rfl (b_8 e9) (b_8 CJ) (by omega) (by omega)) hS rfl)
     refine ⟨fun a w hA hS hd => ?_, ?_⟩
     ·skip
      have e7 := e_5 (hd 7 (by decide)) rfl (fun _ h => h)
      have CK := e_5 (hd 12 (by decide)) rfl (fun _ h => h)
      exact d_4 rfl (dv (op_mul rfl (b_8 e7) (b_8 CK) (by omega) (by omega)) hS rfl)
     refine ⟨fun a w hA hS hd => ?_, ?_⟩
     ·skip
      exact d_4 rfl (dv (a_4 rfl j_8 hA.e) hS rfl)
     refine ⟨fun a w hA hS hd => ?_, ?_⟩
     ·skip
      have CM := e_5 (hd 14 (by decide)) rfl (fun _ h => h)
      exact d_4 rfl (dv (a_3 rfl ty_3 (b_8 CM) (hS.bk 3 rfl) rfl) hS rfl)
     refine ⟨fun a w hA hS hd => ?_, ?_⟩
     ·skip
      exact d_4 rfl (dv (a_4 rfl j_8 hA.e) hS rfl)
     refine ⟨fun a w hA hS hd => ?_, ?_⟩
     ·skip
      have CO := e_5 (hd 16 (by decide)) rfl (fun _ h => h)
      exact d_4 rfl (dv (a_3 rfl ty_3 (b_8 CO) (hS.bk 4 rfl) rfl) hS rfl)
     refine ⟨fun a w hA hS hd => ?_, ?_⟩
     ·skip
      have CN := e_5 (hd 15 (by decide)) rfl (fun _ h => h)
      have CP := e_5 (hd 17 (by decide)) rfl (fun _ h => h)
      exact d_4 rfl (dv (h_9 rfl (b_8 CN) (b_8 CP) (by omega) (by omega)) hS rfl)
     refine ⟨fun a w hA hS hd => ?_, ?_⟩
     ·skip
      have CL := e_5 (hd 13 (by decide)) rfl (fun _ h => h)
      have CQ := e_5 (hd 18 (by decide)) rfl (fun _ h => h)
      exact d_4 rfl (dv (e_8 rfl (pv2 (b_8 CL) (b_8 CQ)) (bd_157_0i_1i _ _)) hS rfl)
     refine ⟨fun a w hA hS hd => ?_, ?_⟩
     ·skip
      have e3 := e_5 (hd 3 (by decide)) rfl (fun _ h => h)
      have CR := e_5 (hd 19 (by decide)) rfl (fun _ h => h)
      exact d_4 rfl (dx (i_9 rfl (b_8 e3) en_103 (ev1 (b_8 CR)) (up_ok _ _ _ (by omega) (by omega))) hS (fun _ => rfl))
     trivial
    intro Bm Cp AZ An z; clear AY D
    have Aa := AZ.add (hz z 1); clear AZ
    have U := Aa.add (hz z 20); clear Aa
    clear z
    refine s1 U (f_0 rfl U.e U.e (by omega) (by omega)) fun Bn BS => ?_; clear U Bm
    have hvl : ((t.rows.getD (((d_8 t).getD q 0)) (0, 0)).2) + (upF ((x - ((t.rows.getD (((d_8 t).getD q 0)) (0, 0)).1)) * (((t.rows.getD (((d_8 t).getD q 0) + 1) (0, 0)).2) - ((t.rows.getD (((d_8 t).getD q 0)) (0, 0)).2))) (((t.rows.getD (((d_8 t).getD q 0) + 1) (0, 0)).1) - ((t.rows.getD (((d_8 t).getD q 0)) (0, 0)).1))) = (e_6 t x).2 := by unfold e_6; rw [made_good (fun i hi => hrw i (by omega)) hq hpc (good_piece hq (by assumption) (by assumption))]; rfl
    have V : Fr 62 [] [(61, (iv ((e_6 t x).2))), (60, (iv (upF ((x - ((t.rows.getD (((d_8 t).getD q 0)) (0, 0)).1)) * (((t.rows.getD (((d_8 t).getD q 0) + 1) (0, 0)).2) - ((t.rows.getD (((d_8 t).getD q 0)) (0, 0)).2))) (((t.rows.getD (((d_8 t).getD q 0) + 1) (0, 0)).1) - ((t.rows.getD (((d_8 t).getD q 0)) (0, 0)).1))))), (41, (iv ((t.rows.getD (((d_8 t).getD q 0)) (0, 0)).2))), (11, (bptr J 0)), (10, (bptr E 0)), (7, (bptr C 0)), (6, (bptr B 0)), (5, (bptr A 0)), (4, (bptr H 0))] Bn := by rw [← hvl]; exact BS
    refine s7 V (c_0 An rfl ty_3 V.e V.e (i := 7) rfl (vs := [(iv ((e_6 t x).2))]) rfl rfl rfl (Nat.le_of_ble_eq_true rfl)) ?_
    intro _ Bw Ao f; clear V
    have Ap : Sep NoB w Bw [(obR AE (.loop (rc104 .busy none))), (i_2 (D103 :: [])), G105, (blk J 107 [(iv ((t.rows.getD (((d_8 t).getD q 0) + 1) (0, 0)).1)), (iv ((t.rows.getD (((d_8 t).getD q 0) + 1) (0, 0)).2))]), (blk E 107 [(iv ((t.rows.getD (((d_8 t).getD q 0)) (0, 0)).1)), (iv ((t.rows.getD (((d_8 t).getD q 0)) (0, 0)).2))]), (blk bl93 106 [(iv t.frm), (iv t.dst), vr, vb, (iv t.err)]), (blk C 4 [(Value.bool false)]), (blk B 3 [(iv ((e_6 t x).2))]), (blk A 159 [(Value.func (.func 103) #[] #[])]), (blk H 3 [(iv x)]), (blk M 106 [(iv t.frm), (iv t.dst), vr, vb, (iv t.err)]), (sl vr 2 t.rows.length (pairs t.rows)), (sl vb 1 t.brk.length (ints t.brk))] := Ao; clear Ao An
    refine s7 f (c_0 Ap rfl ty_4 f.e (evc _ _) (i := 6) rfl (vs := [(Value.bool true)]) rfl rfl rfl (Nat.le_of_ble_eq_true rfl)) ?_
    intro _ Bx Aq CV; clear f
    have Ar : Sep NoB w Bx [(obR AE (.loop (rc104 .busy none))), (i_2 (D103 :: [])), G105, (blk J 107 [(iv ((t.rows.getD (((d_8 t).getD q 0) + 1) (0, 0)).1)), (iv ((t.rows.getD (((d_8 t).getD q 0) + 1) (0, 0)).2))]), (blk E 107 [(iv ((t.rows.getD (((d_8 t).getD q 0)) (0, 0)).1)), (iv ((t.rows.getD (((d_8 t).getD q 0)) (0, 0)).2))]), (blk bl93 106 [(iv t.frm), (iv t.dst), vr, vb, (iv t.err)]), (blk C 4 [(Value.bool true)]), (blk B 3 [(iv ((e_6 t x).2))]), (blk A 159 [(Value.func (.func 103) #[] #[])]), (blk H 3 [(iv x)]), (blk M 106 [(iv t.frm), (iv t.dst), vr, vb, (iv t.err)]), (sl vr 2 t.rows.length (pairs t.rows)), (sl vb 1 t.brk.length (ints t.brk))] := Aq; clear Aq Ap
    refine n1 (c_4 (c_7 ?_))
    have BU := Ar.gkp (gpc 0 (gpc 1 (gpc 2 (gpc 5 (gpc 6 (gpc 7 (gpc 8 (gpc 9 (gpc 10 (gpc 11 (gpc 12 gpn))))))))))); clear Ar
    exact re_ret rfl ⟨_, rfl, ⟨rfl, (by rw [made_good (fun i hi => hrw i (by omega)) hq hpc (good_piece hq (by assumption) (by assumption))]; rfl)⟩⟩ BU
   skip
   rw [decide_eq_false A0] at L
   refine b_4 L rfl (c_6 (g_6 ?_))
   have BV := D.gkp (gpc 0 (gpc 1 (gpc 2 (gpc 5 (gpc 6 (gpc 7 (gpc 8 (gpc 9 (gpc 10 (gpc 11 (gpc 12 gpn))))))))))); clear D
   exact re_n ⟨_, rfl, ⟨rfl, (fun j hj => by rcases Nat.lt_succ_iff_lt_or_eq.1 hj with h | h; exact hpc j h; subst h; first | exact m_9 (.inl (by assumption)) | exact m_9 (.inr (.inl (by assumption))))⟩⟩ BV
  skip
  rw [decide_eq_false Az] at I
  refine s3 I fun Bo Ab => ?_; clear I A1
  refine s3 Ab fun Bp Ac => ?_; clear Ab Bo
  refine s3 Ac fun Bq Ad => ?_; clear Ac Bp
  refine s3 Ad fun Br g => ?_; clear Ad Bq
  refine s1 g (d_0 rfl g.e (evc _ _)) fun CZ BT => ?_; clear g Br
  refine n1 (b_4 BT rfl (c_6 (g_6 ?_)))
  have BW := D.gkp (gpc 0 (gpc 1 (gpc 2 (gpc 5 (gpc 6 (gpc 7 (gpc 8 (gpc 9 (gpc 10 (gpc 11 (gpc 12 gpn))))))))))); clear D
  exact re_n ⟨_, rfl, ⟨rfl, (fun j hj => by rcases Nat.lt_succ_iff_lt_or_eq.1 hj with h | h; exact hpc j h; subst h; first | exact m_9 (.inl (by assumption)) | exact m_9 (.inr (.inl (by assumption))))⟩⟩ BW
 ·skip
  intro L_ hL_ D188 Ca Cq m As; obtain ⟨rfl, hpc⟩ := hL_; clear W AD
  refine g_6 (a_7 (m2 (s7 m (c_0 As rfl ty_3 m.e (evc _ _) (i := 4) rfl (vs := [(iv 0)]) rfl rfl rfl (Nat.le_of_ble_eq_true rfl)) ?_)))
  intro _ By At o; clear m
  have Au : Sep NoB w By [(i_2 (D188 :: [])), nilR, (blk bl93 106 [(iv t.frm), (iv t.dst), vr, vb, (iv t.err)]), (blk C 4 [(Value.bool false)]), (blk B 3 [(iv 0)]), (blk A 159 [(Value.func (.func 103) #[] #[])]), (blk H 3 [(iv x)]), (blk M 106 [(iv t.frm), (iv t.dst), vr, vb, (iv t.err)]), (sl vr 2 t.rows.length (pairs t.rows)), (sl vb 1 t.brk.length (ints t.brk))] := At; clear At As
  refine s7 o (c_0 Au rfl ty_4 o.e (evc _ _) (i := 3) rfl (vs := [(Value.bool false)]) rfl rfl rfl (Nat.le_of_ble_eq_true rfl)) ?_
  intro _ Bz Av Ae; clear o
  have Aw : Sep NoB w Bz [(i_2 (D188 :: [])), nilR, (blk bl93 106 [(iv t.frm), (iv t.dst), vr, vb, (iv t.err)]), (blk C 4 [(Value.bool false)]), (blk B 3 [(iv 0)]), (blk A 159 [(Value.func (.func 103) #[] #[])]), (blk H 3 [(iv x)]), (blk M 106 [(iv t.frm), (iv t.dst), vr, vb, (iv t.err)]), (sl vr 2 t.rows.length (pairs t.rows)), (sl vb 1 t.brk.length (ints t.brk))] := Av; clear Av Au
  refine n1 (c_4 (fin_runM Ae (.inl rfl) Aw ?_))
  intro Cr AA; clear Aw
  refine ⟨_, (d_2 Ae rfl (.cell1 rfl ty_3 (AA.bk 3 rfl) rfl) (.cell1 rfl ty_4 (AA.bk 2 rfl) rfl)), ?_⟩
  have hz := (made_goodno (fun i hi => hrw i (by omega)) (fun i hi => hpc i (by omega)))
  exact ⟨by unfold e_6; rw [hz]; rfl, AA.ext⟩
 skip
 intro c_ hc_; cases hc_
 intro L_ hL_ D203 Cb Cs Af Ax; obtain ⟨rfl, hsm⟩ := hL_; clear W AD
 refine c_4 (c_7 (a_6 (fin_runM Af (.inl rfl) Ax ?_)))
 intro Ct AB; clear Ax
 refine ⟨_, (d_2 Af rfl (.cell1 rfl ty_3 (AB.bk 3 rfl) rfl) (.cell1 rfl ty_4 (AB.bk 2 rfl) rfl)), ?_⟩
 exact ⟨by rw [hsm], AB.ext⟩
theorem around_ok (t : TabD) (vr vb : Value) (w : World) (hr : SlAt w vr 2 t.rows.length (pairs t.rows)) (hb : SlAt w vb 1 t.brk.length (ints t.brk)) (hrl : t.rows.length ≤ 1000000) (hbl : t.brk.length ≤ 1000000) (n : Int) (hV : TabV n t) (x : Int) :
  Calls Try.prog 72 #[(Value.agg #[(iv t.frm), (iv t.dst), vr, vb, (iv t.err)]), (iv x)] w (Ret fun v w' => v = .tuple #[.agg #[.int .i64 (e_6 t x).1, .int .i64 (e_6 t x).2], .bool (t_9 t x).isSome] ∧ Ext NoB w w') := by
 refine a_8 Try.func72 rfl fun s G => ?_
 replace G : Fr 28 [] [(0, (Value.agg #[(iv t.frm), (iv t.dst), vr, vb, (iv t.err)])), (1, (iv x))] s := G
 have p : Sep NoB w w [(sl vr 2 t.rows.length (pairs t.rows)), (sl vb 1 t.brk.length (ints t.brk))] := f_2 ⟨rfl, hr, rfl, hb, trivial⟩
 refine m2 (s2 G (f_4 p rfl G.e (cs := [(iv t.frm), (iv t.dst), vr, vb, (iv t.err)]) rfl) ?_)
 rintro a1 _ w3 ⟨b4, rfl, q⟩ m; clear G p s
 refine s2 m (e_0 q rfl ab_4 (cs := [(iv 0), (iv 0)]) rfl) ?_
 rintro a6 _ w8 ⟨r, rfl, C⟩ o; clear m q a1
 refine s1 o (a_0 rfl (evc _ _)) fun u H => ?_; clear o a6
 refine n4 (s1 H (c_5 rfl m_0 (H.ev rfl) (C.bk 1 rfl) (l := [(iv t.frm), (iv t.dst), vr, vb, (iv t.err)]) rfl rfl) fun y I => ?_); clear H u
 refine s1 I (a_1 rfl I.e) fun z Z => ?_; clear I y
 refine s1 Z (e_8 rfl (pv1 (evf _ _)) (bd_159_0f _ _ _)) fun AA A => ?_; clear Z z
 refine s2 A (b_3 rfl en_101 (ev3 A.e A.e A.e) (makes_dn t _ _ _ (C.sk 2 rfl) (C.sk 3 rfl) (by omega) (by omega) _ hV x)) ?_
 rintro AB _ AZ ⟨rfl, f⟩ J; have D := C.step f; clear f A C AA
 refine s1 J (a_1 rfl J.e) fun AC K => ?_; clear J AB
 refine s1 K (e_9 rfl K.e rfl) fun AD L => ?_; clear K AC
 refine s1 L (e_9 rfl L.e rfl) fun AE M => ?_; clear L AD
 refine s1 M (a_0 rfl M.e) fun AF N => ?_; clear M AE
 refine s1 N (a_0 rfl N.e) fun AG a => ?_; clear N AF
 refine n2 ?_
 have O := a.as [(7, (Value.bool ((t_9 t x).isSome))), (6, (iv ((e_6 t x).1))), (4, (bptr r 0)), (2, (bptr b4 0)), (1, (iv x))] rfl; clear a
 refine a_5 (s1 O (c_5 rfl m_0 (O.ev rfl) (D.bk 1 rfl) (l := [(iv t.frm), (iv t.dst), vr, vb, (iv t.err)]) rfl rfl) fun AH P => ?_); clear O AG
 refine s1 P (a_1 rfl P.e) fun AI b => ?_; clear P AH
 refine s1 b (e_8 rfl (pv1 (evf _ _)) (bd_159_0f _ _ _)) fun AJ B => ?_; clear b AI
 refine s2 B (b_3 rfl en_101 (ev3 B.e B.e B.e) (makes_up t _ _ _ (D.sk 2 rfl) (D.sk 3 rfl) (by omega) (by omega) _ hV x)) ?_
 rintro AK _ Aa ⟨rfl, g⟩ Q; have h := D.step g; clear g B D AJ
 refine s1 Q (a_1 rfl Q.e) fun AL R => ?_; clear Q AK
 refine s1 R (e_9 rfl R.e rfl) fun AM S => ?_; clear R AL
 refine s1 S (e_9 rfl S.e rfl) fun AN T => ?_; clear S AM
 refine s1 T (a_0 rfl T.e) fun AO U => ?_; clear T AN
 refine s1 U (a_0 rfl U.e) fun AP c => ?_; clear U AO
 refine n2 ?_
 have V := c.as [(8, (iv ((e_6 t x).2))), (7, (Value.bool ((t_9 t x).isSome))), (6, (iv ((e_6 t x).1))), (4, (bptr r 0))] rfl; clear c
 refine a_5 (s1 V (a_1 rfl V.e) fun AQ W => ?_); clear V AP
 refine s1 W (a_1 rfl W.e) fun AR E => ?_; clear W AQ
 refine s1 E (e_8 rfl (pv2 E.e E.e) (m_5 _ _)) fun AS X => ?_; clear E AR
 refine s1 X (a_1 rfl X.e) fun AT F => ?_; clear X AS
 refine s7 F (c_0 h rfl h_5 F.e F.e (i := 0) rfl (vs := [(iv ((e_6 t x).1)), (iv ((e_6 t x).2))]) rfl rfl rfl (Nat.le_of_ble_eq_true rfl)) ?_
 intro _ AV j Y; clear F
 have k : Sep NoB w AV [(blk r 30 [(iv ((e_6 t x).1)), (iv ((e_6 t x).2))]), (blk b4 106 [(iv t.frm), (iv t.dst), vr, vb, (iv t.err)]), (sl vr 2 t.rows.length (pairs t.rows)), (sl vb 1 t.brk.length (ints t.brk))] := j; clear j h
 refine s1 Y (a_0 rfl Y.e) fun AY d => ?_; clear Y AT
 refine n1 (c_4 (a_9 d (.inl rfl) (d_2 d rfl (.cellA rfl h_5 (k.bk 0 rfl) (l := [(iv ((e_6 t x).1)), (iv ((e_6 t x).2))]) rfl rfl) (.tmp rfl)) ?_))
 exact ⟨rfl, k.ext⟩
theorem convert_ok (B C : Int) (t : TabD) (vr vb : Value) (w : World) (hr : SlAt w vr 2 t.rows.length (pairs t.rows)) (hb : SlAt w vb 1 t.brk.length (ints t.brk)) (hrl : t.rows.length ≤ 1000000) (hbl : t.brk.length ≤ 1000000) (n : Int) (hV : TabV n t) :
  Calls Try.prog 50 #[(Value.agg #[(iv t.frm), (iv t.dst), vr, vb, (iv t.err)]), (Value.agg #[(iv B), (iv C)])] w (Ret fun v w' => v = .agg #[.int .i64 (g_1 t (B, C)).1, .int .i64 (g_1 t (B, C)).2] ∧ Ext NoB w w') := by
 refine a_8 Try.func50 rfl fun a0 Q => ?_
 replace Q : Fr 42 [] [(0, (Value.agg #[(iv t.frm), (iv t.dst), vr, vb, (iv t.err)])), (1, (Value.agg #[(iv B), (iv C)]))] a0 := Q
 have A9 := madeV_bd hV B; have BA := madeV_bd hV C; have her := hV.err
 have AS : Sep NoB w w [(sl vr 2 t.rows.length (pairs t.rows)), (sl vb 1 t.brk.length (ints t.brk))] := f_2 ⟨rfl, hr, rfl, hb, trivial⟩
 refine m2 (s2 Q (f_4 AS rfl Q.e (cs := [(iv t.frm), (iv t.dst), vr, vb, (iv t.err)]) rfl) ?_)
 rintro a1 _ w3 ⟨J, rfl, AT⟩ m; clear Q AS a0
 refine s2 m (f_4 AT rfl m.e (cs := [(iv B), (iv C)]) rfl) ?_
 rintro a6 _ w8 ⟨k, rfl, AC⟩ AR; clear m AT a1
 refine s2 AR (e_0 AC rfl ab_4 (cs := [(iv 0), (iv 0)]) rfl) ?_
 rintro Ab _ BD ⟨H, rfl, F⟩ R; clear AR AC a6
 refine n4 (s1 R (c_5 rfl m_0 (R.ev rfl) (F.bk 2 rfl) (l := [(iv t.frm), (iv t.dst), vr, vb, (iv t.err)]) rfl rfl) fun Ac S => ?_); clear R Ab
 refine s1 S (a_4 rfl r_5 S.e) fun Ad T => ?_; clear S Ac
 refine s1 T (a_3 rfl ty_3 T.e (F.bk 1 rfl) rfl) fun Ae K => ?_; clear T Ad
 refine s2 K (b_3 rfl en_72 (ev2 K.e K.e) (around_ok t _ _ _ (F.sk 3 rfl) (F.sk 4 rfl) (by omega) (by omega) _ hV B)) ?_
 rintro Af _ BE ⟨rfl, AA⟩ U; have AD := F.step AA; clear AA K F Ae
 refine s1 U (a_1 rfl U.e) fun Ag V => ?_; clear U Af
 refine s1 V (e_9 rfl V.e rfl) fun Ah W => ?_; clear V Ag
 refine s1 W (e_9 rfl W.e rfl) fun Ai o => ?_; clear W Ah
 refine s2 o (e_0 AD rfl ab_4 (cs := [(iv 0), (iv 0)]) rfl) ?_
 rintro Aj _ BF ⟨E, rfl, AE⟩ L; clear o AD Ai
 refine s7 L (c_0 AE rfl h_5 L.e L.e (i := 0) rfl (vs := [(iv ((e_6 t B).1)), (iv ((e_6 t B).2))]) rfl rfl rfl (Nat.le_of_ble_eq_true rfl)) ?_
 intro _ Ay AF X; clear L
 have G : Sep NoB w Ay [(blk E 30 [(iv ((e_6 t B).1)), (iv ((e_6 t B).2))]), (blk H 30 [(iv 0), (iv 0)]), (blk k 30 [(iv B), (iv C)]), (blk J 106 [(iv t.frm), (iv t.dst), vr, vb, (iv t.err)]), (sl vr 2 t.rows.length (pairs t.rows)), (sl vb 1 t.brk.length (ints t.brk))] := AF; clear AF AE
 refine s1 X (a_0 rfl X.e) fun Ak p => ?_; clear X Aj
 refine n2 ?_
 have Y := p.as [(5, (bptr E 0)), (4, (bptr H 0)), (3, (bptr k 0)), (2, (bptr J 0))] rfl; clear p
 refine a_5 (s1 Y (c_5 rfl m_0 (Y.ev rfl) (G.bk 3 rfl) (l := [(iv t.frm), (iv t.dst), vr, vb, (iv t.err)]) rfl rfl) fun Al Z => ?_); clear Y Ak
 refine s1 Z (a_4 rfl r_6 Z.e) fun Am b => ?_; clear Z Al
 refine s1 b (a_3 rfl ty_3 b.e (G.bk 2 rfl) rfl) fun An M => ?_; clear b Am
 refine s2 M (b_3 rfl en_72 (ev2 M.e M.e) (around_ok t _ _ _ (G.sk 4 rfl) (G.sk 5 rfl) (by omega) (by omega) _ hV C)) ?_
 rintro Ao _ BG ⟨rfl, AB⟩ c; have AG := G.step AB; clear AB M G An
 refine s1 c (a_1 rfl c.e) fun Ap d => ?_; clear c Ao
 refine s1 d (e_9 rfl d.e rfl) fun Aq f => ?_; clear d Ap
 refine s1 f (e_9 rfl f.e rfl) fun Ar q => ?_; clear f Aq
 refine s2 q (e_0 AG rfl ab_4 (cs := [(iv 0), (iv 0)]) rfl) ?_
 rintro As _ BH ⟨I, rfl, AH⟩ N; clear q AG Ar
 refine s7 N (c_0 AH rfl h_5 N.e N.e (i := 0) rfl (vs := [(iv ((e_6 t C).1)), (iv ((e_6 t C).2))]) rfl rfl rfl (Nat.le_of_ble_eq_true rfl)) ?_
 intro _ Az AI g; clear N
 have AJ : Sep NoB w Az [(blk I 30 [(iv ((e_6 t C).1)), (iv ((e_6 t C).2))]), (blk E 30 [(iv ((e_6 t B).1)), (iv ((e_6 t B).2))]), (blk H 30 [(iv 0), (iv 0)]), (blk k 30 [(iv B), (iv C)]), (blk J 106 [(iv t.frm), (iv t.dst), vr, vb, (iv t.err)]), (sl vr 2 t.rows.length (pairs t.rows)), (sl vb 1 t.brk.length (ints t.brk))] := AI; clear AI AH
 refine s1 g (a_0 rfl g.e) fun A7 r => ?_; clear g As
 refine n2 ?_
 have s := r.as [(7, (bptr I 0)), (5, (bptr E 0)), (4, (bptr H 0)), (2, (bptr J 0))] rfl; clear r
 have u := s.as [(7, (bptr I 0)), (5, (bptr E 0)), (4, (bptr H 0)), (2, (bptr J 0))] rfl; clear s
 refine x_4 mixed u AJ 18 [[], [0], [], [2], [1, 3], [4], [], [6], [5, 7], [], [9], [], [11], [10, 12], [13], [], [15], [14, 16]] [(yw (bptr E 0)), (yw (iv ((e_6 t B).1))), (yw (bptr I 0)), (yw (iv ((e_6 t C).1))), (fun (A : Nat → Value) (v_ : Value) (rs_ : List Res) => True ∧ rs_ = [(row v_ 3 1 2 [(iv ((e_6 t B).1)), (iv ((e_6 t C).1))])]), (yw (iv (min ((e_6 t B).1) ((e_6 t C).1)))), (yw (bptr J 4)), (yw (iv t.err)), (yw (iv ((min ((e_6 t B).1) ((e_6 t C).1)) - t.err))), (yw (bptr E 1)), (yw (iv ((e_6 t B).2))), (yw (bptr I 1)), (yw (iv ((e_6 t C).2))), (fun (A : Nat → Value) (v_ : Value) (rs_ : List Res) => True ∧ rs_ = [(row v_ 3 1 2 [(iv ((e_6 t B).2)), (iv ((e_6 t C).2))])]), (yw (iv (max ((e_6 t B).2) ((e_6 t C).2)))), (yw (bptr J 4)), (yw (iv t.err)), (yw (iv ((max ((e_6 t B).2) ((e_6 t C).2)) + t.err)))] (by decide +kernel) (by decide +kernel) rfl rfl ⟨dw, dw, dw, dw, (fun _ _ _ _ _ h_ => h_), dw, dw, dw, dw, dw, dw, dw, dw, (fun _ _ _ _ _ h_ => h_), dw, dw, dw, dw, trivial⟩ ?_ ?_
 ·skip
  refine ⟨fun a w A hA hS hd => gv1 (a_4 rfl r_5 hA.e), ?_⟩
  refine ⟨fun a w A hA hS hd => gv1 (a_3 rfl ty_3 (gu hd 0) (hS.bk 1 rfl) rfl), ?_⟩
  refine ⟨fun a w A hA hS hd => gv1 (a_4 rfl r_5 hA.e), ?_⟩
  refine ⟨fun a w A hA hS hd => gv1 (a_3 rfl ty_3 (gu hd 2) (hS.bk 0 rfl) rfl), ?_⟩
  refine ⟨fun a w A hA hS hd => d_4 rfl (vblt rfl (pv2 (gu hd 1) (gu hd 3)) j_3 ty_3 ze_3 (by decide) (cs := [(iv ((e_6 t B).1)), (iv ((e_6 t C).1))]) (w_4 _ _) rfl (by decide) (fun _ => And.intro trivial rfl)), ?_⟩
  refine ⟨fun a w A hA hS hd => ?_, ?_⟩
  ·skip
   obtain ⟨e4, BC, Ax, Av⟩ := hd 4 (by decide)
   obtain ⟨BB, Aw⟩ := Ax; subst Aw
   have hp4_0 := Av _ (List.mem_of_getElem? (i := 0) rfl)
   exact gx1 (b_3 rfl en_79 (ev1 (b_8 (h_2 e4 rfl))) (callsI (least_ok [(e_6 t B).1, (e_6 t C).1] _ _ (SlAt.d_6 hp4_0) (by simp) (by simp)) (min ((e_6 t B).1) ((e_6 t C).1)) rfl))
  refine ⟨fun a w A hA hS hd => gv1 (a_4 rfl fd_106_4 hA.e), ?_⟩
  refine ⟨fun a w A hA hS hd => gv1 (a_3 rfl ty_3 (gu hd 6) (hS.bk 4 rfl) rfl), ?_⟩
  refine ⟨fun a w A hA hS hd => gv1 (h_9 rfl (gu hd 5) (gu hd 7) (by omega) (by omega)), ?_⟩
  refine ⟨fun a w A hA hS hd => gv1 (a_4 rfl r_6 hA.e), ?_⟩
  refine ⟨fun a w A hA hS hd => gv1 (a_3 rfl ty_3 (gu hd 9) (hS.bk 1 rfl) rfl), ?_⟩
  refine ⟨fun a w A hA hS hd => gv1 (a_4 rfl r_6 hA.e), ?_⟩
  refine ⟨fun a w A hA hS hd => gv1 (a_3 rfl ty_3 (gu hd 11) (hS.bk 0 rfl) rfl), ?_⟩
  refine ⟨fun a w A hA hS hd => d_4 rfl (vblt rfl (pv2 (gu hd 10) (gu hd 12)) j_3 ty_3 ze_3 (by decide) (cs := [(iv ((e_6 t B).2)), (iv ((e_6 t C).2))]) (w_4 _ _) rfl (by decide) (fun _ => And.intro trivial rfl)), ?_⟩
  refine ⟨fun a w A hA hS hd => ?_, ?_⟩
  ·skip
   obtain ⟨Au, A6, AY, AU⟩ := hd 13 (by decide)
   obtain ⟨A5, AV⟩ := AY; subst AV
   have hp13_0 := AU _ (List.mem_of_getElem? (i := 0) rfl)
   exact gx1 (b_3 rfl en_80 (ev1 (b_8 (h_2 Au rfl))) (callsI (greatest_ok [(e_6 t B).2, (e_6 t C).2] _ _ (SlAt.d_6 hp13_0) (by simp) (by simp)) (max ((e_6 t B).2) ((e_6 t C).2)) rfl))
  refine ⟨fun a w A hA hS hd => gv1 (a_4 rfl fd_106_4 hA.e), ?_⟩
  refine ⟨fun a w A hA hS hd => gv1 (a_3 rfl ty_3 (gu hd 15) (hS.bk 4 rfl) rfl), ?_⟩
  refine ⟨fun a w A hA hS hd => gv1 (f_0 rfl (gu hd 14) (gu hd 16) (by omega) (by omega)), ?_⟩
  trivial
 intro At A0 A rsf81 x D h; clear u AJ
 obtain ⟨AW, AZ⟩ := D 4 (by decide)
 obtain ⟨AX, AN⟩ := AZ
 obtain ⟨AO, AQ⟩ := D 13 (by decide)
 obtain ⟨AP, j⟩ := AQ
 have AK : Sep NoB w A0 [(row (A 4) 3 1 2 [(iv ((e_6 t B).1)), (iv ((e_6 t C).1))]), (row (A 13) 3 1 2 [(iv ((e_6 t B).2)), (iv ((e_6 t C).2))]), (blk I 30 [(iv ((e_6 t C).1)), (iv ((e_6 t C).2))]), (blk E 30 [(iv ((e_6 t B).1)), (iv ((e_6 t B).2))]), (blk H 30 [(iv 0), (iv 0)]), (blk k 30 [(iv B), (iv C)]), (blk J 106 [(iv t.frm), (iv t.dst), vr, vb, (iv t.err)]), (sl vr 2 t.rows.length (pairs t.rows)), (sl vb 1 t.brk.length (ints t.brk))] := by rw [show catR rsf81 0 18 = ([(row (A 4) 3 1 2 [(iv ((e_6 t B).1)), (iv ((e_6 t C).1))]), (row (A 13) 3 1 2 [(iv ((e_6 t B).2)), (iv ((e_6 t C).2))])] : List Res) by (try simp only [catR, gr (D 0 (by decide)), gr (D 1 (by decide)), gr (D 2 (by decide)), gr (D 3 (by decide)), AN, gr (D 5 (by decide)), gr (D 6 (by decide)), gr (D 7 (by decide)), gr (D 8 (by decide)), gr (D 9 (by decide)), gr (D 10 (by decide)), gr (D 11 (by decide)), gr (D 12 (by decide)), j, gr (D 14 (by decide)), gr (D 15 (by decide)), gr (D 16 (by decide)), gr (D 17 (by decide))]); (try rfl)] at h; exact h
 have y := x.add (gs (D 8 (by decide))); clear x
 have O := y.add (gs (D 17 (by decide))); clear y
 clear D h AW AO
 clear AN
 clear AX
 clear j
 clear AP
 refine s1 O (e_8 rfl (pv2 O.e O.e) (m_5 _ _)) fun A8 P => ?_; clear O At
 refine s7 P (c_0 AK rfl h_5 P.e P.e (i := 4) rfl (vs := [(iv ((min ((e_6 t B).1) ((e_6 t C).1)) - t.err)), (iv ((max ((e_6 t B).2) ((e_6 t C).2)) + t.err))]) rfl rfl rfl (Nat.le_of_ble_eq_true rfl)) ?_
 intro _ A1 AL z; clear P
 have AM : Sep NoB w A1 [(row (A 4) 3 1 2 [(iv ((e_6 t B).1)), (iv ((e_6 t C).1))]), (row (A 13) 3 1 2 [(iv ((e_6 t B).2)), (iv ((e_6 t C).2))]), (blk I 30 [(iv ((e_6 t C).1)), (iv ((e_6 t C).2))]), (blk E 30 [(iv ((e_6 t B).1)), (iv ((e_6 t B).2))]), (blk H 30 [(iv ((min ((e_6 t B).1) ((e_6 t C).1)) - t.err)), (iv ((max ((e_6 t B).2) ((e_6 t C).2)) + t.err))]), (blk k 30 [(iv B), (iv C)]), (blk J 106 [(iv t.frm), (iv t.dst), vr, vb, (iv t.err)]), (sl vr 2 t.rows.length (pairs t.rows)), (sl vb 1 t.brk.length (ints t.brk))] := AL; clear AL AK
 refine n1 (c_4 (a_9 z (.inl rfl) (a_2 z rfl (.cellA rfl h_5 (AM.bk 4 rfl) (l := [(iv ((min ((e_6 t B).1) ((e_6 t C).1)) - t.err)), (iv ((max ((e_6 t B).2) ((e_6 t C).2)) + t.err))]) rfl rfl)) ?_))
 exact ⟨rfl, AM.ext⟩
end Go.Proofs.Ytohgladndklciaa

namespace Go.Proofs.Ytohgladndklciaa
open Go.RowKit Go.Shelf Go.Eng Go.Hard
theorem indexB_int (xs : List Int) (lf : Nat → Int) (bm : Nat) (v : Value) (fid : Nat) (fs cs : Array Value) (p : Nat → Bool) (w : World) (hJ : Sep (fun b => b = bm) w w [blk bm 3 [.int .i64 (lf 0)], sl v 1 xs.length (ints xs)]) (hlen : xs.length ≤ 1000000) (hf : AsksB Try.prog w fid fs cs xs.length (fun i => .int .i64 (xs.getD i 0)) p false bm 3 (fun i => [.int .i64 (lf i)])) :
  Calls Try.prog 115 #[v, (Value.func (.func fid) fs cs)] w (Ret fun v w' => v = .int .i64 (fidx p xs.length) ∧ Ext (fun b => b = bm) w w' ∧ ∃ x, (blk bm 3 [.int .i64 x]).p w') := by
 refine a_8 Try.func115 rfl fun m S => ?_
 replace S : Fr 19 [] [(0, v), (1, (Value.func (.func fid) fs cs))] m := S
 have Z : Sep (fun b => b = bm) w w [(blk bm 3 [(iv (lf 0))]), (sl v 1 xs.length (ints xs))] := hJ
 refine m2 (s1 S (a_0 rfl (evc _ _)) fun a1 T => ?_); clear S m
 refine n2 (m2 (s1 T (a_1 rfl T.e) fun a3 U => ?_)); clear T a1
 refine s1 U (c_9 rfl j_3 U.e (Z.sk 1 rfl)) fun a5 f => ?_; clear U a3
 refine s1 f (a_1 rfl (evc _ _)) fun a7 g => ?_; clear f a5
 refine n1 (c_2 ?_)
 have j := g.as [(8, (iv 0)), (7, (iv (xs.length : Int))), (0, v), (1, (Value.func (.func fid) fs cs))] rfl; clear g
 refine g_7 (G := Nat) (fun (k : Nat) a_ w_ => Fr 19 [] [(8, (iv (k : Int))), (7, (iv (xs.length : Int))), (0, v), (1, (Value.func (.func fid) fs cs))] a_ ∧ Sep (fun b => b = bm) w w_ [(blk bm 3 [(iv (lf k))]), (sl v 1 xs.length (ints xs))] ∧ (k ≤ xs.length) ∧ (∀ i, i < k → p i = false)) (fun k => xs.length - k) 0 ⟨j.as _ rfl, Z, by omega, by omega⟩ ?_
 clear j Z a7
 rintro k n AI ⟨D, C, hk, hn⟩
 refine m2 (s1 D (f_5 rfl D.e D.e) fun c A => ?_); clear D n
 refine n2 ?_
 by_cases a : (k : Int) < (xs.length : Int)
 ·skip
  rw [decide_eq_true a] at A
  refine b_7 A rfl (c_6 (a_7 (b_5 (c_2 (m2 (s1 A (a_1 rfl A.e) fun o H => ?_)))))); clear A c
  refine s1 H (a_0 rfl H.e) fun q I => ?_; clear H o
  refine n4 (s1 I (a_1 rfl I.e) fun r J => ?_); clear I q
  refine s1 J (a_1 rfl J.e) fun s K => ?_; clear J r
  refine s1 K (a_1 rfl K.e) fun t E => ?_; clear K s
  refine s1 E (b_0 rfl j_3 ty_3 E.e (i := k) E.e (C.sk 1 rfl) (by decide) (by omega)) fun u L => ?_; clear E t
  refine s1 L (b_9 rfl ty_3 L.e (C.sk 1 rfl) (ints_at (by omega))) fun y F => ?_; clear L u
  refine s2 F (i_9 rfl (F.ev rfl) hf.1 (ev1 F.e) (hf.2 k (by omega) hn _ C.ext (C.bk 0 rfl))) ?_
  rintro d _ AJ ⟨rfl, X, Y⟩ B; have Q := C.updB (i := 0) rfl X Y; clear X Y F C y
  refine n1 ?_
  rcases Bool.eq_false_or_eq_true (p k) with R | R
  ·skip
   rw [R] at B
   refine b_7 B rfl (b_5 ?_)
   have M := B.as [(5, (iv (k : Int)))] rfl; clear B
   refine a_5 (s1 M (a_1 rfl M.e) fun z N => ?_); clear M d
   refine s1 N (a_0 rfl N.e) fun AF V => ?_; clear N z
   exact n1 (c_4 (c_7 (a_6 (a_6 (c_7 (a_6 (a_9 V (.inl rfl) (a_2 V rfl (.tmp rfl)) (⟨by first | rw [k_8 (by omega) hn (by assumption)] | rw [j_4 (fun i hi => hn i (by omega))], Q.ext, _, Q.bk 0 rfl⟩))))))))
  skip
  rw [R] at B
  refine b_4 B rfl (c_6 (g_6 (a_7 ?_)))
  have O := B.as [(8, (iv (k : Int))), (7, (iv (xs.length : Int))), (0, v), (1, (Value.func (.func fid) fs cs))] rfl; clear B
  refine a_5 (s1 O (f_0 rfl O.e (evc _ _) (by omega) (by omega)) fun AA P => ?_); clear O d
  refine s1 P (a_1 rfl P.e) fun AG l => ?_; clear P AA
  refine e_2 ?_
  exact a_7 ⟨k + 1, ⟨l.as _ rfl, Q, by omega, (fun i hi => by rcases Nat.lt_succ_iff_lt_or_eq.1 hi with h | h; exact hn i h; subst h; assumption)⟩, by omega⟩
 skip
 rw [decide_eq_false a] at A
 refine b_4 A rfl (g_3 (b_1 (b_1 (f_1 (a_7 (m2 (s1 A (a_0 rfl (evc _ _)) fun AH W => ?_))))))); clear A c
 exact n1 (c_4 (a_9 W (.inl rfl) (a_2 W rfl (.tmp rfl)) (⟨by first | rw [k_8 (by omega) hn (by assumption)] | rw [j_4 (fun i hi => hn i (by omega))], C.ext, _, C.bk 0 rfl⟩)))
theorem contB_int (xs : List Int) (lf : Nat → Int) (bm : Nat) (v : Value) (fid : Nat) (fs cs : Array Value) (p : Nat → Bool) (w : World) (hJ : Sep (fun b => b = bm) w w [blk bm 3 [.int .i64 (lf 0)], sl v 1 xs.length (ints xs)]) (hlen : xs.length ≤ 1000000) (hf : AsksB Try.prog w fid fs cs xs.length (fun i => .int .i64 (xs.getD i 0)) p false bm 3 (fun i => [.int .i64 (lf i)])) :
  Calls Try.prog 99 #[v, (Value.func (.func fid) fs cs)] w (Ret fun v w' => v = .bool ((List.range xs.length).any p) ∧ Ext (fun b => b = bm) w w' ∧ ∃ x, (blk bm 3 [.int .i64 x]).p w') := by
 refine a_8 Try.func99 rfl fun L B => ?_
 replace B : Fr 9 [] [(0, v), (1, (Value.func (.func fid) fs cs))] L := B
 have K : Sep (fun b => b = bm) w w [(blk bm 3 [(iv (lf 0))]), (sl v 1 xs.length (ints xs))] := hJ
 refine m2 (s1 B (a_0 rfl (evc _ _)) fun N E => ?_); clear B L
 refine n4 (s1 E (a_1 rfl E.e) fun O F => ?_); clear E N
 refine s1 F (a_1 rfl F.e) fun P C => ?_; clear F O
 refine s2 C (b_3 rfl en_115 (ev2 C.e C.e) (indexB_int xs lf bm _ _ _ _ p _ hJ hlen hf)) ?_
 rintro Q _ S ⟨rfl, H, lx13, I⟩ G; have J := K.updB (i := 0) rfl H I; clear H I C K P
 refine s1 G (ab_0 rfl G.e (evc _ _)) fun M A => ?_; clear G Q
 refine s1 A (a_0 rfl A.e) fun R D => ?_; clear A M
 exact n1 (c_4 (a_9 D (.inl rfl) (a_2 D rfl (.tmp rfl)) (⟨congrArg Value.bool (u_2 p xs.length), J.ext, _, J.bk 0 rfl⟩)))
theorem cloB_int (x : Int) (b bm fid : Nat) (L O : Int) (fs cs : Array Value) (q : Bool) (w : World) (hJ : Sep (fun k => k = bm) w w [blk bm 3 [.int .i64 L], rob b 112 [.func (.func fid) fs cs]]) (hen : ∀ args W, (callFunc fid args).run Try.prog W = .ok (.enter fid args) W) (hf : ∀ W, Ext (fun k => k = bm) w W → (blk bm 3 [.int .i64 L]).p W → Calls Try.prog fid (fs ++ #[.int .i64 x] ++ cs) W (Ret fun v w' => v = .bool q ∧ Ext (fun k => k = bm) W w' ∧ (blk bm 3 [.int .i64 O]).p w')) :
  Calls Try.prog 100 #[(iv x), (bptr b 0)] w (Ret fun v w' => v = .bool (!q) ∧ Ext (fun k => k = bm) w w' ∧ (blk bm 3 [.int .i64 O]).p w') := by
 refine a_8 Try.func100 rfl fun M C => ?_
 replace C : Fr 8 [] [(0, (iv x)), (1, (bptr b 0))] M := C
 have A : Sep (fun k => k = bm) w w [(blk bm 3 [(iv L)]), (rob b 112 [(Value.func (.func fid) fs cs)])] := hJ
 refine m2 (s1 C (a_0 rfl (evc _ _)) fun P F => ?_); clear C M
 refine n4 (s1 F (a_3 rfl ty_112 F.e (A.rk 1 rfl) rfl) fun Q G => ?_); clear F P
 refine s1 G (a_1 rfl G.e) fun R D => ?_; clear G Q
 refine s2 D (i_9 rfl (D.ev rfl) hen (ev1 D.e) (hf _ A.ext (A.bk 0 rfl))) ?_
 rintro S _ U ⟨rfl, I, J⟩ H; have K := A.updB (i := 0) rfl I J; clear I J D A R
 refine s1 H (g_0 rfl H.e) fun N B => ?_; clear H S
 refine s1 B (a_0 rfl B.e) fun T E => ?_; clear B N
 exact n1 (c_4 (a_9 E (.inl rfl) (a_2 E rfl (.tmp rfl)) (⟨rfl, K.ext, K.bk 0 rfl⟩)))
theorem allB_int (xs : List Int) (lf : Nat → Int) (bm : Nat) (v : Value) (fid : Nat) (fs cs : Array Value) (p : Nat → Bool) (w : World) (hJ : Sep (fun b => b = bm) w w [blk bm 3 [.int .i64 (lf 0)], sl v 1 xs.length (ints xs)]) (hlen : xs.length ≤ 1000000) (hf : AsksB Try.prog w fid fs cs xs.length (fun i => .int .i64 (xs.getD i 0)) p true bm 3 (fun i => [.int .i64 (lf i)])) :
  Calls Try.prog 69 #[v, (Value.func (.func fid) fs cs)] w (Ret fun v w' => v = .bool ((List.range xs.length).all p) ∧ Ext (fun b => b = bm) w w' ∧ ∃ x, (blk bm 3 [.int .i64 x]).p w') := by
 refine a_8 Try.func69 rfl fun N C => ?_
 replace C : Fr 9 [] [(0, v), (1, (Value.func (.func fid) fs cs))] N := C
 have M : Sep (fun b => b = bm) w w [(blk bm 3 [(iv (lf 0))]), (sl v 1 xs.length (ints xs))] := hJ
 refine m2 (s2 C (f_4 M rfl C.e (cs := [(Value.func (.func fid) fs cs)]) rfl) ?_)
 rintro S _ Y ⟨R, rfl, A⟩ L; clear C M N
 refine s1 L (a_0 rfl (evc _ _)) fun T G => ?_; clear L S
 refine n4 (s1 G (a_1 rfl G.e) fun U H => ?_); clear G T
 refine s1 H (h_8 rfl ev0 (ev1 H.e)) fun O B => ?_; clear H U
 refine s2 B (b_3 rfl en_99 (ev2 B.e B.e) (contB_int xs lf bm _ 100 #[] #[(bptr R 0)] (fun i => !p i) _ (A.lend (i := 1) rfl rfl (L' := [(sl v 1 xs.length (ints xs))]) (js := [2]) ⟨rfl, by decide, A.sk 2 rfl, ⟨_, rfl, fun _ hz => hz⟩, trivial⟩) hlen ⟨en_100, fun i hi hz W hW hb => cloB_int _ _ _ _ _ _ _ _ (p i) W ((A.updB (i := 1) rfl hW hb).lend (i := 1) rfl rfl (L' := [rob R 112 [(Value.func (.func fid) fs cs)]]) (js := [0]) ⟨rfl, by decide, (A.updB (i := 1) rfl hW hb).bk 0 rfl, ⟨_, rfl, fun _ hz => hz⟩, trivial⟩) hf.1 (fun W' hW' hb' => hf.2 i hi (fun j hj => (Bool.not_eq_false' (p j)).mp (hz j hj)) W' (A.ext.trans (hW.trans hW')) hb')⟩)) ?_
 rintro P _ X ⟨rfl, I, lx18, J⟩ D; have K := A.updB (i := 1) rfl I J; clear I J B A O
 refine s1 D (g_0 rfl D.e) fun Q E => ?_; clear D P
 refine s1 E (a_0 rfl E.e) fun V F => ?_; clear E Q
 exact n1 (c_4 (a_9 F (.inl rfl) (a_2 F rfl (.tmp rfl)) (⟨congrArg Value.bool (any_not p xs.length), K.ext, _, K.bk 1 rfl⟩)))
end Go.Proofs.Ytohgladndklciaa

namespace Go.Hard
section
variable {n : Int} {t : TabD}
theorem tab_rows (h : (List.range t.rows.length).all (fun i => rowB (t.rows.getD i (0, 0))) = false) : tabB n t = false := by
  cases hb : tabB n t with
  | false => rfl
  | true =>
    have g := (tabB_iff.1 hb).2.2.2.2.2.1
    have : (List.range t.rows.length).all (fun i => rowB (t.rows.getD i (0, 0))) = true := List.all_eq_true.2 fun i hi => g i (List.mem_range.1 hi)
    rw [this] at h; cases h
theorem tab_rest (h1 : inB t.frm 0 (n - 1) = true) (h2 : inB t.dst 0 (n - 1) = true) (h3 : ¬ t.frm = t.dst) (h4 : inB t.err 0 1000 = true) (h5 : 2 ≤ t.rows.length) (h6 : (List.range t.rows.length).all (fun i => rowB (t.rows.getD i (0, 0))) = true) (h7 : ∀ i, i < t.rows.length - 1 → ac_0 (ac_3 t) (t.rows.getD i (0, 0)) (t.rows.getD (i + 1) (0, 0)) = true) : tabB n t = (List.range t.brk.length).all (brkB t) := by
  have h7' : allI (t.rows.length - 1) (fun i => ac_0 (ac_3 t) (t.rows.getD i (0, 0)) (t.rows.getD (i + 1) (0, 0))) = true := i_5.2 h7
  have h6' : allI t.rows.length (fun i => rowB (t.rows.getD i (0, 0))) = true := h6
  unfold tabB headB
  rw [h1, h2, h4, h6', h7', decide_eq_true (show 2 ≤ (t.rows.length : Int) by omega), decide_eq_false h3]
  rfl
theorem last_bd (i : Nat) (h : ∀ j, j < i → brkB t j = true) : -1 ≤ ad_7 t i ∧ ad_7 t i ≤ (t.rows.length : Int) := by
  induction i with
  | zero => exact ⟨Int.le_refl _, by show (-1 : Int) ≤ _; omega⟩
  | succ i ih =>
    have a := ih fun j hj => h j (by omega)
    have b := k_3.1 (h i (by omega))
    show -1 ≤ t.brk.getD i 0 ∧ t.brk.getD i 0 ≤ _
    omega
end
end Go.Hard

namespace Go.Proofs.Ytohgladndklciaa
open Go.RowKit Go.Shelf Go.Eng Go.Hard
theorem fd_106_0 : fldK Try.prog 106 0 = some 0 := by kernel_rfl
theorem fd_106_1 : fldK Try.prog 106 1 = some 1 := by kernel_rfl
theorem en_95 : ∀ args w, (callFunc 95 args).run Try.prog w = .ok (.enter 95 args) w := enters_of Try.func95 (by kernel_rfl) rfl
theorem en_94 : ∀ args w, (callFunc 94 args).run Try.prog w = .ok (.enter 94 args) w := enters_of Try.func94 (by kernel_rfl) rfl
theorem en_96 : ∀ args w, (callFunc 96 args).run Try.prog w = .ok (.enter 96 args) w := enters_of Try.func96 (by kernel_rfl) rfl
theorem lastclo_ok (x L : Int) (t : TabD) (vr vb : Value) (bm M : Nat) (w : World) (hJ : Sep (fun b => b = bm) w w [blk bm 3 [.int .i64 L], rob M 106 [.int .i64 t.frm, .int .i64 t.dst, vr, vb, .int .i64 t.err], sl vr 2 t.rows.length (pairs t.rows), sl vb 1 t.brk.length (ints t.brk)]) (n : -1 ≤ L ∧ L ≤ 1000000) (hrl : t.rows.length ≤ 1000000) :
  Calls Try.prog 96 #[(iv x), (bptr bm 0), (bptr M 0)] w (Ret fun v w' => v = .bool (inB x (L + 1) ((t.rows.length : Int) - 2)) ∧ Ext (fun b => b = bm) w w' ∧ (blk bm 3 [.int .i64 x]).p w') := by
 refine a_8 Try.func96 rfl fun V K => ?_
 replace K : Fr 16 [] [(0, (iv x)), (1, (bptr bm 0)), (2, (bptr M 0))] V := K
 have C : Sep (fun b => b = bm) w w [(blk bm 3 [(iv L)]), (rob M 106 [(iv t.frm), (iv t.dst), vr, vb, (iv t.err)]), (sl vr 2 t.rows.length (pairs t.rows)), (sl vb 1 t.brk.length (ints t.brk))] := hJ
 refine m2 (s1 K (a_0 rfl (evc _ _)) fun g N => ?_); clear K V
 refine n4 (s1 N (a_1 rfl N.e) fun h Q => ?_); clear N g
 refine s1 Q (a_3 rfl ty_3 Q.e (C.bk 0 rfl) rfl) fun j R => ?_; clear Q h
 refine s1 R (f_0 rfl R.e (evc _ _) (by omega) (by omega)) fun k S => ?_; clear R j
 refine s1 S (a_4 rfl j_7 S.e) fun l D => ?_; clear S k
 refine s1 D (a_3 rfl p_1 D.e (C.rk 1 rfl) rfl) fun W E => ?_; clear D l
 refine s1 E (c_9 rfl l_1 E.e (C.sk 2 rfl)) fun X F => ?_; clear E W
 refine s1 F (h_9 rfl F.e (evc _ _) (by omega) (by omega)) fun Y A => ?_; clear F X
 refine s2 A (b_3 rfl en_47 (ev3 A.e A.e A.e) (p_2 _ _ _ _)) ?_
 rintro Z _ W_ ⟨rfl, hW_⟩ G; have hW2_ := hW_.symm; subst hW2_; clear hW_ A Y
 refine s1 G (a_0 rfl G.e) fun a O => ?_; clear G Z
 refine n2 ?_
 have H := O.as [(5, (Value.bool (inB x (L + 1) ((t.rows.length : Int) - 2)))), (0, (iv x)), (1, (bptr bm 0))] rfl; clear O
 refine a_5 (s1 H (a_1 rfl H.e) fun c B => ?_); clear H a
 refine s7 B (c_0 C rfl ty_3 B.e B.e (i := 0) rfl (vs := [(iv x)]) rfl rfl rfl (Nat.le_of_ble_eq_true rfl)) ?_
 intro _ f T I; clear B
 have U : Sep (fun b => b = bm) w f [(blk bm 3 [(iv x)]), (rob M 106 [(iv t.frm), (iv t.dst), vr, vb, (iv t.err)]), (sl vr 2 t.rows.length (pairs t.rows)), (sl vb 1 t.brk.length (ints t.brk))] := T; clear T C
 refine n4 (s1 I (a_1 rfl I.e) fun d J => ?_); clear I c
 refine s1 J (a_0 rfl J.e) fun m P => ?_; clear J d
 exact n1 (c_4 (a_9 P (.inl rfl) (a_2 P rfl (.tmp rfl)) (⟨rfl, U.ext, U.bk 0 rfl⟩)))
set_option maxHeartbeats 4000000 in
theorem table_ok (sc : Int) (vt vm : Value) (h1_ : vt.oneCell' = true) (h2_ : vm.oneCell' = true) (hsc : 1 ≤ sc ∧ sc ≤ 4) (t : TabD) (vr vb : Value) (w : World) (hr : SlAt w vr 2 t.rows.length (pairs t.rows)) (hb : SlAt w vb 1 t.brk.length (ints t.brk)) (hrl : t.rows.length ≤ 1000000) (hbl : t.brk.length ≤ 1000000) :
  Calls Try.prog 65 #[(Value.agg #[(iv sc), vt, vm]), (Value.agg #[(iv t.frm), (iv t.dst), vr, vb, (iv t.err)])] w (Ret fun v w' => v = .bool (tabB sc t) ∧ Ext NoB w w') := by
 refine a_8 Try.func65 rfl fun a0 BO => ?_
 replace BO : Fr 98 [] [(0, (Value.agg #[(iv sc), vt, vm])), (1, (Value.agg #[(iv t.frm), (iv t.dst), vr, vb, (iv t.err)]))] a0 := BO
 have Dy : Sep NoB w w [(sl vr 2 t.rows.length (pairs t.rows)), (sl vb 1 t.brk.length (ints t.brk))] := f_2 ⟨rfl, hr, rfl, hb, trivial⟩
 refine m2 (s2 BO (f_4 Dy rfl BO.e (cs := [(iv sc), vt, vm]) rfl) ?_)
 rintro a1 _ w3 ⟨b4, rfl, Dz⟩ DZ; clear BO Dy a0
 refine s2 DZ (f_4 Dz rfl DZ.e (cs := [(iv t.frm), (iv t.dst), vr, vb, (iv t.err)]) rfl) ?_
 rintro a6 _ w8 ⟨P, rfl, BJ⟩ Dx; clear DZ Dz a1
 refine s1 Dx (a_0 rfl (evc _ _)) fun GZ BR => ?_; clear Dx a6
 refine n2 (m2 (s1 BR (c_5 rfl w_2 (BR.ev rfl) (BJ.bk 1 rfl) (l := [(iv sc), vt, vm]) rfl rfl) fun Ga BS => ?_)); clear BR GZ
 refine s1 BS (a_4 rfl fd_106_0 BS.e) fun Gb BT => ?_; clear BS Ga
 refine s1 BT (a_3 rfl ty_3 BT.e (BJ.bk 0 rfl) rfl) fun Gc AM => ?_; clear BT Gb
 refine s2 AM (b_3 rfl en_93 (ev2 AM.e AM.e) (scale_ok t.frm sc _ _ _ h1_ h2_ hsc)) ?_
 rintro Gd _ HT ⟨rfl, Dn⟩ BU; have q := BJ.step Dn; clear Dn AM BJ Gc
 refine s1 BU (g_0 rfl BU.e) fun Ge BV => ?_; clear BU Gd
 refine s1 BV (a_1 rfl BV.e) fun Du M => ?_; clear BV Ge
 rcases Bool.eq_false_or_eq_true ((inB t.frm 0 (sc - 1))) with Bk | Bk
 ·skip
  rw [Bk] at M
  refine s5 M (c_5 rfl w_2 (M.ev rfl) (q.bk 1 rfl) (l := [(iv sc), vt, vm]) rfl rfl) fun Gf BW => ?_; clear M Du
  refine s5 BW (a_4 rfl fd_106_1 BW.e) fun Gg BX => ?_; clear BW Gf
  refine s5 BX (a_3 rfl ty_3 BX.e (q.bk 0 rfl) rfl) fun Gh Ar => ?_; clear BX Gg
  refine s6 Ar (b_3 rfl en_93 (ev2 Ar.e Ar.e) (scale_ok t.dst sc _ _ _ h1_ h2_ hsc)) ?_
  rintro Gi _ HU ⟨rfl, Do⟩ BY; have B := q.step Do; clear Do Ar q Gh
  refine s5 BY (g_0 rfl BY.e) fun Gj A1 => ?_; clear BY Gi
  refine s1 A1 (d_0 rfl A1.e A1.e) fun Gk BZ => ?_; clear A1 Gj
  refine s1 BZ (a_1 rfl BZ.e) fun Dv N => ?_; clear BZ Gk
  rcases Bool.eq_false_or_eq_true ((inB t.dst 0 (sc - 1))) with Bl | Bl
  ·skip
   rw [Bl] at N
   refine s5 N (a_4 rfl fd_106_0 N.e) fun Gl Ba => ?_; clear N Dv
   refine s5 Ba (a_3 rfl ty_3 Ba.e (B.bk 0 rfl) rfl) fun Gm Bb => ?_; clear Ba Gl
   refine s5 Bb (a_4 rfl fd_106_1 Bb.e) fun Gn Bc => ?_; clear Bb Gm
   refine s5 Bc (a_3 rfl ty_3 Bc.e (B.bk 0 rfl) rfl) fun Go BG => ?_; clear Bc Gn
   refine s5 BG (m_4 rfl BG.e BG.e) fun Gp BH => ?_; clear BG Go
   refine s1 BH (d_0 rfl BH.e BH.e) fun Gq Bd => ?_; clear BH Gp
   refine s1 Bd (a_1 rfl Bd.e) fun Dw O => ?_; clear Bd Gq
   by_cases Dp : t.frm = t.dst
   ·skip
    rw [decide_eq_true Dp] at O
    refine s3 O fun Gr Da => ?_; clear O Dw
    refine s3 Da fun Gs Db => ?_; clear Da Gr
    refine s3 Db fun Gt Dc => ?_; clear Db Gs
    refine s3 Dc fun Gu Be => ?_; clear Dc Gt
    refine s1 Be (b_6 rfl Be.e (evc _ _)) fun Gv Bf => ?_; clear Be Gu
    refine s1 Bf (a_1 rfl Bf.e) fun Gw Dd => ?_; clear Bf Gv
    refine s3 Dd fun Gx De => ?_; clear Dd Gw
    refine s3 De fun Gy Df => ?_; clear De Gx
    refine s3 Df fun Gz Dg => ?_; clear Df Gy
    refine s3 Dg fun G0 Bg => ?_; clear Dg Gz
    refine s1 Bg (b_6 rfl Bg.e (evc _ _)) fun G1 Bh => ?_; clear Bg G0
    refine s1 Bh (a_1 rfl Bh.e) fun G2 Dh => ?_; clear Bh G1
    refine s3 Dh fun G3 Di => ?_; clear Dh G2
    refine s3 Di fun G4 Dj => ?_; clear Di G3
    refine s3 Dj fun G5 Dk => ?_; clear Dj G4
    refine s3 Dk fun G6 Bi => ?_; clear Dk G5
    refine s1 Bi (b_6 rfl Bi.e (evc _ _)) fun G7 Bj => ?_; clear Bi G6
    refine n1 (b_7 Bj rfl (b_5 ?_))
    have Dl := Bj.as [] rfl; clear Bj
    refine a_5 (s1 Dl (a_0 rfl (evc _ _)) fun HS Dm => ?_); clear Dl G7
    exact n1 (c_4 (a_6 (a_9 Dm (.inl rfl) (a_2 Dm rfl (.tmp rfl)) (⟨congrArg Value.bool (Eq.symm (by first | exact tab_rows (by assumption) | exact q_8 (by first | exact .inl (by assumption) | exact .inr (.inl (by assumption)) | exact .inr (.inr (.inl (by assumption))) | exact .inr (.inr (.inr (.inl (by assumption)))) | exact .inr (.inr (.inr (.inr (by omega))))))), B.ext⟩))))
   skip
   rw [decide_eq_false Dp] at O
   refine s5 O (a_4 rfl fd_106_4 O.e) fun G8 r => ?_; clear O Dw
   refine s5 r (a_3 rfl ty_3 r.e (B.bk 0 rfl) rfl) fun D0 s => ?_; clear r G8
   refine s6 s (b_3 rfl en_47 (ev3 s.e (evc _ _) (evc _ _)) (p_2 _ _ _ _)) ?_
   rintro D1 _ W_ ⟨rfl, hW_⟩ u; have hW2_ := hW_.symm; subst hW2_; clear hW_ s D0
   refine s5 u (g_0 rfl u.e) fun D2 S => ?_; clear u D1
   refine s1 S (d_0 rfl S.e S.e) fun D3 x => ?_; clear S D2
   refine s1 x (a_1 rfl x.e) fun DS H => ?_; clear x D3
   rcases Bool.eq_false_or_eq_true ((inB t.err 0 1000)) with BL | BL
   ·skip
    rw [BL] at H
    refine s5 H (a_4 rfl j_7 H.e) fun D4 y => ?_; clear H DS
    refine s5 y (a_3 rfl p_1 y.e (B.bk 0 rfl) rfl) fun D5 z => ?_; clear y D4
    refine s5 z (c_9 rfl l_1 z.e (B.sk 2 rfl)) fun D6 AA => ?_; clear z D5
    refine s5 AA (f_5 rfl AA.e (evc _ _)) fun D7 T => ?_; clear AA D6
    refine s1 T (d_0 rfl T.e T.e) fun D8 AB => ?_; clear T D7
    refine s1 AB (a_1 rfl AB.e) fun DT I => ?_; clear AB D8
    by_cases DO : (t.rows.length : Int) < 2
    ·skip
     rw [decide_eq_true DO] at I
     refine s3 I fun D9 Bm => ?_; clear I DT
     refine s3 Bm fun EA Bn => ?_; clear Bm D9
     refine s3 Bn fun EB Bo => ?_; clear Bn EA
     refine s3 Bo fun EC AC => ?_; clear Bo EB
     refine s1 AC (b_6 rfl AC.e (evc _ _)) fun ED AD => ?_; clear AC EC
     refine n1 (b_7 AD rfl (b_5 ?_))
     have Bp := AD.as [] rfl; clear AD
     refine a_5 (s1 Bp (a_0 rfl (evc _ _)) fun HA Bq => ?_); clear Bp ED
     exact n1 (c_4 (a_6 (a_9 Bq (.inl rfl) (a_2 Bq rfl (.tmp rfl)) (⟨congrArg Value.bool (Eq.symm (by first | exact tab_rows (by assumption) | exact q_8 (by first | exact .inl (by assumption) | exact .inr (.inl (by assumption)) | exact .inr (.inr (.inl (by assumption))) | exact .inr (.inr (.inr (.inl (by assumption)))) | exact .inr (.inr (.inr (.inr (by omega))))))), B.ext⟩))))
    skip
    rw [decide_eq_false DO] at I
    refine s5 I (a_4 rfl j_7 I.e) fun EE AE => ?_; clear I DT
    refine s5 AE (a_3 rfl p_1 AE.e (B.bk 0 rfl) rfl) fun EF AF => ?_; clear AE EE
    refine s6 AF (b_3 rfl en_94 (ev2 AF.e (evf _ _)) (all_row t.rows _ 95 #[] #[] (fun i => rowB (t.rows.getD i (0, 0))) _ (B.sk 2 rfl) (by omega) ⟨en_95, fun i hi W hW => row_ok _ _ W⟩)) ?_
    rintro EG _ HL ⟨rfl, DF⟩ AG; have BK := B.step DF; clear DF AF B EF
    refine s5 AG (g_0 rfl AG.e) fun EH U => ?_; clear AG EG
    refine s1 U (d_0 rfl U.e U.e) fun EI E => ?_; clear U EH
    refine n1 ?_
    rcases Bool.eq_false_or_eq_true (((List.range t.rows.length).all (fun i => rowB (t.rows.getD i (0, 0))))) with BM | BM
    ·skip
     rw [BM] at E
     refine b_4 E rfl (c_6 (a_7 (b_5 ?_)))
     have Br := E.as [(3, (bptr P 0))] rfl; clear E
     have Bs := Br.as [(3, (bptr P 0))] rfl; clear Br
     refine g_2 mixed Bs BK 10 [[], [0], [1], [2], [3], [], [5], [6], [7], [8]] [(Yd.val (bptr P 2)), (Yd.val vr), (Yd.val (eptr vr (0 * 2))), (Yd.val (eptr vr (0 * 2 + 1))), (Yd.val (iv ((t.rows.getD 0 (0, 0)).2))), (Yd.val (bptr P 2)), (Yd.val vr), (Yd.val (eptr vr (1 * 2))), (Yd.val (eptr vr (1 * 2 + 1))), (Yd.val (iv ((t.rows.getD 1 (0, 0)).2)))] (by decide +kernel) rfl rfl ?_ ?_
     ·skip
      refine dq (fun a w hA hS hd => a_4 rfl j_7 hA.e) ?_
      refine dq (fun a w hA hS hd => a_3 rfl p_1 (hq hd 0) (hS.bk 0 rfl) rfl) ?_
      refine dq (fun a w hA hS hd => b_0 rfl l_1 j_2 (hq hd 1) (i := 0) (show _ = Value.int .i64 ((0 : Nat) : Int) from (evc _ _)) (hS.sk 2 rfl) (by decide) (by omega)) ?_
      refine dq (fun a w hA hS hd => d_1 rfl m_7 (hq hd 2) (hS.sk 2 rfl) (by rw [((hS.sk 2 rfl)).1]; omega)) ?_
      refine dq (fun a w hA hS hd => b_9 rfl ty_3 (hq hd 3) (hS.sk 2 rfl) (h_6 (by omega))) ?_
      refine dq (fun a w hA hS hd => a_4 rfl j_7 hA.e) ?_
      refine dq (fun a w hA hS hd => a_3 rfl p_1 (hq hd 5) (hS.bk 0 rfl) rfl) ?_
      refine dq (fun a w hA hS hd => b_0 rfl l_1 j_2 (hq hd 6) (i := 1) (show _ = Value.int .i64 ((1 : Nat) : Int) from (evc _ _)) (hS.sk 2 rfl) (by decide) (by omega)) ?_
      refine dq (fun a w hA hS hd => d_1 rfl m_7 (hq hd 7) (hS.sk 2 rfl) (by rw [((hS.sk 2 rfl)).1]; omega)) ?_
      refine dq (fun a w hA hS hd => b_9 rfl ty_3 (hq hd 8) (hS.sk 2 rfl) (h_6 (by omega))) ?_
      trivial
     intro EJ HM Bt Q BI; clear Bs BK
     have Bu := Bt.add (hz BI 4); clear Bt
     have V := Bu.add (hz BI 9); clear Bu
     clear BI
     refine s1 V (f_5 rfl V.e V.e) fun EK AH => ?_; clear V EJ
     refine s1 AH (a_0 rfl AH.e) fun EL AI => ?_; clear AH EK
     refine n2 (m2 (s1 AI (a_4 rfl j_7 AI.e) fun EM AJ => ?_)); clear AI EL
     refine s1 AJ (a_3 rfl p_1 AJ.e (Q.bk 0 rfl) rfl) fun EN AK => ?_; clear AJ EM
     refine s1 AK (op_sliceLo rfl l_1 j_2 AK.e (l := 1) (show _ = Value.int .i64 ((1 : Nat) : Int) from (evc _ _)) (Q.sk 2 rfl) (by omega)) fun EO AL => ?_; clear AK EN
     refine s1 AL (c_9 rfl l_1 AL.e (SlAt.say (n' := (t.rows.length - 1)) (cs' := (pairs (t.rows.drop 1))) (SlAt.cut (Q.sk 2 rfl) (by omega) (Nat.le_refl _)) rfl (r_8 _))) fun EP Bv => ?_; clear AL EO
     refine s1 Bv (a_1 rfl (evc _ _)) fun EQ Bw => ?_; clear Bv EP
     refine n1 (c_2 ?_)
     have Bx := Bw.as [(62, (iv 0)), (61, (iv (((t.rows.length - 1) : Nat) : Int))), (60, (slcut vr 1 t.rows.length 2)), (5, (Value.bool (decide (((t.rows.getD 0 (0, 0)).2) < ((t.rows.getD 1 (0, 0)).2))))), (3, (bptr P 0))] rfl; clear Bw
     refine g_7 (G := Nat) (fun (k : Nat) a_ w_ => Fr 98 [] [(62, (iv (k : Int))), (61, (iv (((t.rows.length - 1) : Nat) : Int))), (60, (slcut vr 1 t.rows.length 2)), (5, (Value.bool (decide (((t.rows.getD 0 (0, 0)).2) < ((t.rows.getD 1 (0, 0)).2))))), (3, (bptr P 0))] a_ ∧ Sep NoB w w_ [(blk P 106 [(iv t.frm), (iv t.dst), vr, vb, (iv t.err)]), (blk b4 37 [(iv sc), vt, vm]), (sl vr 2 t.rows.length (pairs t.rows)), (sl vb 1 t.brk.length (ints t.brk))] ∧ (k ≤ t.rows.length - 1) ∧ (∀ i, i < k → ac_0 (ac_3 t) (t.rows.getD i (0, 0)) (t.rows.getD (i + 1) (0, 0)) = true)) (fun k => t.rows.length - 1 - k) 0 ⟨Bx.as _ rfl, Q, by omega, (fun _ h => absurd h (Nat.not_lt_zero _))⟩ ?_
     clear Bx Q EQ
     rintro k ER HN ⟨X, L, hkk, hst⟩
     refine m2 (s1 X (f_5 rfl X.e X.e) fun DU C => ?_); clear X ER
     refine n2 ?_
     by_cases DP : (k : Int) < (((t.rows.length - 1) : Nat) : Int)
     ·skip
      rw [decide_eq_true DP] at C
      refine b_7 C rfl (c_6 (a_7 (b_5 (c_2 (m2 (s1 C (a_1 rfl C.e) fun ES Y => ?_)))))); clear C DU
      refine s1 Y (b_0 rfl l_1 j_2 Y.e (i := k) Y.e (SlAt.say (n' := (t.rows.length - 1)) (cs' := (pairs (t.rows.drop 1))) (SlAt.cut (L.sk 2 rfl) (by omega) (Nat.le_refl _)) rfl (r_8 _)) (by decide) (by omega)) fun ET AN => ?_; clear Y ES
      refine s1 AN (e_7 rfl j_2 AN.e (SlAt.say (n' := (t.rows.length - 1)) (cs' := (pairs (t.rows.drop 1))) (SlAt.cut (L.sk 2 rfl) (by omega) (Nat.le_refl _)) rfl (r_8 _)) (dropP_all (by omega)) rfl (by decide)) fun EU By => ?_; clear AN ET
      refine s2 By (e_0 L rfl aa_2 (cs := [(iv 0), (iv 0)]) rfl) ?_
      rintro EV _ HO ⟨BP, rfl, DI⟩ AO; clear By L EU
      refine s1 AO (a_0 rfl AO.e) fun EW Z => ?_; clear AO EV
      refine s7 Z (c_0 DI rfl j_2 Z.e Z.e (i := 0) rfl (vs := [(iv ((t.rows.getD (k + 1) (0, 0)).1)), (iv ((t.rows.getD (k + 1) (0, 0)).2))]) rfl rfl rfl (Nat.le_of_ble_eq_true rfl)) ?_
      intro _ GV DJ AP; clear Z
      have R : Sep NoB w GV [(blk BP 107 [(iv ((t.rows.getD (k + 1) (0, 0)).1)), (iv ((t.rows.getD (k + 1) (0, 0)).2))]), (blk P 106 [(iv t.frm), (iv t.dst), vr, vb, (iv t.err)]), (blk b4 37 [(iv sc), vt, vm]), (sl vr 2 t.rows.length (pairs t.rows)), (sl vb 1 t.brk.length (ints t.brk))] := DJ; clear DJ DI
      refine n4 (s1 AP (a_4 rfl j_7 AP.e) fun EX AQ => ?_); clear AP EW
      refine s1 AQ (a_3 rfl p_1 AQ.e (R.bk 1 rfl) rfl) fun EY AR => ?_; clear AQ EX
      refine s1 AR (a_1 rfl AR.e) fun EZ b => ?_; clear AR EY
      refine s1 b (b_0 rfl l_1 j_2 b.e (i := k) b.e (R.sk 3 rfl) (by decide) (by omega)) fun Ea AS => ?_; clear b EZ
      refine s1 AS (e_7 rfl j_2 AS.e (R.sk 3 rfl) (g_8 (by omega)) rfl (by decide)) fun Eb Bz => ?_; clear AS Ea
      refine s2 Bz (e_0 R rfl aa_2 (cs := [(iv 0), (iv 0)]) rfl) ?_
      rintro Ec _ HP ⟨DY, rfl, DK⟩ c; clear Bz R Eb
      refine s7 c (c_0 DK rfl j_2 c.e c.e (i := 0) rfl (vs := [(iv ((t.rows.getD k (0, 0)).1)), (iv ((t.rows.getD k (0, 0)).2))]) rfl rfl rfl (Nat.le_of_ble_eq_true rfl)) ?_
      intro _ GW DL B0; clear c
      have A : Sep NoB w GW [(blk DY 107 [(iv ((t.rows.getD k (0, 0)).1)), (iv ((t.rows.getD k (0, 0)).2))]), (blk BP 107 [(iv ((t.rows.getD (k + 1) (0, 0)).1)), (iv ((t.rows.getD (k + 1) (0, 0)).2))]), (blk P 106 [(iv t.frm), (iv t.dst), vr, vb, (iv t.err)]), (blk b4 37 [(iv sc), vt, vm]), (sl vr 2 t.rows.length (pairs t.rows)), (sl vb 1 t.brk.length (ints t.brk))] := DL; clear DL DK
      refine n2 ?_
      have AT := B0.as [(8, (bptr DY 0)), (7, (bptr BP 0)), (62, (iv (k : Int))), (61, (iv (((t.rows.length - 1) : Nat) : Int))), (60, (slcut vr 1 t.rows.length 2)), (5, (Value.bool (decide (((t.rows.getD 0 (0, 0)).2) < ((t.rows.getD 1 (0, 0)).2))))), (3, (bptr P 0))] rfl; clear B0
      refine a_5 (s1 AT (a_4 rfl j_8 AT.e) fun Ed AU => ?_); clear AT Ec
      refine s1 AU (a_3 rfl ty_3 AU.e (A.bk 1 rfl) rfl) fun Ee AV => ?_; clear AU Ed
      refine s1 AV (a_4 rfl j_8 AV.e) fun Ef AW => ?_; clear AV Ee
      refine s1 AW (a_3 rfl ty_3 AW.e (A.bk 0 rfl) rfl) fun Eg d => ?_; clear AW Ef
      refine s1 d (w_8 rfl d.e d.e) fun Eh AX => ?_; clear d Eg
      refine s1 AX (a_1 rfl AX.e) fun DV J => ?_; clear AX Eh
      by_cases DQ : ((t.rows.getD (k + 1) (0, 0)).1) ≤ ((t.rows.getD k (0, 0)).1)
      ·skip
       rw [decide_eq_true DQ] at J
       refine s3 J fun Ei B1 => ?_; clear J DV
       refine s3 B1 fun Ej B2 => ?_; clear B1 Ei
       refine s3 B2 fun Ek B3 => ?_; clear B2 Ej
       refine s3 B3 fun El B4 => ?_; clear B3 Ek
       refine s3 B4 fun Em AY => ?_; clear B4 El
       refine s1 AY (b_6 rfl AY.e (evc _ _)) fun En AZ => ?_; clear AY Em
       refine s1 AZ (a_1 rfl AZ.e) fun Eo B5 => ?_; clear AZ En
       refine s3 B5 fun Ep B6 => ?_; clear B5 Eo
       refine s3 B6 fun Er B7 => ?_; clear B6 Ep
       refine s3 B7 fun Es B8 => ?_; clear B7 Er
       refine s3 B8 fun Et B9 => ?_; clear B8 Es
       refine s3 B9 fun Eu CA => ?_; clear B9 Et
       refine s3 CA fun Ev CB => ?_; clear CA Eu
       refine s3 CB fun Ew Aa => ?_; clear CB Ev
       refine s1 Aa (b_6 rfl Aa.e (evc _ _)) fun Ex Ab => ?_; clear Aa Ew
       refine n1 (b_7 Ab rfl (b_5 ?_))
       have CC := Ab.as [] rfl; clear Ab
       refine a_5 (s1 CC (a_0 rfl (evc _ _)) fun HB CD => ?_); clear CC Ex
       exact n1 (c_4 (c_7 (a_6 (a_6 (c_7 (a_6 (a_9 CD (.inl rfl) (a_2 CD rfl (.tmp rfl)) (⟨congrArg Value.bool (Eq.symm (x_0 (k := k) (by omega) (by first | exact neq_n (by assumption) | exact t_6 (.inl (by omega)) | exact t_6 (.inr (.inl (by omega)))))), A.ext⟩))))))))
      skip
      rw [decide_eq_false DQ] at J
      refine s5 J (a_4 rfl m_7 J.e) fun Ey Ac => ?_; clear J DV
      refine s5 Ac (a_3 rfl ty_3 Ac.e (A.bk 1 rfl) rfl) fun Ez Ad => ?_; clear Ac Ey
      refine s5 Ad (a_4 rfl m_7 Ad.e) fun E0 Ae => ?_; clear Ad Ez
      refine s5 Ae (a_3 rfl ty_3 Ae.e (A.bk 0 rfl) rfl) fun E1 f => ?_; clear Ae E0
      refine s5 f (m_4 rfl f.e f.e) fun E2 g => ?_; clear f E1
      refine s1 g (d_0 rfl g.e g.e) fun E3 Af => ?_; clear g E2
      refine s1 Af (a_1 rfl Af.e) fun DW K => ?_; clear Af E3
      by_cases DR : ((t.rows.getD (k + 1) (0, 0)).2) = ((t.rows.getD k (0, 0)).2)
      ·skip
       rw [decide_eq_true DR] at K
       refine s3 K fun E4 CE => ?_; clear K DW
       refine s3 CE fun E5 CF => ?_; clear CE E4
       refine s3 CF fun E6 CG => ?_; clear CF E5
       refine s3 CG fun E7 CH => ?_; clear CG E6
       refine s3 CH fun E8 CI => ?_; clear CH E7
       refine s3 CI fun E9 CJ => ?_; clear CI E8
       refine s3 CJ fun FA Ag => ?_; clear CJ E9
       refine s1 Ag (b_6 rfl Ag.e (evc _ _)) fun FB Ah => ?_; clear Ag FA
       refine n1 (b_7 Ah rfl (b_5 ?_))
       have CK := Ah.as [] rfl; clear Ah
       refine a_5 (s1 CK (a_0 rfl (evc _ _)) fun HC CL => ?_); clear CK FB
       exact n1 (c_4 (c_7 (a_6 (a_6 (c_7 (a_6 (a_9 CL (.inl rfl) (a_2 CL rfl (.tmp rfl)) (⟨congrArg Value.bool (Eq.symm (x_0 (k := k) (by omega) (by first | exact neq_n (by assumption) | exact t_6 (.inl (by omega)) | exact t_6 (.inr (.inl (by omega)))))), A.ext⟩))))))))
      skip
      rw [decide_eq_false DR] at K
      refine s5 K (a_4 rfl m_7 K.e) fun FC Ai => ?_; clear K DW
      refine s5 Ai (a_3 rfl ty_3 Ai.e (A.bk 1 rfl) rfl) fun FD Aj => ?_; clear Ai FC
      refine s5 Aj (a_4 rfl m_7 Aj.e) fun FE Ak => ?_; clear Aj FD
      refine s5 Ak (a_3 rfl ty_3 Ak.e (A.bk 0 rfl) rfl) fun FF j => ?_; clear Ak FE
      refine s5 j (i_4 rfl j.e j.e) fun FG Al => ?_; clear j FF
      refine s5 Al (a_1 rfl Al.e) fun FH m => ?_; clear Al FG
      refine s5 m (op_neqB un_4 rfl m.e m.e) fun FI n => ?_; clear m FH
      refine s1 n (d_0 rfl n.e n.e) fun DX F => ?_; clear n FI
      refine n1 ?_
      rcases Bool.eq_false_or_eq_true ((decide (((t.rows.getD k (0, 0)).2) < ((t.rows.getD (k + 1) (0, 0)).2))) == (decide (((t.rows.getD 0 (0, 0)).2) < ((t.rows.getD 1 (0, 0)).2)))) with BN | BN
      ·skip
       rw [BN] at F
       refine b_4 F rfl (c_6 (g_6 (a_7 ?_)))
       have Am := F.as [(62, (iv (k : Int))), (61, (iv (((t.rows.length - 1) : Nat) : Int))), (60, (slcut vr 1 t.rows.length 2)), (5, (Value.bool (decide (((t.rows.getD 0 (0, 0)).2) < ((t.rows.getD 1 (0, 0)).2))))), (3, (bptr P 0))] rfl; clear F
       refine a_5 (s1 Am (f_0 rfl Am.e (evc _ _) (by omega) (by omega)) fun FJ An => ?_); clear Am DX
       refine s1 An (a_1 rfl An.e) fun HD Dr => ?_; clear An FJ
       refine e_2 ?_
       have Ds := A.gkp (gpc 2 (gpc 3 (gpc 4 (gpc 5 gpn)))); clear A
       exact a_7 ⟨k + 1, ⟨Dr.as _ rfl, Ds, by omega, (fun i hi => by rcases Nat.lt_succ_iff_lt_or_eq.1 hi with h | h; exact hst i h; subst h; exact neq_y (by omega) (by omega) (by assumption))⟩, by omega⟩
      skip
      rw [BN] at F
      refine b_7 F rfl (b_5 ?_)
      have CM := F.as [] rfl; clear F
      refine a_5 (s1 CM (a_0 rfl (evc _ _)) fun HE CN => ?_); clear CM DX
      exact n1 (c_4 (c_7 (a_6 (a_6 (c_7 (a_6 (a_9 CN (.inl rfl) (a_2 CN rfl (.tmp rfl)) (⟨congrArg Value.bool (Eq.symm (x_0 (k := k) (by omega) (by first | exact neq_n (by assumption) | exact t_6 (.inl (by omega)) | exact t_6 (.inr (.inl (by omega)))))), A.ext⟩))))))))
     skip
     rw [decide_eq_false DP] at C
     refine b_4 C rfl (g_3 (b_1 (b_1 (f_1 (a_7 (m2 (s2 C (e_0 L rfl ze_3 (cs := [(iv 0)]) rfl) ?_)))))))
     rintro FK _ HQ ⟨BQ, rfl, DM⟩ Ao; clear C L DU
     refine s7 Ao (c_0 DM rfl ty_3 Ao.e (evc _ _) (i := 0) rfl (vs := [(iv (-1))]) rfl rfl rfl (Nat.le_of_ble_eq_true rfl)) ?_
     intro _ GX DN Ap; clear Ao
     have D : Sep NoB w GX [(blk BQ 3 [(iv (-1))]), (blk P 106 [(iv t.frm), (iv t.dst), vr, vb, (iv t.err)]), (blk b4 37 [(iv sc), vt, vm]), (sl vr 2 t.rows.length (pairs t.rows)), (sl vb 1 t.brk.length (ints t.brk))] := DN; clear DN DM
     refine n4 (s1 Ap (a_4 rfl fd_106_3 Ap.e) fun FL Aq => ?_); clear Ap FK
     refine s1 Aq (a_3 rfl ab_1 Aq.e (D.bk 1 rfl) rfl) fun FM o => ?_; clear Aq FL
     refine s1 o (h_8 rfl ev0 (ev2 o.e o.e)) fun FN p => ?_; clear o FM
     refine s2 p (b_3 rfl en_69 (ev2 p.e p.e) (allB_int t.brk (ad_7 t) BQ _ 96 #[] #[(bptr BQ 0), (bptr P 0)] (brkB t) _ (D.lend (i := 0) rfl rfl (L' := [(sl vb 1 t.brk.length (ints t.brk))]) (js := [4]) ⟨rfl, by decide, D.sk 4 rfl, ⟨_, rfl, fun _ hz => hz⟩, trivial⟩) hbl ⟨en_96, fun i hi hz W hW hb => lastclo_ok _ _ t vr vb _ _ W ((D.updB (i := 0) rfl hW hb).lend (i := 0) rfl rfl (L' := [rob P 106 [.int .i64 t.frm, .int .i64 t.dst, vr, vb, .int .i64 t.err], (sl vr 2 t.rows.length (pairs t.rows)), (sl vb 1 t.brk.length (ints t.brk))]) (js := [1, 3, 4]) ⟨rfl, by decide, (D.updB (i := 0) rfl hW hb).bk 1 rfl, ⟨_, rfl, fun _ hz => hz⟩, rfl, by decide, (D.updB (i := 0) rfl hW hb).sk 3 rfl, ⟨_, rfl, fun _ hz => hz⟩, rfl, by decide, (D.updB (i := 0) rfl hW hb).sk 4 rfl, ⟨_, rfl, fun _ hz => hz⟩, trivial⟩) (by have := last_bd (t := t) i hz; omega) hrl⟩)) ?_
     rintro FO _ HR ⟨rfl, DG, lx349, DH⟩ As; have Dt := D.updB (i := 0) rfl DG DH; clear DG DH p D FN
     refine s1 As (a_0 rfl As.e) fun HF CO => ?_; clear As FO
     exact n1 (c_4 (a_9 CO (.inl rfl) (a_2 CO rfl (.tmp rfl)) (⟨congrArg Value.bool (Eq.symm (tab_rest (by assumption) (by assumption) (by assumption) (by assumption) (by omega) (by assumption) (fun i hi => hst i (by omega)))), Dt.ext⟩)))
    skip
    rw [BM] at E
    refine b_7 E rfl (b_5 ?_)
    have CP := E.as [] rfl; clear E
    refine a_5 (s1 CP (a_0 rfl (evc _ _)) fun HG CQ => ?_); clear CP EI
    exact n1 (c_4 (a_6 (a_9 CQ (.inl rfl) (a_2 CQ rfl (.tmp rfl)) (⟨congrArg Value.bool (Eq.symm (by first | exact tab_rows (by assumption) | exact q_8 (by first | exact .inl (by assumption) | exact .inr (.inl (by assumption)) | exact .inr (.inr (.inl (by assumption))) | exact .inr (.inr (.inr (.inl (by assumption)))) | exact .inr (.inr (.inr (.inr (by omega))))))), BK.ext⟩))))
   skip
   rw [BL] at H
   refine s3 H fun FP CR => ?_; clear H DS
   refine s3 CR fun FQ CS => ?_; clear CR FP
   refine s3 CS fun FSa CT => ?_; clear CS FQ
   refine s3 CT fun FT At => ?_; clear CT FSa
   refine s1 At (b_6 rfl At.e (evc _ _)) fun FU Au => ?_; clear At FT
   refine s1 Au (a_1 rfl Au.e) fun FV CU => ?_; clear Au FU
   refine s3 CU fun FW CV => ?_; clear CU FV
   refine s3 CV fun FX CW => ?_; clear CV FW
   refine s3 CW fun FY CX => ?_; clear CW FX
   refine s3 CX fun FZ Av => ?_; clear CX FY
   refine s1 Av (b_6 rfl Av.e (evc _ _)) fun Fa Aw => ?_; clear Av FZ
   refine n1 (b_7 Aw rfl (b_5 ?_))
   have CY := Aw.as [] rfl; clear Aw
   refine a_5 (s1 CY (a_0 rfl (evc _ _)) fun HH CZ => ?_); clear CY Fa
   exact n1 (c_4 (a_6 (a_9 CZ (.inl rfl) (a_2 CZ rfl (.tmp rfl)) (⟨congrArg Value.bool (Eq.symm (by first | exact tab_rows (by assumption) | exact q_8 (by first | exact .inl (by assumption) | exact .inr (.inl (by assumption)) | exact .inr (.inr (.inl (by assumption))) | exact .inr (.inr (.inr (.inl (by assumption)))) | exact .inr (.inr (.inr (.inr (by omega))))))), B.ext⟩))))
  skip
  rw [Bl] at N
  refine s3 N fun Fb Ca => ?_; clear N Dv
  refine s3 Ca fun Fc Cb => ?_; clear Ca Fb
  refine s3 Cb fun Fd Cc => ?_; clear Cb Fc
  refine s3 Cc fun Fe Cd => ?_; clear Cc Fd
  refine s3 Cd fun Ff Ax => ?_; clear Cd Fe
  refine s1 Ax (b_6 rfl Ax.e (evc _ _)) fun Fg Ay => ?_; clear Ax Ff
  refine s1 Ay (a_1 rfl Ay.e) fun Fh Ce => ?_; clear Ay Fg
  refine s3 Ce fun Fi Cf => ?_; clear Ce Fh
  refine s3 Cf fun Fj Cg => ?_; clear Cf Fi
  refine s3 Cg fun Fk Ch => ?_; clear Cg Fj
  refine s3 Ch fun Fl Az => ?_; clear Ch Fk
  refine s1 Az (b_6 rfl Az.e (evc _ _)) fun Fm A0 => ?_; clear Az Fl
  refine s1 A0 (a_1 rfl A0.e) fun Fn Ci => ?_; clear A0 Fm
  refine s3 Ci fun Fo Cj => ?_; clear Ci Fn
  refine s3 Cj fun Fp Ck => ?_; clear Cj Fo
  refine s3 Ck fun Fq Cl => ?_; clear Ck Fp
  refine s3 Cl fun Fs A2 => ?_; clear Cl Fq
  refine s1 A2 (b_6 rfl A2.e (evc _ _)) fun Ft A3 => ?_; clear A2 Fs
  refine s1 A3 (a_1 rfl A3.e) fun Fu Cm => ?_; clear A3 Ft
  refine s3 Cm fun Fv Cn => ?_; clear Cm Fu
  refine s3 Cn fun Fw Co => ?_; clear Cn Fv
  refine s3 Co fun Fx Cp => ?_; clear Co Fw
  refine s3 Cp fun Fy A4 => ?_; clear Cp Fx
  refine s1 A4 (b_6 rfl A4.e (evc _ _)) fun Fz A5 => ?_; clear A4 Fy
  refine n1 (b_7 A5 rfl (b_5 ?_))
  have Cq := A5.as [] rfl; clear A5
  refine a_5 (s1 Cq (a_0 rfl (evc _ _)) fun HI Cr => ?_); clear Cq Fz
  exact n1 (c_4 (a_6 (a_9 Cr (.inl rfl) (a_2 Cr rfl (.tmp rfl)) (⟨congrArg Value.bool (Eq.symm (by first | exact tab_rows (by assumption) | exact q_8 (by first | exact .inl (by assumption) | exact .inr (.inl (by assumption)) | exact .inr (.inr (.inl (by assumption))) | exact .inr (.inr (.inr (.inl (by assumption)))) | exact .inr (.inr (.inr (.inr (by omega))))))), B.ext⟩))))
 skip
 rw [Bk] at M
 refine s3 M fun F0 Cs => ?_; clear M Du
 refine s3 Cs fun F1 Ct => ?_; clear Cs F0
 refine s3 Ct fun F2 Cu => ?_; clear Ct F1
 refine s3 Cu fun F3 Cv => ?_; clear Cu F2
 refine s3 Cv fun F4 A6 => ?_; clear Cv F3
 refine s1 A6 (b_6 rfl A6.e (evc _ _)) fun F5 A7 => ?_; clear A6 F4
 refine s1 A7 (a_1 rfl A7.e) fun F6 Cw => ?_; clear A7 F5
 refine s3 Cw fun F7 Cx => ?_; clear Cw F6
 refine s3 Cx fun F8 Cy => ?_; clear Cx F7
 refine s3 Cy fun F9 Cz => ?_; clear Cy F8
 refine s3 Cz fun GA C0 => ?_; clear Cz F9
 refine s3 C0 fun GB A8 => ?_; clear C0 GA
 refine s1 A8 (b_6 rfl A8.e (evc _ _)) fun GC A9 => ?_; clear A8 GB
 refine s1 A9 (a_1 rfl A9.e) fun GD C1 => ?_; clear A9 GC
 refine s3 C1 fun GE C2 => ?_; clear C1 GD
 refine s3 C2 fun GF C3 => ?_; clear C2 GE
 refine s3 C3 fun GG C4 => ?_; clear C3 GF
 refine s3 C4 fun GH BA => ?_; clear C4 GG
 refine s1 BA (b_6 rfl BA.e (evc _ _)) fun GI BB => ?_; clear BA GH
 refine s1 BB (a_1 rfl BB.e) fun GJ C5 => ?_; clear BB GI
 refine s3 C5 fun GK C6 => ?_; clear C5 GJ
 refine s3 C6 fun GL C7 => ?_; clear C6 GK
 refine s3 C7 fun GM C8 => ?_; clear C7 GL
 refine s3 C8 fun GN BC => ?_; clear C8 GM
 refine s1 BC (b_6 rfl BC.e (evc _ _)) fun GO BD => ?_; clear BC GN
 refine s1 BD (a_1 rfl BD.e) fun GP C9 => ?_; clear BD GO
 refine s3 C9 fun GQ DA => ?_; clear C9 GP
 refine s3 DA fun GR DB => ?_; clear DA GQ
 refine s3 DB fun GS DC => ?_; clear DB GR
 refine s3 DC fun GT BE => ?_; clear DC GS
 refine s1 BE (b_6 rfl BE.e (evc _ _)) fun GU BF => ?_; clear BE GT
 refine n1 (b_7 BF rfl (b_5 ?_))
 have DD := BF.as [] rfl; clear BF
 refine a_5 (s1 DD (a_0 rfl (evc _ _)) fun HJ DE => ?_); clear DD GU
 exact n1 (c_4 (a_6 (a_9 DE (.inl rfl) (a_2 DE rfl (.tmp rfl)) (⟨congrArg Value.bool (Eq.symm (by first | exact tab_rows (by assumption) | exact q_8 (by first | exact .inl (by assumption) | exact .inr (.inl (by assumption)) | exact .inr (.inr (.inl (by assumption))) | exact .inr (.inr (.inr (.inl (by assumption)))) | exact .inr (.inr (.inr (.inr (by omega))))))), q.ext⟩))))
end Go.Proofs.Ytohgladndklciaa

namespace Go.Hard
structure n_5 (b : h_7) : Prop where
  tl : b.tabs.length ≤ 9
  ml : b.macs.length ≤ 9
  tab : ∀ i, (b.tabs.getD i tab0).rows.length ≤ 12 ∧ (b.tabs.getD i tab0).brk.length ≤ 12
  mac : ∀ i, (b.macs.getD i mac0).blocks.length ≤ 8
def z_8 (b : h_7) (n : Nat) : Bool := decide (b.tabs.length ≤ 9) && decide (b.macs.length ≤ 9) && decide (n ≤ 12) && allI b.tabs.length (fun i => decide ((b.tabs.getD i tab0).rows.length ≤ 12) && decide ((b.tabs.getD i tab0).brk.length ≤ 12)) && allI b.macs.length (fun i => decide ((b.macs.getD i mac0).blocks.length ≤ 8))
theorem getD_out {α : Type} {l : List α} {d : α} {i : Nat} (h : l.length ≤ i) : l.getD i d = d := by simp [List.getD, List.getElem?_eq_none h]
theorem thin_iff {b : h_7} {n : Nat} : z_8 b n = true ↔ n_5 b ∧ n ≤ 12 := by
  unfold z_8
  simp only [Bool.and_eq_true, decide_eq_true_eq, i_5]
  constructor
  · rintro ⟨⟨⟨⟨h1, h2⟩, h3⟩, h4⟩, h5⟩
    refine ⟨⟨h1, h2, fun i => ?_, fun i => ?_⟩, h3⟩
    · rcases Nat.lt_or_ge i b.tabs.length with h | h
      · exact h4 i h
      · rw [getD_out h]; exact ⟨Nat.zero_le _, Nat.zero_le _⟩
    · rcases Nat.lt_or_ge i b.macs.length with h | h
      · exact h5 i h
      · rw [getD_out h]; exact Nat.zero_le _
  · rintro ⟨h, h3⟩
    exact ⟨⟨⟨⟨h.tl, h.ml⟩, h3⟩, fun i _ => h.tab i⟩, fun i _ => h.mac i⟩
section
variable {b : h_7} {n : Nat} {k : Nat}
theorem n_5.rl (h : n_5 b) (i : Nat) : (b.tabs.getD i tab0).rows.length ≤ 1000000 := by have := (h.tab i).1; omega
theorem n_5.bl (h : n_5 b) (i : Nat) : (b.tabs.getD i tab0).brk.length ≤ 1000000 := by have := (h.tab i).2; omega
theorem n_5.kl (h : n_5 b) (i : Nat) : (b.macs.getD i mac0).blocks.length ≤ 1000000 := by have := h.mac i; omega
theorem thin_not (h : ¬ (n_5 b ∧ n ≤ 12)) : z_8 b n = false := by
  cases hb : z_8 b n with
  | false => rfl
  | true => exact absurd (thin_iff.1 hb) h
theorem thin_n1 (h : 9 < b.tabs.length ∨ 9 < b.macs.length ∨ 12 < n) : z_8 b n = false := thin_not fun g => by have := g.1.tl; have := g.1.ml; omega
theorem thin_n2 (h : 12 < (b.tabs.getD k tab0).rows.length ∨ 12 < (b.tabs.getD k tab0).brk.length) : z_8 b n = false := thin_not fun g => by have := g.1.tab k; omega
theorem thin_n3 (h : 8 < (b.macs.getD k mac0).blocks.length) : z_8 b n = false := thin_not fun g => by have := g.1.mac k; omega
theorem thin_y (h1 : b.tabs.length ≤ 9) (h2 : b.macs.length ≤ 9) (h3 : n ≤ 12) (h4 : ∀ i, i < b.tabs.length → (b.tabs.getD i tab0).rows.length ≤ 12 ∧ (b.tabs.getD i tab0).brk.length ≤ 12) (h5 : ∀ i, i < b.macs.length → (b.macs.getD i mac0).blocks.length ≤ 8) : z_8 b n = true := by
  unfold z_8
  simp only [Bool.and_eq_true, decide_eq_true_eq, i_5]
  exact ⟨⟨⟨⟨h1, h2⟩, h3⟩, h4⟩, h5⟩
structure g_5 (b : h_7) : Prop where
  tl : b.tabs.length ≤ 6
  ml : b.macs.length ≤ 6
  tab : ∀ i, i < b.tabs.length → (b.tabs.getD i tab0).rows.length ≤ 8
  mac : ∀ i, i < b.macs.length → (b.macs.getD i mac0).blocks.length ≤ 5
theorem y_1 (h : ¬ g_5 b) : g_4 b = 3 := by
  unfold g_4
  split
  · rfl
  · rename_i h1
    split
    · rfl
    · rename_i h2
      split
      · rfl
      · rename_i h3
        rw [Bool.not_eq_false, i_5] at h2 h3
        exact absurd ⟨by omega, by omega, fun i hi => of_decide_eq_true (h2 i hi), fun i hi => of_decide_eq_true (h3 i hi)⟩ h
theorem r_3 (h : g_5 b) : g_4 b = if inB b.scales 1 4 = false ∨ allI b.tabs.length (fun i => tabB b.scales (b.tabs.getD i tab0)) = false ∨ allI b.macs.length (fun i => macB b.scales (b.macs.getD i mac0)) = false then 1 else 0 := by
  unfold g_4
  have a := h.tl; have c := h.ml
  rw [if_neg (by omega), if_neg (by rw [Bool.not_eq_false, i_5]; exact fun i hi => decide_eq_true (h.tab i hi)), if_neg (by rw [Bool.not_eq_false, i_5]; exact fun i hi => decide_eq_true (h.mac i hi))]
theorem n_3 (h : 6 < b.tabs.length ∨ 6 < b.macs.length) : g_4 b = 3 := y_1 fun g => by have := g.tl; have := g.ml; omega
theorem s_5 (hk : k < b.tabs.length) (h : 8 < (b.tabs.getD k tab0).rows.length) : g_4 b = 3 := y_1 fun g => by have := g.tab k hk; omega
theorem s_6 (hk : k < b.macs.length) (h : 5 < (b.macs.getD k mac0).blocks.length) : g_4 b = 3 := y_1 fun g => by have := g.mac k hk; omega
theorem o_3 (g : g_5 b) (h : inB b.scales 1 4 = false) : g_4 b = 1 := by rw [r_3 g, if_pos (.inl h)]
theorem s_4 (g : g_5 b) (hk : k < b.tabs.length) (h : tabB b.scales (b.tabs.getD k tab0) = false) : g_4 b = 1 := by rw [r_3 g, if_pos (.inr (.inl (allI_no hk h)))]
theorem k_1 (g : g_5 b) (hk : k < b.macs.length) (h : macB b.scales (b.macs.getD k mac0) = false) : g_4 b = 1 := by rw [r_3 g, if_pos (.inr (.inr (allI_no hk h)))]
theorem v_3 (g : g_5 b) (h1 : inB b.scales 1 4 = true) (h2 : ∀ i, i < b.tabs.length → tabB b.scales (b.tabs.getD i tab0) = true) (h3 : ∀ i, i < b.macs.length → macB b.scales (b.macs.getD i mac0) = true) : g_4 b = 0 := by
  rw [r_3 g, if_neg]
  rw [h1, i_5.2 h2, i_5.2 h3]; decide
theorem check_3b' (h : (List.range b.tabs.length).all (fun i => decide (((b.tabs.getD i tab0).rows.length : Int) ≤ 8)) = false) : g_4 b = 3 := by
  refine y_1 fun g => ?_
  have : (List.range b.tabs.length).all (fun i => decide (((b.tabs.getD i tab0).rows.length : Int) ≤ 8)) = true := List.all_eq_true.2 fun i hi => decide_eq_true (by have := g.tab i (List.mem_range.1 hi); omega)
  rw [this] at h; cases h
theorem check_3c' (h : (List.range b.macs.length).all (fun i => decide (((b.macs.getD i mac0).blocks.length : Int) ≤ 5)) = false) : g_4 b = 3 := by
  refine y_1 fun g => ?_
  have : (List.range b.macs.length).all (fun i => decide (((b.macs.getD i mac0).blocks.length : Int) ≤ 5)) = true := List.all_eq_true.2 fun i hi => decide_eq_true (by have := g.mac i (List.mem_range.1 hi); omega)
  rw [this] at h; cases h
theorem s_8 (h1 : ¬ 6 < b.tabs.length) (h2 : ¬ 6 < b.macs.length) (h3 : (List.range b.tabs.length).all (fun i => decide (((b.tabs.getD i tab0).rows.length : Int) ≤ 8)) = true) (h4 : (List.range b.macs.length).all (fun i => decide (((b.macs.getD i mac0).blocks.length : Int) ≤ 5)) = true) : g_5 b :=
  ⟨by omega, by omega, fun i hi => by have := of_decide_eq_true (List.all_eq_true.1 h3 i (List.mem_range.2 hi)); omega, fun i hi => by have := of_decide_eq_true (List.all_eq_true.1 h4 i (List.mem_range.2 hi)); omega⟩
theorem check_1b' (g : g_5 b) (h : (List.range b.tabs.length).all (fun i => tabB b.scales (b.tabs.getD i tab0)) = false) : g_4 b = 1 := by rw [r_3 g, if_pos (.inr (.inl h))]
theorem check_1c' (g : g_5 b) (h : (List.range b.macs.length).all (fun i => macB b.scales (b.macs.getD i mac0)) = false) : g_4 b = 1 := by rw [r_3 g, if_pos (.inr (.inr h))]
theorem check_0' (g : g_5 b) (h1 : inB b.scales 1 4 = true) (h2 : (List.range b.tabs.length).all (fun i => tabB b.scales (b.tabs.getD i tab0)) = true) (h3 : (List.range b.macs.length).all (fun i => macB b.scales (b.macs.getD i mac0)) = true) : g_4 b = 0 :=
  v_3 g h1 (i_5.1 h2) (i_5.1 h3)
theorem ab_7 {m : MacD} {n : Int} (h : inB m.scale 0 (n - 1) = false) : macB n m = false := by unfold macB; rw [h]; rfl
theorem ab_8 {m : MacD} {n : Int} {k : Nat} (hk : k < m.blocks.length) (h : blkB (m.blocks.getD k (0, 0, 0)) = false) : macB n m = false := by unfold macB; rw [allI_no hk h, Bool.and_false]
theorem mac_y {m : MacD} {n : Int} (h1 : inB m.scale 0 (n - 1) = true) (h : ∀ k, k < m.blocks.length → blkB (m.blocks.getD k (0, 0, 0)) = true) : macB n m = true := by unfold macB; rw [h1, i_5.2 h]; rfl
theorem g_6 {x : Int × Int × Int} (h : z_7 (x.1, x.2.1) = false ∨ inB x.2.2 0 100000 = false) : blkB x = false := by unfold blkB; rcases h with h | h <;> rw [h] <;> simp
theorem blk_y {x : Int × Int × Int} (h1 : z_7 (x.1, x.2.1) = true) (h2 : inB x.2.2 0 100000 = true) : blkB x = true := by unfold blkB; rw [h1, h2]; rfl
end
end Go.Hard
