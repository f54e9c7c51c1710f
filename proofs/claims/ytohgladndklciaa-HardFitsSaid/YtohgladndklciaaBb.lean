/-
  When a table is one of a book: told by the first thing that is not right.
  The straight lines of a table that are not broken, in order; what a function that goes through them finds.
  When a table is one of a book: told by all its tests at once.
-/
import Derived.Test.YtohgladndklciaaBa
import Derived.Test.YtohgladndklciaaEnga
set_option linter.unusedSimpArgs false
set_option linter.unusedVariables false
namespace Go.Proofs.Ytohgladndklciaa
open Go.RowKit Go.Shelf Go.Eng Go.Hard
theorem m_6 : fldK Try.prog 75 1 = some 1 := by kernel_rfl
theorem ze_75 : (Try.prog.info? 75).bind (·.zero) = some (Value.agg #[(Value.int .i64 0), (Value.int .i64 0)]) := by kernel_rfl
theorem en_82 : ∀ args w, (callFunc 82 args).run Try.prog w = .ok (.enter 82 args) w := enters_of Try.func82 (by kernel_rfl) rfl
theorem bd_27_  (w : World) : (Instr.build 27 #[]).run Try.prog w = .ok (.agg #[(Value.int .i64 0), (Value.int .i64 0)]) w := by kernel_rfl
theorem en_55 : ∀ args w, (callFunc 55 args).run Try.prog w = .ok (.enter 55 args) w := enters_of Try.func55 (by kernel_rfl) rfl
theorem fd_46_4 : fldK Try.prog 46 4 = some 4 := by kernel_rfl
theorem upF_bd {n d : Int} (hn : -100000000000 ≤ n ∧ n ≤ 100000000000) (hd : 0 < d ∧ d ≤ 100000) : -100000000001 ≤ upF n d ∧ upF n d ≤ 100000000001 := by
 have := downF_bd (n := -n) (d := d) (by omega) hd
 unfold upF; unfold v_6 at this; omega
theorem rmade_ok (t : TabD) (vr vb : Value) (w : World) (hr : SlAt w vr 2 t.rows.length (pairs t.rows)) (hb : SlAt w vb 1 t.brk.length (ints t.brk)) (hrl : t.rows.length ≤ 1000000) (hbl : t.brk.length ≤ 1000000) (n : Int) (hV : TabV n t) (x : Int) :
  Calls Try.prog 55 #[(Value.agg #[(Value.int .i64 t.frm), (Value.int .i64 t.dst), vr, vb, (Value.int .i64 t.err)]), (Value.int .i64 x)] w (Ret fun v w' => v = .tuple #[.agg #[.int .i64 (d_0 t x).1, .int .i64 (d_0 t x).2], .bool (j_3 t x).isSome] ∧ Ext NoB w w') := by
 refine a_8 Try.func55 rfl fun a0 AS => ?_
 replace AS : Fr 104 [] [(0, (Value.agg #[(Value.int .i64 t.frm), (Value.int .i64 t.dst), vr, vb, (Value.int .i64 t.err)])), (1, (Value.int .i64 x))] a0 := AS
 have B2 : Sep NoB w w [(sl vr 2 t.rows.length (pairs t.rows)), (sl vb 1 t.brk.length (ints t.brk))] := e_3 ⟨rfl, hr, rfl, hb, trivial⟩
 refine m2 ?_
 refine s2 AS (e_7 B2 rfl (AS.ev rfl) (cs := [(Value.int .i64 t.frm), (Value.int .i64 t.dst), vr, vb, (Value.int .i64 t.err)]) rfl) ?_
 rintro a1 _ w3 ⟨E, rfl, B3⟩ B0; clear AS B2 a0
 refine s2 B0 (d_9 B3 rfl ze_27 (cs := [(Value.int .i64 0), (Value.int .i64 0)]) rfl) ?_
 rintro a6 _ w8 ⟨F, rfl, Bi⟩ B1; clear B0 B3 a1
 refine s1 B1 (a_0 rfl (evc _ _)) fun Cp BT => ?_; clear B1 a6
 refine n2 ?_
 refine m2 ?_
 refine s1 BT (a_0 rfl (evc _ _)) fun Cq BU => ?_; clear BT Cp
 refine n1 ?_
 refine c_3 ?_
 have BV := BU.as [(6, (Value.int .i64 0)), (4, (bptr F 0)), (2, (bptr E 0)), (1, (Value.int .i64 x))] rfl; clear BU
 refine g_4 (G := Nat) (fun (k : Nat) a_ w_ => Fr 104 [] [(6, (Value.int .i64 (k : Int))), (4, (bptr F 0)), (2, (bptr E 0)), (1, (Value.int .i64 x))] a_ ∧ Sep NoB w w_ [(blk F 27 [(Value.int .i64 0), (Value.int .i64 0)]), (blk E 46 [(Value.int .i64 t.frm), (Value.int .i64 t.dst), vr, vb, (Value.int .i64 t.err)]), (sl vr 2 t.rows.length (pairs t.rows)), (sl vb 1 t.brk.length (ints t.brk))] ∧ (k ≤ t.rows.length) ∧ (∀ i, i < k → ¬ tx t i = x)) (fun k => t.rows.length - k) 0 ⟨BV.as _ rfl, Bi, by omega, (fun _ h => absurd h (Nat.not_lt_zero _))⟩ ?_
 clear BV Bi Cq
 rintro k Cr Dh ⟨AT, H, hkk, hrw⟩
 refine b_6 ?_
 refine m2 ?_
 refine s1 AT (a_1 rfl (AT.ev rfl)) fun Cs AU => ?_; clear AT Cr
 refine s1 AU (a_4 rfl g_8 (AU.ev rfl)) fun Ct AV => ?_; clear AU Cs
 refine s1 AV (a_3 rfl m_9 (AV.ev rfl) (H.bk 1 rfl) rfl) fun Cu AW => ?_; clear AV Ct
 refine s1 AW (d_2 rfl n_0 (AW.ev rfl) (H.sk 2 rfl)) fun Cv AI => ?_; clear AW Cu
 refine s1 AI (f_5 rfl (AI.ev rfl) (AI.ev rfl)) fun Bz L => ?_; clear AI Cv
 refine n1 ?_
 by_cases Bm : (k : Int) < (t.rows.length : Int)
 ·skip
  rw [decide_eq_true Bm] at L
  refine c_0 L rfl ?_
  refine c_6 ?_
  refine a_9 ?_
  refine b_6 ?_
  refine c_3 ?_
  refine m2 ?_
  refine s1 L (a_4 rfl g_8 (L.ev rfl)) fun Cw AX => ?_; clear L Bz
  refine s1 AX (a_3 rfl m_9 (AX.ev rfl) (H.bk 1 rfl) rfl) fun Cx AY => ?_; clear AX Cw
  refine s1 AY (a_1 rfl (AY.ev rfl)) fun Cy AJ => ?_; clear AY Cx
  refine s1 AJ (b_2 rfl n_0 o_9 (AJ.ev rfl) (i := k) (AJ.ev rfl) (H.sk 2 rfl) (by decide) (by omega)) fun Cz AZ => ?_; clear AJ Cy
  refine s1 AZ (d_8 rfl n_9 (AZ.ev rfl) (H.sk 2 rfl) (by rw [((H.sk 2 rfl)).1]; omega)) fun C0 Aa => ?_; clear AZ Cz
  refine s1 Aa (c_5 rfl ty_3 (Aa.ev rfl) (H.sk 2 rfl) (h_1 (by omega))) fun C1 Ab => ?_; clear Aa C0
  refine s1 Ab (a_1 rfl (Ab.ev rfl)) fun C2 AK => ?_; clear Ab C1
  refine s1 AK (q_9 rfl (AK.ev rfl) (AK.ev rfl)) fun C3 M => ?_; clear AK C2
  refine n1 ?_
  by_cases Bn : ((t.rows.getD k (0, 0)).1) = x
  ·skip
   rw [decide_eq_true Bn] at M
   refine c_0 M rfl ?_
   refine b_6 ?_
   have BW := M.as [(6, (Value.int .i64 (k : Int))), (4, (bptr F 0)), (2, (bptr E 0))] rfl; clear M
   have BX := BW.as [(6, (Value.int .i64 (k : Int))), (4, (bptr F 0)), (2, (bptr E 0))] rfl; clear BW
   refine f_9 mixed BX H 12 [[], [0], [], [1, 2], [3], [4], [], [6], [], [7, 8], [9], [10]] [(Yd.val (bptr E 2)), (Yd.val vr), (Yd.val (Value.int .i64 (k : Int))), (Yd.val (eptr vr (k * 2))), (Yd.val (eptr vr (k * 2 + 1))), (Yd.val (Value.int .i64 ((t.rows.getD k (0, 0)).2))), (Yd.val (bptr E 2)), (Yd.val vr), (Yd.val (Value.int .i64 (k : Int))), (Yd.val (eptr vr (k * 2))), (Yd.val (eptr vr (k * 2 + 1))), (Yd.val (Value.int .i64 ((t.rows.getD k (0, 0)).2)))] (by decide +kernel) rfl rfl ?_ ?_
   ·skip
    refine dq (fun a w hA hS hd => a_4 rfl g_8 (hA.ev rfl)) ?_
    refine dq (fun a w hA hS hd => a_3 rfl m_9 (hq hd 0) (hS.bk 1 rfl) rfl) ?_
    refine dq (fun a w hA hS hd => a_1 rfl (hA.ev rfl)) ?_
    refine dq (fun a w hA hS hd => b_2 rfl n_0 o_9 (hq hd 1) (i := k) (hq hd 2) (hS.sk 2 rfl) (by decide) (by omega)) ?_
    refine dq (fun a w hA hS hd => d_8 rfl m_6 (hq hd 3) (hS.sk 2 rfl) (by rw [((hS.sk 2 rfl)).1]; omega)) ?_
    refine dq (fun a w hA hS hd => c_5 rfl ty_3 (hq hd 4) (hS.sk 2 rfl) (i_2 (by omega))) ?_
    refine dq (fun a w hA hS hd => a_4 rfl g_8 (hA.ev rfl)) ?_
    refine dq (fun a w hA hS hd => a_3 rfl m_9 (hq hd 6) (hS.bk 1 rfl) rfl) ?_
    refine dq (fun a w hA hS hd => a_1 rfl (hA.ev rfl)) ?_
    refine dq (fun a w hA hS hd => b_2 rfl n_0 o_9 (hq hd 7) (i := k) (hq hd 8) (hS.sk 2 rfl) (by decide) (by omega)) ?_
    refine dq (fun a w hA hS hd => d_8 rfl m_6 (hq hd 9) (hS.sk 2 rfl) (by rw [((hS.sk 2 rfl)).1]; omega)) ?_
    refine dq (fun a w hA hS hd => c_5 rfl ty_3 (hq hd 10) (hS.sk 2 rfl) (i_2 (by omega))) ?_
    trivial
   intro C4 Di BY Bj Ak; clear BX H
   have BZ := BY.add (hz Ak 5); clear BY
   have AL := BZ.add (hz Ak 11); clear BZ
   clear Ak
   refine s1 AL (e_0 rfl (pv2 (AL.ev rfl) (AL.ev rfl)) (bd_27_0i_1i _ _)) fun C5 AM => ?_; clear AL C4
   refine s7 AM (b_8 Bj rfl z_1 (AM.ev rfl) (AM.ev rfl) (i := 0) rfl (vs := [(Value.int .i64 ((t.rows.getD k (0, 0)).2)), (Value.int .i64 ((t.rows.getD k (0, 0)).2))]) rfl rfl rfl (Nat.le_of_ble_eq_true rfl)) ?_
   intro _ DL Bk Ba; clear AM
   have Bl : Sep NoB w DL [(blk F 27 [(Value.int .i64 ((t.rows.getD k (0, 0)).2)), (Value.int .i64 ((t.rows.getD k (0, 0)).2))]), (blk E 46 [(Value.int .i64 t.frm), (Value.int .i64 t.dst), vr, vb, (Value.int .i64 t.err)]), (sl vr 2 t.rows.length (pairs t.rows)), (sl vb 1 t.brk.length (ints t.brk))] := Bk; clear Bk Bj
   refine s1 Ba (a_0 rfl (evc _ _)) fun Dc Bb => ?_; clear Ba C5
   refine n1 ?_
   refine c_1 ?_
   refine b_9 ?_
   refine a_6 ?_
   refine a_6 ?_
   refine b_9 ?_
   refine a_6 ?_
   refine a_7 Bb (.inl rfl) (d_1 Bb rfl (.cellA rfl z_1 (Bl.bk 0 rfl) (l := [(Value.int .i64 ((t.rows.getD k (0, 0)).2)), (Value.int .i64 ((t.rows.getD k (0, 0)).2))]) rfl rfl) (.tmp rfl)) ?_
   have hz := (made_row (k := k) (by omega) (fun i hi => hrw i (by omega)) (by assumption))
   exact ⟨by unfold d_0; rw [hz]; rfl, Bl.ext⟩
  skip
  rw [decide_eq_false Bn] at M
  refine b_5 M rfl ?_
  refine c_6 ?_
  refine g_0 ?_
  refine a_9 ?_
  have Ac := M.as [(6, (Value.int .i64 (k : Int))), (4, (bptr F 0)), (2, (bptr E 0)), (1, (Value.int .i64 x))] rfl; clear M
  refine a_5 ?_
  refine s1 Ac (a_1 rfl (Ac.ev rfl)) fun C6 Ad => ?_; clear Ac C3
  refine s1 Ad (f_1 rfl (Ad.ev rfl) (evc _ _) (by omega) (by omega)) fun C7 Ae => ?_; clear Ad C6
  refine s1 Ae (a_0 rfl (Ae.ev rfl)) fun Dd Cj => ?_; clear Ae C7
  refine e_8 ?_
  exact a_9 ⟨k + 1, ⟨Cj.as _ rfl, H, by omega, (fun i hi => by rcases Nat.lt_succ_iff_lt_or_eq.1 hi with h | h; exact hrw i h; subst h; assumption)⟩, by omega⟩
 skip
 rw [decide_eq_false Bm] at L
 refine b_5 L rfl ?_
 refine g_3 ?_
 refine b_3 ?_
 refine b_3 ?_
 refine f_2 ?_
 refine a_9 ?_
 refine b_6 ?_
 refine b_6 ?_
 have Bc := L.as [(4, (bptr F 0)), (2, (bptr E 0)), (1, (Value.int .i64 x))] rfl; clear L
 refine a_5 ?_
 refine s1 Bc (a_0 rfl (evc _ _)) fun C8 Bd => ?_; clear Bc Bz
 refine n1 ?_
 refine c_3 ?_
 have Be := Bd.as [(7, (Value.int .i64 0)), (4, (bptr F 0)), (2, (bptr E 0)), (1, (Value.int .i64 x))] rfl; clear Bd
 refine g_4 (G := Nat) (fun (A : Nat) a_ w_ => Fr 104 [] [(7, (Value.int .i64 (A : Int))), (4, (bptr F 0)), (2, (bptr E 0)), (1, (Value.int .i64 x))] a_ ∧ Sep NoB w w_ [(blk F 27 [(Value.int .i64 0), (Value.int .i64 0)]), (blk E 46 [(Value.int .i64 t.frm), (Value.int .i64 t.dst), vr, vb, (Value.int .i64 t.err)]), (sl vr 2 t.rows.length (pairs t.rows)), (sl vb 1 t.brk.length (ints t.brk))] ∧ (A ≤ t.rows.length) ∧ (∀ i, i < A → l_2 t x i = false)) (fun A => t.rows.length - A) 0 ⟨Be.as _ rfl, H, by omega, (fun _ h => absurd h (Nat.not_lt_zero _))⟩ ?_
 clear Be H C8
 rintro A C9 Dj ⟨Af, O, hkk1, hpc⟩
 refine b_6 ?_
 refine m2 ?_
 refine s1 Af (a_1 rfl (Af.ev rfl)) fun DA Ag => ?_; clear Af C9
 refine s1 Ag (f_1 rfl (Ag.ev rfl) (evc _ _) (by omega) (by omega)) fun DB Ah => ?_; clear Ag DA
 refine s1 Ah (a_4 rfl g_8 (Ah.ev rfl)) fun DC Ai => ?_; clear Ah DB
 refine s1 Ai (a_3 rfl m_9 (Ai.ev rfl) (O.bk 1 rfl) rfl) fun DD Aj => ?_; clear Ai DC
 refine s1 Aj (d_2 rfl n_0 (Aj.ev rfl) (O.sk 2 rfl)) fun DE AN => ?_; clear Aj DD
 refine s1 AN (f_5 rfl (AN.ev rfl) (AN.ev rfl)) fun DF N => ?_; clear AN DE
 refine n1 ?_
 by_cases Bo : ((A : Int) + 1) < (t.rows.length : Int)
 ·skip
  rw [decide_eq_true Bo] at N
  refine c_0 N rfl ?_
  refine c_6 ?_
  refine a_9 ?_
  refine b_6 ?_
  refine c_3 ?_
  refine b_6 ?_
  have Bf := N.as [(7, (Value.int .i64 (A : Int))), (4, (bptr F 0)), (2, (bptr E 0)), (1, (Value.int .i64 x))] rfl; clear N
  have Bg := Bf.as [(7, (Value.int .i64 (A : Int))), (4, (bptr F 0)), (2, (bptr E 0)), (1, (Value.int .i64 x))] rfl; clear Bf
  refine c_drawCD mixed Bg O 14 [(13, 11)] [[], [0], [], [1, 2], [3], [], [5], [], [7], [6, 8], [9], [], [], [4, 11]] [(yw (bptr E 2)), (yw vr), (yw (Value.int .i64 (A : Int))), (yw (eptr vr (A * 2))), (yw (Value.agg #[(Value.int .i64 ((t.rows.getD A (0, 0)).1)), (Value.int .i64 ((t.rows.getD A (0, 0)).2))])), (yw (bptr E 2)), (yw vr), (yw (Value.int .i64 (A : Int))), (yw (Value.int .i64 ((A : Int) + 1))), (yw (eptr vr ((A + 1) * 2))), (yw (Value.agg #[(Value.int .i64 ((t.rows.getD (A + 1) (0, 0)).1)), (Value.int .i64 ((t.rows.getD (A + 1) (0, 0)).2))])), (fun (C : Nat → Value) (v_ : Value) (rs_ : List Res) => ∃ (b11_ : Nat), v_ = (bptr b11_ 0) ∧ rs_ = [(blk b11_ 75 [(Value.int .i64 0), (Value.int .i64 0)])]), (fun (C : Nat → Value) (v_ : Value) (rs_ : List Res) => ∃ (b12_ : Nat), v_ = (bptr b12_ 0) ∧ rs_ = [(blk b12_ 75 [(Value.int .i64 0), (Value.int .i64 0)])]), (fun (C : Nat → Value) (v_ : Value) (rs_ : List Res) => ∃ (bf13_ : Nat), (C 11) = (bptr bf13_ 0) ∧ rs_ = [(blk bf13_ 75 [(Value.int .i64 ((t.rows.getD A (0, 0)).1)), (Value.int .i64 ((t.rows.getD A (0, 0)).2))])])] (by decide +kernel) (by decide +kernel) (by decide +kernel) (by decide +kernel) rfl rfl ⟨dw, dw, dw, dw, dw, dw, dw, dw, dw, dw, dw, (fun _ _ _ _ _ h_ => h_), (fun _ _ _ _ _ h_ => h_), (fun _ _ _ _ he_ h_ => by dsimp only at h_ ⊢; rw [← he_ 11 (by decide)]; exact h_), trivial⟩ (by decide +kernel) ?_ ?_ ?_
  ·skip
   refine ⟨fun hj_ a w C hA hS hd => gv1 (a_4 rfl g_8 (hA.ev rfl)), ?_⟩
   refine ⟨fun hj_ a w C hA hS hd => gv1 (a_3 rfl m_9 (gu hd 0) (hS.bk 1 rfl) rfl), ?_⟩
   refine ⟨fun hj_ a w C hA hS hd => gv1 (a_1 rfl (hA.ev rfl)), ?_⟩
   refine ⟨fun hj_ a w C hA hS hd => gv1 (b_2 rfl n_0 o_9 (gu hd 1) (i := A) (gu hd 2) (hS.sk 2 rfl) (by decide) (by omega)), ?_⟩
   refine ⟨fun hj_ a w C hA hS hd => gv1 (e_2 rfl o_9 (gu hd 3) (hS.sk 2 rfl) (h_5 (by omega)) rfl (by decide)), ?_⟩
   refine ⟨fun hj_ a w C hA hS hd => gv1 (a_4 rfl g_8 (hA.ev rfl)), ?_⟩
   refine ⟨fun hj_ a w C hA hS hd => gv1 (a_3 rfl m_9 (gu hd 5) (hS.bk 1 rfl) rfl), ?_⟩
   refine ⟨fun hj_ a w C hA hS hd => gv1 (a_1 rfl (hA.ev rfl)), ?_⟩
   refine ⟨fun hj_ a w C hA hS hd => gv1 (f_1 rfl (gu hd 7) (evc _ _) (by omega) (by omega)), ?_⟩
   refine ⟨fun hj_ a w C hA hS hd => gv1 (b_2 rfl n_0 o_9 (gu hd 6) (i := A + 1) ((gu hd 8).trans (congrArg (Value.int .i64) (show ((A : Int) + 1 : Int) = ((A + 1 : Nat) : Int) by omega))) (hS.sk 2 rfl) (by decide) (by omega)), ?_⟩
   refine ⟨fun hj_ a w C hA hS hd => gv1 (e_2 rfl o_9 (gu hd 9) (hS.sk 2 rfl) (h_5 (by omega)) rfl (by decide)), ?_⟩
   refine ⟨fun hj_ a w C hA hS hd => d_7 rfl (valloc rfl ze_75 (cs := [(Value.int .i64 0), (Value.int .i64 0)]) rfl (fun b_ => ⟨b_, rfl, rfl⟩)), ?_⟩
   refine ⟨fun hj_ a w C hA hS hd => d_7 rfl (valloc rfl ze_75 (cs := [(Value.int .i64 0), (Value.int .i64 0)]) rfl (fun b_ => ⟨b_, rfl, rfl⟩)), ?_⟩
   refine ⟨fun hj_ => absurd hj_ (by decide), ?_⟩
   trivial
  ·skip
   refine ⟨fun o_ ho_ => ?_, ?_⟩
   ·skip
    obtain rfl := Option.some.inj ho_; clear ho_
    intro a w C Df Lr hA B4 DJ hd hL hS
    obtain ⟨b11_, Bp, Ck⟩ := DJ; subst Ck
    rw [Bp] at B4
    obtain ⟨e4, Dg, DK, De⟩ := hd 4 (by decide) (by decide)
    obtain ⟨DI, DH⟩ := DK; subst DH
    rw [DI] at e4
    exact d_7 rfl (p_5 (b_8 hS rfl o_9 (c_7 (h_8 B4 rfl)) (c_7 (h_8 e4 rfl)) (i := 0) rfl (vs := [(Value.int .i64 ((t.rows.getD A (0, 0)).1)), (Value.int .i64 ((t.rows.getD A (0, 0)).2))]) rfl rfl rfl (Nat.le_of_ble_eq_true rfl)) fun v_ w_ h_ => ⟨_, ⟨_, Bp, rfl⟩, h_⟩)
   trivial
  skip
  intro BS DM C rsf102 Bh hsl_ B hrq AQ; clear Bg O
  have hrq_11 := hrq (13, 11) (by decide)
  obtain ⟨AR, Bx⟩ := B 12 (by decide) (by decide)
  obtain ⟨b12_, BO, BM⟩ := Bx
  obtain ⟨Bw, By⟩ := B 13 (by decide) (by decide)
  obtain ⟨bf13_, BP, BN⟩ := By
  have BB : Sep NoB w DM [(blk b12_ 75 [(Value.int .i64 0), (Value.int .i64 0)]), (blk bf13_ 75 [(Value.int .i64 ((t.rows.getD A (0, 0)).1)), (Value.int .i64 ((t.rows.getD A (0, 0)).2))]), (blk F 27 [(Value.int .i64 0), (Value.int .i64 0)]), (blk E 46 [(Value.int .i64 t.frm), (Value.int .i64 t.dst), vr, vb, (Value.int .i64 t.err)]), (sl vr 2 t.rows.length (pairs t.rows)), (sl vb 1 t.brk.length (ints t.brk))] := by rw [show catR rsf102 0 14 = ([(blk b12_ 75 [(Value.int .i64 0), (Value.int .i64 0)]), (blk bf13_ 75 [(Value.int .i64 ((t.rows.getD A (0, 0)).1)), (Value.int .i64 ((t.rows.getD A (0, 0)).2))])] : List Res) by (try simp only [catR, gr (B 0 (by decide) (by decide)), gr (B 1 (by decide) (by decide)), gr (B 2 (by decide) (by decide)), gr (B 3 (by decide) (by decide)), gr (B 4 (by decide) (by decide)), gr (B 5 (by decide) (by decide)), gr (B 6 (by decide) (by decide)), gr (B 7 (by decide) (by decide)), gr (B 8 (by decide) (by decide)), gr (B 9 (by decide) (by decide)), gr (B 10 (by decide) (by decide)), BM, BN, hrq_11]); (try rfl)] at AQ; exact AQ
  have Al := Bh.add (gs (B 10 (by decide) (by decide))); clear Bh
  rw [BO] at AR
  have Am : Fr 104 [] [(9, (bptr b12_ 0)), (58, (Value.agg #[(Value.int .i64 ((t.rows.getD (A + 1) (0, 0)).1)), (Value.int .i64 ((t.rows.getD (A + 1) (0, 0)).2))])), (7, (Value.int .i64 (A : Int))), (4, (bptr F 0)), (2, (bptr E 0)), (1, (Value.int .i64 x))] BS := Al.add (h_8 AR rfl); clear Al
  have hf_11 := hsl_ 11 (by decide); rw [BP] at hf_11
  have P : Fr 104 [] [(8, (bptr bf13_ 0)), (9, (bptr b12_ 0)), (58, (Value.agg #[(Value.int .i64 ((t.rows.getD (A + 1) (0, 0)).1)), (Value.int .i64 ((t.rows.getD (A + 1) (0, 0)).2))])), (7, (Value.int .i64 (A : Int))), (4, (bptr F 0)), (2, (bptr E 0)), (1, (Value.int .i64 x))] BS := Am.add (h_8 hf_11 rfl); clear Am
  clear hsl_ hf_11
  clear B AQ AR Bw hrq hrq_11
  clear BM
  clear BO
  clear BN
  clear BP
  refine s7 P (b_8 BB rfl o_9 (P.ev rfl) (P.ev rfl) (i := 0) rfl (vs := [(Value.int .i64 ((t.rows.getD (A + 1) (0, 0)).1)), (Value.int .i64 ((t.rows.getD (A + 1) (0, 0)).2))]) rfl rfl rfl (Nat.le_of_ble_eq_true rfl)) ?_
  intro _ Cl BC Z; clear P
  have D : Sep NoB w Cl [(blk b12_ 75 [(Value.int .i64 ((t.rows.getD (A + 1) (0, 0)).1)), (Value.int .i64 ((t.rows.getD (A + 1) (0, 0)).2))]), (blk bf13_ 75 [(Value.int .i64 ((t.rows.getD A (0, 0)).1)), (Value.int .i64 ((t.rows.getD A (0, 0)).2))]), (blk F 27 [(Value.int .i64 0), (Value.int .i64 0)]), (blk E 46 [(Value.int .i64 t.frm), (Value.int .i64 t.dst), vr, vb, (Value.int .i64 t.err)]), (sl vr 2 t.rows.length (pairs t.rows)), (sl vb 1 t.brk.length (ints t.brk))] := BC; clear BC BB
  refine n4 ?_
  refine s1 Z (a_1 rfl (Z.ev rfl)) fun B5 b => ?_; clear Z BS
  refine s1 b (a_4 rfl n_9 (b.ev rfl)) fun B6 c => ?_; clear b B5
  refine s1 c (a_3 rfl ty_3 (c.ev rfl) (D.bk 1 rfl) rfl) fun B7 Q => ?_; clear c B6
  refine s1 Q (j_6 rfl (Q.ev rfl) (Q.ev rfl)) fun B8 d => ?_; clear Q B7
  refine s1 d (a_1 rfl (d.ev rfl)) fun BQ J => ?_; clear d B8
  by_cases BJ : ((t.rows.getD A (0, 0)).1) < x
  ·skip
   rw [decide_eq_true BJ] at J
   refine s5 J (a_1 rfl (J.ev rfl)) fun B9 e => ?_; clear J BQ
   refine s5 e (a_4 rfl n_9 (e.ev rfl)) fun CA f => ?_; clear e B9
   refine s5 f (a_3 rfl ty_3 (f.ev rfl) (D.bk 0 rfl) rfl) fun CB R => ?_; clear f CA
   refine s5 R (f_5 rfl (R.ev rfl) (R.ev rfl)) fun CC S => ?_; clear R CB
   refine s1 S (b_4 rfl (S.ev rfl) (S.ev rfl)) fun CD g => ?_; clear S CC
   refine s1 g (a_1 rfl (g.ev rfl)) fun BR K => ?_; clear g CD
   by_cases BK : x < ((t.rows.getD (A + 1) (0, 0)).1)
   ·skip
    rw [decide_eq_true BK] at K
    have hpb := piece_bds (v := x) (k := A) hV (by omega) (by unfold tx; omega) (by unfold tx; omega); unfold pieceN pieceD tx ty at hpb; have hcn := hV.bnd A (by omega); have hcn1 := hV.bnd (A + 1) (by omega); unfold tx ty at hcn hcn1; have hdb := downF_bd hpb.1 hpb.2; have hub := upF_bd hpb.1 hpb.2
    refine s5 K (c_4 rfl ab_0 (K.ev rfl) (D.bk 3 rfl) (l := [(Value.int .i64 t.frm), (Value.int .i64 t.dst), vr, vb, (Value.int .i64 t.err)]) rfl rfl) fun CE j => ?_; clear K BR
    refine s5 j (a_1 rfl (j.ev rfl)) fun CF T => ?_; clear j CE
    refine s6 T (b_1 rfl en_54 (ev2 (T.ev rfl) (T.ev rfl)) (broken_ok (A : Int) t _ _ _ (D.sk 4 rfl) (D.sk 5 rfl) (by omega) (by omega))) ?_
    rintro CG _ DZ ⟨rfl, BA⟩ m; have Y := D.step BA; clear BA T D CF
    refine s5 m (e_9 rfl (m.ev rfl)) fun CH U => ?_; clear m CG
    refine s1 U (b_4 rfl (U.ev rfl) (U.ev rfl)) fun CI I => ?_; clear U CH
    refine n1 ?_
    by_cases BL : (A : Int) ∈ t.brk
    ·skip
     rw [decide_eq_true BL] at I
     refine b_5 I rfl ?_
     refine c_6 ?_
     refine g_0 ?_
     refine a_9 ?_
     have o := I.as [(7, (Value.int .i64 (A : Int))), (4, (bptr F 0)), (2, (bptr E 0)), (1, (Value.int .i64 x))] rfl; clear I
     refine a_5 ?_
     refine s1 o (a_1 rfl (o.ev rfl)) fun CJ p => ?_; clear o CI
     refine s1 p (f_1 rfl (p.ev rfl) (evc _ _) (by omega) (by omega)) fun CK q => ?_; clear p CJ
     refine s1 q (a_0 rfl (q.ev rfl)) fun DO Bq => ?_; clear q CK
     refine e_8 ?_
     have Bt := Y.gkp (gpc 2 (gpc 3 (gpc 4 (gpc 5 gpn)))); clear Y
     exact a_9 ⟨A + 1, ⟨Bq.as _ rfl, Bt, by omega, (fun i hi => by rcases Nat.lt_succ_iff_lt_or_eq.1 hi with h | h; exact hpc i h; subst h; first | exact l_3 (.inl (by assumption)) | exact l_3 (.inr (.inl (by assumption))) | exact l_3 (.inr (.inr (by assumption))))⟩, by omega⟩
    skip
    rw [decide_eq_false BL] at I
    refine c_0 I rfl ?_
    refine b_6 ?_
    have An := I.as [(8, (bptr bf13_ 0)), (9, (bptr b12_ 0)), (4, (bptr F 0)), (1, (Value.int .i64 x))] rfl; clear I
    have Ao := An.as [(8, (bptr bf13_ 0)), (9, (bptr b12_ 0)), (4, (bptr F 0)), (1, (Value.int .i64 x))] rfl; clear An
    refine f_9 mixed Ao Y 16 [[], [], [1], [0, 2], [], [4], [], [6], [5, 7], [3, 8], [], [10], [], [12], [11, 13], [9]] [(Yd.val (Value.int .i64 x)), (Yd.val (bptr bf13_ 0)), (Yd.val (Value.int .i64 ((t.rows.getD A (0, 0)).1))), (Yd.val (Value.int .i64 (x - ((t.rows.getD A (0, 0)).1)))), (Yd.val (bptr b12_ 1)), (Yd.val (Value.int .i64 ((t.rows.getD (A + 1) (0, 0)).2))), (Yd.val (bptr bf13_ 1)), (Yd.val (Value.int .i64 ((t.rows.getD A (0, 0)).2))), (Yd.val (Value.int .i64 (((t.rows.getD (A + 1) (0, 0)).2) - ((t.rows.getD A (0, 0)).2)))), (Yd.val (Value.int .i64 ((x - ((t.rows.getD A (0, 0)).1)) * (((t.rows.getD (A + 1) (0, 0)).2) - ((t.rows.getD A (0, 0)).2))))), (Yd.val (bptr b12_ 0)), (Yd.val (Value.int .i64 ((t.rows.getD (A + 1) (0, 0)).1))), (Yd.val (bptr bf13_ 0)), (Yd.val (Value.int .i64 ((t.rows.getD A (0, 0)).1))), (Yd.val (Value.int .i64 (((t.rows.getD (A + 1) (0, 0)).1) - ((t.rows.getD A (0, 0)).1)))), (Yd.val (Value.int .i64 ((x - ((t.rows.getD A (0, 0)).1)) * (((t.rows.getD (A + 1) (0, 0)).2) - ((t.rows.getD A (0, 0)).2)))))] (by decide +kernel) rfl rfl ?_ ?_
    ·skip
     refine dq (fun a w hA hS hd => a_1 rfl (hA.ev rfl)) ?_
     refine dq (fun a w hA hS hd => a_4 rfl n_9 (hA.ev rfl)) ?_
     refine dq (fun a w hA hS hd => a_3 rfl ty_3 (hq hd 1) (hS.bk 1 rfl) rfl) ?_
     refine dq (fun a w hA hS hd => g_6 rfl (hq hd 0) (hq hd 2) (by omega) (by omega)) ?_
     refine dq (fun a w hA hS hd => a_4 rfl m_6 (hA.ev rfl)) ?_
     refine dq (fun a w hA hS hd => a_3 rfl ty_3 (hq hd 4) (hS.bk 0 rfl) rfl) ?_
     refine dq (fun a w hA hS hd => a_4 rfl m_6 (hA.ev rfl)) ?_
     refine dq (fun a w hA hS hd => a_3 rfl ty_3 (hq hd 6) (hS.bk 1 rfl) rfl) ?_
     refine dq (fun a w hA hS hd => g_6 rfl (hq hd 5) (hq hd 7) (by omega) (by omega)) ?_
     refine dq (fun a w hA hS hd => op_mul rfl (hq hd 3) (hq hd 8) (by omega) (by omega)) ?_
     refine dq (fun a w hA hS hd => a_4 rfl n_9 (hA.ev rfl)) ?_
     refine dq (fun a w hA hS hd => a_3 rfl ty_3 (hq hd 10) (hS.bk 0 rfl) rfl) ?_
     refine dq (fun a w hA hS hd => a_4 rfl n_9 (hA.ev rfl)) ?_
     refine dq (fun a w hA hS hd => a_3 rfl ty_3 (hq hd 12) (hS.bk 1 rfl) rfl) ?_
     refine dq (fun a w hA hS hd => g_6 rfl (hq hd 11) (hq hd 13) (by omega) (by omega)) ?_
     refine dq (fun a w hA hS hd => a_0 rfl (hq hd 9)) ?_
     trivial
    intro CL Da Ap BD AO; clear Ao Y
    have Aq := Ap.add (hz AO 14); clear Ap
    have r := Aq.add (hz AO 15); clear Aq
    clear AO
    refine s1 r (a_0 rfl (r.ev rfl)) fun DP Ar => ?_; clear r CL
    refine n2 ?_
    have As := Ar.as [(11, (Value.int .i64 (((t.rows.getD (A + 1) (0, 0)).1) - ((t.rows.getD A (0, 0)).1)))), (10, (Value.int .i64 ((x - ((t.rows.getD A (0, 0)).1)) * (((t.rows.getD (A + 1) (0, 0)).2) - ((t.rows.getD A (0, 0)).2))))), (8, (bptr bf13_ 0)), (4, (bptr F 0))] rfl; clear Ar
    refine f_9 mixed As BD 12 [[], [0], [], [], [2, 3], [1, 4], [], [6], [], [], [8, 9], [7, 10]] [(Yd.val (bptr bf13_ 1)), (Yd.val (Value.int .i64 ((t.rows.getD A (0, 0)).2))), (Yd.val (Value.int .i64 ((x - ((t.rows.getD A (0, 0)).1)) * (((t.rows.getD (A + 1) (0, 0)).2) - ((t.rows.getD A (0, 0)).2))))), (Yd.val (Value.int .i64 (((t.rows.getD (A + 1) (0, 0)).1) - ((t.rows.getD A (0, 0)).1)))), (Yd.val (Value.int .i64 (v_6 ((x - ((t.rows.getD A (0, 0)).1)) * (((t.rows.getD (A + 1) (0, 0)).2) - ((t.rows.getD A (0, 0)).2))) (((t.rows.getD (A + 1) (0, 0)).1) - ((t.rows.getD A (0, 0)).1))))), (Yd.val (Value.int .i64 (((t.rows.getD A (0, 0)).2) + (v_6 ((x - ((t.rows.getD A (0, 0)).1)) * (((t.rows.getD (A + 1) (0, 0)).2) - ((t.rows.getD A (0, 0)).2))) (((t.rows.getD (A + 1) (0, 0)).1) - ((t.rows.getD A (0, 0)).1)))))), (Yd.val (bptr bf13_ 1)), (Yd.val (Value.int .i64 ((t.rows.getD A (0, 0)).2))), (Yd.val (Value.int .i64 ((x - ((t.rows.getD A (0, 0)).1)) * (((t.rows.getD (A + 1) (0, 0)).2) - ((t.rows.getD A (0, 0)).2))))), (Yd.val (Value.int .i64 (((t.rows.getD (A + 1) (0, 0)).1) - ((t.rows.getD A (0, 0)).1)))), (Yd.val (Value.int .i64 (upF ((x - ((t.rows.getD A (0, 0)).1)) * (((t.rows.getD (A + 1) (0, 0)).2) - ((t.rows.getD A (0, 0)).2))) (((t.rows.getD (A + 1) (0, 0)).1) - ((t.rows.getD A (0, 0)).1))))), (Yd.val (Value.int .i64 (((t.rows.getD A (0, 0)).2) + (upF ((x - ((t.rows.getD A (0, 0)).1)) * (((t.rows.getD (A + 1) (0, 0)).2) - ((t.rows.getD A (0, 0)).2))) (((t.rows.getD (A + 1) (0, 0)).1) - ((t.rows.getD A (0, 0)).1))))))] (by decide +kernel) rfl rfl ?_ ?_
    ·skip
     refine dq (fun a w hA hS hd => a_4 rfl m_6 (hA.ev rfl)) ?_
     refine dq (fun a w hA hS hd => a_3 rfl ty_3 (hq hd 0) (hS.bk 1 rfl) rfl) ?_
     refine dq (fun a w hA hS hd => a_1 rfl (hA.ev rfl)) ?_
     refine dq (fun a w hA hS hd => a_1 rfl (hA.ev rfl)) ?_
     refine ⟨fun a w hA hS hd => by have e2 := hx hd 2; have e3 := hx hd 3; exact d_7 rfl (dx (b_1 rfl en_81 (ev2 (c_7 e2) (c_7 e3)) (rdown_ok _ _ _ (by omega) (by omega))) hS (fun _ => rfl)), ?_⟩
     refine dq (fun a w hA hS hd => f_1 rfl (hq hd 1) (hq hd 4) (by omega) (by omega)) ?_
     refine dq (fun a w hA hS hd => a_4 rfl m_6 (hA.ev rfl)) ?_
     refine dq (fun a w hA hS hd => a_3 rfl ty_3 (hq hd 6) (hS.bk 1 rfl) rfl) ?_
     refine dq (fun a w hA hS hd => a_1 rfl (hA.ev rfl)) ?_
     refine dq (fun a w hA hS hd => a_1 rfl (hA.ev rfl)) ?_
     refine ⟨fun a w hA hS hd => by have e8 := hx hd 8; have e9 := hx hd 9; exact d_7 rfl (dx (b_1 rfl en_82 (ev2 (c_7 e8) (c_7 e9)) (rup_ok _ _ _ (by omega) (by omega))) hS (fun _ => rfl)), ?_⟩
     refine dq (fun a w hA hS hd => f_1 rfl (hq hd 7) (hq hd 10) (by omega) (by omega)) ?_
     trivial
    intro CM Db At BE AP; clear As BD
    have Au := At.add (hz AP 5); clear At
    have V := Au.add (hz AP 11); clear Au
    clear AP
    refine s1 V (e_0 rfl (pv2 (V.ev rfl) (V.ev rfl)) (bd_27_0i_1i _ _)) fun CN W => ?_; clear V CM
    refine s7 W (b_8 BE rfl z_1 (W.ev rfl) (W.ev rfl) (i := 2) rfl (vs := [(Value.int .i64 (((t.rows.getD A (0, 0)).2) + (v_6 ((x - ((t.rows.getD A (0, 0)).1)) * (((t.rows.getD (A + 1) (0, 0)).2) - ((t.rows.getD A (0, 0)).2))) (((t.rows.getD (A + 1) (0, 0)).1) - ((t.rows.getD A (0, 0)).1))))), (Value.int .i64 (((t.rows.getD A (0, 0)).2) + (upF ((x - ((t.rows.getD A (0, 0)).1)) * (((t.rows.getD (A + 1) (0, 0)).2) - ((t.rows.getD A (0, 0)).2))) (((t.rows.getD (A + 1) (0, 0)).1) - ((t.rows.getD A (0, 0)).1)))))]) rfl rfl rfl (Nat.le_of_ble_eq_true rfl)) ?_
    intro _ Cm BF Av; clear W
    have BG : Sep NoB w Cm [(blk b12_ 75 [(Value.int .i64 ((t.rows.getD (A + 1) (0, 0)).1)), (Value.int .i64 ((t.rows.getD (A + 1) (0, 0)).2))]), (blk bf13_ 75 [(Value.int .i64 ((t.rows.getD A (0, 0)).1)), (Value.int .i64 ((t.rows.getD A (0, 0)).2))]), (blk F 27 [(Value.int .i64 (((t.rows.getD A (0, 0)).2) + (v_6 ((x - ((t.rows.getD A (0, 0)).1)) * (((t.rows.getD (A + 1) (0, 0)).2) - ((t.rows.getD A (0, 0)).2))) (((t.rows.getD (A + 1) (0, 0)).1) - ((t.rows.getD A (0, 0)).1))))), (Value.int .i64 (((t.rows.getD A (0, 0)).2) + (upF ((x - ((t.rows.getD A (0, 0)).1)) * (((t.rows.getD (A + 1) (0, 0)).2) - ((t.rows.getD A (0, 0)).2))) (((t.rows.getD (A + 1) (0, 0)).1) - ((t.rows.getD A (0, 0)).1)))))]), (blk E 46 [(Value.int .i64 t.frm), (Value.int .i64 t.dst), vr, vb, (Value.int .i64 t.err)]), (sl vr 2 t.rows.length (pairs t.rows)), (sl vb 1 t.brk.length (ints t.brk))] := BF; clear BF BE
    refine s1 Av (a_0 rfl (evc _ _)) fun DQ Aw => ?_; clear Av CN
    refine n1 ?_
    refine c_1 ?_
    refine b_9 ?_
    refine a_6 ?_
    refine a_6 ?_
    refine b_9 ?_
    refine a_6 ?_
    refine a_7 Aw (.inl rfl) (d_1 Aw rfl (.cellA rfl z_1 (BG.bk 2 rfl) (l := [(Value.int .i64 (((t.rows.getD A (0, 0)).2) + (v_6 ((x - ((t.rows.getD A (0, 0)).1)) * (((t.rows.getD (A + 1) (0, 0)).2) - ((t.rows.getD A (0, 0)).2))) (((t.rows.getD (A + 1) (0, 0)).1) - ((t.rows.getD A (0, 0)).1))))), (Value.int .i64 (((t.rows.getD A (0, 0)).2) + (upF ((x - ((t.rows.getD A (0, 0)).1)) * (((t.rows.getD (A + 1) (0, 0)).2) - ((t.rows.getD A (0, 0)).2))) (((t.rows.getD (A + 1) (0, 0)).1) - ((t.rows.getD A (0, 0)).1)))))]) rfl rfl) (.tmp rfl)) ?_
    have hz := (made_piece (k := A) (fun i hi => hrw i (by omega)) (by omega) hpc (piece_y (by assumption) (by assumption) (by assumption)))
    exact ⟨by unfold d_0; rw [hz]; rfl, BG.ext⟩
   skip
   rw [decide_eq_false BK] at K
   refine s3 K fun CO Ax => ?_; clear K BR
   refine s3 Ax fun CP Ay => ?_; clear Ax CO
   refine s3 Ay fun CQ Az => ?_; clear Ay CP
   refine s3 Az fun CR s => ?_; clear Az CQ
   refine s1 s (c_8 rfl (s.ev rfl) (evc _ _)) fun CS u => ?_; clear s CR
   refine n1 ?_
   refine b_5 u rfl ?_
   refine c_6 ?_
   refine g_0 ?_
   refine a_9 ?_
   have y := u.as [(7, (Value.int .i64 (A : Int))), (4, (bptr F 0)), (2, (bptr E 0)), (1, (Value.int .i64 x))] rfl; clear u
   refine a_5 ?_
   refine s1 y (a_1 rfl (y.ev rfl)) fun CT z => ?_; clear y CS
   refine s1 z (f_1 rfl (z.ev rfl) (evc _ _) (by omega) (by omega)) fun CU AA => ?_; clear z CT
   refine s1 AA (a_0 rfl (AA.ev rfl)) fun DR Br => ?_; clear AA CU
   refine e_8 ?_
   have Bu := D.gkp (gpc 2 (gpc 3 (gpc 4 (gpc 5 gpn)))); clear D
   exact a_9 ⟨A + 1, ⟨Br.as _ rfl, Bu, by omega, (fun i hi => by rcases Nat.lt_succ_iff_lt_or_eq.1 hi with h | h; exact hpc i h; subst h; first | exact l_3 (.inl (by assumption)) | exact l_3 (.inr (.inl (by assumption))) | exact l_3 (.inr (.inr (by assumption))))⟩, by omega⟩
  skip
  rw [decide_eq_false BJ] at J
  refine s3 J fun CV A0 => ?_; clear J BQ
  refine s3 A0 fun CW A1 => ?_; clear A0 CV
  refine s3 A1 fun CX A2 => ?_; clear A1 CW
  refine s3 A2 fun CY AB => ?_; clear A2 CX
  refine s1 AB (c_8 rfl (AB.ev rfl) (evc _ _)) fun CZ AC => ?_; clear AB CY
  refine s1 AC (a_1 rfl (AC.ev rfl)) fun Ca A3 => ?_; clear AC CZ
  refine s3 A3 fun Cb A4 => ?_; clear A3 Ca
  refine s3 A4 fun Cc A5 => ?_; clear A4 Cb
  refine s3 A5 fun Cd A6 => ?_; clear A5 Cc
  refine s3 A6 fun Ce AD => ?_; clear A6 Cd
  refine s1 AD (c_8 rfl (AD.ev rfl) (evc _ _)) fun Cf AE => ?_; clear AD Ce
  refine n1 ?_
  refine b_5 AE rfl ?_
  refine c_6 ?_
  refine g_0 ?_
  refine a_9 ?_
  have AF := AE.as [(7, (Value.int .i64 (A : Int))), (4, (bptr F 0)), (2, (bptr E 0)), (1, (Value.int .i64 x))] rfl; clear AE
  refine a_5 ?_
  refine s1 AF (a_1 rfl (AF.ev rfl)) fun Cg AG => ?_; clear AF Cf
  refine s1 AG (f_1 rfl (AG.ev rfl) (evc _ _) (by omega) (by omega)) fun Ch AH => ?_; clear AG Cg
  refine s1 AH (a_0 rfl (AH.ev rfl)) fun DS Bs => ?_; clear AH Ch
  refine e_8 ?_
  have Bv := D.gkp (gpc 2 (gpc 3 (gpc 4 (gpc 5 gpn)))); clear D
  exact a_9 ⟨A + 1, ⟨Bs.as _ rfl, Bv, by omega, (fun i hi => by rcases Nat.lt_succ_iff_lt_or_eq.1 hi with h | h; exact hpc i h; subst h; first | exact l_3 (.inl (by assumption)) | exact l_3 (.inr (.inl (by assumption))) | exact l_3 (.inr (.inr (by assumption))))⟩, by omega⟩
 skip
 rw [decide_eq_false Bo] at N
 refine b_5 N rfl ?_
 refine g_3 ?_
 refine b_3 ?_
 refine b_3 ?_
 refine f_2 ?_
 refine a_9 ?_
 refine b_6 ?_
 have A7 := N.as [(4, (bptr F 0))] rfl; clear N
 refine a_5 ?_
 refine s1 A7 (e_0 rfl pv0 bd_27_) fun Ci X => ?_; clear A7 DF
 refine s7 X (b_8 O rfl z_1 (X.ev rfl) (X.ev rfl) (i := 0) rfl (vs := [(Value.int .i64 0), (Value.int .i64 0)]) rfl rfl rfl (Nat.le_of_ble_eq_true rfl)) ?_
 intro _ Cn BH A8; clear X
 have BI : Sep NoB w Cn [(blk F 27 [(Value.int .i64 0), (Value.int .i64 0)]), (blk E 46 [(Value.int .i64 t.frm), (Value.int .i64 t.dst), vr, vb, (Value.int .i64 t.err)]), (sl vr 2 t.rows.length (pairs t.rows)), (sl vb 1 t.brk.length (ints t.brk))] := BH; clear BH O
 refine s1 A8 (a_0 rfl (evc _ _)) fun DT A9 => ?_; clear A8 Ci
 refine n1 ?_
 refine c_1 ?_
 refine a_7 A9 (.inl rfl) (d_1 A9 rfl (.cellA rfl z_1 (BI.bk 0 rfl) (l := [(Value.int .i64 0), (Value.int .i64 0)]) rfl rfl) (.tmp rfl)) ?_
 have hz := (made_no (fun i hi => hrw i (by omega)) (fun i hi => hpc i (by omega)))
 exact ⟨by unfold d_0; rw [hz]; rfl, BI.ext⟩
end Go.Proofs.Ytohgladndklciaa

namespace Go.Hard
section
variable {n : Int} {t : TabD} {k : Nat}
theorem tabB_iff : tabB n t = true ↔ inB t.frm 0 (n - 1) = true ∧ inB t.dst 0 (n - 1) = true ∧ t.frm ≠ t.dst ∧ inB t.err 0 1000 = true ∧ 2 ≤ (t.rows.length : Int) ∧ (∀ i, i < t.rows.length → rowB (t.rows.getD i (0, 0)) = true) ∧ (∀ i, i < t.rows.length - 1 → z_7 (aa_2 t) (t.rows.getD i (0, 0)) (t.rows.getD (i + 1) (0, 0)) = true) ∧ ∀ i, i < t.brk.length → brkB t i = true := by
  unfold tabB headB
  simp only [Bool.and_eq_true, Bool.not_eq_true', decide_eq_false_iff_not, decide_eq_true_eq, g_2, ne_eq, and_assoc]
theorem o_2 (h : inB t.frm 0 (n - 1) = false ∨ inB t.dst 0 (n - 1) = false ∨ t.frm = t.dst ∨ inB t.err 0 1000 = false ∨ (t.rows.length : Int) < 2) : tabB n t = false := by
  cases hb : tabB n t with
  | false => rfl
  | true =>
    have g := tabB_iff.1 hb
    rcases h with h | h | h | h | h
    · rw [h] at g; cases g.1
    · rw [h] at g; cases g.2.1
    · exact absurd h g.2.2.1
    · rw [h] at g; cases g.2.2.2.1
    · have := g.2.2.2.2.1; omega
theorem tab_row (hk : k < t.rows.length) (h : rowB (t.rows.getD k (0, 0)) = false) : tabB n t = false := by
  cases hb : tabB n t with
  | false => rfl
  | true => have g := (tabB_iff.1 hb).2.2.2.2.2.1 k hk; rw [h] at g; cases g
theorem t_2 (hk : k + 1 < t.rows.length) (h : z_7 (aa_2 t) (t.rows.getD k (0, 0)) (t.rows.getD (k + 1) (0, 0)) = false) : tabB n t = false := by
  cases hb : tabB n t with
  | false => rfl
  | true => have g := (tabB_iff.1 hb).2.2.2.2.2.2.1 k (by omega); rw [h] at g; cases g
theorem tab_brk (hk : k < t.brk.length) (h : brkB t k = false) : tabB n t = false := by
  cases hb : tabB n t with
  | false => rfl
  | true => have g := (tabB_iff.1 hb).2.2.2.2.2.2.2 k hk; rw [h] at g; cases g
theorem q_3 {r : Bool} {a b : Int × Int} (h : ¬ a.1 < b.1 ∨ b.2 = a.2 ∨ decide (a.2 < b.2) ≠ r) : z_7 r a b = false := by
  cases hb : z_7 r a b with
  | false => rfl
  | true =>
    unfold z_7 at hb
    simp only [Bool.and_eq_true, decide_eq_true_eq, Bool.not_eq_true', decide_eq_false_iff_not, beq_iff_eq] at hb
    rcases h with h | h | h
    · exact absurd hb.1.1 h
    · exact absurd h hb.1.2
    · exact absurd hb.2 h
theorem step_y {r : Bool} {a b : Int × Int} (h1 : a.1 < b.1) (h2 : ¬ b.2 = a.2) (h3 : decide (a.2 < b.2) = r) : z_7 r a b = true := by
  unfold z_7
  simp only [Bool.and_eq_true, decide_eq_true_eq, Bool.not_eq_true', decide_eq_false_iff_not, beq_iff_eq]
  exact ⟨⟨h1, h2⟩, h3⟩
theorem brk_y0 (h : inB (t.brk.getD 0 0) 0 ((t.rows.length : Int) - 2) = true) : brkB t 0 = true := by
  unfold brkB; rw [show ab_5 t 0 = -1 from rfl]; rw [i_4] at h ⊢; omega
theorem brk_y1 (h : inB (t.brk.getD (k + 1) 0) 0 ((t.rows.length : Int) - 2) = true) (h2 : t.brk.getD k 0 < t.brk.getD (k + 1) 0) : brkB t (k + 1) = true := by
  unfold brkB ab_5; rw [i_4] at h ⊢; dsimp only; omega
theorem brk_n {i : Nat} (hp : ∀ j, j < i → 0 ≤ t.brk.getD j 0) (h : inB (t.brk.getD i 0) 0 ((t.rows.length : Int) - 2) = false) : brkB t i = false := by
  cases hb : brkB t i with
  | false => rfl
  | true =>
    unfold brkB at hb
    rw [i_4] at hb
    have : inB (t.brk.getD i 0) 0 ((t.rows.length : Int) - 2) = true := by
      rw [i_4]
      cases i with
      | zero => rw [show ab_5 t 0 = -1 from rfl] at hb; omega
      | succ j => have := hp j (by omega); unfold ab_5 at hb; dsimp only at hb; omega
    rw [this] at h; cases h
theorem brk_n1 (h : ¬ t.brk.getD k 0 < t.brk.getD (k + 1) 0) : brkB t (k + 1) = false := by
  cases hb : brkB t (k + 1) with
  | false => rfl
  | true => unfold brkB ab_5 at hb; rw [i_4] at hb; dsimp only at hb; omega
end
end Go.Hard

namespace Go.Proofs.Ytohgladndklciaa
open Go.RowKit Go.Shelf Go.Eng Go.Hard
end Go.Proofs.Ytohgladndklciaa

namespace Go.Proofs.Ytohgladndklciaa
open Go.RowKit Go.Shelf Go.Eng Go.Hard
theorem fd_46_0 : fldK Try.prog 46 0 = some 0 := by kernel_rfl
theorem fd_46_1 : fldK Try.prog 46 1 = some 1 := by kernel_rfl
theorem un_4 : Try.prog.underlying 4 = some .bool := by kernel_rfl
theorem neq_n {r : Bool} {a b : Int × Int} (h : (decide (a.2 < b.2) == r) = false) : z_7 r a b = false := q_3 (.inr (.inr (fun e => by rw [e] at h; simp at h)))
theorem neq_y {r : Bool} {a b : Int × Int} (A : a.1 < b.1) (B : ¬ b.2 = a.2) (h : (decide (a.2 < b.2) == r) = true) : z_7 r a b = true := step_y A B (by simpa using h)
theorem back1 {k : Nat} (h : 0 < (k : Int)) : ∃ i, k = i + 1 := ⟨k - 1, by omega⟩
theorem pred1 (i : Nat) : ((((i + 1 : Nat) : Int)) - 1).toNat = i := by omega
set_option maxHeartbeats 4000000 in
theorem istable_ok (n : Int) (hn : 1 ≤ n ∧ n ≤ 4) (t : TabD) (vr vb : Value) (w : World) (hr : SlAt w vr 2 t.rows.length (pairs t.rows)) (hb : SlAt w vb 1 t.brk.length (ints t.brk)) (hrl : t.rows.length ≤ 1000000) (hbl : t.brk.length ≤ 1000000) :
  Calls Try.prog 51 #[(Value.int .i64 n), (Value.agg #[(Value.int .i64 t.frm), (Value.int .i64 t.dst), vr, vb, (Value.int .i64 t.err)])] w (Ret fun v w' => v = .bool (tabB n t) ∧ Ext NoB w w') := by
 refine a_8 Try.func51 rfl fun a0 BS => ?_
 replace BS : Fr 165 [] [(0, (Value.int .i64 n)), (1, (Value.agg #[(Value.int .i64 t.frm), (Value.int .i64 t.dst), vr, vb, (Value.int .i64 t.err)]))] a0 := BS
 have EX : Sep NoB w w [(sl vr 2 t.rows.length (pairs t.rows)), (sl vb 1 t.brk.length (ints t.brk))] := e_3 ⟨rfl, hr, rfl, hb, trivial⟩
 refine m2 ?_
 refine s2 BS (e_7 EX rfl (BS.ev rfl) (cs := [(Value.int .i64 t.frm), (Value.int .i64 t.dst), vr, vb, (Value.int .i64 t.err)]) rfl) ?_
 rintro a1 _ w3 ⟨B, rfl, L⟩ EW; clear BS EX a0
 refine s1 EW (a_0 rfl (evc _ _)) fun a6 EB => ?_; clear EW a1
 refine n2 ?_
 refine m2 ?_
 refine s1 EB (a_4 rfl fd_46_0 (EB.ev rfl)) fun a8 EH => ?_; clear EB a6
 refine s1 EH (a_3 rfl ty_3 (EH.ev rfl) (L.bk 0 rfl) rfl) fun Gg BU => ?_; clear EH a8
 refine s1 BU (a_1 rfl (BU.ev rfl)) fun Gh BV => ?_; clear BU Gg
 refine s1 BV (g_6 rfl (BV.ev rfl) (evc _ _) (by omega) (by omega)) fun Gi AO => ?_; clear BV Gh
 refine s2 AO (b_1 rfl z_0 (ev3 (AO.ev rfl) (evc _ _) (AO.ev rfl)) (y_7 _ _ _ _)) ?_
 rintro Gj _ W_ ⟨rfl, hW_⟩ BW; have hW2_ := hW_.symm; subst hW2_; clear hW_ AO Gi
 refine s1 BW (e_9 rfl (BW.ev rfl)) fun Gk BX => ?_; clear BW Gj
 refine s1 BX (a_1 rfl (BX.ev rfl)) fun ES N => ?_; clear BX Gk
 rcases Bool.eq_false_or_eq_true ((inB t.frm 0 (n - 1))) with Br | Br
 ·skip
  rw [Br] at N
  refine s5 N (a_4 rfl fd_46_1 (N.ev rfl)) fun Gl BY => ?_; clear N ES
  refine s5 BY (a_3 rfl ty_3 (BY.ev rfl) (L.bk 0 rfl) rfl) fun Gm BZ => ?_; clear BY Gl
  refine s5 BZ (a_1 rfl (BZ.ev rfl)) fun Gn Ba => ?_; clear BZ Gm
  refine s5 Ba (g_6 rfl (Ba.ev rfl) (evc _ _) (by omega) (by omega)) fun Go An => ?_; clear Ba Gn
  refine s6 An (b_1 rfl z_0 (ev3 (An.ev rfl) (evc _ _) (An.ev rfl)) (y_7 _ _ _ _)) ?_
  rintro Gp _ W_ ⟨rfl, hW_⟩ Bb; have hW2_ := hW_.symm; subst hW2_; clear hW_ An Go
  refine s5 Bb (e_9 rfl (Bb.ev rfl)) fun Gq Av => ?_; clear Bb Gp
  refine s1 Av (c_8 rfl (Av.ev rfl) (Av.ev rfl)) fun Gr Bc => ?_; clear Av Gq
  refine s1 Bc (a_1 rfl (Bc.ev rfl)) fun ET O => ?_; clear Bc Gr
  rcases Bool.eq_false_or_eq_true ((inB t.dst 0 (n - 1))) with Bs | Bs
  ·skip
   rw [Bs] at O
   refine s5 O (a_4 rfl fd_46_0 (O.ev rfl)) fun Gs Bd => ?_; clear O ET
   refine s5 Bd (a_3 rfl ty_3 (Bd.ev rfl) (L.bk 0 rfl) rfl) fun Gt Be => ?_; clear Bd Gs
   refine s5 Be (a_4 rfl fd_46_1 (Be.ev rfl)) fun Gu Bf => ?_; clear Be Gt
   refine s5 Bf (a_3 rfl ty_3 (Bf.ev rfl) (L.bk 0 rfl) rfl) fun Gv BF => ?_; clear Bf Gu
   refine s5 BF (q_9 rfl (BF.ev rfl) (BF.ev rfl)) fun Gw BJ => ?_; clear BF Gv
   refine s1 BJ (c_8 rfl (BJ.ev rfl) (BJ.ev rfl)) fun Gx Bg => ?_; clear BJ Gw
   refine s1 Bg (a_1 rfl (Bg.ev rfl)) fun EU P => ?_; clear Bg Gx
   by_cases EI : t.frm = t.dst
   ·skip
    rw [decide_eq_true EI] at P
    refine s3 P fun Gy D7 => ?_; clear P EU
    refine s3 D7 fun Gz D8 => ?_; clear D7 Gy
    refine s3 D8 fun G0 D9 => ?_; clear D8 Gz
    refine s3 D9 fun G1 Bh => ?_; clear D9 G0
    refine s1 Bh (b_4 rfl (Bh.ev rfl) (evc _ _)) fun G2 Bi => ?_; clear Bh G1
    refine s1 Bi (a_1 rfl (Bi.ev rfl)) fun G3 EA => ?_; clear Bi G2
    refine s3 EA fun G4 EC => ?_; clear EA G3
    refine s3 EC fun G5 ED => ?_; clear EC G4
    refine s3 ED fun G6 EE => ?_; clear ED G5
    refine s3 EE fun G7 Bj => ?_; clear EE G6
    refine s1 Bj (b_4 rfl (Bj.ev rfl) (evc _ _)) fun G8 Bk => ?_; clear Bj G7
    refine n1 ?_
    refine c_0 Bk rfl ?_
    refine b_6 ?_
    have EF := Bk.as [] rfl; clear Bk
    refine a_5 ?_
    refine s1 EF (a_0 rfl (evc _ _)) fun Hj EG => ?_; clear EF G8
    refine n1 ?_
    refine c_1 ?_
    refine a_6 ?_
    refine a_7 EG (.inl rfl) (a_2 EG rfl (.tmp rfl)) ?_
    exact ⟨congrArg Value.bool (Eq.symm (o_2 (by first | exact .inl (by assumption) | exact .inr (.inl (by assumption)) | exact .inr (.inr (.inl (by assumption))) | exact .inr (.inr (.inr (.inl (by assumption)))) | exact .inr (.inr (.inr (.inr (by omega))))))), L.ext⟩
   skip
   rw [decide_eq_false EI] at P
   refine s5 P (a_4 rfl fd_46_4 (P.ev rfl)) fun G9 Bl => ?_; clear P EU
   refine s5 Bl (a_3 rfl ty_3 (Bl.ev rfl) (L.bk 0 rfl) rfl) fun HA Bm => ?_; clear Bl G9
   refine s6 Bm (b_1 rfl z_0 (ev3 (Bm.ev rfl) (evc _ _) (evc _ _)) (y_7 _ _ _ _)) ?_
   rintro HB _ W_ ⟨rfl, hW_⟩ Bn; have hW2_ := hW_.symm; subst hW2_; clear hW_ Bm HA
   refine s5 Bn (e_9 rfl (Bn.ev rfl)) fun HC BL => ?_; clear Bn HB
   refine s1 BL (c_8 rfl (BL.ev rfl) (BL.ev rfl)) fun HD Bo => ?_; clear BL HC
   refine s1 Bo (a_1 rfl (Bo.ev rfl)) fun EV Q => ?_; clear Bo HD
   rcases Bool.eq_false_or_eq_true ((inB t.err 0 1000)) with Bt | Bt
   ·skip
    rw [Bt] at Q
    refine s5 Q (a_4 rfl g_8 (Q.ev rfl)) fun HE Bp => ?_; clear Q EV
    refine s5 Bp (a_3 rfl m_9 (Bp.ev rfl) (L.bk 0 rfl) rfl) fun HF Bq => ?_; clear Bp HE
    refine s5 Bq (d_2 rfl n_0 (Bq.ev rfl) (L.sk 1 rfl)) fun EY AF => ?_; clear Bq HF
    refine s5 AF (f_5 rfl (AF.ev rfl) (evc _ _)) fun EZ Y => ?_; clear AF EY
    refine s1 Y (c_8 rfl (Y.ev rfl) (Y.ev rfl)) fun Ea F => ?_; clear Y EZ
    refine n1 ?_
    by_cases Dq : (t.rows.length : Int) < 2
    ·skip
     rw [decide_eq_true Dq] at F
     refine c_0 F rfl ?_
     refine b_6 ?_
     have Bu := F.as [] rfl; clear F
     refine a_5 ?_
     refine s1 Bu (a_0 rfl (evc _ _)) fun HH Bv => ?_; clear Bu Ea
     refine n1 ?_
     refine c_1 ?_
     refine a_6 ?_
     refine a_7 Bv (.inl rfl) (a_2 Bv rfl (.tmp rfl)) ?_
     exact ⟨congrArg Value.bool (Eq.symm (o_2 (by first | exact .inl (by assumption) | exact .inr (.inl (by assumption)) | exact .inr (.inr (.inl (by assumption))) | exact .inr (.inr (.inr (.inl (by assumption)))) | exact .inr (.inr (.inr (.inr (by omega))))))), L.ext⟩
    skip
    rw [decide_eq_false Dq] at F
    refine b_5 F rfl ?_
    refine c_6 ?_
    refine a_9 ?_
    refine b_6 ?_
    have Bw := F.as [(3, (bptr B 0))] rfl; clear F
    have Bx := Bw.as [(3, (bptr B 0))] rfl; clear Bw
    refine f_9 mixed Bx L 10 [[], [0], [1], [2], [3], [], [5], [6], [7], [8]] [(Yd.val (bptr B 2)), (Yd.val vr), (Yd.val (eptr vr (1 * 2))), (Yd.val (eptr vr (1 * 2 + 1))), (Yd.val (Value.int .i64 ((t.rows.getD 1 (0, 0)).2))), (Yd.val (bptr B 2)), (Yd.val vr), (Yd.val (eptr vr (0 * 2))), (Yd.val (eptr vr (0 * 2 + 1))), (Yd.val (Value.int .i64 ((t.rows.getD 0 (0, 0)).2)))] (by decide +kernel) rfl rfl ?_ ?_
    ·skip
     refine dq (fun a w hA hS hd => a_4 rfl g_8 (hA.ev rfl)) ?_
     refine dq (fun a w hA hS hd => a_3 rfl m_9 (hq hd 0) (hS.bk 0 rfl) rfl) ?_
     refine dq (fun a w hA hS hd => b_2 rfl n_0 o_9 (hq hd 1) (i := 1) (show _ = Value.int .i64 ((1 : Nat) : Int) from (evc _ _)) (hS.sk 1 rfl) (by decide) (by omega)) ?_
     refine dq (fun a w hA hS hd => d_8 rfl m_6 (hq hd 2) (hS.sk 1 rfl) (by rw [((hS.sk 1 rfl)).1]; omega)) ?_
     refine dq (fun a w hA hS hd => c_5 rfl ty_3 (hq hd 3) (hS.sk 1 rfl) (i_2 (by omega))) ?_
     refine dq (fun a w hA hS hd => a_4 rfl g_8 (hA.ev rfl)) ?_
     refine dq (fun a w hA hS hd => a_3 rfl m_9 (hq hd 5) (hS.bk 0 rfl) rfl) ?_
     refine dq (fun a w hA hS hd => b_2 rfl n_0 o_9 (hq hd 6) (i := 0) (show _ = Value.int .i64 ((0 : Nat) : Int) from (evc _ _)) (hS.sk 1 rfl) (by decide) (by omega)) ?_
     refine dq (fun a w hA hS hd => d_8 rfl m_6 (hq hd 7) (hS.sk 1 rfl) (by rw [((hS.sk 1 rfl)).1]; omega)) ?_
     refine dq (fun a w hA hS hd => c_5 rfl ty_3 (hq hd 8) (hS.sk 1 rfl) (i_2 (by omega))) ?_
     trivial
    intro Eb HZ By Dn BM; clear Bx L
    have Bz := By.add (hz BM 4); clear By
    have Z := Bz.add (hz BM 9); clear Bz
    clear BM
    refine s1 Z (j_6 rfl (Z.ev rfl) (Z.ev rfl)) fun Ec AG => ?_; clear Z Eb
    refine s1 AG (a_0 rfl (AG.ev rfl)) fun Ed B0 => ?_; clear AG Ec
    refine n2 ?_
    refine m2 ?_
    refine s1 B0 (a_0 rfl (evc _ _)) fun Ee B1 => ?_; clear B0 Ed
    refine n1 ?_
    refine c_3 ?_
    have B2 := B1.as [(6, (Value.int .i64 0)), (5, (Value.bool (decide (((t.rows.getD 0 (0, 0)).2) < ((t.rows.getD 1 (0, 0)).2))))), (3, (bptr B 0))] rfl; clear B1
    refine g_4 (G := Nat) (fun (k : Nat) a_ w_ => Fr 165 [] [(6, (Value.int .i64 (k : Int))), (5, (Value.bool (decide (((t.rows.getD 0 (0, 0)).2) < ((t.rows.getD 1 (0, 0)).2))))), (3, (bptr B 0))] a_ ∧ Sep NoB w w_ [(blk B 46 [(Value.int .i64 t.frm), (Value.int .i64 t.dst), vr, vb, (Value.int .i64 t.err)]), (sl vr 2 t.rows.length (pairs t.rows)), (sl vb 1 t.brk.length (ints t.brk))] ∧ (k ≤ t.rows.length) ∧ (∀ i, i < k → rowB (t.rows.getD i (0, 0)) = true) ∧ (∀ i, i + 1 < k → z_7 (aa_2 t) (t.rows.getD i (0, 0)) (t.rows.getD (i + 1) (0, 0)) = true)) (fun k => t.rows.length - k) 0 ⟨B2.as _ rfl, Dn, by omega, (fun _ h => absurd h (Nat.not_lt_zero _)), (fun _ h => absurd h (Nat.not_lt_zero _))⟩ ?_
    clear B2 Dn Ee
    rintro k Ef Ha ⟨AH, A, hkk, hrw, hst⟩
    refine b_6 ?_
    refine m2 ?_
    refine s1 AH (a_1 rfl (AH.ev rfl)) fun Eg AI => ?_; clear AH Ef
    refine s1 AI (a_4 rfl g_8 (AI.ev rfl)) fun Eh AJ => ?_; clear AI Eg
    refine s1 AJ (a_3 rfl m_9 (AJ.ev rfl) (A.bk 0 rfl) rfl) fun Ei AK => ?_; clear AJ Eh
    refine s1 AK (d_2 rfl n_0 (AK.ev rfl) (A.sk 1 rfl)) fun Ej b => ?_; clear AK Ei
    refine s1 b (f_5 rfl (b.ev rfl) (b.ev rfl)) fun Dw D => ?_; clear b Ej
    refine n1 ?_
    by_cases Dr : (k : Int) < (t.rows.length : Int)
    ·skip
     rw [decide_eq_true Dr] at D
     refine c_0 D rfl ?_
     refine c_6 ?_
     refine a_9 ?_
     refine b_6 ?_
     refine c_3 ?_
     refine b_6 ?_
     refine m2 ?_
     refine s1 D (a_4 rfl g_8 (D.ev rfl)) fun Ek AL => ?_; clear D Dw
     refine s1 AL (a_3 rfl m_9 (AL.ev rfl) (A.bk 0 rfl) rfl) fun El AM => ?_; clear AL Ek
     refine s1 AM (a_1 rfl (AM.ev rfl)) fun Em c => ?_; clear AM El
     refine s1 c (b_2 rfl n_0 o_9 (c.ev rfl) (i := k) (c.ev rfl) (A.sk 1 rfl) (by decide) (by omega)) fun En AN => ?_; clear c Em
     refine s1 AN (d_8 rfl n_9 (AN.ev rfl) (A.sk 1 rfl) (by rw [((A.sk 1 rfl)).1]; omega)) fun Eo AP => ?_; clear AN En
     refine s1 AP (c_5 rfl ty_3 (AP.ev rfl) (A.sk 1 rfl) (h_1 (by omega))) fun Ep AQ => ?_; clear AP Eo
     refine s2 AQ (b_1 rfl z_0 (ev3 (AQ.ev rfl) (evc _ _) (evc _ _)) (y_7 _ _ _ _)) ?_
     rintro Er _ W_ ⟨rfl, hW_⟩ AR; have hW2_ := hW_.symm; subst hW2_; clear hW_ AQ Ep
     refine s1 AR (e_9 rfl (AR.ev rfl)) fun Es AS => ?_; clear AR Er
     refine s1 AS (a_1 rfl (AS.ev rfl)) fun Dx M => ?_; clear AS Es
     rcases Bool.eq_false_or_eq_true ((inB ((t.rows.getD k (0, 0)).1) 1 100000)) with BN | BN
     ·skip
      rw [BN] at M
      refine s5 M (a_4 rfl g_8 (M.ev rfl)) fun Et AT => ?_; clear M Dx
      refine s5 AT (a_3 rfl m_9 (AT.ev rfl) (A.bk 0 rfl) rfl) fun Eu AU => ?_; clear AT Et
      refine s5 AU (a_1 rfl (AU.ev rfl)) fun Ev d => ?_; clear AU Eu
      refine s5 d (b_2 rfl n_0 o_9 (d.ev rfl) (i := k) (d.ev rfl) (A.sk 1 rfl) (by decide) (by omega)) fun Ew AV => ?_; clear d Ev
      refine s5 AV (d_8 rfl m_6 (AV.ev rfl) (A.sk 1 rfl) (by rw [((A.sk 1 rfl)).1]; omega)) fun Ex AW => ?_; clear AV Ew
      refine s5 AW (c_5 rfl ty_3 (AW.ev rfl) (A.sk 1 rfl) (i_2 (by omega))) fun Ey AX => ?_; clear AW Ex
      refine s6 AX (b_1 rfl z_0 (ev3 (AX.ev rfl) (evc _ _) (evc _ _)) (y_7 _ _ _ _)) ?_
      rintro Ez _ W_ ⟨rfl, hW_⟩ AY; have hW2_ := hW_.symm; subst hW2_; clear hW_ AX Ey
      refine s5 AY (e_9 rfl (AY.ev rfl)) fun E0 e => ?_; clear AY Ez
      refine s1 e (c_8 rfl (e.ev rfl) (e.ev rfl)) fun E1 H => ?_; clear e E0
      refine n1 ?_
      rcases Bool.eq_false_or_eq_true ((inB ((t.rows.getD k (0, 0)).2) 1 100000)) with BO | BO
      ·skip
       rw [BO] at H
       refine b_5 H rfl ?_
       refine c_6 ?_
       refine a_9 ?_
       refine b_6 ?_
       have B3 := H.as [(6, (Value.int .i64 (k : Int))), (5, (Value.bool (decide (((t.rows.getD 0 (0, 0)).2) < ((t.rows.getD 1 (0, 0)).2))))), (3, (bptr B 0))] rfl; clear H
       have f := B3.as [(6, (Value.int .i64 (k : Int))), (5, (Value.bool (decide (((t.rows.getD 0 (0, 0)).2) < ((t.rows.getD 1 (0, 0)).2))))), (3, (bptr B 0))] rfl; clear B3
       by_cases AC : 0 < (k : Int)
       ·skip
        have g := f.as [(6, (Value.int .i64 (k : Int))), (5, (Value.bool (decide (((t.rows.getD 0 (0, 0)).2) < ((t.rows.getD 1 (0, 0)).2))))), (3, (bptr B 0))] rfl; clear f
        by_cases BP : ((t.rows.getD k (0, 0)).1) ≤ ((t.rows.getD (((k : Int) - 1).toNat) (0, 0)).1)
        ·skip
         have B4 := g.as [(6, (Value.int .i64 (k : Int))), (5, (Value.bool (decide (((t.rows.getD 0 (0, 0)).2) < ((t.rows.getD 1 (0, 0)).2))))), (3, (bptr B 0))] rfl; clear g
         refine f_9 mixed B4 A 49 [[], [0], [1], [2], [2, 3], [2], [2, 4, 5], [2, 6], [2, 7], [2], [2, 9], [2], [2, 11], [2, 10, 12], [2, 13], [2, 14], [2, 8, 15], [2, 16], [17], [17, 18], [17], [17, 19, 20], [17, 21], [17, 22], [17], [17, 24], [17], [17, 26], [17, 25, 27], [17, 28], [17, 29], [17, 23, 30], [2, 17, 31], [2, 32], [33], [33, 34], [33], [33, 35, 36], [33, 37], [33, 38], [33], [33, 40], [33], [33, 42], [33, 41, 43], [33, 44], [33, 45], [33, 39, 46], [33]] [(Yd.val (Value.int .i64 (k : Int))), (Yd.val (Value.bool true)), (Yd.val (Value.bool true)), (Yd.val (bptr B 2)), (Yd.val vr), (Yd.val (Value.int .i64 (k : Int))), (Yd.val (eptr vr (k * 2))), (Yd.val (eptr vr (k * 2 + 0))), (Yd.val (Value.int .i64 ((t.rows.getD k (0, 0)).1))), (Yd.val (bptr B 2)), (Yd.val vr), (Yd.val (Value.int .i64 (k : Int))), (Yd.val (Value.int .i64 ((k : Int) - 1))), (Yd.val (eptr vr (((k : Int) - 1).toNat * 2))), (Yd.val (eptr vr (((k : Int) - 1).toNat * 2 + 0))), (Yd.val (Value.int .i64 ((t.rows.getD (((k : Int) - 1).toNat) (0, 0)).1))), (Yd.val (Value.bool true)), (Yd.val (Value.bool true)), (Yd.val undef), (Yd.val undef), (Yd.val undef), (Yd.val undef), (Yd.val undef), (Yd.val undef), (Yd.val undef), (Yd.val undef), (Yd.val undef), (Yd.val undef), (Yd.val undef), (Yd.val undef), (Yd.val undef), (Yd.val undef), (Yd.val (Value.bool true)), (Yd.val (Value.bool true)), (Yd.val undef), (Yd.val undef), (Yd.val undef), (Yd.val undef), (Yd.val undef), (Yd.val undef), (Yd.val undef), (Yd.val undef), (Yd.val undef), (Yd.val undef), (Yd.val undef), (Yd.val undef), (Yd.val undef), (Yd.val undef), (Yd.val undef)] (by decide +kernel) rfl rfl ?_ ?_
         ·skip
          refine dq (fun a w hA hS hd => a_1 rfl (hA.ev rfl)) ?_
          refine ⟨fun a w hA hS hd => by have e0 := hx hd 0; exact d_7 rfl (dv (j_6 rfl (c_7 e0) (evc _ _)) hS (by show Value.bool _ = _; simp only [decide_eq_true AC, decide_true, decide_false, Bool.not_true, Bool.not_false])), ?_⟩
          refine dq (fun a w hA hS hd => a_1 rfl (hq hd 1)) ?_
          refine dy 2 (fun a w hA hS hd => a_4 rfl g_8 (hA.ev rfl)) ?_
          refine dy 2 (fun a w hA hS hd => a_3 rfl m_9 (hq hd 3) (hS.bk 0 rfl) rfl) ?_
          refine dy 2 (fun a w hA hS hd => a_1 rfl (hA.ev rfl)) ?_
          refine dy 2 (fun a w hA hS hd => b_2 rfl n_0 o_9 (hq hd 4) (i := k) (hq hd 5) (hS.sk 1 rfl) (by decide) (by omega)) ?_
          refine dy 2 (fun a w hA hS hd => d_8 rfl n_9 (hq hd 6) (hS.sk 1 rfl) (by rw [((hS.sk 1 rfl)).1]; omega)) ?_
          refine dy 2 (fun a w hA hS hd => c_5 rfl ty_3 (hq hd 7) (hS.sk 1 rfl) (h_1 (by omega))) ?_
          refine dy 2 (fun a w hA hS hd => a_4 rfl g_8 (hA.ev rfl)) ?_
          refine dy 2 (fun a w hA hS hd => a_3 rfl m_9 (hq hd 9) (hS.bk 0 rfl) rfl) ?_
          refine dy 2 (fun a w hA hS hd => a_1 rfl (hA.ev rfl)) ?_
          refine dy 2 (fun a w hA hS hd => g_6 rfl (hq hd 11) (evc _ _) (by omega) (by omega)) ?_
          refine dy 2 (fun a w hA hS hd => b_2 rfl n_0 o_9 (hq hd 10) (i := ((k : Int) - 1).toNat) ((hq hd 12).trans (h_6 (by omega))) (hS.sk 1 rfl) (by decide) (by omega)) ?_
          refine dy 2 (fun a w hA hS hd => d_8 rfl n_9 (hq hd 13) (hS.sk 1 rfl) (by rw [((hS.sk 1 rfl)).1]; omega)) ?_
          refine dy 2 (fun a w hA hS hd => c_5 rfl ty_3 (hq hd 14) (hS.sk 1 rfl) (h_1 (by omega))) ?_
          refine ⟨fun a w hA hS hd => by have e2 := hx hd 2; have e8 := hx hd 8; have BR := hx hd 15; exact i_5 rfl rfl e2 (dv (t_1 rfl (c_7 e8) (c_7 BR)) hS (by show Value.bool _ = _; simp only [decide_eq_true BP, decide_true, decide_false, Bool.not_true, Bool.not_false])), ?_⟩
          refine dy 2 (fun a w hA hS hd => a_1 rfl (hq hd 16)) ?_
          refine dn 17 ?_
          refine dn 17 ?_
          refine dn 17 ?_
          refine dn 17 ?_
          refine dn 17 ?_
          refine dn 17 ?_
          refine dn 17 ?_
          refine dn 17 ?_
          refine dn 17 ?_
          refine dn 17 ?_
          refine dn 17 ?_
          refine dn 17 ?_
          refine dn 17 ?_
          refine dn 17 ?_
          refine dy 2 (fun a w hA hS hd => b_4 rfl (hq hd 17) (evc _ _)) ?_
          refine dy 2 (fun a w hA hS hd => a_1 rfl (hq hd 32)) ?_
          refine dn 33 ?_
          refine dn 33 ?_
          refine dn 33 ?_
          refine dn 33 ?_
          refine dn 33 ?_
          refine dn 33 ?_
          refine dn 33 ?_
          refine dn 33 ?_
          refine dn 33 ?_
          refine dn 33 ?_
          refine dn 33 ?_
          refine dn 33 ?_
          refine dn 33 ?_
          refine dn 33 ?_
          refine dn 33 ?_
          trivial
         intro E2 Hb B5 EN R; clear B4 A
         have B6 := B5.add (hz R 2); clear B5
         have B7 := B6.add (hz R 33); clear B6
         have B8 := B7.add (hz R 47); clear B7
         have B9 := B8.add (hz R 48); clear B8
         clear R
         refine s3 B9 fun E3 AZ => ?_; clear B9 E2
         refine s5 AZ (b_4 rfl (AZ.ev rfl) (evc _ _)) fun E4 l => ?_; clear AZ E3
         refine s1 l (b_4 rfl (l.ev rfl) (l.ev rfl)) fun E5 Aa => ?_; clear l E4
         refine n1 ?_
         refine c_0 Aa rfl ?_
         refine b_6 ?_
         have CA := Aa.as [] rfl; clear Aa
         refine a_5 ?_
         refine s1 CA (a_0 rfl (evc _ _)) fun HI CB => ?_; clear CA E5
         refine n1 ?_
         refine c_1 ?_
         refine b_9 ?_
         refine a_6 ?_
         refine a_6 ?_
         refine b_9 ?_
         refine a_6 ?_
         refine a_7 CB (.inl rfl) (a_2 CB rfl (.tmp rfl)) ?_
         exact ⟨congrArg Value.bool (Eq.symm (by first | exact tab_row (k := k) (by omega) (by unfold rowB; rw [Bool.and_eq_false_iff]; first | exact .inl (by assumption) | exact .inr (by assumption)) | (obtain ⟨i, rfl⟩ := back1 (k := k) (by omega); simp only [pred1] at *; exact t_2 (k := i) (by omega) (by first | exact neq_n (by assumption) | exact q_3 (.inl (by omega)) | exact q_3 (.inr (.inl (by omega))))))), EN.ext⟩
        skip
        have m := g.as [(6, (Value.int .i64 (k : Int))), (5, (Value.bool (decide (((t.rows.getD 0 (0, 0)).2) < ((t.rows.getD 1 (0, 0)).2))))), (3, (bptr B 0))] rfl; clear g
        by_cases Ds : ((t.rows.getD k (0, 0)).2) = ((t.rows.getD (((k : Int) - 1).toNat) (0, 0)).2)
        ·skip
         have CC := m.as [(6, (Value.int .i64 (k : Int))), (5, (Value.bool (decide (((t.rows.getD 0 (0, 0)).2) < ((t.rows.getD 1 (0, 0)).2))))), (3, (bptr B 0))] rfl; clear m
         refine f_9 mixed CC A 49 [[], [0], [1], [2], [2, 3], [2], [2, 4, 5], [2, 6], [2, 7], [2], [2, 9], [2], [2, 11], [2, 10, 12], [2, 13], [2, 14], [2, 8, 15], [2, 16], [17], [17, 18], [17], [17, 19, 20], [17, 21], [17, 22], [17], [17, 24], [17], [17, 26], [17, 25, 27], [17, 28], [17, 29], [17, 23, 30], [2, 17, 31], [2, 32], [33], [33, 34], [33], [33, 35, 36], [33, 37], [33, 38], [33], [33, 40], [33], [33, 42], [33, 41, 43], [33, 44], [33, 45], [33, 39, 46], [33]] [(Yd.val (Value.int .i64 (k : Int))), (Yd.val (Value.bool true)), (Yd.val (Value.bool true)), (Yd.val (bptr B 2)), (Yd.val vr), (Yd.val (Value.int .i64 (k : Int))), (Yd.val (eptr vr (k * 2))), (Yd.val (eptr vr (k * 2 + 0))), (Yd.val (Value.int .i64 ((t.rows.getD k (0, 0)).1))), (Yd.val (bptr B 2)), (Yd.val vr), (Yd.val (Value.int .i64 (k : Int))), (Yd.val (Value.int .i64 ((k : Int) - 1))), (Yd.val (eptr vr (((k : Int) - 1).toNat * 2))), (Yd.val (eptr vr (((k : Int) - 1).toNat * 2 + 0))), (Yd.val (Value.int .i64 ((t.rows.getD (((k : Int) - 1).toNat) (0, 0)).1))), (Yd.val (Value.bool false)), (Yd.val (Value.bool false)), (Yd.val (bptr B 2)), (Yd.val vr), (Yd.val (Value.int .i64 (k : Int))), (Yd.val (eptr vr (k * 2))), (Yd.val (eptr vr (k * 2 + 1))), (Yd.val (Value.int .i64 ((t.rows.getD k (0, 0)).2))), (Yd.val (bptr B 2)), (Yd.val vr), (Yd.val (Value.int .i64 (k : Int))), (Yd.val (Value.int .i64 ((k : Int) - 1))), (Yd.val (eptr vr (((k : Int) - 1).toNat * 2))), (Yd.val (eptr vr (((k : Int) - 1).toNat * 2 + 1))), (Yd.val (Value.int .i64 ((t.rows.getD (((k : Int) - 1).toNat) (0, 0)).2))), (Yd.val (Value.bool true)), (Yd.val (Value.bool true)), (Yd.val (Value.bool true)), (Yd.val undef), (Yd.val undef), (Yd.val undef), (Yd.val undef), (Yd.val undef), (Yd.val undef), (Yd.val undef), (Yd.val undef), (Yd.val undef), (Yd.val undef), (Yd.val undef), (Yd.val undef), (Yd.val undef), (Yd.val undef), (Yd.val undef)] (by decide +kernel) rfl rfl ?_ ?_
         ·skip
          refine dq (fun a w hA hS hd => a_1 rfl (hA.ev rfl)) ?_
          refine ⟨fun a w hA hS hd => by have e0 := hx hd 0; exact d_7 rfl (dv (j_6 rfl (c_7 e0) (evc _ _)) hS (by show Value.bool _ = _; simp only [decide_eq_true AC, decide_true, decide_false, Bool.not_true, Bool.not_false])), ?_⟩
          refine dq (fun a w hA hS hd => a_1 rfl (hq hd 1)) ?_
          refine dy 2 (fun a w hA hS hd => a_4 rfl g_8 (hA.ev rfl)) ?_
          refine dy 2 (fun a w hA hS hd => a_3 rfl m_9 (hq hd 3) (hS.bk 0 rfl) rfl) ?_
          refine dy 2 (fun a w hA hS hd => a_1 rfl (hA.ev rfl)) ?_
          refine dy 2 (fun a w hA hS hd => b_2 rfl n_0 o_9 (hq hd 4) (i := k) (hq hd 5) (hS.sk 1 rfl) (by decide) (by omega)) ?_
          refine dy 2 (fun a w hA hS hd => d_8 rfl n_9 (hq hd 6) (hS.sk 1 rfl) (by rw [((hS.sk 1 rfl)).1]; omega)) ?_
          refine dy 2 (fun a w hA hS hd => c_5 rfl ty_3 (hq hd 7) (hS.sk 1 rfl) (h_1 (by omega))) ?_
          refine dy 2 (fun a w hA hS hd => a_4 rfl g_8 (hA.ev rfl)) ?_
          refine dy 2 (fun a w hA hS hd => a_3 rfl m_9 (hq hd 9) (hS.bk 0 rfl) rfl) ?_
          refine dy 2 (fun a w hA hS hd => a_1 rfl (hA.ev rfl)) ?_
          refine dy 2 (fun a w hA hS hd => g_6 rfl (hq hd 11) (evc _ _) (by omega) (by omega)) ?_
          refine dy 2 (fun a w hA hS hd => b_2 rfl n_0 o_9 (hq hd 10) (i := ((k : Int) - 1).toNat) ((hq hd 12).trans (h_6 (by omega))) (hS.sk 1 rfl) (by decide) (by omega)) ?_
          refine dy 2 (fun a w hA hS hd => d_8 rfl n_9 (hq hd 13) (hS.sk 1 rfl) (by rw [((hS.sk 1 rfl)).1]; omega)) ?_
          refine dy 2 (fun a w hA hS hd => c_5 rfl ty_3 (hq hd 14) (hS.sk 1 rfl) (h_1 (by omega))) ?_
          refine ⟨fun a w hA hS hd => by have e2 := hx hd 2; have e8 := hx hd 8; have BR := hx hd 15; exact i_5 rfl rfl e2 (dv (t_1 rfl (c_7 e8) (c_7 BR)) hS (by show Value.bool _ = _; simp only [decide_eq_false BP, decide_true, decide_false, Bool.not_true, Bool.not_false])), ?_⟩
          refine dy 2 (fun a w hA hS hd => a_1 rfl (hq hd 16)) ?_
          refine dy 17 (fun a w hA hS hd => a_4 rfl g_8 (hA.ev rfl)) ?_
          refine dy 17 (fun a w hA hS hd => a_3 rfl m_9 (hq hd 18) (hS.bk 0 rfl) rfl) ?_
          refine dy 17 (fun a w hA hS hd => a_1 rfl (hA.ev rfl)) ?_
          refine dy 17 (fun a w hA hS hd => b_2 rfl n_0 o_9 (hq hd 19) (i := k) (hq hd 20) (hS.sk 1 rfl) (by decide) (by omega)) ?_
          refine dy 17 (fun a w hA hS hd => d_8 rfl m_6 (hq hd 21) (hS.sk 1 rfl) (by rw [((hS.sk 1 rfl)).1]; omega)) ?_
          refine dy 17 (fun a w hA hS hd => c_5 rfl ty_3 (hq hd 22) (hS.sk 1 rfl) (i_2 (by omega))) ?_
          refine dy 17 (fun a w hA hS hd => a_4 rfl g_8 (hA.ev rfl)) ?_
          refine dy 17 (fun a w hA hS hd => a_3 rfl m_9 (hq hd 24) (hS.bk 0 rfl) rfl) ?_
          refine dy 17 (fun a w hA hS hd => a_1 rfl (hA.ev rfl)) ?_
          refine dy 17 (fun a w hA hS hd => g_6 rfl (hq hd 26) (evc _ _) (by omega) (by omega)) ?_
          refine dy 17 (fun a w hA hS hd => b_2 rfl n_0 o_9 (hq hd 25) (i := ((k : Int) - 1).toNat) ((hq hd 27).trans (h_6 (by omega))) (hS.sk 1 rfl) (by decide) (by omega)) ?_
          refine dy 17 (fun a w hA hS hd => d_8 rfl m_6 (hq hd 28) (hS.sk 1 rfl) (by rw [((hS.sk 1 rfl)).1]; omega)) ?_
          refine dy 17 (fun a w hA hS hd => c_5 rfl ty_3 (hq hd 29) (hS.sk 1 rfl) (i_2 (by omega))) ?_
          refine ⟨fun a w hA hS hd => by have D2 := hx hd 17; have D4 := hx hd 23; have D5 := hx hd 30; exact i_5 rfl rfl D2 (dv (q_9 rfl (c_7 D4) (c_7 D5)) hS (by show Value.bool _ = _; simp only [decide_eq_true Ds, decide_true, decide_false, Bool.not_true, Bool.not_false])), ?_⟩
          refine dy 2 (fun a w hA hS hd => c_8 rfl (hq hd 17) (hq hd 31)) ?_
          refine dy 2 (fun a w hA hS hd => a_1 rfl (hq hd 32)) ?_
          refine dn 33 ?_
          refine dn 33 ?_
          refine dn 33 ?_
          refine dn 33 ?_
          refine dn 33 ?_
          refine dn 33 ?_
          refine dn 33 ?_
          refine dn 33 ?_
          refine dn 33 ?_
          refine dn 33 ?_
          refine dn 33 ?_
          refine dn 33 ?_
          refine dn 33 ?_
          refine dn 33 ?_
          refine dn 33 ?_
          trivial
         intro E6 Hc CD EO S; clear CC A
         have CE := CD.add (hz S 2); clear CD
         have CF := CE.add (hz S 33); clear CE
         have CG := CF.add (hz S 47); clear CF
         have CH := CG.add (hz S 48); clear CG
         clear S
         refine s3 CH fun E7 Ab => ?_; clear CH E6
         refine s5 Ab (b_4 rfl (Ab.ev rfl) (evc _ _)) fun E8 o => ?_; clear Ab E7
         refine s1 o (b_4 rfl (o.ev rfl) (o.ev rfl)) fun E9 Ac => ?_; clear o E8
         refine n1 ?_
         refine c_0 Ac rfl ?_
         refine b_6 ?_
         have CI := Ac.as [] rfl; clear Ac
         refine a_5 ?_
         refine s1 CI (a_0 rfl (evc _ _)) fun HJ CJ => ?_; clear CI E9
         refine n1 ?_
         refine c_1 ?_
         refine b_9 ?_
         refine a_6 ?_
         refine a_6 ?_
         refine b_9 ?_
         refine a_6 ?_
         refine a_7 CJ (.inl rfl) (a_2 CJ rfl (.tmp rfl)) ?_
         exact ⟨congrArg Value.bool (Eq.symm (by first | exact tab_row (k := k) (by omega) (by unfold rowB; rw [Bool.and_eq_false_iff]; first | exact .inl (by assumption) | exact .inr (by assumption)) | (obtain ⟨i, rfl⟩ := back1 (k := k) (by omega); simp only [pred1] at *; exact t_2 (k := i) (by omega) (by first | exact neq_n (by assumption) | exact q_3 (.inl (by omega)) | exact q_3 (.inr (.inl (by omega))))))), EO.ext⟩
        skip
        have CK := m.as [(6, (Value.int .i64 (k : Int))), (5, (Value.bool (decide (((t.rows.getD 0 (0, 0)).2) < ((t.rows.getD 1 (0, 0)).2))))), (3, (bptr B 0))] rfl; clear m
        refine f_9 mixed CK A 49 [[], [0], [1], [2], [2, 3], [2], [2, 4, 5], [2, 6], [2, 7], [2], [2, 9], [2], [2, 11], [2, 10, 12], [2, 13], [2, 14], [2, 8, 15], [2, 16], [17], [17, 18], [17], [17, 19, 20], [17, 21], [17, 22], [17], [17, 24], [17], [17, 26], [17, 25, 27], [17, 28], [17, 29], [17, 23, 30], [2, 17, 31], [2, 32], [33], [33, 34], [33], [33, 35, 36], [33, 37], [33, 38], [33], [33, 40], [33], [33, 42], [33, 41, 43], [33, 44], [33, 45], [33, 39, 46], [33]] [(Yd.val (Value.int .i64 (k : Int))), (Yd.val (Value.bool true)), (Yd.val (Value.bool true)), (Yd.val (bptr B 2)), (Yd.val vr), (Yd.val (Value.int .i64 (k : Int))), (Yd.val (eptr vr (k * 2))), (Yd.val (eptr vr (k * 2 + 0))), (Yd.val (Value.int .i64 ((t.rows.getD k (0, 0)).1))), (Yd.val (bptr B 2)), (Yd.val vr), (Yd.val (Value.int .i64 (k : Int))), (Yd.val (Value.int .i64 ((k : Int) - 1))), (Yd.val (eptr vr (((k : Int) - 1).toNat * 2))), (Yd.val (eptr vr (((k : Int) - 1).toNat * 2 + 0))), (Yd.val (Value.int .i64 ((t.rows.getD (((k : Int) - 1).toNat) (0, 0)).1))), (Yd.val (Value.bool false)), (Yd.val (Value.bool false)), (Yd.val (bptr B 2)), (Yd.val vr), (Yd.val (Value.int .i64 (k : Int))), (Yd.val (eptr vr (k * 2))), (Yd.val (eptr vr (k * 2 + 1))), (Yd.val (Value.int .i64 ((t.rows.getD k (0, 0)).2))), (Yd.val (bptr B 2)), (Yd.val vr), (Yd.val (Value.int .i64 (k : Int))), (Yd.val (Value.int .i64 ((k : Int) - 1))), (Yd.val (eptr vr (((k : Int) - 1).toNat * 2))), (Yd.val (eptr vr (((k : Int) - 1).toNat * 2 + 1))), (Yd.val (Value.int .i64 ((t.rows.getD (((k : Int) - 1).toNat) (0, 0)).2))), (Yd.val (Value.bool false)), (Yd.val (Value.bool false)), (Yd.val (Value.bool false)), (Yd.val (bptr B 2)), (Yd.val vr), (Yd.val (Value.int .i64 (k : Int))), (Yd.val (eptr vr (k * 2))), (Yd.val (eptr vr (k * 2 + 1))), (Yd.val (Value.int .i64 ((t.rows.getD k (0, 0)).2))), (Yd.val (bptr B 2)), (Yd.val vr), (Yd.val (Value.int .i64 (k : Int))), (Yd.val (Value.int .i64 ((k : Int) - 1))), (Yd.val (eptr vr (((k : Int) - 1).toNat * 2))), (Yd.val (eptr vr (((k : Int) - 1).toNat * 2 + 1))), (Yd.val (Value.int .i64 ((t.rows.getD (((k : Int) - 1).toNat) (0, 0)).2))), (Yd.val (Value.bool (decide (((t.rows.getD (((k : Int) - 1).toNat) (0, 0)).2) < ((t.rows.getD k (0, 0)).2))))), (Yd.val (Value.bool (decide (((t.rows.getD 0 (0, 0)).2) < ((t.rows.getD 1 (0, 0)).2)))))] (by decide +kernel) rfl rfl ?_ ?_
        ·skip
         refine dq (fun a w hA hS hd => a_1 rfl (hA.ev rfl)) ?_
         refine ⟨fun a w hA hS hd => by have e0 := hx hd 0; exact d_7 rfl (dv (j_6 rfl (c_7 e0) (evc _ _)) hS (by show Value.bool _ = _; simp only [decide_eq_true AC, decide_true, decide_false, Bool.not_true, Bool.not_false])), ?_⟩
         refine dq (fun a w hA hS hd => a_1 rfl (hq hd 1)) ?_
         refine dy 2 (fun a w hA hS hd => a_4 rfl g_8 (hA.ev rfl)) ?_
         refine dy 2 (fun a w hA hS hd => a_3 rfl m_9 (hq hd 3) (hS.bk 0 rfl) rfl) ?_
         refine dy 2 (fun a w hA hS hd => a_1 rfl (hA.ev rfl)) ?_
         refine dy 2 (fun a w hA hS hd => b_2 rfl n_0 o_9 (hq hd 4) (i := k) (hq hd 5) (hS.sk 1 rfl) (by decide) (by omega)) ?_
         refine dy 2 (fun a w hA hS hd => d_8 rfl n_9 (hq hd 6) (hS.sk 1 rfl) (by rw [((hS.sk 1 rfl)).1]; omega)) ?_
         refine dy 2 (fun a w hA hS hd => c_5 rfl ty_3 (hq hd 7) (hS.sk 1 rfl) (h_1 (by omega))) ?_
         refine dy 2 (fun a w hA hS hd => a_4 rfl g_8 (hA.ev rfl)) ?_
         refine dy 2 (fun a w hA hS hd => a_3 rfl m_9 (hq hd 9) (hS.bk 0 rfl) rfl) ?_
         refine dy 2 (fun a w hA hS hd => a_1 rfl (hA.ev rfl)) ?_
         refine dy 2 (fun a w hA hS hd => g_6 rfl (hq hd 11) (evc _ _) (by omega) (by omega)) ?_
         refine dy 2 (fun a w hA hS hd => b_2 rfl n_0 o_9 (hq hd 10) (i := ((k : Int) - 1).toNat) ((hq hd 12).trans (h_6 (by omega))) (hS.sk 1 rfl) (by decide) (by omega)) ?_
         refine dy 2 (fun a w hA hS hd => d_8 rfl n_9 (hq hd 13) (hS.sk 1 rfl) (by rw [((hS.sk 1 rfl)).1]; omega)) ?_
         refine dy 2 (fun a w hA hS hd => c_5 rfl ty_3 (hq hd 14) (hS.sk 1 rfl) (h_1 (by omega))) ?_
         refine ⟨fun a w hA hS hd => by have e2 := hx hd 2; have e8 := hx hd 8; have BR := hx hd 15; exact i_5 rfl rfl e2 (dv (t_1 rfl (c_7 e8) (c_7 BR)) hS (by show Value.bool _ = _; simp only [decide_eq_false BP, decide_true, decide_false, Bool.not_true, Bool.not_false])), ?_⟩
         refine dy 2 (fun a w hA hS hd => a_1 rfl (hq hd 16)) ?_
         refine dy 17 (fun a w hA hS hd => a_4 rfl g_8 (hA.ev rfl)) ?_
         refine dy 17 (fun a w hA hS hd => a_3 rfl m_9 (hq hd 18) (hS.bk 0 rfl) rfl) ?_
         refine dy 17 (fun a w hA hS hd => a_1 rfl (hA.ev rfl)) ?_
         refine dy 17 (fun a w hA hS hd => b_2 rfl n_0 o_9 (hq hd 19) (i := k) (hq hd 20) (hS.sk 1 rfl) (by decide) (by omega)) ?_
         refine dy 17 (fun a w hA hS hd => d_8 rfl m_6 (hq hd 21) (hS.sk 1 rfl) (by rw [((hS.sk 1 rfl)).1]; omega)) ?_
         refine dy 17 (fun a w hA hS hd => c_5 rfl ty_3 (hq hd 22) (hS.sk 1 rfl) (i_2 (by omega))) ?_
         refine dy 17 (fun a w hA hS hd => a_4 rfl g_8 (hA.ev rfl)) ?_
         refine dy 17 (fun a w hA hS hd => a_3 rfl m_9 (hq hd 24) (hS.bk 0 rfl) rfl) ?_
         refine dy 17 (fun a w hA hS hd => a_1 rfl (hA.ev rfl)) ?_
         refine dy 17 (fun a w hA hS hd => g_6 rfl (hq hd 26) (evc _ _) (by omega) (by omega)) ?_
         refine dy 17 (fun a w hA hS hd => b_2 rfl n_0 o_9 (hq hd 25) (i := ((k : Int) - 1).toNat) ((hq hd 27).trans (h_6 (by omega))) (hS.sk 1 rfl) (by decide) (by omega)) ?_
         refine dy 17 (fun a w hA hS hd => d_8 rfl m_6 (hq hd 28) (hS.sk 1 rfl) (by rw [((hS.sk 1 rfl)).1]; omega)) ?_
         refine dy 17 (fun a w hA hS hd => c_5 rfl ty_3 (hq hd 29) (hS.sk 1 rfl) (i_2 (by omega))) ?_
         refine ⟨fun a w hA hS hd => by have D2 := hx hd 17; have D4 := hx hd 23; have D5 := hx hd 30; exact i_5 rfl rfl D2 (dv (q_9 rfl (c_7 D4) (c_7 D5)) hS (by show Value.bool _ = _; simp only [decide_eq_false Ds, decide_true, decide_false, Bool.not_true, Bool.not_false])), ?_⟩
         refine dy 2 (fun a w hA hS hd => c_8 rfl (hq hd 17) (hq hd 31)) ?_
         refine dy 2 (fun a w hA hS hd => a_1 rfl (hq hd 32)) ?_
         refine dy 33 (fun a w hA hS hd => a_4 rfl g_8 (hA.ev rfl)) ?_
         refine dy 33 (fun a w hA hS hd => a_3 rfl m_9 (hq hd 34) (hS.bk 0 rfl) rfl) ?_
         refine dy 33 (fun a w hA hS hd => a_1 rfl (hA.ev rfl)) ?_
         refine dy 33 (fun a w hA hS hd => b_2 rfl n_0 o_9 (hq hd 35) (i := k) (hq hd 36) (hS.sk 1 rfl) (by decide) (by omega)) ?_
         refine dy 33 (fun a w hA hS hd => d_8 rfl m_6 (hq hd 37) (hS.sk 1 rfl) (by rw [((hS.sk 1 rfl)).1]; omega)) ?_
         refine dy 33 (fun a w hA hS hd => c_5 rfl ty_3 (hq hd 38) (hS.sk 1 rfl) (i_2 (by omega))) ?_
         refine dy 33 (fun a w hA hS hd => a_4 rfl g_8 (hA.ev rfl)) ?_
         refine dy 33 (fun a w hA hS hd => a_3 rfl m_9 (hq hd 40) (hS.bk 0 rfl) rfl) ?_
         refine dy 33 (fun a w hA hS hd => a_1 rfl (hA.ev rfl)) ?_
         refine dy 33 (fun a w hA hS hd => g_6 rfl (hq hd 42) (evc _ _) (by omega) (by omega)) ?_
         refine dy 33 (fun a w hA hS hd => b_2 rfl n_0 o_9 (hq hd 41) (i := ((k : Int) - 1).toNat) ((hq hd 43).trans (h_6 (by omega))) (hS.sk 1 rfl) (by decide) (by omega)) ?_
         refine dy 33 (fun a w hA hS hd => d_8 rfl m_6 (hq hd 44) (hS.sk 1 rfl) (by rw [((hS.sk 1 rfl)).1]; omega)) ?_
         refine dy 33 (fun a w hA hS hd => c_5 rfl ty_3 (hq hd 45) (hS.sk 1 rfl) (i_2 (by omega))) ?_
         refine dy 33 (fun a w hA hS hd => j_6 rfl (hq hd 39) (hq hd 46)) ?_
         refine dy 33 (fun a w hA hS hd => a_1 rfl (hA.ev rfl)) ?_
         trivial
        intro FA Hd CL Do T; clear CK A
        have CM := CL.add (hz T 2); clear CL
        have CN := CM.add (hz T 33); clear CM
        have CO := CN.add (hz T 47); clear CN
        have p := CO.add (hz T 48); clear CO
        clear T
        refine s5 p (op_neqB un_4 rfl (p.ev rfl) (p.ev rfl)) fun FB q => ?_; clear p FA
        refine s5 q (c_8 rfl (q.ev rfl) (q.ev rfl)) fun FC r => ?_; clear q FB
        refine s1 r (b_4 rfl (r.ev rfl) (r.ev rfl)) fun Dy I => ?_; clear r FC
        refine n1 ?_
        rcases Bool.eq_false_or_eq_true ((decide (((t.rows.getD (((k : Int) - 1).toNat) (0, 0)).2) < ((t.rows.getD k (0, 0)).2))) == (decide (((t.rows.getD 0 (0, 0)).2) < ((t.rows.getD 1 (0, 0)).2)))) with BQ | BQ
        ·skip
         rw [BQ] at I
         refine b_5 I rfl ?_
         refine c_6 ?_
         refine g_0 ?_
         refine a_9 ?_
         have Ad := I.as [(6, (Value.int .i64 (k : Int))), (5, (Value.bool (decide (((t.rows.getD 0 (0, 0)).2) < ((t.rows.getD 1 (0, 0)).2))))), (3, (bptr B 0))] rfl; clear I
         refine a_5 ?_
         refine s1 Ad (a_1 rfl (Ad.ev rfl)) fun FD Ae => ?_; clear Ad Dy
         refine s1 Ae (f_1 rfl (Ae.ev rfl) (evc _ _) (by omega) (by omega)) fun FE Af => ?_; clear Ae FD
         refine s1 Af (a_0 rfl (Af.ev rfl)) fun HK EJ => ?_; clear Af FE
         refine e_8 ?_
         exact a_9 ⟨k + 1, ⟨EJ.as _ rfl, Do, by omega, (fun i hi => by rcases Nat.lt_succ_iff_lt_or_eq.1 hi with h | h; exact hrw i h; subst h; (unfold rowB; rw [Bool.and_eq_true]; exact ⟨by assumption, by assumption⟩)), (fun i hi => by rcases Nat.lt_succ_iff_lt_or_eq.1 hi with h | h; exact hst i h; subst h; first | (exfalso; omega) | (simp only [pred1] at *; exact neq_y (by omega) (by omega) (by assumption)))⟩, by omega⟩
        skip
        rw [BQ] at I
        refine c_0 I rfl ?_
        refine b_6 ?_
        have CP := I.as [] rfl; clear I
        refine a_5 ?_
        refine s1 CP (a_0 rfl (evc _ _)) fun HL CQ => ?_; clear CP Dy
        refine n1 ?_
        refine c_1 ?_
        refine b_9 ?_
        refine a_6 ?_
        refine a_6 ?_
        refine b_9 ?_
        refine a_6 ?_
        refine a_7 CQ (.inl rfl) (a_2 CQ rfl (.tmp rfl)) ?_
        exact ⟨congrArg Value.bool (Eq.symm (by first | exact tab_row (k := k) (by omega) (by unfold rowB; rw [Bool.and_eq_false_iff]; first | exact .inl (by assumption) | exact .inr (by assumption)) | (obtain ⟨i, rfl⟩ := back1 (k := k) (by omega); simp only [pred1] at *; exact t_2 (k := i) (by omega) (by first | exact neq_n (by assumption) | exact q_3 (.inl (by omega)) | exact q_3 (.inr (.inl (by omega))))))), Do.ext⟩
       skip
       have CR := f.as [(6, (Value.int .i64 (k : Int))), (5, (Value.bool (decide (((t.rows.getD 0 (0, 0)).2) < ((t.rows.getD 1 (0, 0)).2))))), (3, (bptr B 0))] rfl; clear f
       refine f_9 mixed CR A 49 [[], [0], [1], [2], [2, 3], [2], [2, 4, 5], [2, 6], [2, 7], [2], [2, 9], [2], [2, 11], [2, 10, 12], [2, 13], [2, 14], [2, 8, 15], [2, 16], [17], [17, 18], [17], [17, 19, 20], [17, 21], [17, 22], [17], [17, 24], [17], [17, 26], [17, 25, 27], [17, 28], [17, 29], [17, 23, 30], [2, 17, 31], [2, 32], [33], [33, 34], [33], [33, 35, 36], [33, 37], [33, 38], [33], [33, 40], [33], [33, 42], [33, 41, 43], [33, 44], [33, 45], [33, 39, 46], [33]] [(Yd.val (Value.int .i64 (k : Int))), (Yd.val (Value.bool false)), (Yd.val (Value.bool false)), (Yd.val undef), (Yd.val undef), (Yd.val undef), (Yd.val undef), (Yd.val undef), (Yd.val undef), (Yd.val undef), (Yd.val undef), (Yd.val undef), (Yd.val undef), (Yd.val undef), (Yd.val undef), (Yd.val undef), (Yd.val undef), (Yd.val undef), (Yd.val undef), (Yd.val undef), (Yd.val undef), (Yd.val undef), (Yd.val undef), (Yd.val undef), (Yd.val undef), (Yd.val undef), (Yd.val undef), (Yd.val undef), (Yd.val undef), (Yd.val undef), (Yd.val undef), (Yd.val undef), (Yd.val undef), (Yd.val undef), (Yd.val undef), (Yd.val undef), (Yd.val undef), (Yd.val undef), (Yd.val undef), (Yd.val undef), (Yd.val undef), (Yd.val undef), (Yd.val undef), (Yd.val undef), (Yd.val undef), (Yd.val undef), (Yd.val undef), (Yd.val undef), (Yd.val undef)] (by decide +kernel) rfl rfl ?_ ?_
       ·skip
        refine dq (fun a w hA hS hd => a_1 rfl (hA.ev rfl)) ?_
        refine ⟨fun a w hA hS hd => by have e0 := hx hd 0; exact d_7 rfl (dv (j_6 rfl (c_7 e0) (evc _ _)) hS (by show Value.bool _ = _; simp only [decide_eq_false AC, decide_true, decide_false, Bool.not_true, Bool.not_false])), ?_⟩
        refine dq (fun a w hA hS hd => a_1 rfl (hq hd 1)) ?_
        refine dn 2 ?_
        refine dn 2 ?_
        refine dn 2 ?_
        refine dn 2 ?_
        refine dn 2 ?_
        refine dn 2 ?_
        refine dn 2 ?_
        refine dn 2 ?_
        refine dn 2 ?_
        refine dn 2 ?_
        refine dn 2 ?_
        refine dn 2 ?_
        refine dn 2 ?_
        refine dn 2 ?_
        refine dn 2 ?_
        refine du 17 ?_
        refine du 17 ?_
        refine du 17 ?_
        refine du 17 ?_
        refine du 17 ?_
        refine du 17 ?_
        refine du 17 ?_
        refine du 17 ?_
        refine du 17 ?_
        refine du 17 ?_
        refine du 17 ?_
        refine du 17 ?_
        refine du 17 ?_
        refine du 17 ?_
        refine dn 2 ?_
        refine dn 2 ?_
        refine du 33 ?_
        refine du 33 ?_
        refine du 33 ?_
        refine du 33 ?_
        refine du 33 ?_
        refine du 33 ?_
        refine du 33 ?_
        refine du 33 ?_
        refine du 33 ?_
        refine du 33 ?_
        refine du 33 ?_
        refine du 33 ?_
        refine du 33 ?_
        refine du 33 ?_
        refine du 33 ?_
        trivial
       intro FF He CS EP U; clear CR A
       have CT := CS.add (hz U 2); clear CS
       have CU := CT.add (hz U 33); clear CT
       have CV := CU.add (hz U 47); clear CU
       have CW := CV.add (hz U 48); clear CV
       clear U
       refine s4 CW fun FG CX => ?_; clear CW FF
       refine s3 CX fun FH Ag => ?_; clear CX FG
       refine s1 Ag (c_8 rfl (Ag.ev rfl) (evc _ _)) fun FI Ah => ?_; clear Ag FH
       refine n1 ?_
       refine b_5 Ah rfl ?_
       refine c_6 ?_
       refine g_0 ?_
       refine a_9 ?_
       have Ai := Ah.as [(6, (Value.int .i64 (k : Int))), (5, (Value.bool (decide (((t.rows.getD 0 (0, 0)).2) < ((t.rows.getD 1 (0, 0)).2))))), (3, (bptr B 0))] rfl; clear Ah
       refine a_5 ?_
       refine s1 Ai (a_1 rfl (Ai.ev rfl)) fun FJ Aj => ?_; clear Ai FI
       refine s1 Aj (f_1 rfl (Aj.ev rfl) (evc _ _) (by omega) (by omega)) fun FK Ak => ?_; clear Aj FJ
       refine s1 Ak (a_0 rfl (Ak.ev rfl)) fun HM EK => ?_; clear Ak FK
       refine e_8 ?_
       exact a_9 ⟨k + 1, ⟨EK.as _ rfl, EP, by omega, (fun i hi => by rcases Nat.lt_succ_iff_lt_or_eq.1 hi with h | h; exact hrw i h; subst h; (unfold rowB; rw [Bool.and_eq_true]; exact ⟨by assumption, by assumption⟩)), (fun i hi => by rcases Nat.lt_succ_iff_lt_or_eq.1 hi with h | h; exact hst i h; subst h; first | (exfalso; omega) | (simp only [pred1] at *; exact neq_y (by omega) (by omega) (by assumption)))⟩, by omega⟩
      skip
      rw [BO] at H
      refine c_0 H rfl ?_
      refine b_6 ?_
      have CY := H.as [] rfl; clear H
      refine a_5 ?_
      refine s1 CY (a_0 rfl (evc _ _)) fun HN CZ => ?_; clear CY E1
      refine n1 ?_
      refine c_1 ?_
      refine a_6 ?_
      refine b_9 ?_
      refine a_6 ?_
      refine a_6 ?_
      refine b_9 ?_
      refine a_6 ?_
      refine a_7 CZ (.inl rfl) (a_2 CZ rfl (.tmp rfl)) ?_
      exact ⟨congrArg Value.bool (Eq.symm (by first | exact tab_row (k := k) (by omega) (by unfold rowB; rw [Bool.and_eq_false_iff]; first | exact .inl (by assumption) | exact .inr (by assumption)) | (obtain ⟨i, rfl⟩ := back1 (k := k) (by omega); simp only [pred1] at *; exact t_2 (k := i) (by omega) (by first | exact neq_n (by assumption) | exact q_3 (.inl (by omega)) | exact q_3 (.inr (.inl (by omega))))))), A.ext⟩
     skip
     rw [BN] at M
     refine s3 M fun FL Ca => ?_; clear M Dx
     refine s3 Ca fun FM Cb => ?_; clear Ca FL
     refine s3 Cb fun FN Cc => ?_; clear Cb FM
     refine s3 Cc fun FO Cd => ?_; clear Cc FN
     refine s3 Cd fun FP Ce => ?_; clear Cd FO
     refine s3 Ce fun FQ Cf => ?_; clear Ce FP
     refine s3 Cf fun FSa Cg => ?_; clear Cf FQ
     refine s3 Cg fun FT Al => ?_; clear Cg FSa
     refine s1 Al (b_4 rfl (Al.ev rfl) (evc _ _)) fun FU Am => ?_; clear Al FT
     refine n1 ?_
     refine c_0 Am rfl ?_
     refine b_6 ?_
     have Ch := Am.as [] rfl; clear Am
     refine a_5 ?_
     refine s1 Ch (a_0 rfl (evc _ _)) fun HO Ci => ?_; clear Ch FU
     refine n1 ?_
     refine c_1 ?_
     refine a_6 ?_
     refine b_9 ?_
     refine a_6 ?_
     refine a_6 ?_
     refine b_9 ?_
     refine a_6 ?_
     refine a_7 Ci (.inl rfl) (a_2 Ci rfl (.tmp rfl)) ?_
     exact ⟨congrArg Value.bool (Eq.symm (by first | exact tab_row (k := k) (by omega) (by unfold rowB; rw [Bool.and_eq_false_iff]; first | exact .inl (by assumption) | exact .inr (by assumption)) | (obtain ⟨i, rfl⟩ := back1 (k := k) (by omega); simp only [pred1] at *; exact t_2 (k := i) (by omega) (by first | exact neq_n (by assumption) | exact q_3 (.inl (by omega)) | exact q_3 (.inr (.inl (by omega))))))), A.ext⟩
    skip
    rw [decide_eq_false Dr] at D
    refine b_5 D rfl ?_
    refine g_3 ?_
    refine b_3 ?_
    refine b_3 ?_
    refine f_2 ?_
    refine a_9 ?_
    refine b_6 ?_
    refine b_6 ?_
    have Cj := D.as [(3, (bptr B 0))] rfl; clear D
    refine a_5 ?_
    refine s1 Cj (a_0 rfl (evc _ _)) fun FV Ck => ?_; clear Cj Dw
    refine n1 ?_
    refine c_3 ?_
    have Cl := Ck.as [(7, (Value.int .i64 0)), (3, (bptr B 0))] rfl; clear Ck
    refine g_4 (G := Nat) (fun (C : Nat) a_ w_ => Fr 165 [] [(7, (Value.int .i64 (C : Int))), (3, (bptr B 0))] a_ ∧ Sep NoB w w_ [(blk B 46 [(Value.int .i64 t.frm), (Value.int .i64 t.dst), vr, vb, (Value.int .i64 t.err)]), (sl vr 2 t.rows.length (pairs t.rows)), (sl vb 1 t.brk.length (ints t.brk))] ∧ (C ≤ t.brk.length) ∧ (∀ i, i < C → 0 ≤ t.brk.getD i 0) ∧ (∀ i, i < C → brkB t i = true)) (fun C => t.brk.length - C) 0 ⟨Cl.as _ rfl, A, by omega, (fun _ h => absurd h (Nat.not_lt_zero _)), (fun _ h => absurd h (Nat.not_lt_zero _))⟩ ?_
    clear Cl A FV
    rintro C FW Hf ⟨Ao, E, hkk1, hbk0, hbk⟩
    refine b_6 ?_
    refine m2 ?_
    refine s1 Ao (a_1 rfl (Ao.ev rfl)) fun FX Ap => ?_; clear Ao FW
    refine s1 Ap (a_4 rfl t_6 (Ap.ev rfl)) fun FY Aq => ?_; clear Ap FX
    refine s1 Aq (a_3 rfl v_2 (Aq.ev rfl) (E.bk 0 rfl) rfl) fun FZ Ar => ?_; clear Aq FY
    refine s1 Ar (d_2 rfl k_2 (Ar.ev rfl) (E.sk 2 rfl)) fun Fa s => ?_; clear Ar FZ
    refine s1 s (f_5 rfl (s.ev rfl) (s.ev rfl)) fun Fb J => ?_; clear s Fa
    refine n1 ?_
    by_cases Dt : (C : Int) < (t.brk.length : Int)
    ·skip
     rw [decide_eq_true Dt] at J
     refine c_0 J rfl ?_
     refine c_6 ?_
     refine a_9 ?_
     refine b_6 ?_
     refine c_3 ?_
     refine b_6 ?_
     have u := J.as [(7, (Value.int .i64 (C : Int))), (3, (bptr B 0))] rfl; clear J
     rcases Bool.eq_false_or_eq_true ((inB (t.brk.getD C 0) 0 ((t.rows.length : Int) - 2))) with AD | AD
     ·skip
      have x := u.as [(7, (Value.int .i64 (C : Int))), (3, (bptr B 0))] rfl; clear u
      by_cases Du : 0 < (C : Int)
      ·skip
       have Cm := x.as [(7, (Value.int .i64 (C : Int))), (3, (bptr B 0))] rfl; clear x
       refine f_9 mixed Cm E 26 [[], [0], [], [1, 2], [3], [], [5], [6], [7], [4, 8], [9], [10], [11], [11, 12], [11, 13], [14], [14, 15], [14], [14, 16, 17], [14, 18], [14], [14, 20], [14], [14, 22], [14, 21, 23], [14, 24]] [(Yd.val (bptr B 3)), (Yd.val vb), (Yd.val (Value.int .i64 (C : Int))), (Yd.val (eptr vb (C * 1))), (Yd.val (Value.int .i64 (t.brk.getD C 0))), (Yd.val (bptr B 2)), (Yd.val vr), (Yd.val (Value.int .i64 (t.rows.length : Int))), (Yd.val (Value.int .i64 ((t.rows.length : Int) - 2))), (Yd.val (Value.bool true)), (Yd.val (Value.bool (!true))), (Yd.val (Value.bool (!true))), (Yd.val (Value.int .i64 (C : Int))), (Yd.val (Value.bool true)), (Yd.val (Value.bool true)), (Yd.val (bptr B 3)), (Yd.val vb), (Yd.val (Value.int .i64 (C : Int))), (Yd.val (eptr vb (C * 1))), (Yd.val (Value.int .i64 (t.brk.getD C 0))), (Yd.val (bptr B 3)), (Yd.val vb), (Yd.val (Value.int .i64 (C : Int))), (Yd.val (Value.int .i64 ((C : Int) - 1))), (Yd.val (eptr vb (((C : Int) - 1).toNat * 1))), (Yd.val (Value.int .i64 (t.brk.getD (((C : Int) - 1).toNat) 0)))] (by decide +kernel) rfl rfl ?_ ?_
       ·skip
        refine dq (fun a w hA hS hd => a_4 rfl t_6 (hA.ev rfl)) ?_
        refine dq (fun a w hA hS hd => a_3 rfl v_2 (hq hd 0) (hS.bk 0 rfl) rfl) ?_
        refine dq (fun a w hA hS hd => a_1 rfl (hA.ev rfl)) ?_
        refine dq (fun a w hA hS hd => b_2 rfl k_2 ty_3 (hq hd 1) (i := C) (hq hd 2) (hS.sk 2 rfl) (by decide) (by omega)) ?_
        refine dq (fun a w hA hS hd => c_5 rfl ty_3 (hq hd 3) (hS.sk 2 rfl) (ints_at (by omega))) ?_
        refine dq (fun a w hA hS hd => a_4 rfl g_8 (hA.ev rfl)) ?_
        refine dq (fun a w hA hS hd => a_3 rfl m_9 (hq hd 5) (hS.bk 0 rfl) rfl) ?_
        refine dq (fun a w hA hS hd => d_2 rfl n_0 (hq hd 6) (hS.sk 1 rfl)) ?_
        refine dq (fun a w hA hS hd => g_6 rfl (hq hd 7) (evc _ _) (by omega) (by omega)) ?_
        refine ⟨fun a w hA hS hd => by have e4 := hx hd 4; have e8 := hx hd 8; exact d_7 rfl (dv (b_1 rfl z_0 (ev3 (c_7 e4) (evc _ _) (c_7 e8)) (y_7 _ _ _ _)) hS (by show Value.bool _ = _; simp only [AD, decide_true, decide_false, Bool.not_true, Bool.not_false])), ?_⟩
        refine dq (fun a w hA hS hd => e_9 rfl (hq hd 9)) ?_
        refine dq (fun a w hA hS hd => a_1 rfl (hq hd 10)) ?_
        refine dy 11 (fun a w hA hS hd => a_1 rfl (hA.ev rfl)) ?_
        refine ⟨fun a w hA hS hd => by have D0 := hx hd 11; have D1 := hx hd 12; exact i_5 rfl rfl D0 (dv (j_6 rfl (c_7 D1) (evc _ _)) hS (by show Value.bool _ = _; simp only [decide_eq_true Du, decide_true, decide_false, Bool.not_true, Bool.not_false])), ?_⟩
        refine dy 11 (fun a w hA hS hd => a_1 rfl (hq hd 13)) ?_
        refine dy 14 (fun a w hA hS hd => a_4 rfl t_6 (hA.ev rfl)) ?_
        refine dy 14 (fun a w hA hS hd => a_3 rfl v_2 (hq hd 15) (hS.bk 0 rfl) rfl) ?_
        refine dy 14 (fun a w hA hS hd => a_1 rfl (hA.ev rfl)) ?_
        refine dy 14 (fun a w hA hS hd => b_2 rfl k_2 ty_3 (hq hd 16) (i := C) (hq hd 17) (hS.sk 2 rfl) (by decide) (by omega)) ?_
        refine dy 14 (fun a w hA hS hd => c_5 rfl ty_3 (hq hd 18) (hS.sk 2 rfl) (ints_at (by omega))) ?_
        refine dy 14 (fun a w hA hS hd => a_4 rfl t_6 (hA.ev rfl)) ?_
        refine dy 14 (fun a w hA hS hd => a_3 rfl v_2 (hq hd 20) (hS.bk 0 rfl) rfl) ?_
        refine dy 14 (fun a w hA hS hd => a_1 rfl (hA.ev rfl)) ?_
        refine dy 14 (fun a w hA hS hd => g_6 rfl (hq hd 22) (evc _ _) (by omega) (by omega)) ?_
        refine dy 14 (fun a w hA hS hd => b_2 rfl k_2 ty_3 (hq hd 21) (i := ((C : Int) - 1).toNat) ((hq hd 23).trans (h_6 (by omega))) (hS.sk 2 rfl) (by decide) (by omega)) ?_
        refine dy 14 (fun a w hA hS hd => c_5 rfl ty_3 (hq hd 24) (hS.sk 2 rfl) (ints_at (by omega))) ?_
        trivial
       intro Fc Hg Cn Dp V; clear Cm E
       have Co := Cn.add (hz V 11); clear Cn
       have Cp := Co.add (hz V 14); clear Co
       have Cq := Cp.add (hz V 19); clear Cp
       have y := Cq.add (hz V 25); clear Cq
       clear V
       refine s5 y (t_1 rfl (y.ev rfl) (y.ev rfl)) fun Fd z => ?_; clear y Fc
       refine s5 z (b_4 rfl (z.ev rfl) (z.ev rfl)) fun Fe AA => ?_; clear z Fd
       refine s1 AA (c_8 rfl (AA.ev rfl) (AA.ev rfl)) fun Dz K => ?_; clear AA Fe
       refine n1 ?_
       by_cases Dv : (t.brk.getD C 0) ≤ (t.brk.getD (((C : Int) - 1).toNat) 0)
       ·skip
        rw [decide_eq_true Dv] at K
        refine c_0 K rfl ?_
        refine b_6 ?_
        have Cr := K.as [] rfl; clear K
        refine a_5 ?_
        refine s1 Cr (a_0 rfl (evc _ _)) fun HP Cs => ?_; clear Cr Dz
        refine n1 ?_
        refine c_1 ?_
        refine b_9 ?_
        refine a_6 ?_
        refine a_6 ?_
        refine b_9 ?_
        refine a_6 ?_
        refine a_7 Cs (.inl rfl) (a_2 Cs rfl (.tmp rfl)) ?_
        exact ⟨congrArg Value.bool (Eq.symm (by first | exact tab_brk (k := C) (by omega) (brk_n (fun j hj => hbk0 j hj) (by assumption)) | (obtain ⟨j, rfl⟩ := back1 (k := C) (by omega); simp only [pred1] at *; exact tab_brk (k := j + 1) (by omega) (brk_n1 (by omega))))), Dp.ext⟩
       skip
       rw [decide_eq_false Dv] at K
       refine b_5 K rfl ?_
       refine c_6 ?_
       refine g_0 ?_
       refine a_9 ?_
       have As := K.as [(7, (Value.int .i64 (C : Int))), (3, (bptr B 0))] rfl; clear K
       refine a_5 ?_
       refine s1 As (a_1 rfl (As.ev rfl)) fun Ff At => ?_; clear As Dz
       refine s1 At (f_1 rfl (At.ev rfl) (evc _ _) (by omega) (by omega)) fun Fg Au => ?_; clear At Ff
       refine s1 Au (a_0 rfl (Au.ev rfl)) fun HQ EL => ?_; clear Au Fg
       refine e_8 ?_
       exact a_9 ⟨C + 1, ⟨EL.as _ rfl, Dp, by omega, (fun i hi => by rcases Nat.lt_succ_iff_lt_or_eq.1 hi with h | h; exact hbk0 i h; subst h; (have hz_ := i_4.1 (by assumption : inB (t.brk.getD i 0) 0 ((t.rows.length : Int) - 2) = true); omega)), (fun i hi => by rcases Nat.lt_succ_iff_lt_or_eq.1 hi with h | h; exact hbk i h; subst h; (cases i with | zero => exact brk_y0 (by assumption) | succ j => have e5_ : ((((j + 1 : Nat) : Int)) - 1).toNat = j := (by omega); have e6_ : t.brk.getD (((j + 1 : Nat) : Int) - 1).toNat 0 = t.brk.getD j 0 := (by rw [e5_]); exact brk_y1 (by assumption) (by omega)))⟩, by omega⟩
      skip
      have Ct := x.as [(7, (Value.int .i64 (C : Int))), (3, (bptr B 0))] rfl; clear x
      refine f_9 mixed Ct E 26 [[], [0], [], [1, 2], [3], [], [5], [6], [7], [4, 8], [9], [10], [11], [11, 12], [11, 13], [14], [14, 15], [14], [14, 16, 17], [14, 18], [14], [14, 20], [14], [14, 22], [14, 21, 23], [14, 24]] [(Yd.val (bptr B 3)), (Yd.val vb), (Yd.val (Value.int .i64 (C : Int))), (Yd.val (eptr vb (C * 1))), (Yd.val (Value.int .i64 (t.brk.getD C 0))), (Yd.val (bptr B 2)), (Yd.val vr), (Yd.val (Value.int .i64 (t.rows.length : Int))), (Yd.val (Value.int .i64 ((t.rows.length : Int) - 2))), (Yd.val (Value.bool true)), (Yd.val (Value.bool (!true))), (Yd.val (Value.bool (!true))), (Yd.val (Value.int .i64 (C : Int))), (Yd.val (Value.bool false)), (Yd.val (Value.bool false)), (Yd.val undef), (Yd.val undef), (Yd.val undef), (Yd.val undef), (Yd.val undef), (Yd.val undef), (Yd.val undef), (Yd.val undef), (Yd.val undef), (Yd.val undef), (Yd.val undef)] (by decide +kernel) rfl rfl ?_ ?_
      ·skip
       refine dq (fun a w hA hS hd => a_4 rfl t_6 (hA.ev rfl)) ?_
       refine dq (fun a w hA hS hd => a_3 rfl v_2 (hq hd 0) (hS.bk 0 rfl) rfl) ?_
       refine dq (fun a w hA hS hd => a_1 rfl (hA.ev rfl)) ?_
       refine dq (fun a w hA hS hd => b_2 rfl k_2 ty_3 (hq hd 1) (i := C) (hq hd 2) (hS.sk 2 rfl) (by decide) (by omega)) ?_
       refine dq (fun a w hA hS hd => c_5 rfl ty_3 (hq hd 3) (hS.sk 2 rfl) (ints_at (by omega))) ?_
       refine dq (fun a w hA hS hd => a_4 rfl g_8 (hA.ev rfl)) ?_
       refine dq (fun a w hA hS hd => a_3 rfl m_9 (hq hd 5) (hS.bk 0 rfl) rfl) ?_
       refine dq (fun a w hA hS hd => d_2 rfl n_0 (hq hd 6) (hS.sk 1 rfl)) ?_
       refine dq (fun a w hA hS hd => g_6 rfl (hq hd 7) (evc _ _) (by omega) (by omega)) ?_
       refine ⟨fun a w hA hS hd => by have e4 := hx hd 4; have e8 := hx hd 8; exact d_7 rfl (dv (b_1 rfl z_0 (ev3 (c_7 e4) (evc _ _) (c_7 e8)) (y_7 _ _ _ _)) hS (by show Value.bool _ = _; simp only [AD, decide_true, decide_false, Bool.not_true, Bool.not_false])), ?_⟩
       refine dq (fun a w hA hS hd => e_9 rfl (hq hd 9)) ?_
       refine dq (fun a w hA hS hd => a_1 rfl (hq hd 10)) ?_
       refine dy 11 (fun a w hA hS hd => a_1 rfl (hA.ev rfl)) ?_
       refine ⟨fun a w hA hS hd => by have D0 := hx hd 11; have D1 := hx hd 12; exact i_5 rfl rfl D0 (dv (j_6 rfl (c_7 D1) (evc _ _)) hS (by show Value.bool _ = _; simp only [decide_eq_false Du, decide_true, decide_false, Bool.not_true, Bool.not_false])), ?_⟩
       refine dy 11 (fun a w hA hS hd => a_1 rfl (hq hd 13)) ?_
       refine dn 14 ?_
       refine dn 14 ?_
       refine dn 14 ?_
       refine dn 14 ?_
       refine dn 14 ?_
       refine dn 14 ?_
       refine dn 14 ?_
       refine dn 14 ?_
       refine dn 14 ?_
       refine dn 14 ?_
       refine dn 14 ?_
       trivial
      intro Fh Hh Cu EQ W; clear Ct E
      have Cv := Cu.add (hz W 11); clear Cu
      have Cw := Cv.add (hz W 14); clear Cv
      have Cx := Cw.add (hz W 19); clear Cw
      have Cy := Cx.add (hz W 25); clear Cx
      clear W
      refine s3 Cy fun Fi Aw => ?_; clear Cy Fh
      refine s5 Aw (c_8 rfl (Aw.ev rfl) (evc _ _)) fun Fj AB => ?_; clear Aw Fi
      refine s1 AB (c_8 rfl (AB.ev rfl) (AB.ev rfl)) fun Fk Ax => ?_; clear AB Fj
      refine n1 ?_
      refine b_5 Ax rfl ?_
      refine c_6 ?_
      refine g_0 ?_
      refine a_9 ?_
      have Ay := Ax.as [(7, (Value.int .i64 (C : Int))), (3, (bptr B 0))] rfl; clear Ax
      refine a_5 ?_
      refine s1 Ay (a_1 rfl (Ay.ev rfl)) fun Fl Az => ?_; clear Ay Fk
      refine s1 Az (f_1 rfl (Az.ev rfl) (evc _ _) (by omega) (by omega)) fun Fm A0 => ?_; clear Az Fl
      refine s1 A0 (a_0 rfl (A0.ev rfl)) fun HR EM => ?_; clear A0 Fm
      refine e_8 ?_
      exact a_9 ⟨C + 1, ⟨EM.as _ rfl, EQ, by omega, (fun i hi => by rcases Nat.lt_succ_iff_lt_or_eq.1 hi with h | h; exact hbk0 i h; subst h; (have hz_ := i_4.1 (by assumption : inB (t.brk.getD i 0) 0 ((t.rows.length : Int) - 2) = true); omega)), (fun i hi => by rcases Nat.lt_succ_iff_lt_or_eq.1 hi with h | h; exact hbk i h; subst h; (cases i with | zero => exact brk_y0 (by assumption) | succ j => have e5_ : ((((j + 1 : Nat) : Int)) - 1).toNat = j := (by omega); have e6_ : t.brk.getD (((j + 1 : Nat) : Int) - 1).toNat 0 = t.brk.getD j 0 := (by rw [e5_]); exact brk_y1 (by assumption) (by omega)))⟩, by omega⟩
     skip
     have Cz := u.as [(7, (Value.int .i64 (C : Int))), (3, (bptr B 0))] rfl; clear u
     refine f_9 mixed Cz E 26 [[], [0], [], [1, 2], [3], [], [5], [6], [7], [4, 8], [9], [10], [11], [11, 12], [11, 13], [14], [14, 15], [14], [14, 16, 17], [14, 18], [14], [14, 20], [14], [14, 22], [14, 21, 23], [14, 24]] [(Yd.val (bptr B 3)), (Yd.val vb), (Yd.val (Value.int .i64 (C : Int))), (Yd.val (eptr vb (C * 1))), (Yd.val (Value.int .i64 (t.brk.getD C 0))), (Yd.val (bptr B 2)), (Yd.val vr), (Yd.val (Value.int .i64 (t.rows.length : Int))), (Yd.val (Value.int .i64 ((t.rows.length : Int) - 2))), (Yd.val (Value.bool false)), (Yd.val (Value.bool (!false))), (Yd.val (Value.bool (!false))), (Yd.val undef), (Yd.val undef), (Yd.val undef), (Yd.val undef), (Yd.val undef), (Yd.val undef), (Yd.val undef), (Yd.val undef), (Yd.val undef), (Yd.val undef), (Yd.val undef), (Yd.val undef), (Yd.val undef), (Yd.val undef)] (by decide +kernel) rfl rfl ?_ ?_
     ·skip
      refine dq (fun a w hA hS hd => a_4 rfl t_6 (hA.ev rfl)) ?_
      refine dq (fun a w hA hS hd => a_3 rfl v_2 (hq hd 0) (hS.bk 0 rfl) rfl) ?_
      refine dq (fun a w hA hS hd => a_1 rfl (hA.ev rfl)) ?_
      refine dq (fun a w hA hS hd => b_2 rfl k_2 ty_3 (hq hd 1) (i := C) (hq hd 2) (hS.sk 2 rfl) (by decide) (by omega)) ?_
      refine dq (fun a w hA hS hd => c_5 rfl ty_3 (hq hd 3) (hS.sk 2 rfl) (ints_at (by omega))) ?_
      refine dq (fun a w hA hS hd => a_4 rfl g_8 (hA.ev rfl)) ?_
      refine dq (fun a w hA hS hd => a_3 rfl m_9 (hq hd 5) (hS.bk 0 rfl) rfl) ?_
      refine dq (fun a w hA hS hd => d_2 rfl n_0 (hq hd 6) (hS.sk 1 rfl)) ?_
      refine dq (fun a w hA hS hd => g_6 rfl (hq hd 7) (evc _ _) (by omega) (by omega)) ?_
      refine ⟨fun a w hA hS hd => by have e4 := hx hd 4; have e8 := hx hd 8; exact d_7 rfl (dv (b_1 rfl z_0 (ev3 (c_7 e4) (evc _ _) (c_7 e8)) (y_7 _ _ _ _)) hS (by show Value.bool _ = _; simp only [AD, decide_true, decide_false, Bool.not_true, Bool.not_false])), ?_⟩
      refine dq (fun a w hA hS hd => e_9 rfl (hq hd 9)) ?_
      refine dq (fun a w hA hS hd => a_1 rfl (hq hd 10)) ?_
      refine dn 11 ?_
      refine dn 11 ?_
      refine dn 11 ?_
      refine du 14 ?_
      refine du 14 ?_
      refine du 14 ?_
      refine du 14 ?_
      refine du 14 ?_
      refine du 14 ?_
      refine du 14 ?_
      refine du 14 ?_
      refine du 14 ?_
      refine du 14 ?_
      refine du 14 ?_
      trivial
     intro Fn Hi C0 ER X; clear Cz E
     have C1 := C0.add (hz X 11); clear C0
     have C2 := C1.add (hz X 14); clear C1
     have C3 := C2.add (hz X 19); clear C2
     have C4 := C3.add (hz X 25); clear C3
     clear X
     refine s4 C4 fun Fo C5 => ?_; clear C4 Fn
     refine s3 C5 fun Fp A1 => ?_; clear C5 Fo
     refine s1 A1 (b_4 rfl (A1.ev rfl) (evc _ _)) fun Fq A2 => ?_; clear A1 Fp
     refine n1 ?_
     refine c_0 A2 rfl ?_
     refine b_6 ?_
     have C6 := A2.as [] rfl; clear A2
     refine a_5 ?_
     refine s1 C6 (a_0 rfl (evc _ _)) fun HS C7 => ?_; clear C6 Fq
     refine n1 ?_
     refine c_1 ?_
     refine b_9 ?_
     refine a_6 ?_
     refine a_6 ?_
     refine b_9 ?_
     refine a_6 ?_
     refine a_7 C7 (.inl rfl) (a_2 C7 rfl (.tmp rfl)) ?_
     exact ⟨congrArg Value.bool (Eq.symm (by first | exact tab_brk (k := C) (by omega) (brk_n (fun j hj => hbk0 j hj) (by assumption)) | (obtain ⟨j, rfl⟩ := back1 (k := C) (by omega); simp only [pred1] at *; exact tab_brk (k := j + 1) (by omega) (brk_n1 (by omega))))), ER.ext⟩
    skip
    rw [decide_eq_false Dt] at J
    refine b_5 J rfl ?_
    refine g_3 ?_
    refine b_3 ?_
    refine b_3 ?_
    refine f_2 ?_
    refine a_9 ?_
    refine b_6 ?_
    have C8 := J.as [] rfl; clear J
    refine a_5 ?_
    refine s1 C8 (a_0 rfl (evc _ _)) fun HT C9 => ?_; clear C8 Fb
    refine n1 ?_
    refine c_1 ?_
    refine a_7 C9 (.inl rfl) (a_2 C9 rfl (.tmp rfl)) ?_
    exact ⟨congrArg Value.bool (Eq.symm (tabB_iff.2 ⟨by assumption, by assumption, by assumption, by assumption, by omega, fun i hi => hrw i (by omega), fun i hi => hst i (by omega), fun i hi => hbk i (by omega)⟩)), E.ext⟩
   skip
   rw [Bt] at Q
   refine s3 Q fun Fs DA => ?_; clear Q EV
   refine s3 DA fun Ft DB => ?_; clear DA Fs
   refine s3 DB fun Fu DC => ?_; clear DB Ft
   refine s3 DC fun Fv A3 => ?_; clear DC Fu
   refine s1 A3 (b_4 rfl (A3.ev rfl) (evc _ _)) fun Fw A4 => ?_; clear A3 Fv
   refine n1 ?_
   refine c_0 A4 rfl ?_
   refine b_6 ?_
   have DD := A4.as [] rfl; clear A4
   refine a_5 ?_
   refine s1 DD (a_0 rfl (evc _ _)) fun HU DE => ?_; clear DD Fw
   refine n1 ?_
   refine c_1 ?_
   refine a_6 ?_
   refine a_7 DE (.inl rfl) (a_2 DE rfl (.tmp rfl)) ?_
   exact ⟨congrArg Value.bool (Eq.symm (o_2 (by first | exact .inl (by assumption) | exact .inr (.inl (by assumption)) | exact .inr (.inr (.inl (by assumption))) | exact .inr (.inr (.inr (.inl (by assumption)))) | exact .inr (.inr (.inr (.inr (by omega))))))), L.ext⟩
  skip
  rw [Bs] at O
  refine s3 O fun Fx DF => ?_; clear O ET
  refine s3 DF fun Fy DG => ?_; clear DF Fx
  refine s3 DG fun Fz DH => ?_; clear DG Fy
  refine s3 DH fun F0 DI => ?_; clear DH Fz
  refine s3 DI fun F1 A5 => ?_; clear DI F0
  refine s1 A5 (b_4 rfl (A5.ev rfl) (evc _ _)) fun F2 A6 => ?_; clear A5 F1
  refine s1 A6 (a_1 rfl (A6.ev rfl)) fun F3 DJ => ?_; clear A6 F2
  refine s3 DJ fun F4 DK => ?_; clear DJ F3
  refine s3 DK fun F5 DL => ?_; clear DK F4
  refine s3 DL fun F6 DM => ?_; clear DL F5
  refine s3 DM fun F7 A7 => ?_; clear DM F6
  refine s1 A7 (b_4 rfl (A7.ev rfl) (evc _ _)) fun F8 A8 => ?_; clear A7 F7
  refine s1 A8 (a_1 rfl (A8.ev rfl)) fun F9 DN => ?_; clear A8 F8
  refine s3 DN fun GA DO => ?_; clear DN F9
  refine s3 DO fun GB DP => ?_; clear DO GA
  refine s3 DP fun GC DQ => ?_; clear DP GB
  refine s3 DQ fun GD A9 => ?_; clear DQ GC
  refine s1 A9 (b_4 rfl (A9.ev rfl) (evc _ _)) fun GE BA => ?_; clear A9 GD
  refine n1 ?_
  refine c_0 BA rfl ?_
  refine b_6 ?_
  have DR := BA.as [] rfl; clear BA
  refine a_5 ?_
  refine s1 DR (a_0 rfl (evc _ _)) fun HV DS => ?_; clear DR GE
  refine n1 ?_
  refine c_1 ?_
  refine a_6 ?_
  refine a_7 DS (.inl rfl) (a_2 DS rfl (.tmp rfl)) ?_
  exact ⟨congrArg Value.bool (Eq.symm (o_2 (by first | exact .inl (by assumption) | exact .inr (.inl (by assumption)) | exact .inr (.inr (.inl (by assumption))) | exact .inr (.inr (.inr (.inl (by assumption)))) | exact .inr (.inr (.inr (.inr (by omega))))))), L.ext⟩
 skip
 rw [Br] at N
 refine s3 N fun GF DT => ?_; clear N ES
 refine s3 DT fun GG DU => ?_; clear DT GF
 refine s3 DU fun GH DV => ?_; clear DU GG
 refine s3 DV fun GI DW => ?_; clear DV GH
 refine s3 DW fun GJ DX => ?_; clear DW GI
 refine s3 DX fun GK BB => ?_; clear DX GJ
 refine s1 BB (b_4 rfl (BB.ev rfl) (evc _ _)) fun GL BC => ?_; clear BB GK
 refine s1 BC (a_1 rfl (BC.ev rfl)) fun GM DY => ?_; clear BC GL
 refine s3 DY fun GN DZ => ?_; clear DY GM
 refine s3 DZ fun GO Da => ?_; clear DZ GN
 refine s3 Da fun GP Db => ?_; clear Da GO
 refine s3 Db fun GQ Dc => ?_; clear Db GP
 refine s3 Dc fun GR BD => ?_; clear Dc GQ
 refine s1 BD (b_4 rfl (BD.ev rfl) (evc _ _)) fun GS BE => ?_; clear BD GR
 refine s1 BE (a_1 rfl (BE.ev rfl)) fun GT Dd => ?_; clear BE GS
 refine s3 Dd fun GU De => ?_; clear Dd GT
 refine s3 De fun GV Df => ?_; clear De GU
 refine s3 Df fun GW Dg => ?_; clear Df GV
 refine s3 Dg fun GX BG => ?_; clear Dg GW
 refine s1 BG (b_4 rfl (BG.ev rfl) (evc _ _)) fun GY BH => ?_; clear BG GX
 refine s1 BH (a_1 rfl (BH.ev rfl)) fun GZ Dh => ?_; clear BH GY
 refine s3 Dh fun Ga Di => ?_; clear Dh GZ
 refine s3 Di fun Gb Dj => ?_; clear Di Ga
 refine s3 Dj fun Gc Dk => ?_; clear Dj Gb
 refine s3 Dk fun Gd BI => ?_; clear Dk Gc
 refine s1 BI (b_4 rfl (BI.ev rfl) (evc _ _)) fun Ge BK => ?_; clear BI Gd
 refine n1 ?_
 refine c_0 BK rfl ?_
 refine b_6 ?_
 have Dl := BK.as [] rfl; clear BK
 refine a_5 ?_
 refine s1 Dl (a_0 rfl (evc _ _)) fun HW Dm => ?_; clear Dl Ge
 refine n1 ?_
 refine c_1 ?_
 refine a_6 ?_
 refine a_7 Dm (.inl rfl) (a_2 Dm rfl (.tmp rfl)) ?_
 exact ⟨congrArg Value.bool (Eq.symm (o_2 (by first | exact .inl (by assumption) | exact .inr (.inl (by assumption)) | exact .inr (.inr (.inl (by assumption))) | exact .inr (.inr (.inr (.inl (by assumption)))) | exact .inr (.inr (.inr (.inr (by omega))))))), L.ext⟩
end Go.Proofs.Ytohgladndklciaa

namespace Go.Hard
open Go.RowKit Go.Eng
theorem o_6 (xs : List (Int × Int)) : ((pairs xs).drop (1 * 2)).take ((xs.length - 1) * 2) = pairs (xs.drop 1) := by
  cases xs with
  | nil => rfl
  | cons x xs =>
    show ((pairs (x :: xs)).drop 2).take ((xs.length + 1 - 1) * 2) = pairs xs
    have : (pairs (x :: xs)).drop 2 = pairs xs := rfl
    rw [this, Nat.add_sub_cancel, List.take_of_length_le (by rw [b_0]; exact Nat.le_refl _)]
theorem drop_getD {xs : List (Int × Int)} {i : Nat} : (xs.drop 1).getD i (0, 0) = xs.getD (i + 1) (0, 0) := by
  simp [List.getD, Nat.add_comm]
theorem dropP_all {xs : List (Int × Int)} {i : Nat} (h : i < xs.length - 1) : ((pairs (xs.drop 1)).drop (i * 2)).take 2 = [.int .i64 (xs.getD (i + 1) (0, 0)).1, .int .i64 (xs.getD (i + 1) (0, 0)).2] := by
  rw [h_5 (by rw [List.length_drop]; exact h), drop_getD]
def n_1 (t : TabD) (k : Nat) : List Nat := (List.range k).filter fun i => !decide ((i : Int) ∈ t.brk)
def d_3 (t : TabD) : List Nat := n_1 t (t.rows.length - 1)
theorem good_no {t : TabD} {k : Nat} (h : (k : Int) ∈ t.brk) : n_1 t (k + 1) = n_1 t k := by
  unfold n_1; rw [List.range_succ, List.filter_append]; simp [h]
theorem good_yes {t : TabD} {k : Nat} (h : ¬ (k : Int) ∈ t.brk) : n_1 t (k + 1) = n_1 t k ++ [k] := by
  unfold n_1; rw [List.range_succ, List.filter_append]; simp [h]
theorem good_pre {t : TabD} {k m : Nat} (h : k ≤ m) : n_1 t k <+: n_1 t m := by
  obtain ⟨d, rfl⟩ := Nat.exists_eq_add_of_le h
  unfold n_1
  rw [List.range_add, List.filter_append]
  exact List.prefix_append _ _
theorem good_at {t : TabD} {k m : Nat} (hk : k < m) (h : ¬ (k : Int) ∈ t.brk) : (n_1 t k).length < (n_1 t m).length ∧ (n_1 t m).getD (n_1 t k).length 0 = k := by
  obtain ⟨r, e⟩ := good_pre (t := t) (show k + 1 ≤ m by omega)
  rw [good_yes h] at e
  rw [← e]
  constructor
  · simp only [List.length_append, List.length_singleton]; omega
  · simp [List.getD]
theorem good_mem {t : TabD} {m q : Nat} (h : q < (n_1 t m).length) : (n_1 t m).getD q 0 < m ∧ ¬ (((n_1 t m).getD q 0 : Nat) : Int) ∈ t.brk := by
  have hm : (n_1 t m).getD q 0 ∈ n_1 t m := by
    simp only [List.getD, List.getElem?_eq_getElem h, Option.getD_some]; exact List.getElem_mem h
  generalize (n_1 t m).getD q 0 = i at hm
  unfold n_1 at hm
  rw [List.mem_filter, List.mem_range] at hm
  exact ⟨hm.1, by simpa using hm.2⟩
theorem good_sorted (t : TabD) (m : Nat) : (n_1 t m).Pairwise (· < ·) := by
  unfold n_1
  exact List.Pairwise.filter _ List.pairwise_lt_range
theorem good_before {t : TabD} {m q i : Nat} (hq : q < (n_1 t m).length) (hi : i < (n_1 t m).getD q 0) (hb : ¬ (i : Int) ∈ t.brk) : ∃ j, j < q ∧ (n_1 t m).getD j 0 = i := by
  have him : i ∈ n_1 t m := by
    unfold n_1
    have := (good_mem hq).1
    rw [List.mem_filter, List.mem_range]
    exact ⟨by omega, by simpa using hb⟩
  obtain ⟨j, hj, e⟩ := List.getElem_of_mem him
  refine ⟨j, ?_, by simp only [List.getD, List.getElem?_eq_getElem hj, Option.getD_some]; exact e⟩
  rcases Nat.lt_or_ge j q with h | h
  · exact h
  · exfalso
    rcases Nat.lt_or_ge q j with h2 | h2
    · have := List.pairwise_iff_getElem.1 (good_sorted t m) q j hq hj h2
      simp only [List.getD, List.getElem?_eq_getElem hq, Option.getD_some] at hi
      omega
    · obtain rfl : q = j := by omega
      simp only [List.getD, List.getElem?_eq_getElem hq, Option.getD_some] at hi
      omega
theorem made_good {t : TabD} {v : Int} {q : Nat} (hn : ∀ i, i < t.rows.length → ¬ tx t i = v) (hq : q < (d_3 t).length) (h : ∀ j, j < q → l_2 t v ((d_3 t).getD j 0) = false) (e : l_2 t v ((d_3 t).getD q 0) = true) : j_3 t v = some (pieceR t v ((d_3 t).getD q 0)) := by
  have hg := good_mem hq
  refine made_piece hn (by have := hg.1; unfold d_3; omega) (fun i hi => ?_) e
  by_cases hb : (i : Int) ∈ t.brk
  · exact l_3 (.inr (.inr hb))
  · obtain ⟨j, hj, rfl⟩ := good_before hq hi hb
    exact h j hj
theorem made_goodno {t : TabD} {v : Int} (hn : ∀ i, i < t.rows.length → ¬ tx t i = v) (h : ∀ j, j < (d_3 t).length → l_2 t v ((d_3 t).getD j 0) = false) : j_3 t v = none := by
  refine made_no hn fun i hi => ?_
  by_cases hb : (i : Int) ∈ t.brk
  · exact l_3 (.inr (.inr hb))
  · have := good_at (t := t) (show i < t.rows.length - 1 by omega) hb
    have h2 := h _ this.1
    rw [show (d_3 t).getD (n_1 t i).length 0 = i from this.2] at h2
    exact h2
theorem good_piece {t : TabD} {v : Int} {q : Nat} (hq : q < (d_3 t).length) (h1 : tx t ((d_3 t).getD q 0) < v) (h2 : v < tx t ((d_3 t).getD q 0 + 1)) : l_2 t v ((d_3 t).getD q 0) = true := piece_y h1 h2 (good_mem hq).2
end Go.Hard

namespace Go.Proofs.Ytohgladndklciaa
open Go.RowKit Go.Shelf Go.Eng Go.Hard
theorem x_2 : (Try.prog.info? 107).bind (·.zero) = some (Value.agg #[(Value.int .i64 0), (Value.int .i64 0)]) := by kernel_rfl
theorem en_122 : ∀ args w, (callFunc 122 args).run Try.prog w = .ok (.enter 122 args) w := enters_of Try.func122 (by kernel_rfl) rfl
theorem pieces_it (C : Nat) (t : TabD) (vr vb : Value) (hln : 2 ≤ t.rows.length) (hrl : t.rows.length ≤ 1000000) (hbl : t.brk.length ≤ 1000000) :
  IterG Try.prog 121 #[bptr C 0] nilR [rob C 106 [.int .i64 t.frm, .int .i64 t.dst, vr, vb, .int .i64 t.err], sl vr 2 t.rows.length (pairs t.rows), sl vb 1 t.brk.length (ints t.brk)] (d_3 t).length (fun q => #[.agg #[.int .i64 (t.rows.getD ((d_3 t).getD q 0) (0, 0)).1, .int .i64 (t.rows.getD ((d_3 t).getD q 0) (0, 0)).2], .agg #[.int .i64 (t.rows.getD ((d_3 t).getD q 0 + 1) (0, 0)).1, .int .i64 (t.rows.getD ((d_3 t).getD q 0 + 1) (0, 0)).2]]) := by
 intro l J Jx W hJ hJx hD hDx h0 hy
 refine a_8 Try.func121 rfl fun a0 R => ?_
 replace R : Fr 31 [] [(0, (Value.func (.yield l) #[] #[])), (1, (bptr C 0))] a0 := R
 have T : Sep nilR.S W W [nilR, (rob C 106 [(Value.int .i64 t.frm), (Value.int .i64 t.dst), vr, vb, (Value.int .i64 t.err)]), (sl vr 2 t.rows.length (pairs t.rows)), (sl vb 1 t.brk.length (ints t.brk))] := (hD _ _ _ h0).2
 refine m2 ?_
 refine s1 R (a_4 rfl i_7 (R.ev rfl)) fun a2 p => ?_; clear R a0
 refine s1 p (a_3 rfl n_2 (p.ev rfl) (T.rk 1 rfl) rfl) fun a4 z => ?_; clear p a2
 refine s1 z (op_sliceLo rfl j_9 h_9 (z.ev rfl) (l := 1) (show _ = Value.int .i64 ((1 : Nat) : Int) from (evc _ _)) (T.sk 2 rfl) (by omega)) fun a6 AF => ?_; clear z a4
 refine s1 AF (d_2 rfl j_9 (AF.ev rfl) (SlAt.say (n' := (t.rows.length - 1)) (cs' := (pairs (t.rows.drop 1))) (SlAt.cut (T.sk 2 rfl) (by omega) (Nat.le_refl _)) rfl (o_6 _))) fun a8 AS => ?_; clear AF a6
 refine s1 AS (a_1 rfl (evc _ _)) fun Ae j => ?_; clear AS a8
 refine n1 ?_
 refine c_3 ?_
 have n := j.as [(9, (Value.int .i64 0)), (8, (Value.int .i64 (((t.rows.length - 1) : Nat) : Int))), (7, (slcut vr 1 t.rows.length 2)), (0, (Value.func (.yield l) #[] #[])), (1, (bptr C 0))] rfl; clear j
 refine g_4 (G := Nat) (fun (k : Nat) a_ w_ => Fr 31 [] [(9, (Value.int .i64 (k : Int))), (8, (Value.int .i64 (((t.rows.length - 1) : Nat) : Int))), (7, (slcut vr 1 t.rows.length 2)), (0, (Value.func (.yield l) #[] #[])), (1, (bptr C 0))] a_ ∧ True ∧ (k ≤ t.rows.length - 1) ∧ (J (n_1 t k).length nilR w_)) (fun k => t.rows.length - k) 0 ⟨n.as _ rfl, trivial, by omega, (hJ _ _ _ _ _ h0 (Sep.keep T [0] (by decide) _ rfl rfl) rfl)⟩ ?_
 clear n T Ae
 rintro k Af AP ⟨K, Aa, hk, hj⟩
 clear Aa
 have I : Sep nilR.S AP AP [nilR, (rob C 106 [(Value.int .i64 t.frm), (Value.int .i64 t.dst), vr, vb, (Value.int .i64 t.err)]), (sl vr 2 t.rows.length (pairs t.rows)), (sl vb 1 t.brk.length (ints t.brk))] := (hD _ _ _ hj).2
 refine m2 ?_
 refine s1 K (f_5 rfl (K.ev rfl) (K.ev rfl)) fun Ag B => ?_; clear K Af
 refine n2 ?_
 by_cases AM : (k : Int) < (((t.rows.length - 1) : Nat) : Int)
 ·skip
  rw [decide_eq_true AM] at B
  refine c_0 B rfl ?_
  refine c_6 ?_
  refine a_9 ?_
  refine b_6 ?_
  refine c_3 ?_
  refine m2 ?_
  refine s1 B (a_1 rfl (B.ev rfl)) fun Ah L => ?_; clear B Ag
  refine s1 L (b_2 rfl j_9 h_9 (L.ev rfl) (i := k) (L.ev rfl) (SlAt.say (n' := (t.rows.length - 1)) (cs' := (pairs (t.rows.drop 1))) (SlAt.cut (I.sk 2 rfl) (by omega) (Nat.le_refl _)) rfl (o_6 _)) (by decide) (by omega)) fun Ai U => ?_; clear L Ah
  refine s1 U (e_2 rfl h_9 (U.ev rfl) (SlAt.say (n' := (t.rows.length - 1)) (cs' := (pairs (t.rows.drop 1))) (SlAt.cut (I.sk 2 rfl) (by omega) (Nat.le_refl _)) rfl (o_6 _)) (dropP_all (by omega)) rfl (by decide)) fun Aj o => ?_; clear U Ai
  refine s2 o (d_9 I rfl x_2 (cs := [(Value.int .i64 0), (Value.int .i64 0)]) rfl) ?_
  rintro Ak _ A9 ⟨g, rfl, AJ⟩ V; clear o I Aj
  refine s1 V (a_0 rfl (V.ev rfl)) fun A4 M => ?_; clear V Ak
  refine s7 M (b_8 AJ rfl h_9 (M.ev rfl) (M.ev rfl) (i := 0) rfl (vs := [(Value.int .i64 ((t.rows.getD (k + 1) (0, 0)).1)), (Value.int .i64 ((t.rows.getD (k + 1) (0, 0)).2))]) rfl rfl rfl (Nat.le_of_ble_eq_true rfl)) ?_
  intro _ Az AK r; clear M
  have Q : Sep nilR.S AP Az [(blk g 107 [(Value.int .i64 ((t.rows.getD (k + 1) (0, 0)).1)), (Value.int .i64 ((t.rows.getD (k + 1) (0, 0)).2))]), nilR, (rob C 106 [(Value.int .i64 t.frm), (Value.int .i64 t.dst), vr, vb, (Value.int .i64 t.err)]), (sl vr 2 t.rows.length (pairs t.rows)), (sl vb 1 t.brk.length (ints t.brk))] := AK; clear AK AJ
  refine n2 ?_
  have N := r.as [(3, (Value.int .i64 (k : Int))), (4, (bptr g 0)), (9, (Value.int .i64 (k : Int))), (8, (Value.int .i64 (((t.rows.length - 1) : Nat) : Int))), (7, (slcut vr 1 t.rows.length 2)), (0, (Value.func (.yield l) #[] #[])), (1, (bptr C 0))] rfl; clear r
  by_cases AN : (k : Int) ∈ t.brk
  ·skip
   have s := N.as [(3, (Value.int .i64 (k : Int))), (4, (bptr g 0)), (9, (Value.int .i64 (k : Int))), (8, (Value.int .i64 (((t.rows.length - 1) : Nat) : Int))), (7, (slcut vr 1 t.rows.length 2)), (0, (Value.func (.yield l) #[] #[])), (1, (bptr C 0))] rfl; clear N
   refine f_9 mixed s Q 13 [[], [0], [], [1, 2], [3], [4], [5], [5], [5, 7], [5], [5, 8, 9], [5, 10], [5]] [(Yd.val (bptr C 3)), (Yd.val vb), (Yd.val (Value.int .i64 (k : Int))), (Yd.val (Value.bool true)), (Yd.val (Value.bool (!true))), (Yd.val (Value.bool (!true))), (Yd.val undef), (Yd.val undef), (Yd.val undef), (Yd.val undef), (Yd.val undef), (Yd.val undef), (Yd.val undef)] (by decide +kernel) rfl rfl ?_ ?_
   ·skip
    refine ⟨fun a w hA hS hd => ?_, ?_⟩
    ·skip
     exact d_7 rfl (dv (a_4 rfl fd_106_3 (hA.ev rfl)) hS rfl)
    refine ⟨fun a w hA hS hd => ?_, ?_⟩
    ·skip
     have e0 := e_4 (hd 0 (by decide)) rfl (fun _ h => h)
     exact d_7 rfl (dv (a_3 rfl v_2 (c_7 e0) (hS.rk 2 rfl) rfl) hS rfl)
    refine ⟨fun a w hA hS hd => ?_, ?_⟩
    ·skip
     exact d_7 rfl (dv (a_1 rfl (hA.ev rfl)) hS rfl)
    refine ⟨fun a w hA hS hd => ?_, ?_⟩
    ·skip
     have e1 := e_4 (hd 1 (by decide)) rfl (fun _ h => h)
     have e2 := e_4 (hd 2 (by decide)) rfl (fun _ h => h)
     exact d_7 rfl (dx (b_1 rfl en_122 (ev2 (c_7 e1) (c_7 e2)) (contains_ok t.brk (k : Int) _ _ (hS.sk 4 rfl) (by omega))) hS (fun _ => (by show Value.bool _ = _; simp [AN])))
    refine ⟨fun a w hA hS hd => ?_, ?_⟩
    ·skip
     have e3 := e_4 (hd 3 (by decide)) rfl (fun _ h => h)
     exact d_7 rfl (dv (e_9 rfl (c_7 e3)) hS rfl)
    refine ⟨fun a w hA hS hd => ?_, ?_⟩
    ·skip
     have e4 := e_4 (hd 4 (by decide)) rfl (fun _ h => h)
     exact d_7 rfl (dv (a_1 rfl (c_7 e4)) hS rfl)
    refine ⟨fun a w hA hS hd => ?_, ?_⟩
    ·skip
     have A := e_4 (hd 5 (by decide)) rfl (fun _ h => h)
     exact opG_no rfl rfl A rfl (dskip hS rfl)
    refine ⟨fun a w hA hS hd => ?_, ?_⟩
    ·skip
     have A := e_4 (hd 5 (by decide)) rfl (fun _ h => h)
     exact opG_no rfl rfl A rfl (dskip hS rfl)
    refine ⟨fun a w hA hS hd => ?_, ?_⟩
    ·skip
     have A := e_4 (hd 5 (by decide)) rfl (fun _ h => h)
     have e7 := e_4 (hd 7 (by decide)) rfl (fun _ h => h)
     exact opG_no rfl rfl A rfl (dskip hS rfl)
    refine ⟨fun a w hA hS hd => ?_, ?_⟩
    ·skip
     have A := e_4 (hd 5 (by decide)) rfl (fun _ h => h)
     exact opG_no rfl rfl A rfl (dskip hS rfl)
    refine ⟨fun a w hA hS hd => ?_, ?_⟩
    ·skip
     have A := e_4 (hd 5 (by decide)) rfl (fun _ h => h)
     have e8 := e_4 (hd 8 (by decide)) rfl (fun _ h => h)
     have e9 := e_4 (hd 9 (by decide)) rfl (fun _ h => h)
     exact opG_no rfl rfl A rfl (dskip hS rfl)
    refine ⟨fun a w hA hS hd => ?_, ?_⟩
    ·skip
     have A := e_4 (hd 5 (by decide)) rfl (fun _ h => h)
     have AR := e_4 (hd 10 (by decide)) rfl (fun _ h => h)
     exact opG_no rfl rfl A rfl (dskip hS rfl)
    refine ⟨fun a w hA hS hd => ?_, ?_⟩
    ·skip
     have A := e_4 (hd 5 (by decide)) rfl (fun _ h => h)
     exact opG_no rfl rfl A rfl (dskip hS rfl)
    trivial
   intro Al BA u Ab F; clear s Q
   have v := u.add (hz F 5); clear u
   have x := v.add (hz F 6); clear v
   have y := x.add (hz F 11); clear x
   have AA := y.add (hz F 12); clear y
   clear F
   refine s3 AA fun Am AB => ?_; clear AA Al
   refine s3 AB fun An X => ?_; clear AB Am
   refine s1 X (c_8 rfl (X.ev rfl) (evc _ _)) fun Ao Y => ?_; clear X An
   refine n1 ?_
   refine b_5 Y rfl ?_
   refine c_6 ?_
   refine g_0 ?_
   refine a_9 ?_
   have Z := Y.as [(9, (Value.int .i64 (k : Int))), (8, (Value.int .i64 (((t.rows.length - 1) : Nat) : Int))), (7, (slcut vr 1 t.rows.length 2)), (0, (Value.func (.yield l) #[] #[])), (1, (bptr C 0))] rfl; clear Y
   refine a_5 ?_
   refine s1 Z (f_1 rfl (Z.ev rfl) (evc _ _) (by omega) (by omega)) fun Ap b => ?_; clear Z Ao
   refine s1 b (a_1 rfl (b.ev rfl)) fun A5 AY => ?_; clear b Ap
   refine e_8 ?_
   exact a_9 ⟨k + 1, ⟨AY.as _ rfl, trivial, by omega, (by rw [good_no (by assumption)]; exact (hJ _ _ _ _ _ hj (Sep.keep Ab [1] (by decide) _ rfl rfl) rfl))⟩, by omega⟩
  skip
  have AC := N.as [(3, (Value.int .i64 (k : Int))), (4, (bptr g 0)), (9, (Value.int .i64 (k : Int))), (8, (Value.int .i64 (((t.rows.length - 1) : Nat) : Int))), (7, (slcut vr 1 t.rows.length 2)), (0, (Value.func (.yield l) #[] #[])), (1, (bptr C 0))] rfl; clear N
  refine f_9 mixed AC Q 13 [[], [0], [], [1, 2], [3], [4], [5], [5], [5, 7], [5], [5, 8, 9], [5, 10], [5]] [(Yd.val (bptr C 3)), (Yd.val vb), (Yd.val (Value.int .i64 (k : Int))), (Yd.val (Value.bool false)), (Yd.val (Value.bool (!false))), (Yd.val (Value.bool (!false))), (Yd.val (Value.func (.yield l) #[] #[])), (Yd.val (bptr C 2)), (Yd.val vr), (Yd.val (Value.int .i64 (k : Int))), (Yd.val (eptr vr (k * 2))), (Yd.val (Value.agg #[(Value.int .i64 ((t.rows.getD k (0, 0)).1)), (Value.int .i64 ((t.rows.getD k (0, 0)).2))])), (Yd.val (Value.agg #[(Value.int .i64 ((t.rows.getD (k + 1) (0, 0)).1)), (Value.int .i64 ((t.rows.getD (k + 1) (0, 0)).2))]))] (by decide +kernel) rfl rfl ?_ ?_
  ·skip
   refine ⟨fun a w hA hS hd => ?_, ?_⟩
   ·skip
    exact d_7 rfl (dv (a_4 rfl fd_106_3 (hA.ev rfl)) hS rfl)
   refine ⟨fun a w hA hS hd => ?_, ?_⟩
   ·skip
    have e0 := e_4 (hd 0 (by decide)) rfl (fun _ h => h)
    exact d_7 rfl (dv (a_3 rfl v_2 (c_7 e0) (hS.rk 2 rfl) rfl) hS rfl)
   refine ⟨fun a w hA hS hd => ?_, ?_⟩
   ·skip
    exact d_7 rfl (dv (a_1 rfl (hA.ev rfl)) hS rfl)
   refine ⟨fun a w hA hS hd => ?_, ?_⟩
   ·skip
    have e1 := e_4 (hd 1 (by decide)) rfl (fun _ h => h)
    have e2 := e_4 (hd 2 (by decide)) rfl (fun _ h => h)
    exact d_7 rfl (dx (b_1 rfl en_122 (ev2 (c_7 e1) (c_7 e2)) (contains_ok t.brk (k : Int) _ _ (hS.sk 4 rfl) (by omega))) hS (fun _ => (by show Value.bool _ = _; simp [AN])))
   refine ⟨fun a w hA hS hd => ?_, ?_⟩
   ·skip
    have e3 := e_4 (hd 3 (by decide)) rfl (fun _ h => h)
    exact d_7 rfl (dv (e_9 rfl (c_7 e3)) hS rfl)
   refine ⟨fun a w hA hS hd => ?_, ?_⟩
   ·skip
    have e4 := e_4 (hd 4 (by decide)) rfl (fun _ h => h)
    exact d_7 rfl (dv (a_1 rfl (c_7 e4)) hS rfl)
   refine ⟨fun a w hA hS hd => ?_, ?_⟩
   ·skip
    have A := e_4 (hd 5 (by decide)) rfl (fun _ h => h)
    exact i_5 rfl rfl A (dv (a_1 rfl (hA.ev rfl)) hS rfl)
   refine ⟨fun a w hA hS hd => ?_, ?_⟩
   ·skip
    have A := e_4 (hd 5 (by decide)) rfl (fun _ h => h)
    exact i_5 rfl rfl A (dv (a_4 rfl i_7 (hA.ev rfl)) hS rfl)
   refine ⟨fun a w hA hS hd => ?_, ?_⟩
   ·skip
    have A := e_4 (hd 5 (by decide)) rfl (fun _ h => h)
    have e7 := e_4 (hd 7 (by decide)) rfl (fun _ h => h)
    exact i_5 rfl rfl A (dv (a_3 rfl n_2 (c_7 e7) (hS.rk 2 rfl) rfl) hS rfl)
   refine ⟨fun a w hA hS hd => ?_, ?_⟩
   ·skip
    have A := e_4 (hd 5 (by decide)) rfl (fun _ h => h)
    exact i_5 rfl rfl A (dv (a_1 rfl (hA.ev rfl)) hS rfl)
   refine ⟨fun a w hA hS hd => ?_, ?_⟩
   ·skip
    have A := e_4 (hd 5 (by decide)) rfl (fun _ h => h)
    have e8 := e_4 (hd 8 (by decide)) rfl (fun _ h => h)
    have e9 := e_4 (hd 9 (by decide)) rfl (fun _ h => h)
    exact i_5 rfl rfl A (dv (b_2 rfl j_9 h_9 (c_7 e8) (i := k) (c_7 e9) (hS.sk 3 rfl) (by decide) (by omega)) hS rfl)
   refine ⟨fun a w hA hS hd => ?_, ?_⟩
   ·skip
    have A := e_4 (hd 5 (by decide)) rfl (fun _ h => h)
    have AR := e_4 (hd 10 (by decide)) rfl (fun _ h => h)
    exact i_5 rfl rfl A (dv (e_2 rfl h_9 (c_7 AR) (hS.sk 3 rfl) (h_5 (by omega)) rfl (by decide)) hS rfl)
   refine ⟨fun a w hA hS hd => ?_, ?_⟩
   ·skip
    have A := e_4 (hd 5 (by decide)) rfl (fun _ h => h)
    exact i_5 rfl rfl A (dv (c_4 rfl h_9 (hA.ev rfl) (hS.bk 0 rfl) (l := [(Value.int .i64 ((t.rows.getD (k + 1) (0, 0)).1)), (Value.int .i64 ((t.rows.getD (k + 1) (0, 0)).2))]) rfl rfl) hS rfl)
   trivial
  intro Aq BB AD AL H; clear AC Q
  have AE := AD.add (hz H 5); clear AD
  have AG := AE.add (hz H 6); clear AE
  have AH := AG.add (hz H 11); clear AG
  have E := AH.add (hz H 12); clear AH
  clear H
  have AO := good_at (t := t) (m := t.rows.length - 1) (k := k) (by omega) (by assumption)
  refine s6 E (op_yield rfl (E.ev rfl) (ev2 (E.ev rfl) (E.ev rfl)) (by have hz := hy (n_1 t k).length AO.1 _ _ (hJ _ _ _ _ _ hj (Sep.keep AL [1] (by decide) _ rfl rfl) rfl); dsimp only at hz; rw [show (d_3 t).getD (n_1 t k).length 0 = k from AO.2] at hz; exact hz)) ?_
  rintro AQ A8 BC Ac D; clear E AL Aq
  rcases Ac with ⟨rfl, f⟩ | ⟨rfl, f⟩
  ·skip
   refine s5 D (e_9 rfl (D.ev rfl)) fun Ar O => ?_; clear D AQ
   refine s1 O (b_4 rfl (O.ev rfl) (O.ev rfl)) fun As c => ?_; clear O Ar
   refine n1 ?_
   refine b_5 c rfl ?_
   refine c_6 ?_
   refine g_0 ?_
   refine a_9 ?_
   have d := c.as [(9, (Value.int .i64 (k : Int))), (8, (Value.int .i64 (((t.rows.length - 1) : Nat) : Int))), (7, (slcut vr 1 t.rows.length 2)), (0, (Value.func (.yield l) #[] #[])), (1, (bptr C 0))] rfl; clear c
   refine a_5 ?_
   refine s1 d (f_1 rfl (d.ev rfl) (evc _ _) (by omega) (by omega)) fun At e => ?_; clear d As
   refine s1 e (a_1 rfl (e.ev rfl)) fun A6 AZ => ?_; clear e At
   refine e_8 ?_
   exact a_9 ⟨k + 1, ⟨AZ.as _ rfl, trivial, by omega, (by rw [good_yes (by assumption), List.length_append, List.length_singleton]; exact f)⟩, by omega⟩
  skip
  refine s5 D (e_9 rfl (D.ev rfl)) fun Au P => ?_; clear D AQ
  refine s1 P (b_4 rfl (P.ev rfl) (P.ev rfl)) fun A7 AI => ?_; clear P Au
  refine n1 ?_
  refine c_0 AI rfl ?_
  refine c_1 ?_
  refine b_9 ?_
  refine a_6 ?_
  refine a_6 ?_
  refine b_9 ?_
  refine a_7 AI (.inl rfl) (run_results0 rfl _) ?_
  exact .inr ⟨_, f⟩
 skip
 rw [decide_eq_false AM] at B
 refine b_5 B rfl ?_
 refine g_3 ?_
 refine b_3 ?_
 refine b_3 ?_
 refine f_2 ?_
 refine a_7 B (.inr rfl) (run_results0 rfl _) ?_
 exact .inl (by have hz := (hJ _ _ _ _ _ hj (Sep.keep I [0] (by decide) _ rfl rfl) rfl); rw [show k = t.rows.length - 1 by omega] at hz; exact hz)
theorem pieces_ok (t : TabD) (vr vb : Value) (w : World) (h1_ : vr.oneCell' = true) (h2_ : vb.oneCell' = true) :
  Calls Try.prog 116 #[(Value.agg #[(Value.int .i64 t.frm), (Value.int .i64 t.dst), vr, vb, (Value.int .i64 t.err)])] w (Ret fun v w' => ∃ H, v = .func (.func 121) #[] #[bptr H 0] ∧ Sep NoB w w' [blk H 106 [.int .i64 t.frm, .int .i64 t.dst, vr, vb, .int .i64 t.err]]) := by
 refine a_8 Try.func116 rfl fun G A => ?_
 replace A : Fr 4 [] [(0, (Value.agg #[(Value.int .i64 t.frm), (Value.int .i64 t.dst), vr, vb, (Value.int .i64 t.err)]))] G := A
 have F : Sep NoB w w [] := Sep.start _ _
 refine m2 ?_
 refine s2 A (e_7 F rfl (A.ev rfl) (cs := [(Value.int .i64 t.frm), (Value.int .i64 t.dst), vr, vb, (Value.int .i64 t.err)]) rfl) ?_
 rintro J _ O ⟨N, rfl, I⟩ E; clear A F G
 refine s1 E (a_0 rfl (evc _ _)) fun K C => ?_; clear E J
 refine n4 ?_
 refine s1 C (g_1 rfl ev0 (ev1 (C.ev rfl))) fun L D => ?_; clear C K
 refine s1 D (a_0 rfl (D.ev rfl)) fun M B => ?_; clear D L
 refine n1 ?_
 refine c_1 ?_
 refine a_7 B (.inl rfl) (a_2 B rfl (.tmp rfl)) ?_
 exact ⟨_, rfl, I⟩
end Go.Proofs.Ytohgladndklciaa

namespace Go.Proofs.Ytohgladndklciaa
open Go.RowKit Go.Shelf Go.Eng Go.Hard
theorem ze_4 : (Try.prog.info? 4).bind (·.zero) = some (Value.bool false) := by kernel_rfl
theorem ty_4 : tyK Try.prog 4 = some (false, 1) := by kernel_rfl
theorem en_116 : ∀ args w, (callFunc 116 args).run Try.prog w = .ok (.enter 116 args) w := enters_of Try.func116 (by kernel_rfl) rfl
theorem en_121 : ∀ args w, (callFunc 121 args).run Try.prog w = .ok (.enter 121 args) w := enters_of Try.func121 (by kernel_rfl) rfl
theorem fd_159_0 : fldK Try.prog 159 0 = some 0 := by kernel_rfl
theorem ty_154 : tyK Try.prog 154 = some (false, 1) := by kernel_rfl
theorem en_103 : ∀ args w, (callFunc 103 args).run Try.prog w = .ok (.enter 103 args) w := enters_of Try.func103 (by kernel_rfl) rfl
theorem bd_159_0f (x0_0 : Fn) (x0_0a x0_0b : Array Value) (w : World) : (Instr.build 159 #[(0, (.func x0_0 x0_0a x0_0b))]).run Try.prog w = .ok (.agg #[(.func x0_0 x0_0a x0_0b)]) w := by kernel_rfl
theorem en_101 : ∀ args w, (callFunc 101 args).run Try.prog w = .ok (.enter 101 args) w := enters_of Try.func101 (by kernel_rfl) rfl
theorem en_72 : ∀ args w, (callFunc 72 args).run Try.prog w = .ok (.enter 72 args) w := enters_of Try.func72 (by kernel_rfl) rfl
theorem v_7 : fldK Try.prog 106 4 = some 4 := by kernel_rfl
theorem makes_dn (t : TabD) (vr vb : Value) (w : World) (hr : SlAt w vr 2 t.rows.length (pairs t.rows)) (hb : SlAt w vb 1 t.brk.length (ints t.brk)) (hrl : t.rows.length ≤ 1000000) (hbl : t.brk.length ≤ 1000000) (n : Int) (hV : TabV n t) (x : Int) :
  Calls Try.prog 101 #[(Value.agg #[(Value.int .i64 t.frm), (Value.int .i64 t.dst), vr, vb, (Value.int .i64 t.err)]), (Value.int .i64 x), (Value.agg #[(Value.func (.func 102) #[] #[])])] w (Ret fun v w' => v = .tuple #[.int .i64 (d_0 t x).1, .bool (j_3 t x).isSome] ∧ Ext NoB w w') := by
 refine calls_enterM Try.func101 rfl fun a0 AE => ?_
 replace AE : Fr 62 (marks []) [(0, (Value.agg #[(Value.int .i64 t.frm), (Value.int .i64 t.dst), vr, vb, (Value.int .i64 t.err)])), (1, (Value.int .i64 x)), (2, (Value.agg #[(Value.func (.func 102) #[] #[])]))] a0 := AE
 have BZ : Sep NoB w w [(g_5 []), (sl vr 2 t.rows.length (pairs t.rows)), (sl vb 1 t.brk.length (ints t.brk))] := sep_marks (e_3 ⟨rfl, hr, rfl, hb, trivial⟩)
 refine m2 ?_
 refine s2 AE (e_7 BZ rfl (AE.ev rfl) (cs := [(Value.int .i64 t.frm), (Value.int .i64 t.dst), vr, vb, (Value.int .i64 t.err)]) rfl) ?_
 rintro a1 _ w3 ⟨M, rfl, Ba⟩ A3; clear AE BZ a0
 refine s2 A3 (e_7 Ba rfl (A3.ev rfl) (cs := [(Value.int .i64 x)]) rfl) ?_
 rintro a6 _ w8 ⟨H, rfl, BB⟩ A8; clear A3 Ba a1
 refine s2 A8 (e_7 BB rfl (A8.ev rfl) (cs := [(Value.func (.func 102) #[] #[])]) rfl) ?_
 rintro B0 _ Cw ⟨A, rfl, BC⟩ A1; clear A8 BB a6
 refine s2 A1 (d_9 BC rfl ze_3 (cs := [(Value.int .i64 0)]) rfl) ?_
 rintro B1 _ Cx ⟨B, rfl, BD⟩ A2; clear A1 BC B0
 refine s2 A2 (d_9 BD rfl ze_4 (cs := [(Value.bool false)]) rfl) ?_
 rintro B2 _ Cy ⟨C, rfl, AB⟩ AF; clear A2 BD B1
 refine n2 ?_
 refine m2 ?_
 refine s1 AF (a_4 rfl i_7 (AF.ev rfl)) fun B3 AG => ?_; clear AF B2
 refine s1 AG (a_3 rfl n_2 (AG.ev rfl) (AB.bk 4 rfl) rfl) fun B4 AH => ?_; clear AG B3
 refine s1 AH (d_2 rfl j_9 (AH.ev rfl) (AB.sk 6 rfl)) fun B5 A4 => ?_; clear AH B4
 refine s1 A4 (a_1 rfl (evc _ _)) fun B6 A5 => ?_; clear A4 B5
 refine n1 ?_
 refine c_3 ?_
 have A6 := A5.as [(15, (Value.int .i64 0)), (14, (Value.int .i64 (t.rows.length : Int))), (13, vr), (7, (bptr C 0)), (6, (bptr B 0)), (5, (bptr A 0)), (4, (bptr H 0)), (3, (bptr M 0))] rfl; clear A5
 refine g_4 (G := Nat) (fun (k : Nat) a_ w_ => Fr 62 (marks []) [(15, (Value.int .i64 (k : Int))), (14, (Value.int .i64 (t.rows.length : Int))), (13, vr), (7, (bptr C 0)), (6, (bptr B 0)), (5, (bptr A 0)), (4, (bptr H 0)), (3, (bptr M 0))] a_ ∧ Sep NoB w w_ [(blk C 4 [(Value.bool false)]), (blk B 3 [(Value.int .i64 0)]), (blk A 159 [(Value.func (.func 102) #[] #[])]), (blk H 3 [(Value.int .i64 x)]), (blk M 106 [(Value.int .i64 t.frm), (Value.int .i64 t.dst), vr, vb, (Value.int .i64 t.err)]), (g_5 []), (sl vr 2 t.rows.length (pairs t.rows)), (sl vb 1 t.brk.length (ints t.brk))] ∧ (k ≤ t.rows.length) ∧ (∀ i, i < k → ¬ tx t i = x)) (fun k => t.rows.length - k) 0 ⟨A6.as _ rfl, AB, by omega, (fun _ h => absurd h (Nat.not_lt_zero _))⟩ ?_
 clear A6 AB B6
 rintro k B7 Cz ⟨o, N, hkk, hrw⟩
 refine m2 ?_
 refine s1 o (f_5 rfl (o.ev rfl) (o.ev rfl)) fun BW F => ?_; clear o B7
 refine n2 ?_
 by_cases BP : (k : Int) < (t.rows.length : Int)
 ·skip
  rw [decide_eq_true BP] at F
  refine c_0 F rfl ?_
  refine c_6 ?_
  refine a_9 ?_
  refine b_6 ?_
  refine c_3 ?_
  refine m2 ?_
  refine s1 F (b_2 rfl j_9 h_9 (F.ev rfl) (i := k) (F.ev rfl) (N.sk 6 rfl) (by decide) (by omega)) fun B8 AI => ?_; clear F BW
  refine s1 AI (e_2 rfl h_9 (AI.ev rfl) (N.sk 6 rfl) (h_5 (by omega)) rfl (by decide)) fun B9 A7 => ?_; clear AI B8
  refine s2 A7 (d_9 N rfl x_2 (cs := [(Value.int .i64 0), (Value.int .i64 0)]) rfl) ?_
  rintro CA _ C0 ⟨AT, rfl, BE⟩ p; clear A7 N B9
  refine s7 p (b_8 BE rfl h_9 (p.ev rfl) (p.ev rfl) (i := 0) rfl (vs := [(Value.int .i64 ((t.rows.getD k (0, 0)).1)), (Value.int .i64 ((t.rows.getD k (0, 0)).2))]) rfl rfl rfl (Nat.le_of_ble_eq_true rfl)) ?_
  intro _ CR BF AJ; clear p
  have O : Sep NoB w CR [(blk AT 107 [(Value.int .i64 ((t.rows.getD k (0, 0)).1)), (Value.int .i64 ((t.rows.getD k (0, 0)).2))]), (blk C 4 [(Value.bool false)]), (blk B 3 [(Value.int .i64 0)]), (blk A 159 [(Value.func (.func 102) #[] #[])]), (blk H 3 [(Value.int .i64 x)]), (blk M 106 [(Value.int .i64 t.frm), (Value.int .i64 t.dst), vr, vb, (Value.int .i64 t.err)]), (g_5 []), (sl vr 2 t.rows.length (pairs t.rows)), (sl vb 1 t.brk.length (ints t.brk))] := BF; clear BF BE
  refine n4 ?_
  refine s1 AJ (a_4 rfl i_8 (AJ.ev rfl)) fun CB AK => ?_; clear AJ CA
  refine s1 AK (a_3 rfl ty_3 (AK.ev rfl) (O.bk 0 rfl) rfl) fun CC AL => ?_; clear AK CB
  refine s1 AL (a_3 rfl ty_3 (AL.ev rfl) (O.bk 4 rfl) rfl) fun CD s => ?_; clear AL CC
  refine s1 s (q_9 rfl (s.ev rfl) (s.ev rfl)) fun BX K => ?_; clear s CD
  refine n1 ?_
  by_cases BQ : ((t.rows.getD k (0, 0)).1) = x
  ·skip
   rw [decide_eq_true BQ] at K
   refine c_0 K rfl ?_
   refine b_6 ?_
   have AM := K.as [(9, (bptr AT 0)), (7, (bptr C 0)), (6, (bptr B 0))] rfl; clear K
   refine a_5 ?_
   refine s1 AM (a_4 rfl l_1 (AM.ev rfl)) fun CE AN => ?_; clear AM BX
   refine s1 AN (a_3 rfl ty_3 (AN.ev rfl) (O.bk 0 rfl) rfl) fun Ct u => ?_; clear AN CE
   refine s7 u (b_8 O rfl ty_3 (u.ev rfl) (u.ev rfl) (i := 2) rfl (vs := [(Value.int .i64 ((t.rows.getD k (0, 0)).2))]) rfl rfl rfl (Nat.le_of_ble_eq_true rfl)) ?_
   intro _ CS BG AO; clear u
   have BH : Sep NoB w CS [(blk AT 107 [(Value.int .i64 ((t.rows.getD k (0, 0)).1)), (Value.int .i64 ((t.rows.getD k (0, 0)).2))]), (blk C 4 [(Value.bool false)]), (blk B 3 [(Value.int .i64 ((t.rows.getD k (0, 0)).2))]), (blk A 159 [(Value.func (.func 102) #[] #[])]), (blk H 3 [(Value.int .i64 x)]), (blk M 106 [(Value.int .i64 t.frm), (Value.int .i64 t.dst), vr, vb, (Value.int .i64 t.err)]), (g_5 []), (sl vr 2 t.rows.length (pairs t.rows)), (sl vb 1 t.brk.length (ints t.brk))] := BG; clear BG O
   refine s7 AO (b_8 BH rfl ty_4 (AO.ev rfl) (evc _ _) (i := 1) rfl (vs := [(Value.bool true)]) rfl rfl rfl (Nat.le_of_ble_eq_true rfl)) ?_
   intro _ CT BI A9; clear AO
   have BJ : Sep NoB w CT [(blk AT 107 [(Value.int .i64 ((t.rows.getD k (0, 0)).1)), (Value.int .i64 ((t.rows.getD k (0, 0)).2))]), (blk C 4 [(Value.bool true)]), (blk B 3 [(Value.int .i64 ((t.rows.getD k (0, 0)).2))]), (blk A 159 [(Value.func (.func 102) #[] #[])]), (blk H 3 [(Value.int .i64 x)]), (blk M 106 [(Value.int .i64 t.frm), (Value.int .i64 t.dst), vr, vb, (Value.int .i64 t.err)]), (g_5 []), (sl vr 2 t.rows.length (pairs t.rows)), (sl vb 1 t.brk.length (ints t.brk))] := BI; clear BI BH
   refine n1 ?_
   refine c_1 ?_
   refine b_9 ?_
   refine a_6 ?_
   refine a_6 ?_
   refine b_9 ?_
   refine a_6 ?_
   have BK := BJ.gkp (gpc 6 (gpc 0 (gpc 1 (gpc 2 (gpc 3 (gpc 4 (gpc 5 (gpc 7 (gpc 8 gpn))))))))); clear BJ
   refine fin_runM A9 (.inl rfl) BK ?_
   intro C1 AS; clear BK
   refine ⟨_, (d_1 A9 rfl (.cell1 rfl ty_3 (AS.bk 2 rfl) rfl) (.cell1 rfl ty_4 (AS.bk 1 rfl) rfl)), ?_⟩
   have hz := (made_row (k := k) (by omega) (fun i hi => hrw i (by omega)) (by assumption))
   exact ⟨by unfold d_0; rw [hz]; rfl, AS.ext⟩
  skip
  rw [decide_eq_false BQ] at K
  refine b_5 K rfl ?_
  refine c_6 ?_
  refine g_0 ?_
  refine a_9 ?_
  have AP := K.as [(15, (Value.int .i64 (k : Int))), (14, (Value.int .i64 (t.rows.length : Int))), (13, vr), (7, (bptr C 0)), (6, (bptr B 0)), (5, (bptr A 0)), (4, (bptr H 0)), (3, (bptr M 0))] rfl; clear K
  refine a_5 ?_
  refine s1 AP (f_1 rfl (AP.ev rfl) (evc _ _) (by omega) (by omega)) fun CF AQ => ?_; clear AP BX
  refine s1 AQ (a_1 rfl (AQ.ev rfl)) fun Cu Br => ?_; clear AQ CF
  refine e_8 ?_
  have Bs := O.gkp (gpc 1 (gpc 2 (gpc 3 (gpc 4 (gpc 5 (gpc 6 (gpc 7 (gpc 8 gpn)))))))); clear O
  exact a_9 ⟨k + 1, ⟨Br.as _ rfl, Bs, by omega, (fun i hi => by rcases Nat.lt_succ_iff_lt_or_eq.1 hi with h | h; exact hrw i h; subst h; assumption)⟩, by omega⟩
 skip
 rw [decide_eq_false BP] at F
 refine b_5 F rfl ?_
 refine g_3 ?_
 refine b_3 ?_
 refine b_3 ?_
 refine f_2 ?_
 refine a_9 ?_
 refine b_6 ?_
 refine m2 ?_
 refine s1 F (c_4 rfl k_4 (F.ev rfl) (N.bk 4 rfl) (l := [(Value.int .i64 t.frm), (Value.int .i64 t.dst), vr, vb, (Value.int .i64 t.err)]) rfl rfl) fun CG AR => ?_; clear F BW
 refine s2 AR (b_1 rfl en_116 (ev1 (AR.ev rfl)) (pieces_ok t vr vb _ hr.one hb.one)) ?_
 rintro Cv _ C2 ⟨bl93, rfl, BO⟩ BA; have BL := N.y_8 BO rfl; clear BO AR N CG
 refine n1 ?_
 refine c_3 ?_
 have W := BA.as [(27, (Value.func (.func 121) #[] #[(bptr bl93 0)])), (7, (bptr C 0)), (6, (bptr B 0)), (5, (bptr A 0)), (4, (bptr H 0))] rfl; clear BA
 have BM := BL.nilR; clear BL
 have AC := BM.gkp (gpc 7 (gpc 0 (gpc 1 (gpc 2 (gpc 3 (gpc 4 (gpc 5 (gpc 6 (gpc 8 (gpc 9 gpn)))))))))); clear BM
 refine c_rangeG W nilR rfl AC (W.ev rfl) en_121 ((d_3 t).length) (fun q => #[.agg #[.int .i64 (t.rows.getD ((d_3 t).getD q 0) (0, 0)).1, .int .i64 (t.rows.getD ((d_3 t).getD q 0) (0, 0)).2], .agg #[.int .i64 (t.rows.getD ((d_3 t).getD q 0 + 1) (0, 0)).1, .int .i64 (t.rows.getD ((d_3 t).getD q 0 + 1) (0, 0)).2]]) (fun _ => rfl) [rob bl93 106 [.int .i64 t.frm, .int .i64 t.dst, vr, vb, .int .i64 t.err], sl vr 2 t.rows.length (pairs t.rows), sl vb 1 t.brk.length (ints t.brk)] (fun r hr => by simp only [List.mem_cons, List.not_mem_nil, or_false] at hr; rcases hr with rfl | rfl | rfl <;> rfl) (pieces_it bl93 t vr vb hV.len hrl hbl) (fun q L_ => L_ = [(blk bl93 106 [(Value.int .i64 t.frm), (Value.int .i64 t.dst), vr, vb, (Value.int .i64 t.err)]), (blk C 4 [(Value.bool false)]), (blk B 3 [(Value.int .i64 0)]), (blk A 159 [(Value.func (.func 102) #[] #[])]), (blk H 3 [(Value.int .i64 x)]), (blk M 106 [(Value.int .i64 t.frm), (Value.int .i64 t.dst), vr, vb, (Value.int .i64 t.err)]), (sl vr 2 t.rows.length (pairs t.rows)), (sl vb 1 t.brk.length (ints t.brk))] ∧ (∀ j, j < q → l_2 t x ((d_3 t).getD j 0) = false)) (fun L_ => L_ = [(blk bl93 106 [(Value.int .i64 t.frm), (Value.int .i64 t.dst), vr, vb, (Value.int .i64 t.err)]), (blk C 4 [(Value.bool true)]), (blk B 3 [(Value.int .i64 ((d_0 t x).1))]), (blk A 159 [(Value.func (.func 102) #[] #[])]), (blk H 3 [(Value.int .i64 x)]), (blk M 106 [(Value.int .i64 t.frm), (Value.int .i64 t.dst), vr, vb, (Value.int .i64 t.err)]), (sl vr 2 t.rows.length (pairs t.rows)), (sl vb 1 t.brk.length (ints t.brk))] ∧ ((j_3 t x).isSome = true)) (some .ret) ⟨rfl, (fun _ h => absurd h (Nat.not_lt_zero _))⟩ (fun q L_ hI_ G_ W_ r1_ r2_ hW_ => by obtain ⟨rfl, hpc⟩ := hI_; exact (Sep.keep (hW_.to_ro (i := 3) rfl) [2, 3, 9, 10] (by decide) _ rfl rfl)) (fun L_ hI_ G_ W_ r1_ r2_ hW_ => by obtain ⟨rfl, hsm⟩ := hI_; exact (Sep.keep (hW_.to_ro (i := 3) rfl) [2, 3, 9, 10] (by decide) _ rfl rfl)) ?_ ?_ ?_
 ·skip
  intro q hq L_ hL_ G105 CV AD D103 rc104 BY C3 Ax BN; obtain ⟨rfl, hpc⟩ := hL_
  have AU : Fr 62 [] [(29, (Value.agg #[(Value.int .i64 ((t.rows.getD (((d_3 t).getD q 0) + 1) (0, 0)).1)), (Value.int .i64 ((t.rows.getD (((d_3 t).getD q 0) + 1) (0, 0)).2))])), (28, (Value.agg #[(Value.int .i64 ((t.rows.getD (((d_3 t).getD q 0)) (0, 0)).1)), (Value.int .i64 ((t.rows.getD (((d_3 t).getD q 0)) (0, 0)).2))])), (27, (Value.func (.func 121) #[] #[(bptr bl93 0)])), (7, (bptr C 0)), (6, (bptr B 0)), (5, (bptr A 0)), (4, (bptr H 0))] BY := by rw [Ax]; exact Fr.round2 W (by decide) (by decide)
  clear Ax AC
  have hgq : ((d_3 t).getD q 0) < t.rows.length - 1 := (good_mem hq).1; have hbn := hV.bnd _ (show ((d_3 t).getD q 0) < t.rows.length by omega); have hbn1 := hV.bnd (((d_3 t).getD q 0) + 1) (by omega); unfold tx ty at hbn hbn1
  refine m2 ?_
  refine s2 AU (d_9 BN rfl x_2 (cs := [(Value.int .i64 0), (Value.int .i64 0)]) rfl) ?_
  rintro Bb _ Cl ⟨E, rfl, Af⟩ P; clear AU BN BY
  refine s7 P (b_8 Af rfl h_9 (P.ev rfl) (P.ev rfl) (i := 0) rfl (vs := [(Value.int .i64 ((t.rows.getD (((d_3 t).getD q 0)) (0, 0)).1)), (Value.int .i64 ((t.rows.getD (((d_3 t).getD q 0)) (0, 0)).2))]) rfl rfl rfl (Nat.le_of_ble_eq_true rfl)) ?_
  intro _ Bt Ag AV; clear P
  have Ah : Sep NoB w Bt [(blk E 107 [(Value.int .i64 ((t.rows.getD (((d_3 t).getD q 0)) (0, 0)).1)), (Value.int .i64 ((t.rows.getD (((d_3 t).getD q 0)) (0, 0)).2))]), (obR AD (.loop (rc104 .ready none))), (g_5 (D103 :: [])), G105, (blk bl93 106 [(Value.int .i64 t.frm), (Value.int .i64 t.dst), vr, vb, (Value.int .i64 t.err)]), (blk C 4 [(Value.bool false)]), (blk B 3 [(Value.int .i64 0)]), (blk A 159 [(Value.func (.func 102) #[] #[])]), (blk H 3 [(Value.int .i64 x)]), (blk M 106 [(Value.int .i64 t.frm), (Value.int .i64 t.dst), vr, vb, (Value.int .i64 t.err)]), (sl vr 2 t.rows.length (pairs t.rows)), (sl vb 1 t.brk.length (ints t.brk))] := Ag; clear Ag Af
  refine n3 ?_
  refine s2 AV (d_9 Ah rfl x_2 (cs := [(Value.int .i64 0), (Value.int .i64 0)]) rfl) ?_
  rintro Bc _ Cm ⟨J, rfl, Ai⟩ Q; clear AV Ah Bb
  refine s7 Q (b_8 Ai rfl h_9 (Q.ev rfl) (Q.ev rfl) (i := 0) rfl (vs := [(Value.int .i64 ((t.rows.getD (((d_3 t).getD q 0) + 1) (0, 0)).1)), (Value.int .i64 ((t.rows.getD (((d_3 t).getD q 0) + 1) (0, 0)).2))]) rfl rfl rfl (Nat.le_of_ble_eq_true rfl)) ?_
  intro _ Bu Aj X; clear Q
  have Ak : Sep NoB w Bu [(blk J 107 [(Value.int .i64 ((t.rows.getD (((d_3 t).getD q 0) + 1) (0, 0)).1)), (Value.int .i64 ((t.rows.getD (((d_3 t).getD q 0) + 1) (0, 0)).2))]), (blk E 107 [(Value.int .i64 ((t.rows.getD (((d_3 t).getD q 0)) (0, 0)).1)), (Value.int .i64 ((t.rows.getD (((d_3 t).getD q 0)) (0, 0)).2))]), (obR AD (.loop (rc104 .ready none))), (g_5 (D103 :: [])), G105, (blk bl93 106 [(Value.int .i64 t.frm), (Value.int .i64 t.dst), vr, vb, (Value.int .i64 t.err)]), (blk C 4 [(Value.bool false)]), (blk B 3 [(Value.int .i64 0)]), (blk A 159 [(Value.func (.func 102) #[] #[])]), (blk H 3 [(Value.int .i64 x)]), (blk M 106 [(Value.int .i64 t.frm), (Value.int .i64 t.dst), vr, vb, (Value.int .i64 t.err)]), (sl vr 2 t.rows.length (pairs t.rows)), (sl vb 1 t.brk.length (ints t.brk))] := Aj; clear Aj Ai
  refine e_8 ?_
  have Al := Ak.gkp (gpc 2 (gpc 3 (gpc 4 (gpc 0 (gpc 1 (gpc 5 (gpc 6 (gpc 7 (gpc 8 (gpc 9 (gpc 10 (gpc 11 (gpc 12 gpn))))))))))))); clear Ak
  refine ⟨rfl, _, Al, ?_⟩; intro Cn D; clear Al
  refine c_3 ?_
  refine m2 ?_
  refine s1 X (a_4 rfl i_8 (X.ev rfl)) fun Bd Y => ?_; clear X Bc
  refine s1 Y (a_3 rfl ty_3 (Y.ev rfl) (D.bk 4 rfl) rfl) fun Be Z => ?_; clear Y Bd
  refine s1 Z (a_3 rfl ty_3 (Z.ev rfl) (D.bk 9 rfl) rfl) fun Bf R => ?_; clear Z Be
  refine s1 R (f_5 rfl (R.ev rfl) (R.ev rfl)) fun Bg b => ?_; clear R Bf
  refine s1 b (a_1 rfl (b.ev rfl)) fun A0 I => ?_; clear b Bg
  by_cases Ay : ((t.rows.getD (((d_3 t).getD q 0)) (0, 0)).1) < x
  ·skip
   rw [decide_eq_true Ay] at I
   refine s5 I (a_3 rfl ty_3 (I.ev rfl) (D.bk 9 rfl) rfl) fun Bh c => ?_; clear I A0
   refine s5 c (a_4 rfl i_8 (c.ev rfl)) fun Bi d => ?_; clear c Bh
   refine s5 d (a_3 rfl ty_3 (d.ev rfl) (D.bk 3 rfl) rfl) fun Bj S => ?_; clear d Bi
   refine s5 S (f_5 rfl (S.ev rfl) (S.ev rfl)) fun Bk T => ?_; clear S Bj
   refine s1 T (b_4 rfl (T.ev rfl) (T.ev rfl)) fun CX L => ?_; clear T Bk
   refine n1 ?_
   by_cases Az : x < ((t.rows.getD (((d_3 t).getD q 0) + 1) (0, 0)).1)
   ·skip
    rw [decide_eq_true Az] at L
    have hpb := piece_bds (v := x) (k := ((d_3 t).getD q 0)) hV (by omega) (by unfold tx; omega) (by unfold tx; omega); unfold pieceN pieceD tx ty at hpb; have hdb := downF_bd hpb.1 hpb.2; have hub := upF_bd hpb.1 hpb.2
    refine c_0 L rfl ?_
    refine b_6 ?_
    have AW := L.as [(11, (bptr J 0)), (10, (bptr E 0)), (7, (bptr C 0)), (6, (bptr B 0)), (5, (bptr A 0)), (4, (bptr H 0))] rfl; clear L
    have AX := AW.as [(11, (bptr J 0)), (10, (bptr E 0)), (7, (bptr C 0)), (6, (bptr B 0)), (5, (bptr A 0)), (4, (bptr H 0))] rfl; clear AW
    refine f_9 mixed AX D 21 [[], [0], [], [2], [], [], [5], [4, 6], [], [8], [], [10], [9, 11], [7, 12], [], [14], [], [16], [15, 17], [13, 18], [3, 19]] [(Yd.val (bptr E 1)), (Yd.val (Value.int .i64 ((t.rows.getD (((d_3 t).getD q 0)) (0, 0)).2))), (Yd.val (bptr A 0)), (Yd.val (Value.func (.func 102) #[] #[])), (Yd.val (Value.int .i64 x)), (Yd.val (bptr E 0)), (Yd.val (Value.int .i64 ((t.rows.getD (((d_3 t).getD q 0)) (0, 0)).1))), (Yd.val (Value.int .i64 (x - ((t.rows.getD (((d_3 t).getD q 0)) (0, 0)).1)))), (Yd.val (bptr J 1)), (Yd.val (Value.int .i64 ((t.rows.getD (((d_3 t).getD q 0) + 1) (0, 0)).2))), (Yd.val (bptr E 1)), (Yd.val (Value.int .i64 ((t.rows.getD (((d_3 t).getD q 0)) (0, 0)).2))), (Yd.val (Value.int .i64 (((t.rows.getD (((d_3 t).getD q 0) + 1) (0, 0)).2) - ((t.rows.getD (((d_3 t).getD q 0)) (0, 0)).2)))), (Yd.val (Value.int .i64 ((x - ((t.rows.getD (((d_3 t).getD q 0)) (0, 0)).1)) * (((t.rows.getD (((d_3 t).getD q 0) + 1) (0, 0)).2) - ((t.rows.getD (((d_3 t).getD q 0)) (0, 0)).2))))), (Yd.val (bptr J 0)), (Yd.val (Value.int .i64 ((t.rows.getD (((d_3 t).getD q 0) + 1) (0, 0)).1))), (Yd.val (bptr E 0)), (Yd.val (Value.int .i64 ((t.rows.getD (((d_3 t).getD q 0)) (0, 0)).1))), (Yd.val (Value.int .i64 (((t.rows.getD (((d_3 t).getD q 0) + 1) (0, 0)).1) - ((t.rows.getD (((d_3 t).getD q 0)) (0, 0)).1)))), (Yd.val (Value.agg #[(Value.int .i64 ((x - ((t.rows.getD (((d_3 t).getD q 0)) (0, 0)).1)) * (((t.rows.getD (((d_3 t).getD q 0) + 1) (0, 0)).2) - ((t.rows.getD (((d_3 t).getD q 0)) (0, 0)).2)))), (Value.int .i64 (((t.rows.getD (((d_3 t).getD q 0) + 1) (0, 0)).1) - ((t.rows.getD (((d_3 t).getD q 0)) (0, 0)).1)))])), (Yd.val (Value.int .i64 (v_6 ((x - ((t.rows.getD (((d_3 t).getD q 0)) (0, 0)).1)) * (((t.rows.getD (((d_3 t).getD q 0) + 1) (0, 0)).2) - ((t.rows.getD (((d_3 t).getD q 0)) (0, 0)).2))) (((t.rows.getD (((d_3 t).getD q 0) + 1) (0, 0)).1) - ((t.rows.getD (((d_3 t).getD q 0)) (0, 0)).1)))))] (by decide +kernel) rfl rfl ?_ ?_
    ·skip
     refine ⟨fun a w hA hS hd => ?_, ?_⟩
     ·skip
      exact d_7 rfl (dv (a_4 rfl l_1 (hA.ev rfl)) hS rfl)
     refine ⟨fun a w hA hS hd => ?_, ?_⟩
     ·skip
      have e0 := e_4 (hd 0 (by decide)) rfl (fun _ h => h)
      exact d_7 rfl (dv (a_3 rfl ty_3 (c_7 e0) (hS.bk 4 rfl) rfl) hS rfl)
     refine ⟨fun a w hA hS hd => ?_, ?_⟩
     ·skip
      exact d_7 rfl (dv (a_4 rfl fd_159_0 (hA.ev rfl)) hS rfl)
     refine ⟨fun a w hA hS hd => ?_, ?_⟩
     ·skip
      have e2 := e_4 (hd 2 (by decide)) rfl (fun _ h => h)
      exact d_7 rfl (dv (a_3 rfl ty_154 (c_7 e2) (hS.bk 8 rfl) rfl) hS rfl)
     refine ⟨fun a w hA hS hd => ?_, ?_⟩
     ·skip
      exact d_7 rfl (dv (a_3 rfl ty_3 (hA.ev rfl) (hS.bk 9 rfl) rfl) hS rfl)
     refine ⟨fun a w hA hS hd => ?_, ?_⟩
     ·skip
      exact d_7 rfl (dv (a_4 rfl i_8 (hA.ev rfl)) hS rfl)
     refine ⟨fun a w hA hS hd => ?_, ?_⟩
     ·skip
      have e5 := e_4 (hd 5 (by decide)) rfl (fun _ h => h)
      exact d_7 rfl (dv (a_3 rfl ty_3 (c_7 e5) (hS.bk 4 rfl) rfl) hS rfl)
     refine ⟨fun a w hA hS hd => ?_, ?_⟩
     ·skip
      have e4 := e_4 (hd 4 (by decide)) rfl (fun _ h => h)
      have e6 := e_4 (hd 6 (by decide)) rfl (fun _ h => h)
      exact d_7 rfl (dv (g_6 rfl (c_7 e4) (c_7 e6) (by omega) (by omega)) hS rfl)
     refine ⟨fun a w hA hS hd => ?_, ?_⟩
     ·skip
      exact d_7 rfl (dv (a_4 rfl l_1 (hA.ev rfl)) hS rfl)
     refine ⟨fun a w hA hS hd => ?_, ?_⟩
     ·skip
      have e8 := e_4 (hd 8 (by decide)) rfl (fun _ h => h)
      exact d_7 rfl (dv (a_3 rfl ty_3 (c_7 e8) (hS.bk 3 rfl) rfl) hS rfl)
     refine ⟨fun a w hA hS hd => ?_, ?_⟩
     ·skip
      exact d_7 rfl (dv (a_4 rfl l_1 (hA.ev rfl)) hS rfl)
     refine ⟨fun a w hA hS hd => ?_, ?_⟩
     ·skip
      have CH := e_4 (hd 10 (by decide)) rfl (fun _ h => h)
      exact d_7 rfl (dv (a_3 rfl ty_3 (c_7 CH) (hS.bk 4 rfl) rfl) hS rfl)
     refine ⟨fun a w hA hS hd => ?_, ?_⟩
     ·skip
      have e9 := e_4 (hd 9 (by decide)) rfl (fun _ h => h)
      have CI := e_4 (hd 11 (by decide)) rfl (fun _ h => h)
      exact d_7 rfl (dv (g_6 rfl (c_7 e9) (c_7 CI) (by omega) (by omega)) hS rfl)
     refine ⟨fun a w hA hS hd => ?_, ?_⟩
     ·skip
      have e7 := e_4 (hd 7 (by decide)) rfl (fun _ h => h)
      have CJ := e_4 (hd 12 (by decide)) rfl (fun _ h => h)
      exact d_7 rfl (dv (op_mul rfl (c_7 e7) (c_7 CJ) (by omega) (by omega)) hS rfl)
     refine ⟨fun a w hA hS hd => ?_, ?_⟩
     ·skip
      exact d_7 rfl (dv (a_4 rfl i_8 (hA.ev rfl)) hS rfl)
     refine ⟨fun a w hA hS hd => ?_, ?_⟩
     ·skip
      have CL := e_4 (hd 14 (by decide)) rfl (fun _ h => h)
      exact d_7 rfl (dv (a_3 rfl ty_3 (c_7 CL) (hS.bk 3 rfl) rfl) hS rfl)
     refine ⟨fun a w hA hS hd => ?_, ?_⟩
     ·skip
      exact d_7 rfl (dv (a_4 rfl i_8 (hA.ev rfl)) hS rfl)
     refine ⟨fun a w hA hS hd => ?_, ?_⟩
     ·skip
      have CN := e_4 (hd 16 (by decide)) rfl (fun _ h => h)
      exact d_7 rfl (dv (a_3 rfl ty_3 (c_7 CN) (hS.bk 4 rfl) rfl) hS rfl)
     refine ⟨fun a w hA hS hd => ?_, ?_⟩
     ·skip
      have CM := e_4 (hd 15 (by decide)) rfl (fun _ h => h)
      have CO := e_4 (hd 17 (by decide)) rfl (fun _ h => h)
      exact d_7 rfl (dv (g_6 rfl (c_7 CM) (c_7 CO) (by omega) (by omega)) hS rfl)
     refine ⟨fun a w hA hS hd => ?_, ?_⟩
     ·skip
      have CK := e_4 (hd 13 (by decide)) rfl (fun _ h => h)
      have CP := e_4 (hd 18 (by decide)) rfl (fun _ h => h)
      exact d_7 rfl (dv (e_0 rfl (pv2 (c_7 CK) (c_7 CP)) (bd_157_0i_1i _ _)) hS rfl)
     refine ⟨fun a w hA hS hd => ?_, ?_⟩
     ·skip
      have e3 := e_4 (hd 3 (by decide)) rfl (fun _ h => h)
      have CQ := e_4 (hd 19 (by decide)) rfl (fun _ h => h)
      exact d_7 rfl (dx (j_8 rfl (c_7 e3) en_102 (ev1 (c_7 CQ)) (down_ok _ _ _ (by omega) (by omega))) hS (fun _ => rfl))
     trivial
    intro Bl Co AY Am y; clear AX D
    have AZ := AY.add (hz y 1); clear AY
    have U := AZ.add (hz y 20); clear AZ
    clear y
    refine s1 U (f_1 rfl (U.ev rfl) (U.ev rfl) (by omega) (by omega)) fun Bm BR => ?_; clear U Bl
    have hvl : ((t.rows.getD (((d_3 t).getD q 0)) (0, 0)).2) + (v_6 ((x - ((t.rows.getD (((d_3 t).getD q 0)) (0, 0)).1)) * (((t.rows.getD (((d_3 t).getD q 0) + 1) (0, 0)).2) - ((t.rows.getD (((d_3 t).getD q 0)) (0, 0)).2))) (((t.rows.getD (((d_3 t).getD q 0) + 1) (0, 0)).1) - ((t.rows.getD (((d_3 t).getD q 0)) (0, 0)).1))) = (d_0 t x).1 := by unfold d_0; rw [made_good (fun i hi => hrw i (by omega)) hq hpc (good_piece hq (by assumption) (by assumption))]; rfl
    have V : Fr 62 [] [(61, (Value.int .i64 ((d_0 t x).1))), (60, (Value.int .i64 (v_6 ((x - ((t.rows.getD (((d_3 t).getD q 0)) (0, 0)).1)) * (((t.rows.getD (((d_3 t).getD q 0) + 1) (0, 0)).2) - ((t.rows.getD (((d_3 t).getD q 0)) (0, 0)).2))) (((t.rows.getD (((d_3 t).getD q 0) + 1) (0, 0)).1) - ((t.rows.getD (((d_3 t).getD q 0)) (0, 0)).1))))), (41, (Value.int .i64 ((t.rows.getD (((d_3 t).getD q 0)) (0, 0)).2))), (11, (bptr J 0)), (10, (bptr E 0)), (7, (bptr C 0)), (6, (bptr B 0)), (5, (bptr A 0)), (4, (bptr H 0))] Bm := by rw [← hvl]; exact BR
    refine s7 V (b_8 Am rfl ty_3 (V.ev rfl) (V.ev rfl) (i := 7) rfl (vs := [(Value.int .i64 ((d_0 t x).1))]) rfl rfl rfl (Nat.le_of_ble_eq_true rfl)) ?_
    intro _ Bv An e; clear V
    have Ao : Sep NoB w Bv [(obR AD (.loop (rc104 .busy none))), (g_5 (D103 :: [])), G105, (blk J 107 [(Value.int .i64 ((t.rows.getD (((d_3 t).getD q 0) + 1) (0, 0)).1)), (Value.int .i64 ((t.rows.getD (((d_3 t).getD q 0) + 1) (0, 0)).2))]), (blk E 107 [(Value.int .i64 ((t.rows.getD (((d_3 t).getD q 0)) (0, 0)).1)), (Value.int .i64 ((t.rows.getD (((d_3 t).getD q 0)) (0, 0)).2))]), (blk bl93 106 [(Value.int .i64 t.frm), (Value.int .i64 t.dst), vr, vb, (Value.int .i64 t.err)]), (blk C 4 [(Value.bool false)]), (blk B 3 [(Value.int .i64 ((d_0 t x).1))]), (blk A 159 [(Value.func (.func 102) #[] #[])]), (blk H 3 [(Value.int .i64 x)]), (blk M 106 [(Value.int .i64 t.frm), (Value.int .i64 t.dst), vr, vb, (Value.int .i64 t.err)]), (sl vr 2 t.rows.length (pairs t.rows)), (sl vb 1 t.brk.length (ints t.brk))] := An; clear An Am
    refine s7 e (b_8 Ao rfl ty_4 (e.ev rfl) (evc _ _) (i := 6) rfl (vs := [(Value.bool true)]) rfl rfl rfl (Nat.le_of_ble_eq_true rfl)) ?_
    intro _ Bw Ap CU; clear e
    have Aq : Sep NoB w Bw [(obR AD (.loop (rc104 .busy none))), (g_5 (D103 :: [])), G105, (blk J 107 [(Value.int .i64 ((t.rows.getD (((d_3 t).getD q 0) + 1) (0, 0)).1)), (Value.int .i64 ((t.rows.getD (((d_3 t).getD q 0) + 1) (0, 0)).2))]), (blk E 107 [(Value.int .i64 ((t.rows.getD (((d_3 t).getD q 0)) (0, 0)).1)), (Value.int .i64 ((t.rows.getD (((d_3 t).getD q 0)) (0, 0)).2))]), (blk bl93 106 [(Value.int .i64 t.frm), (Value.int .i64 t.dst), vr, vb, (Value.int .i64 t.err)]), (blk C 4 [(Value.bool true)]), (blk B 3 [(Value.int .i64 ((d_0 t x).1))]), (blk A 159 [(Value.func (.func 102) #[] #[])]), (blk H 3 [(Value.int .i64 x)]), (blk M 106 [(Value.int .i64 t.frm), (Value.int .i64 t.dst), vr, vb, (Value.int .i64 t.err)]), (sl vr 2 t.rows.length (pairs t.rows)), (sl vb 1 t.brk.length (ints t.brk))] := Ap; clear Ap Ao
    refine n1 ?_
    refine c_1 ?_
    refine b_9 ?_
    have BT := Aq.gkp (gpc 0 (gpc 1 (gpc 2 (gpc 5 (gpc 6 (gpc 7 (gpc 8 (gpc 9 (gpc 10 (gpc 11 (gpc 12 gpn))))))))))); clear Aq
    exact re_ret rfl ⟨_, rfl, ⟨rfl, (by rw [made_good (fun i hi => hrw i (by omega)) hq hpc (good_piece hq (by assumption) (by assumption))]; rfl)⟩⟩ BT
   skip
   rw [decide_eq_false Az] at L
   refine b_5 L rfl ?_
   refine c_6 ?_
   refine g_0 ?_
   have BU := D.gkp (gpc 0 (gpc 1 (gpc 2 (gpc 5 (gpc 6 (gpc 7 (gpc 8 (gpc 9 (gpc 10 (gpc 11 (gpc 12 gpn))))))))))); clear D
   exact re_n ⟨_, rfl, ⟨rfl, (fun j hj => by rcases Nat.lt_succ_iff_lt_or_eq.1 hj with h | h; exact hpc j h; subst h; first | exact l_3 (.inl (by assumption)) | exact l_3 (.inr (.inl (by assumption))))⟩⟩ BU
  skip
  rw [decide_eq_false Ay] at I
  refine s3 I fun Bn Aa => ?_; clear I A0
  refine s3 Aa fun Bo Ab => ?_; clear Aa Bn
  refine s3 Ab fun Bp Ac => ?_; clear Ab Bo
  refine s3 Ac fun Bq f => ?_; clear Ac Bp
  refine s1 f (c_8 rfl (f.ev rfl) (evc _ _)) fun CY BS => ?_; clear f Bq
  refine n1 ?_
  refine b_5 BS rfl ?_
  refine c_6 ?_
  refine g_0 ?_
  have BV := D.gkp (gpc 0 (gpc 1 (gpc 2 (gpc 5 (gpc 6 (gpc 7 (gpc 8 (gpc 9 (gpc 10 (gpc 11 (gpc 12 gpn))))))))))); clear D
  exact re_n ⟨_, rfl, ⟨rfl, (fun j hj => by rcases Nat.lt_succ_iff_lt_or_eq.1 hj with h | h; exact hpc j h; subst h; first | exact l_3 (.inl (by assumption)) | exact l_3 (.inr (.inl (by assumption))))⟩⟩ BV
 ·skip
  intro L_ hL_ D188 CZ Cp g Ar; obtain ⟨rfl, hpc⟩ := hL_; clear W AC
  refine g_0 ?_
  refine a_9 ?_
  refine m2 ?_
  refine s7 g (b_8 Ar rfl ty_3 (g.ev rfl) (evc _ _) (i := 4) rfl (vs := [(Value.int .i64 0)]) rfl rfl rfl (Nat.le_of_ble_eq_true rfl)) ?_
  intro _ Bx As m; clear g
  have At : Sep NoB w Bx [(g_5 (D188 :: [])), nilR, (blk bl93 106 [(Value.int .i64 t.frm), (Value.int .i64 t.dst), vr, vb, (Value.int .i64 t.err)]), (blk C 4 [(Value.bool false)]), (blk B 3 [(Value.int .i64 0)]), (blk A 159 [(Value.func (.func 102) #[] #[])]), (blk H 3 [(Value.int .i64 x)]), (blk M 106 [(Value.int .i64 t.frm), (Value.int .i64 t.dst), vr, vb, (Value.int .i64 t.err)]), (sl vr 2 t.rows.length (pairs t.rows)), (sl vb 1 t.brk.length (ints t.brk))] := As; clear As Ar
  refine s7 m (b_8 At rfl ty_4 (m.ev rfl) (evc _ _) (i := 3) rfl (vs := [(Value.bool false)]) rfl rfl rfl (Nat.le_of_ble_eq_true rfl)) ?_
  intro _ By Au Ad; clear m
  have Av : Sep NoB w By [(g_5 (D188 :: [])), nilR, (blk bl93 106 [(Value.int .i64 t.frm), (Value.int .i64 t.dst), vr, vb, (Value.int .i64 t.err)]), (blk C 4 [(Value.bool false)]), (blk B 3 [(Value.int .i64 0)]), (blk A 159 [(Value.func (.func 102) #[] #[])]), (blk H 3 [(Value.int .i64 x)]), (blk M 106 [(Value.int .i64 t.frm), (Value.int .i64 t.dst), vr, vb, (Value.int .i64 t.err)]), (sl vr 2 t.rows.length (pairs t.rows)), (sl vb 1 t.brk.length (ints t.brk))] := Au; clear Au At
  refine n1 ?_
  refine c_1 ?_
  refine fin_runM Ad (.inl rfl) Av ?_
  intro Cq z; clear Av
  refine ⟨_, (d_1 Ad rfl (.cell1 rfl ty_3 (z.bk 3 rfl) rfl) (.cell1 rfl ty_4 (z.bk 2 rfl) rfl)), ?_⟩
  have hz := (made_goodno (fun i hi => hrw i (by omega)) (fun i hi => hpc i (by omega)))
  exact ⟨by unfold d_0; rw [hz]; rfl, z.ext⟩
 skip
 intro c_ hc_; cases hc_
 intro L_ hL_ D203 Ca Cr Ae Aw; obtain ⟨rfl, hsm⟩ := hL_; clear W AC
 refine c_1 ?_
 refine b_9 ?_
 refine a_6 ?_
 refine fin_runM Ae (.inl rfl) Aw ?_
 intro Cs AA; clear Aw
 refine ⟨_, (d_1 Ae rfl (.cell1 rfl ty_3 (AA.bk 3 rfl) rfl) (.cell1 rfl ty_4 (AA.bk 2 rfl) rfl)), ?_⟩
 exact ⟨by rw [hsm], AA.ext⟩
theorem makes_up (t : TabD) (vr vb : Value) (w : World) (hr : SlAt w vr 2 t.rows.length (pairs t.rows)) (hb : SlAt w vb 1 t.brk.length (ints t.brk)) (hrl : t.rows.length ≤ 1000000) (hbl : t.brk.length ≤ 1000000) (n : Int) (hV : TabV n t) (x : Int) :
  Calls Try.prog 101 #[(Value.agg #[(Value.int .i64 t.frm), (Value.int .i64 t.dst), vr, vb, (Value.int .i64 t.err)]), (Value.int .i64 x), (Value.agg #[(Value.func (.func 103) #[] #[])])] w (Ret fun v w' => v = .tuple #[.int .i64 (d_0 t x).2, .bool (j_3 t x).isSome] ∧ Ext NoB w w') := by
 refine calls_enterM Try.func101 rfl fun a0 AE => ?_
 replace AE : Fr 62 (marks []) [(0, (Value.agg #[(Value.int .i64 t.frm), (Value.int .i64 t.dst), vr, vb, (Value.int .i64 t.err)])), (1, (Value.int .i64 x)), (2, (Value.agg #[(Value.func (.func 103) #[] #[])]))] a0 := AE
 have BZ : Sep NoB w w [(g_5 []), (sl vr 2 t.rows.length (pairs t.rows)), (sl vb 1 t.brk.length (ints t.brk))] := sep_marks (e_3 ⟨rfl, hr, rfl, hb, trivial⟩)
 refine m2 ?_
 refine s2 AE (e_7 BZ rfl (AE.ev rfl) (cs := [(Value.int .i64 t.frm), (Value.int .i64 t.dst), vr, vb, (Value.int .i64 t.err)]) rfl) ?_
 rintro a1 _ w3 ⟨M, rfl, Ba⟩ A3; clear AE BZ a0
 refine s2 A3 (e_7 Ba rfl (A3.ev rfl) (cs := [(Value.int .i64 x)]) rfl) ?_
 rintro a6 _ w8 ⟨H, rfl, BB⟩ A8; clear A3 Ba a1
 refine s2 A8 (e_7 BB rfl (A8.ev rfl) (cs := [(Value.func (.func 103) #[] #[])]) rfl) ?_
 rintro B0 _ Cw ⟨A, rfl, BC⟩ A1; clear A8 BB a6
 refine s2 A1 (d_9 BC rfl ze_3 (cs := [(Value.int .i64 0)]) rfl) ?_
 rintro B1 _ Cx ⟨B, rfl, BD⟩ A2; clear A1 BC B0
 refine s2 A2 (d_9 BD rfl ze_4 (cs := [(Value.bool false)]) rfl) ?_
 rintro B2 _ Cy ⟨C, rfl, AB⟩ AF; clear A2 BD B1
 refine n2 ?_
 refine m2 ?_
 refine s1 AF (a_4 rfl i_7 (AF.ev rfl)) fun B3 AG => ?_; clear AF B2
 refine s1 AG (a_3 rfl n_2 (AG.ev rfl) (AB.bk 4 rfl) rfl) fun B4 AH => ?_; clear AG B3
 refine s1 AH (d_2 rfl j_9 (AH.ev rfl) (AB.sk 6 rfl)) fun B5 A4 => ?_; clear AH B4
 refine s1 A4 (a_1 rfl (evc _ _)) fun B6 A5 => ?_; clear A4 B5
 refine n1 ?_
 refine c_3 ?_
 have A6 := A5.as [(15, (Value.int .i64 0)), (14, (Value.int .i64 (t.rows.length : Int))), (13, vr), (7, (bptr C 0)), (6, (bptr B 0)), (5, (bptr A 0)), (4, (bptr H 0)), (3, (bptr M 0))] rfl; clear A5
 refine g_4 (G := Nat) (fun (k : Nat) a_ w_ => Fr 62 (marks []) [(15, (Value.int .i64 (k : Int))), (14, (Value.int .i64 (t.rows.length : Int))), (13, vr), (7, (bptr C 0)), (6, (bptr B 0)), (5, (bptr A 0)), (4, (bptr H 0)), (3, (bptr M 0))] a_ ∧ Sep NoB w w_ [(blk C 4 [(Value.bool false)]), (blk B 3 [(Value.int .i64 0)]), (blk A 159 [(Value.func (.func 103) #[] #[])]), (blk H 3 [(Value.int .i64 x)]), (blk M 106 [(Value.int .i64 t.frm), (Value.int .i64 t.dst), vr, vb, (Value.int .i64 t.err)]), (g_5 []), (sl vr 2 t.rows.length (pairs t.rows)), (sl vb 1 t.brk.length (ints t.brk))] ∧ (k ≤ t.rows.length) ∧ (∀ i, i < k → ¬ tx t i = x)) (fun k => t.rows.length - k) 0 ⟨A6.as _ rfl, AB, by omega, (fun _ h => absurd h (Nat.not_lt_zero _))⟩ ?_
 clear A6 AB B6
 rintro k B7 Cz ⟨o, N, hkk, hrw⟩
 refine m2 ?_
 refine s1 o (f_5 rfl (o.ev rfl) (o.ev rfl)) fun BW F => ?_; clear o B7
 refine n2 ?_
 by_cases BP : (k : Int) < (t.rows.length : Int)
 ·skip
  rw [decide_eq_true BP] at F
  refine c_0 F rfl ?_
  refine c_6 ?_
  refine a_9 ?_
  refine b_6 ?_
  refine c_3 ?_
  refine m2 ?_
  refine s1 F (b_2 rfl j_9 h_9 (F.ev rfl) (i := k) (F.ev rfl) (N.sk 6 rfl) (by decide) (by omega)) fun B8 AI => ?_; clear F BW
  refine s1 AI (e_2 rfl h_9 (AI.ev rfl) (N.sk 6 rfl) (h_5 (by omega)) rfl (by decide)) fun B9 A7 => ?_; clear AI B8
  refine s2 A7 (d_9 N rfl x_2 (cs := [(Value.int .i64 0), (Value.int .i64 0)]) rfl) ?_
  rintro CA _ C0 ⟨AT, rfl, BE⟩ p; clear A7 N B9
  refine s7 p (b_8 BE rfl h_9 (p.ev rfl) (p.ev rfl) (i := 0) rfl (vs := [(Value.int .i64 ((t.rows.getD k (0, 0)).1)), (Value.int .i64 ((t.rows.getD k (0, 0)).2))]) rfl rfl rfl (Nat.le_of_ble_eq_true rfl)) ?_
  intro _ CR BF AJ; clear p
  have O : Sep NoB w CR [(blk AT 107 [(Value.int .i64 ((t.rows.getD k (0, 0)).1)), (Value.int .i64 ((t.rows.getD k (0, 0)).2))]), (blk C 4 [(Value.bool false)]), (blk B 3 [(Value.int .i64 0)]), (blk A 159 [(Value.func (.func 103) #[] #[])]), (blk H 3 [(Value.int .i64 x)]), (blk M 106 [(Value.int .i64 t.frm), (Value.int .i64 t.dst), vr, vb, (Value.int .i64 t.err)]), (g_5 []), (sl vr 2 t.rows.length (pairs t.rows)), (sl vb 1 t.brk.length (ints t.brk))] := BF; clear BF BE
  refine n4 ?_
  refine s1 AJ (a_4 rfl i_8 (AJ.ev rfl)) fun CB AK => ?_; clear AJ CA
  refine s1 AK (a_3 rfl ty_3 (AK.ev rfl) (O.bk 0 rfl) rfl) fun CC AL => ?_; clear AK CB
  refine s1 AL (a_3 rfl ty_3 (AL.ev rfl) (O.bk 4 rfl) rfl) fun CD s => ?_; clear AL CC
  refine s1 s (q_9 rfl (s.ev rfl) (s.ev rfl)) fun BX K => ?_; clear s CD
  refine n1 ?_
  by_cases BQ : ((t.rows.getD k (0, 0)).1) = x
  ·skip
   rw [decide_eq_true BQ] at K
   refine c_0 K rfl ?_
   refine b_6 ?_
   have AM := K.as [(9, (bptr AT 0)), (7, (bptr C 0)), (6, (bptr B 0))] rfl; clear K
   refine a_5 ?_
   refine s1 AM (a_4 rfl l_1 (AM.ev rfl)) fun CE AN => ?_; clear AM BX
   refine s1 AN (a_3 rfl ty_3 (AN.ev rfl) (O.bk 0 rfl) rfl) fun Ct u => ?_; clear AN CE
   refine s7 u (b_8 O rfl ty_3 (u.ev rfl) (u.ev rfl) (i := 2) rfl (vs := [(Value.int .i64 ((t.rows.getD k (0, 0)).2))]) rfl rfl rfl (Nat.le_of_ble_eq_true rfl)) ?_
   intro _ CS BG AO; clear u
   have BH : Sep NoB w CS [(blk AT 107 [(Value.int .i64 ((t.rows.getD k (0, 0)).1)), (Value.int .i64 ((t.rows.getD k (0, 0)).2))]), (blk C 4 [(Value.bool false)]), (blk B 3 [(Value.int .i64 ((t.rows.getD k (0, 0)).2))]), (blk A 159 [(Value.func (.func 103) #[] #[])]), (blk H 3 [(Value.int .i64 x)]), (blk M 106 [(Value.int .i64 t.frm), (Value.int .i64 t.dst), vr, vb, (Value.int .i64 t.err)]), (g_5 []), (sl vr 2 t.rows.length (pairs t.rows)), (sl vb 1 t.brk.length (ints t.brk))] := BG; clear BG O
   refine s7 AO (b_8 BH rfl ty_4 (AO.ev rfl) (evc _ _) (i := 1) rfl (vs := [(Value.bool true)]) rfl rfl rfl (Nat.le_of_ble_eq_true rfl)) ?_
   intro _ CT BI A9; clear AO
   have BJ : Sep NoB w CT [(blk AT 107 [(Value.int .i64 ((t.rows.getD k (0, 0)).1)), (Value.int .i64 ((t.rows.getD k (0, 0)).2))]), (blk C 4 [(Value.bool true)]), (blk B 3 [(Value.int .i64 ((t.rows.getD k (0, 0)).2))]), (blk A 159 [(Value.func (.func 103) #[] #[])]), (blk H 3 [(Value.int .i64 x)]), (blk M 106 [(Value.int .i64 t.frm), (Value.int .i64 t.dst), vr, vb, (Value.int .i64 t.err)]), (g_5 []), (sl vr 2 t.rows.length (pairs t.rows)), (sl vb 1 t.brk.length (ints t.brk))] := BI; clear BI BH
   refine n1 ?_
   refine c_1 ?_
   refine b_9 ?_
   refine a_6 ?_
   refine a_6 ?_
   refine b_9 ?_
   refine a_6 ?_
   have BK := BJ.gkp (gpc 6 (gpc 0 (gpc 1 (gpc 2 (gpc 3 (gpc 4 (gpc 5 (gpc 7 (gpc 8 gpn))))))))); clear BJ
   refine fin_runM A9 (.inl rfl) BK ?_
   intro C1 AS; clear BK
   refine ⟨_, (d_1 A9 rfl (.cell1 rfl ty_3 (AS.bk 2 rfl) rfl) (.cell1 rfl ty_4 (AS.bk 1 rfl) rfl)), ?_⟩
   have hz := (made_row (k := k) (by omega) (fun i hi => hrw i (by omega)) (by assumption))
   exact ⟨by unfold d_0; rw [hz]; rfl, AS.ext⟩
  skip
  rw [decide_eq_false BQ] at K
  refine b_5 K rfl ?_
  refine c_6 ?_
  refine g_0 ?_
  refine a_9 ?_
  have AP := K.as [(15, (Value.int .i64 (k : Int))), (14, (Value.int .i64 (t.rows.length : Int))), (13, vr), (7, (bptr C 0)), (6, (bptr B 0)), (5, (bptr A 0)), (4, (bptr H 0)), (3, (bptr M 0))] rfl; clear K
  refine a_5 ?_
  refine s1 AP (f_1 rfl (AP.ev rfl) (evc _ _) (by omega) (by omega)) fun CF AQ => ?_; clear AP BX
  refine s1 AQ (a_1 rfl (AQ.ev rfl)) fun Cu Br => ?_; clear AQ CF
  refine e_8 ?_
  have Bs := O.gkp (gpc 1 (gpc 2 (gpc 3 (gpc 4 (gpc 5 (gpc 6 (gpc 7 (gpc 8 gpn)))))))); clear O
  exact a_9 ⟨k + 1, ⟨Br.as _ rfl, Bs, by omega, (fun i hi => by rcases Nat.lt_succ_iff_lt_or_eq.1 hi with h | h; exact hrw i h; subst h; assumption)⟩, by omega⟩
 skip
 rw [decide_eq_false BP] at F
 refine b_5 F rfl ?_
 refine g_3 ?_
 refine b_3 ?_
 refine b_3 ?_
 refine f_2 ?_
 refine a_9 ?_
 refine b_6 ?_
 refine m2 ?_
 refine s1 F (c_4 rfl k_4 (F.ev rfl) (N.bk 4 rfl) (l := [(Value.int .i64 t.frm), (Value.int .i64 t.dst), vr, vb, (Value.int .i64 t.err)]) rfl rfl) fun CG AR => ?_; clear F BW
 refine s2 AR (b_1 rfl en_116 (ev1 (AR.ev rfl)) (pieces_ok t vr vb _ hr.one hb.one)) ?_
 rintro Cv _ C2 ⟨bl93, rfl, BO⟩ BA; have BL := N.y_8 BO rfl; clear BO AR N CG
 refine n1 ?_
 refine c_3 ?_
 have W := BA.as [(27, (Value.func (.func 121) #[] #[(bptr bl93 0)])), (7, (bptr C 0)), (6, (bptr B 0)), (5, (bptr A 0)), (4, (bptr H 0))] rfl; clear BA
 have BM := BL.nilR; clear BL
 have AC := BM.gkp (gpc 7 (gpc 0 (gpc 1 (gpc 2 (gpc 3 (gpc 4 (gpc 5 (gpc 6 (gpc 8 (gpc 9 gpn)))))))))); clear BM
 refine c_rangeG W nilR rfl AC (W.ev rfl) en_121 ((d_3 t).length) (fun q => #[.agg #[.int .i64 (t.rows.getD ((d_3 t).getD q 0) (0, 0)).1, .int .i64 (t.rows.getD ((d_3 t).getD q 0) (0, 0)).2], .agg #[.int .i64 (t.rows.getD ((d_3 t).getD q 0 + 1) (0, 0)).1, .int .i64 (t.rows.getD ((d_3 t).getD q 0 + 1) (0, 0)).2]]) (fun _ => rfl) [rob bl93 106 [.int .i64 t.frm, .int .i64 t.dst, vr, vb, .int .i64 t.err], sl vr 2 t.rows.length (pairs t.rows), sl vb 1 t.brk.length (ints t.brk)] (fun r hr => by simp only [List.mem_cons, List.not_mem_nil, or_false] at hr; rcases hr with rfl | rfl | rfl <;> rfl) (pieces_it bl93 t vr vb hV.len hrl hbl) (fun q L_ => L_ = [(blk bl93 106 [(Value.int .i64 t.frm), (Value.int .i64 t.dst), vr, vb, (Value.int .i64 t.err)]), (blk C 4 [(Value.bool false)]), (blk B 3 [(Value.int .i64 0)]), (blk A 159 [(Value.func (.func 103) #[] #[])]), (blk H 3 [(Value.int .i64 x)]), (blk M 106 [(Value.int .i64 t.frm), (Value.int .i64 t.dst), vr, vb, (Value.int .i64 t.err)]), (sl vr 2 t.rows.length (pairs t.rows)), (sl vb 1 t.brk.length (ints t.brk))] ∧ (∀ j, j < q → l_2 t x ((d_3 t).getD j 0) = false)) (fun L_ => L_ = [(blk bl93 106 [(Value.int .i64 t.frm), (Value.int .i64 t.dst), vr, vb, (Value.int .i64 t.err)]), (blk C 4 [(Value.bool true)]), (blk B 3 [(Value.int .i64 ((d_0 t x).2))]), (blk A 159 [(Value.func (.func 103) #[] #[])]), (blk H 3 [(Value.int .i64 x)]), (blk M 106 [(Value.int .i64 t.frm), (Value.int .i64 t.dst), vr, vb, (Value.int .i64 t.err)]), (sl vr 2 t.rows.length (pairs t.rows)), (sl vb 1 t.brk.length (ints t.brk))] ∧ ((j_3 t x).isSome = true)) (some .ret) ⟨rfl, (fun _ h => absurd h (Nat.not_lt_zero _))⟩ (fun q L_ hI_ G_ W_ r1_ r2_ hW_ => by obtain ⟨rfl, hpc⟩ := hI_; exact (Sep.keep (hW_.to_ro (i := 3) rfl) [2, 3, 9, 10] (by decide) _ rfl rfl)) (fun L_ hI_ G_ W_ r1_ r2_ hW_ => by obtain ⟨rfl, hsm⟩ := hI_; exact (Sep.keep (hW_.to_ro (i := 3) rfl) [2, 3, 9, 10] (by decide) _ rfl rfl)) ?_ ?_ ?_
 ·skip
  intro q hq L_ hL_ G105 CV AD D103 rc104 BY C3 Ax BN; obtain ⟨rfl, hpc⟩ := hL_
  have AU : Fr 62 [] [(29, (Value.agg #[(Value.int .i64 ((t.rows.getD (((d_3 t).getD q 0) + 1) (0, 0)).1)), (Value.int .i64 ((t.rows.getD (((d_3 t).getD q 0) + 1) (0, 0)).2))])), (28, (Value.agg #[(Value.int .i64 ((t.rows.getD (((d_3 t).getD q 0)) (0, 0)).1)), (Value.int .i64 ((t.rows.getD (((d_3 t).getD q 0)) (0, 0)).2))])), (27, (Value.func (.func 121) #[] #[(bptr bl93 0)])), (7, (bptr C 0)), (6, (bptr B 0)), (5, (bptr A 0)), (4, (bptr H 0))] BY := by rw [Ax]; exact Fr.round2 W (by decide) (by decide)
  clear Ax AC
  have hgq : ((d_3 t).getD q 0) < t.rows.length - 1 := (good_mem hq).1; have hbn := hV.bnd _ (show ((d_3 t).getD q 0) < t.rows.length by omega); have hbn1 := hV.bnd (((d_3 t).getD q 0) + 1) (by omega); unfold tx ty at hbn hbn1
  refine m2 ?_
  refine s2 AU (d_9 BN rfl x_2 (cs := [(Value.int .i64 0), (Value.int .i64 0)]) rfl) ?_
  rintro Bb _ Cl ⟨E, rfl, Af⟩ P; clear AU BN BY
  refine s7 P (b_8 Af rfl h_9 (P.ev rfl) (P.ev rfl) (i := 0) rfl (vs := [(Value.int .i64 ((t.rows.getD (((d_3 t).getD q 0)) (0, 0)).1)), (Value.int .i64 ((t.rows.getD (((d_3 t).getD q 0)) (0, 0)).2))]) rfl rfl rfl (Nat.le_of_ble_eq_true rfl)) ?_
  intro _ Bt Ag AV; clear P
  have Ah : Sep NoB w Bt [(blk E 107 [(Value.int .i64 ((t.rows.getD (((d_3 t).getD q 0)) (0, 0)).1)), (Value.int .i64 ((t.rows.getD (((d_3 t).getD q 0)) (0, 0)).2))]), (obR AD (.loop (rc104 .ready none))), (g_5 (D103 :: [])), G105, (blk bl93 106 [(Value.int .i64 t.frm), (Value.int .i64 t.dst), vr, vb, (Value.int .i64 t.err)]), (blk C 4 [(Value.bool false)]), (blk B 3 [(Value.int .i64 0)]), (blk A 159 [(Value.func (.func 103) #[] #[])]), (blk H 3 [(Value.int .i64 x)]), (blk M 106 [(Value.int .i64 t.frm), (Value.int .i64 t.dst), vr, vb, (Value.int .i64 t.err)]), (sl vr 2 t.rows.length (pairs t.rows)), (sl vb 1 t.brk.length (ints t.brk))] := Ag; clear Ag Af
  refine n3 ?_
  refine s2 AV (d_9 Ah rfl x_2 (cs := [(Value.int .i64 0), (Value.int .i64 0)]) rfl) ?_
  rintro Bc _ Cm ⟨J, rfl, Ai⟩ Q; clear AV Ah Bb
  refine s7 Q (b_8 Ai rfl h_9 (Q.ev rfl) (Q.ev rfl) (i := 0) rfl (vs := [(Value.int .i64 ((t.rows.getD (((d_3 t).getD q 0) + 1) (0, 0)).1)), (Value.int .i64 ((t.rows.getD (((d_3 t).getD q 0) + 1) (0, 0)).2))]) rfl rfl rfl (Nat.le_of_ble_eq_true rfl)) ?_
  intro _ Bu Aj X; clear Q
  have Ak : Sep NoB w Bu [(blk J 107 [(Value.int .i64 ((t.rows.getD (((d_3 t).getD q 0) + 1) (0, 0)).1)), (Value.int .i64 ((t.rows.getD (((d_3 t).getD q 0) + 1) (0, 0)).2))]), (blk E 107 [(Value.int .i64 ((t.rows.getD (((d_3 t).getD q 0)) (0, 0)).1)), (Value.int .i64 ((t.rows.getD (((d_3 t).getD q 0)) (0, 0)).2))]), (obR AD (.loop (rc104 .ready none))), (g_5 (D103 :: [])), G105, (blk bl93 106 [(Value.int .i64 t.frm), (Value.int .i64 t.dst), vr, vb, (Value.int .i64 t.err)]), (blk C 4 [(Value.bool false)]), (blk B 3 [(Value.int .i64 0)]), (blk A 159 [(Value.func (.func 103) #[] #[])]), (blk H 3 [(Value.int .i64 x)]), (blk M 106 [(Value.int .i64 t.frm), (Value.int .i64 t.dst), vr, vb, (Value.int .i64 t.err)]), (sl vr 2 t.rows.length (pairs t.rows)), (sl vb 1 t.brk.length (ints t.brk))] := Aj; clear Aj Ai
  refine e_8 ?_
  have Al := Ak.gkp (gpc 2 (gpc 3 (gpc 4 (gpc 0 (gpc 1 (gpc 5 (gpc 6 (gpc 7 (gpc 8 (gpc 9 (gpc 10 (gpc 11 (gpc 12 gpn))))))))))))); clear Ak
  refine ⟨rfl, _, Al, ?_⟩; intro Cn D; clear Al
  refine c_3 ?_
  refine m2 ?_
  refine s1 X (a_4 rfl i_8 (X.ev rfl)) fun Bd Y => ?_; clear X Bc
  refine s1 Y (a_3 rfl ty_3 (Y.ev rfl) (D.bk 4 rfl) rfl) fun Be Z => ?_; clear Y Bd
  refine s1 Z (a_3 rfl ty_3 (Z.ev rfl) (D.bk 9 rfl) rfl) fun Bf R => ?_; clear Z Be
  refine s1 R (f_5 rfl (R.ev rfl) (R.ev rfl)) fun Bg b => ?_; clear R Bf
  refine s1 b (a_1 rfl (b.ev rfl)) fun A0 I => ?_; clear b Bg
  by_cases Ay : ((t.rows.getD (((d_3 t).getD q 0)) (0, 0)).1) < x
  ·skip
   rw [decide_eq_true Ay] at I
   refine s5 I (a_3 rfl ty_3 (I.ev rfl) (D.bk 9 rfl) rfl) fun Bh c => ?_; clear I A0
   refine s5 c (a_4 rfl i_8 (c.ev rfl)) fun Bi d => ?_; clear c Bh
   refine s5 d (a_3 rfl ty_3 (d.ev rfl) (D.bk 3 rfl) rfl) fun Bj S => ?_; clear d Bi
   refine s5 S (f_5 rfl (S.ev rfl) (S.ev rfl)) fun Bk T => ?_; clear S Bj
   refine s1 T (b_4 rfl (T.ev rfl) (T.ev rfl)) fun CX L => ?_; clear T Bk
   refine n1 ?_
   by_cases Az : x < ((t.rows.getD (((d_3 t).getD q 0) + 1) (0, 0)).1)
   ·skip
    rw [decide_eq_true Az] at L
    have hpb := piece_bds (v := x) (k := ((d_3 t).getD q 0)) hV (by omega) (by unfold tx; omega) (by unfold tx; omega); unfold pieceN pieceD tx ty at hpb; have hdb := downF_bd hpb.1 hpb.2; have hub := upF_bd hpb.1 hpb.2
    refine c_0 L rfl ?_
    refine b_6 ?_
    have AW := L.as [(11, (bptr J 0)), (10, (bptr E 0)), (7, (bptr C 0)), (6, (bptr B 0)), (5, (bptr A 0)), (4, (bptr H 0))] rfl; clear L
    have AX := AW.as [(11, (bptr J 0)), (10, (bptr E 0)), (7, (bptr C 0)), (6, (bptr B 0)), (5, (bptr A 0)), (4, (bptr H 0))] rfl; clear AW
    refine f_9 mixed AX D 21 [[], [0], [], [2], [], [], [5], [4, 6], [], [8], [], [10], [9, 11], [7, 12], [], [14], [], [16], [15, 17], [13, 18], [3, 19]] [(Yd.val (bptr E 1)), (Yd.val (Value.int .i64 ((t.rows.getD (((d_3 t).getD q 0)) (0, 0)).2))), (Yd.val (bptr A 0)), (Yd.val (Value.func (.func 103) #[] #[])), (Yd.val (Value.int .i64 x)), (Yd.val (bptr E 0)), (Yd.val (Value.int .i64 ((t.rows.getD (((d_3 t).getD q 0)) (0, 0)).1))), (Yd.val (Value.int .i64 (x - ((t.rows.getD (((d_3 t).getD q 0)) (0, 0)).1)))), (Yd.val (bptr J 1)), (Yd.val (Value.int .i64 ((t.rows.getD (((d_3 t).getD q 0) + 1) (0, 0)).2))), (Yd.val (bptr E 1)), (Yd.val (Value.int .i64 ((t.rows.getD (((d_3 t).getD q 0)) (0, 0)).2))), (Yd.val (Value.int .i64 (((t.rows.getD (((d_3 t).getD q 0) + 1) (0, 0)).2) - ((t.rows.getD (((d_3 t).getD q 0)) (0, 0)).2)))), (Yd.val (Value.int .i64 ((x - ((t.rows.getD (((d_3 t).getD q 0)) (0, 0)).1)) * (((t.rows.getD (((d_3 t).getD q 0) + 1) (0, 0)).2) - ((t.rows.getD (((d_3 t).getD q 0)) (0, 0)).2))))), (Yd.val (bptr J 0)), (Yd.val (Value.int .i64 ((t.rows.getD (((d_3 t).getD q 0) + 1) (0, 0)).1))), (Yd.val (bptr E 0)), (Yd.val (Value.int .i64 ((t.rows.getD (((d_3 t).getD q 0)) (0, 0)).1))), (Yd.val (Value.int .i64 (((t.rows.getD (((d_3 t).getD q 0) + 1) (0, 0)).1) - ((t.rows.getD (((d_3 t).getD q 0)) (0, 0)).1)))), (Yd.val (Value.agg #[(Value.int .i64 ((x - ((t.rows.getD (((d_3 t).getD q 0)) (0, 0)).1)) * (((t.rows.getD (((d_3 t).getD q 0) + 1) (0, 0)).2) - ((t.rows.getD (((d_3 t).getD q 0)) (0, 0)).2)))), (Value.int .i64 (((t.rows.getD (((d_3 t).getD q 0) + 1) (0, 0)).1) - ((t.rows.getD (((d_3 t).getD q 0)) (0, 0)).1)))])), (Yd.val (Value.int .i64 (upF ((x - ((t.rows.getD (((d_3 t).getD q 0)) (0, 0)).1)) * (((t.rows.getD (((d_3 t).getD q 0) + 1) (0, 0)).2) - ((t.rows.getD (((d_3 t).getD q 0)) (0, 0)).2))) (((t.rows.getD (((d_3 t).getD q 0) + 1) (0, 0)).1) - ((t.rows.getD (((d_3 t).getD q 0)) (0, 0)).1)))))] (by decide +kernel) rfl rfl ?_ ?_
    ·skip
     refine ⟨fun a w hA hS hd => ?_, ?_⟩
     ·skip
      exact d_7 rfl (dv (a_4 rfl l_1 (hA.ev rfl)) hS rfl)
     refine ⟨fun a w hA hS hd => ?_, ?_⟩
     ·skip
      have e0 := e_4 (hd 0 (by decide)) rfl (fun _ h => h)
      exact d_7 rfl (dv (a_3 rfl ty_3 (c_7 e0) (hS.bk 4 rfl) rfl) hS rfl)
     refine ⟨fun a w hA hS hd => ?_, ?_⟩
     ·skip
      exact d_7 rfl (dv (a_4 rfl fd_159_0 (hA.ev rfl)) hS rfl)
     refine ⟨fun a w hA hS hd => ?_, ?_⟩
     ·skip
      have e2 := e_4 (hd 2 (by decide)) rfl (fun _ h => h)
      exact d_7 rfl (dv (a_3 rfl ty_154 (c_7 e2) (hS.bk 8 rfl) rfl) hS rfl)
     refine ⟨fun a w hA hS hd => ?_, ?_⟩
     ·skip
      exact d_7 rfl (dv (a_3 rfl ty_3 (hA.ev rfl) (hS.bk 9 rfl) rfl) hS rfl)
     refine ⟨fun a w hA hS hd => ?_, ?_⟩
     ·skip
      exact d_7 rfl (dv (a_4 rfl i_8 (hA.ev rfl)) hS rfl)
     refine ⟨fun a w hA hS hd => ?_, ?_⟩
     ·skip
      have e5 := e_4 (hd 5 (by decide)) rfl (fun _ h => h)
      exact d_7 rfl (dv (a_3 rfl ty_3 (c_7 e5) (hS.bk 4 rfl) rfl) hS rfl)
     refine ⟨fun a w hA hS hd => ?_, ?_⟩
     ·skip
      have e4 := e_4 (hd 4 (by decide)) rfl (fun _ h => h)
      have e6 := e_4 (hd 6 (by decide)) rfl (fun _ h => h)
      exact d_7 rfl (dv (g_6 rfl (c_7 e4) (c_7 e6) (by omega) (by omega)) hS rfl)
     refine ⟨fun a w hA hS hd => ?_, ?_⟩
     ·skip
      exact d_7 rfl (dv (a_4 rfl l_1 (hA.ev rfl)) hS rfl)
     refine ⟨fun a w hA hS hd => ?_, ?_⟩
     ·skip
      have e8 := e_4 (hd 8 (by decide)) rfl (fun _ h => h)
      exact d_7 rfl (dv (a_3 rfl ty_3 (c_7 e8) (hS.bk 3 rfl) rfl) hS rfl)
     refine ⟨fun a w hA hS hd => ?_, ?_⟩
     ·skip
      exact d_7 rfl (dv (a_4 rfl l_1 (hA.ev rfl)) hS rfl)
     refine ⟨fun a w hA hS hd => ?_, ?_⟩
     ·skip
      have CH := e_4 (hd 10 (by decide)) rfl (fun _ h => h)
      exact d_7 rfl (dv (a_3 rfl ty_3 (c_7 CH) (hS.bk 4 rfl) rfl) hS rfl)
     refine ⟨fun a w hA hS hd => ?_, ?_⟩
     ·skip
      have e9 := e_4 (hd 9 (by decide)) rfl (fun _ h => h)
      have CI := e_4 (hd 11 (by decide)) rfl (fun _ h => h)
      exact d_7 rfl (dv (g_6 rfl (c_7 e9) (c_7 CI) (by omega) (by omega)) hS rfl)
     refine ⟨fun a w hA hS hd => ?_, ?_⟩
     ·skip
      have e7 := e_4 (hd 7 (by decide)) rfl (fun _ h => h)
      have CJ := e_4 (hd 12 (by decide)) rfl (fun _ h => h)
      exact d_7 rfl (dv (op_mul rfl (c_7 e7) (c_7 CJ) (by omega) (by omega)) hS rfl)
     refine ⟨fun a w hA hS hd => ?_, ?_⟩
     ·skip
      exact d_7 rfl (dv (a_4 rfl i_8 (hA.ev rfl)) hS rfl)
     refine ⟨fun a w hA hS hd => ?_, ?_⟩
     ·skip
      have CL := e_4 (hd 14 (by decide)) rfl (fun _ h => h)
      exact d_7 rfl (dv (a_3 rfl ty_3 (c_7 CL) (hS.bk 3 rfl) rfl) hS rfl)
     refine ⟨fun a w hA hS hd => ?_, ?_⟩
     ·skip
      exact d_7 rfl (dv (a_4 rfl i_8 (hA.ev rfl)) hS rfl)
     refine ⟨fun a w hA hS hd => ?_, ?_⟩
     ·skip
      have CN := e_4 (hd 16 (by decide)) rfl (fun _ h => h)
      exact d_7 rfl (dv (a_3 rfl ty_3 (c_7 CN) (hS.bk 4 rfl) rfl) hS rfl)
     refine ⟨fun a w hA hS hd => ?_, ?_⟩
     ·skip
      have CM := e_4 (hd 15 (by decide)) rfl (fun _ h => h)
      have CO := e_4 (hd 17 (by decide)) rfl (fun _ h => h)
      exact d_7 rfl (dv (g_6 rfl (c_7 CM) (c_7 CO) (by omega) (by omega)) hS rfl)
     refine ⟨fun a w hA hS hd => ?_, ?_⟩
     ·skip
      have CK := e_4 (hd 13 (by decide)) rfl (fun _ h => h)
      have CP := e_4 (hd 18 (by decide)) rfl (fun _ h => h)
      exact d_7 rfl (dv (e_0 rfl (pv2 (c_7 CK) (c_7 CP)) (bd_157_0i_1i _ _)) hS rfl)
     refine ⟨fun a w hA hS hd => ?_, ?_⟩
     ·skip
      have e3 := e_4 (hd 3 (by decide)) rfl (fun _ h => h)
      have CQ := e_4 (hd 19 (by decide)) rfl (fun _ h => h)
      exact d_7 rfl (dx (j_8 rfl (c_7 e3) en_103 (ev1 (c_7 CQ)) (up_ok _ _ _ (by omega) (by omega))) hS (fun _ => rfl))
     trivial
    intro Bl Co AY Am y; clear AX D
    have AZ := AY.add (hz y 1); clear AY
    have U := AZ.add (hz y 20); clear AZ
    clear y
    refine s1 U (f_1 rfl (U.ev rfl) (U.ev rfl) (by omega) (by omega)) fun Bm BR => ?_; clear U Bl
    have hvl : ((t.rows.getD (((d_3 t).getD q 0)) (0, 0)).2) + (upF ((x - ((t.rows.getD (((d_3 t).getD q 0)) (0, 0)).1)) * (((t.rows.getD (((d_3 t).getD q 0) + 1) (0, 0)).2) - ((t.rows.getD (((d_3 t).getD q 0)) (0, 0)).2))) (((t.rows.getD (((d_3 t).getD q 0) + 1) (0, 0)).1) - ((t.rows.getD (((d_3 t).getD q 0)) (0, 0)).1))) = (d_0 t x).2 := by unfold d_0; rw [made_good (fun i hi => hrw i (by omega)) hq hpc (good_piece hq (by assumption) (by assumption))]; rfl
    have V : Fr 62 [] [(61, (Value.int .i64 ((d_0 t x).2))), (60, (Value.int .i64 (upF ((x - ((t.rows.getD (((d_3 t).getD q 0)) (0, 0)).1)) * (((t.rows.getD (((d_3 t).getD q 0) + 1) (0, 0)).2) - ((t.rows.getD (((d_3 t).getD q 0)) (0, 0)).2))) (((t.rows.getD (((d_3 t).getD q 0) + 1) (0, 0)).1) - ((t.rows.getD (((d_3 t).getD q 0)) (0, 0)).1))))), (41, (Value.int .i64 ((t.rows.getD (((d_3 t).getD q 0)) (0, 0)).2))), (11, (bptr J 0)), (10, (bptr E 0)), (7, (bptr C 0)), (6, (bptr B 0)), (5, (bptr A 0)), (4, (bptr H 0))] Bm := by rw [← hvl]; exact BR
    refine s7 V (b_8 Am rfl ty_3 (V.ev rfl) (V.ev rfl) (i := 7) rfl (vs := [(Value.int .i64 ((d_0 t x).2))]) rfl rfl rfl (Nat.le_of_ble_eq_true rfl)) ?_
    intro _ Bv An e; clear V
    have Ao : Sep NoB w Bv [(obR AD (.loop (rc104 .busy none))), (g_5 (D103 :: [])), G105, (blk J 107 [(Value.int .i64 ((t.rows.getD (((d_3 t).getD q 0) + 1) (0, 0)).1)), (Value.int .i64 ((t.rows.getD (((d_3 t).getD q 0) + 1) (0, 0)).2))]), (blk E 107 [(Value.int .i64 ((t.rows.getD (((d_3 t).getD q 0)) (0, 0)).1)), (Value.int .i64 ((t.rows.getD (((d_3 t).getD q 0)) (0, 0)).2))]), (blk bl93 106 [(Value.int .i64 t.frm), (Value.int .i64 t.dst), vr, vb, (Value.int .i64 t.err)]), (blk C 4 [(Value.bool false)]), (blk B 3 [(Value.int .i64 ((d_0 t x).2))]), (blk A 159 [(Value.func (.func 103) #[] #[])]), (blk H 3 [(Value.int .i64 x)]), (blk M 106 [(Value.int .i64 t.frm), (Value.int .i64 t.dst), vr, vb, (Value.int .i64 t.err)]), (sl vr 2 t.rows.length (pairs t.rows)), (sl vb 1 t.brk.length (ints t.brk))] := An; clear An Am
    refine s7 e (b_8 Ao rfl ty_4 (e.ev rfl) (evc _ _) (i := 6) rfl (vs := [(Value.bool true)]) rfl rfl rfl (Nat.le_of_ble_eq_true rfl)) ?_
    intro _ Bw Ap CU; clear e
    have Aq : Sep NoB w Bw [(obR AD (.loop (rc104 .busy none))), (g_5 (D103 :: [])), G105, (blk J 107 [(Value.int .i64 ((t.rows.getD (((d_3 t).getD q 0) + 1) (0, 0)).1)), (Value.int .i64 ((t.rows.getD (((d_3 t).getD q 0) + 1) (0, 0)).2))]), (blk E 107 [(Value.int .i64 ((t.rows.getD (((d_3 t).getD q 0)) (0, 0)).1)), (Value.int .i64 ((t.rows.getD (((d_3 t).getD q 0)) (0, 0)).2))]), (blk bl93 106 [(Value.int .i64 t.frm), (Value.int .i64 t.dst), vr, vb, (Value.int .i64 t.err)]), (blk C 4 [(Value.bool true)]), (blk B 3 [(Value.int .i64 ((d_0 t x).2))]), (blk A 159 [(Value.func (.func 103) #[] #[])]), (blk H 3 [(Value.int .i64 x)]), (blk M 106 [(Value.int .i64 t.frm), (Value.int .i64 t.dst), vr, vb, (Value.int .i64 t.err)]), (sl vr 2 t.rows.length (pairs t.rows)), (sl vb 1 t.brk.length (ints t.brk))] := Ap; clear Ap Ao
    refine n1 ?_
    refine c_1 ?_
    refine b_9 ?_
    have BT := Aq.gkp (gpc 0 (gpc 1 (gpc 2 (gpc 5 (gpc 6 (gpc 7 (gpc 8 (gpc 9 (gpc 10 (gpc 11 (gpc 12 gpn))))))))))); clear Aq
    exact re_ret rfl ⟨_, rfl, ⟨rfl, (by rw [made_good (fun i hi => hrw i (by omega)) hq hpc (good_piece hq (by assumption) (by assumption))]; rfl)⟩⟩ BT
   skip
   rw [decide_eq_false Az] at L
   refine b_5 L rfl ?_
   refine c_6 ?_
   refine g_0 ?_
   have BU := D.gkp (gpc 0 (gpc 1 (gpc 2 (gpc 5 (gpc 6 (gpc 7 (gpc 8 (gpc 9 (gpc 10 (gpc 11 (gpc 12 gpn))))))))))); clear D
   exact re_n ⟨_, rfl, ⟨rfl, (fun j hj => by rcases Nat.lt_succ_iff_lt_or_eq.1 hj with h | h; exact hpc j h; subst h; first | exact l_3 (.inl (by assumption)) | exact l_3 (.inr (.inl (by assumption))))⟩⟩ BU
  skip
  rw [decide_eq_false Ay] at I
  refine s3 I fun Bn Aa => ?_; clear I A0
  refine s3 Aa fun Bo Ab => ?_; clear Aa Bn
  refine s3 Ab fun Bp Ac => ?_; clear Ab Bo
  refine s3 Ac fun Bq f => ?_; clear Ac Bp
  refine s1 f (c_8 rfl (f.ev rfl) (evc _ _)) fun CY BS => ?_; clear f Bq
  refine n1 ?_
  refine b_5 BS rfl ?_
  refine c_6 ?_
  refine g_0 ?_
  have BV := D.gkp (gpc 0 (gpc 1 (gpc 2 (gpc 5 (gpc 6 (gpc 7 (gpc 8 (gpc 9 (gpc 10 (gpc 11 (gpc 12 gpn))))))))))); clear D
  exact re_n ⟨_, rfl, ⟨rfl, (fun j hj => by rcases Nat.lt_succ_iff_lt_or_eq.1 hj with h | h; exact hpc j h; subst h; first | exact l_3 (.inl (by assumption)) | exact l_3 (.inr (.inl (by assumption))))⟩⟩ BV
 ·skip
  intro L_ hL_ D188 CZ Cp g Ar; obtain ⟨rfl, hpc⟩ := hL_; clear W AC
  refine g_0 ?_
  refine a_9 ?_
  refine m2 ?_
  refine s7 g (b_8 Ar rfl ty_3 (g.ev rfl) (evc _ _) (i := 4) rfl (vs := [(Value.int .i64 0)]) rfl rfl rfl (Nat.le_of_ble_eq_true rfl)) ?_
  intro _ Bx As m; clear g
  have At : Sep NoB w Bx [(g_5 (D188 :: [])), nilR, (blk bl93 106 [(Value.int .i64 t.frm), (Value.int .i64 t.dst), vr, vb, (Value.int .i64 t.err)]), (blk C 4 [(Value.bool false)]), (blk B 3 [(Value.int .i64 0)]), (blk A 159 [(Value.func (.func 103) #[] #[])]), (blk H 3 [(Value.int .i64 x)]), (blk M 106 [(Value.int .i64 t.frm), (Value.int .i64 t.dst), vr, vb, (Value.int .i64 t.err)]), (sl vr 2 t.rows.length (pairs t.rows)), (sl vb 1 t.brk.length (ints t.brk))] := As; clear As Ar
  refine s7 m (b_8 At rfl ty_4 (m.ev rfl) (evc _ _) (i := 3) rfl (vs := [(Value.bool false)]) rfl rfl rfl (Nat.le_of_ble_eq_true rfl)) ?_
  intro _ By Au Ad; clear m
  have Av : Sep NoB w By [(g_5 (D188 :: [])), nilR, (blk bl93 106 [(Value.int .i64 t.frm), (Value.int .i64 t.dst), vr, vb, (Value.int .i64 t.err)]), (blk C 4 [(Value.bool false)]), (blk B 3 [(Value.int .i64 0)]), (blk A 159 [(Value.func (.func 103) #[] #[])]), (blk H 3 [(Value.int .i64 x)]), (blk M 106 [(Value.int .i64 t.frm), (Value.int .i64 t.dst), vr, vb, (Value.int .i64 t.err)]), (sl vr 2 t.rows.length (pairs t.rows)), (sl vb 1 t.brk.length (ints t.brk))] := Au; clear Au At
  refine n1 ?_
  refine c_1 ?_
  refine fin_runM Ad (.inl rfl) Av ?_
  intro Cq z; clear Av
  refine ⟨_, (d_1 Ad rfl (.cell1 rfl ty_3 (z.bk 3 rfl) rfl) (.cell1 rfl ty_4 (z.bk 2 rfl) rfl)), ?_⟩
  have hz := (made_goodno (fun i hi => hrw i (by omega)) (fun i hi => hpc i (by omega)))
  exact ⟨by unfold d_0; rw [hz]; rfl, z.ext⟩
 skip
 intro c_ hc_; cases hc_
 intro L_ hL_ D203 Ca Cr Ae Aw; obtain ⟨rfl, hsm⟩ := hL_; clear W AC
 refine c_1 ?_
 refine b_9 ?_
 refine a_6 ?_
 refine fin_runM Ae (.inl rfl) Aw ?_
 intro Cs AA; clear Aw
 refine ⟨_, (d_1 Ae rfl (.cell1 rfl ty_3 (AA.bk 3 rfl) rfl) (.cell1 rfl ty_4 (AA.bk 2 rfl) rfl)), ?_⟩
 exact ⟨by rw [hsm], AA.ext⟩
theorem around_ok (t : TabD) (vr vb : Value) (w : World) (hr : SlAt w vr 2 t.rows.length (pairs t.rows)) (hb : SlAt w vb 1 t.brk.length (ints t.brk)) (hrl : t.rows.length ≤ 1000000) (hbl : t.brk.length ≤ 1000000) (n : Int) (hV : TabV n t) (x : Int) :
  Calls Try.prog 72 #[(Value.agg #[(Value.int .i64 t.frm), (Value.int .i64 t.dst), vr, vb, (Value.int .i64 t.err)]), (Value.int .i64 x)] w (Ret fun v w' => v = .tuple #[.agg #[.int .i64 (d_0 t x).1, .int .i64 (d_0 t x).2], .bool (j_3 t x).isSome] ∧ Ext NoB w w') := by
 refine a_8 Try.func72 rfl fun r G => ?_
 replace G : Fr 28 [] [(0, (Value.agg #[(Value.int .i64 t.frm), (Value.int .i64 t.dst), vr, vb, (Value.int .i64 t.err)])), (1, (Value.int .i64 x))] r := G
 have o : Sep NoB w w [(sl vr 2 t.rows.length (pairs t.rows)), (sl vb 1 t.brk.length (ints t.brk))] := e_3 ⟨rfl, hr, rfl, hb, trivial⟩
 refine m2 ?_
 refine s2 G (e_7 o rfl (G.ev rfl) (cs := [(Value.int .i64 t.frm), (Value.int .i64 t.dst), vr, vb, (Value.int .i64 t.err)]) rfl) ?_
 rintro a1 _ w3 ⟨b4, rfl, p⟩ k; clear G o r
 refine s2 k (d_9 p rfl x_5 (cs := [(Value.int .i64 0), (Value.int .i64 0)]) rfl) ?_
 rintro a6 _ w8 ⟨q, rfl, C⟩ m; clear k p a1
 refine s1 m (a_0 rfl (evc _ _)) fun s H => ?_; clear m a6
 refine n4 ?_
 refine s1 H (c_4 rfl k_4 (H.ev rfl) (C.bk 1 rfl) (l := [(Value.int .i64 t.frm), (Value.int .i64 t.dst), vr, vb, (Value.int .i64 t.err)]) rfl rfl) fun u I => ?_; clear H s
 refine s1 I (a_1 rfl (I.ev rfl)) fun y Z => ?_; clear I u
 refine s1 Z (e_0 rfl (pv1 (evf _ _)) (bd_159_0f _ _ _)) fun z A => ?_; clear Z y
 refine s2 A (b_1 rfl en_101 (ev3 (A.ev rfl) (A.ev rfl) (A.ev rfl)) (makes_dn t _ _ _ (C.sk 2 rfl) (C.sk 3 rfl) (by omega) (by omega) _ hV x)) ?_
 rintro AA _ AY ⟨rfl, e⟩ J; have D := C.step e; clear e A C z
 refine s1 J (a_1 rfl (J.ev rfl)) fun AB K => ?_; clear J AA
 refine s1 K (e_5 rfl (K.ev rfl) rfl) fun AC L => ?_; clear K AB
 refine s1 L (e_5 rfl (L.ev rfl) rfl) fun AD M => ?_; clear L AC
 refine s1 M (a_0 rfl (M.ev rfl)) fun AE N => ?_; clear M AD
 refine s1 N (a_0 rfl (N.ev rfl)) fun AF a => ?_; clear N AE
 refine n2 ?_
 have O := a.as [(7, (Value.bool ((j_3 t x).isSome))), (6, (Value.int .i64 ((d_0 t x).1))), (4, (bptr q 0)), (2, (bptr b4 0)), (1, (Value.int .i64 x))] rfl; clear a
 refine a_5 ?_
 refine s1 O (c_4 rfl k_4 (O.ev rfl) (D.bk 1 rfl) (l := [(Value.int .i64 t.frm), (Value.int .i64 t.dst), vr, vb, (Value.int .i64 t.err)]) rfl rfl) fun AG P => ?_; clear O AF
 refine s1 P (a_1 rfl (P.ev rfl)) fun AH b => ?_; clear P AG
 refine s1 b (e_0 rfl (pv1 (evf _ _)) (bd_159_0f _ _ _)) fun AI B => ?_; clear b AH
 refine s2 B (b_1 rfl en_101 (ev3 (B.ev rfl) (B.ev rfl) (B.ev rfl)) (makes_up t _ _ _ (D.sk 2 rfl) (D.sk 3 rfl) (by omega) (by omega) _ hV x)) ?_
 rintro AJ _ AZ ⟨rfl, f⟩ Q; have g := D.step f; clear f B D AI
 refine s1 Q (a_1 rfl (Q.ev rfl)) fun AK R => ?_; clear Q AJ
 refine s1 R (e_5 rfl (R.ev rfl) rfl) fun AL S => ?_; clear R AK
 refine s1 S (e_5 rfl (S.ev rfl) rfl) fun AM T => ?_; clear S AL
 refine s1 T (a_0 rfl (T.ev rfl)) fun AN U => ?_; clear T AM
 refine s1 U (a_0 rfl (U.ev rfl)) fun AO c => ?_; clear U AN
 refine n2 ?_
 have V := c.as [(8, (Value.int .i64 ((d_0 t x).2))), (7, (Value.bool ((j_3 t x).isSome))), (6, (Value.int .i64 ((d_0 t x).1))), (4, (bptr q 0))] rfl; clear c
 refine a_5 ?_
 refine s1 V (a_1 rfl (V.ev rfl)) fun AP W => ?_; clear V AO
 refine s1 W (a_1 rfl (W.ev rfl)) fun AQ E => ?_; clear W AP
 refine s1 E (e_0 rfl (pv2 (E.ev rfl) (E.ev rfl)) (k_9 _ _)) fun AR X => ?_; clear E AQ
 refine s1 X (a_1 rfl (X.ev rfl)) fun AS F => ?_; clear X AR
 refine s7 F (b_8 g rfl f_7 (F.ev rfl) (F.ev rfl) (i := 0) rfl (vs := [(Value.int .i64 ((d_0 t x).1)), (Value.int .i64 ((d_0 t x).2))]) rfl rfl rfl (Nat.le_of_ble_eq_true rfl)) ?_
 intro _ AU h Y; clear F
 have j : Sep NoB w AU [(blk q 30 [(Value.int .i64 ((d_0 t x).1)), (Value.int .i64 ((d_0 t x).2))]), (blk b4 106 [(Value.int .i64 t.frm), (Value.int .i64 t.dst), vr, vb, (Value.int .i64 t.err)]), (sl vr 2 t.rows.length (pairs t.rows)), (sl vb 1 t.brk.length (ints t.brk))] := h; clear h g
 refine s1 Y (a_0 rfl (Y.ev rfl)) fun AX d => ?_; clear Y AS
 refine n1 ?_
 refine c_1 ?_
 refine a_7 d (.inl rfl) (d_1 d rfl (.cellA rfl f_7 (j.bk 0 rfl) (l := [(Value.int .i64 ((d_0 t x).1)), (Value.int .i64 ((d_0 t x).2))]) rfl rfl) (.tmp rfl)) ?_
 exact ⟨rfl, j.ext⟩
theorem convert_ok (B C : Int) (t : TabD) (vr vb : Value) (w : World) (hr : SlAt w vr 2 t.rows.length (pairs t.rows)) (hb : SlAt w vb 1 t.brk.length (ints t.brk)) (hrl : t.rows.length ≤ 1000000) (hbl : t.brk.length ≤ 1000000) (n : Int) (hV : TabV n t) :
  Calls Try.prog 50 #[(Value.agg #[(Value.int .i64 t.frm), (Value.int .i64 t.dst), vr, vb, (Value.int .i64 t.err)]), (Value.agg #[(Value.int .i64 B), (Value.int .i64 C)])] w (Ret fun v w' => v = .agg #[.int .i64 (k_7 t (B, C)).1, .int .i64 (k_7 t (B, C)).2] ∧ Ext NoB w w') := by
 refine a_8 Try.func50 rfl fun a0 Q => ?_
 replace Q : Fr 42 [] [(0, (Value.agg #[(Value.int .i64 t.frm), (Value.int .i64 t.dst), vr, vb, (Value.int .i64 t.err)])), (1, (Value.agg #[(Value.int .i64 B), (Value.int .i64 C)]))] a0 := Q
 have A8 := madeV_bd hV B; have A9 := madeV_bd hV C; have her := hV.err
 have AR : Sep NoB w w [(sl vr 2 t.rows.length (pairs t.rows)), (sl vb 1 t.brk.length (ints t.brk))] := e_3 ⟨rfl, hr, rfl, hb, trivial⟩
 refine m2 ?_
 refine s2 Q (e_7 AR rfl (Q.ev rfl) (cs := [(Value.int .i64 t.frm), (Value.int .i64 t.dst), vr, vb, (Value.int .i64 t.err)]) rfl) ?_
 rintro a1 _ w3 ⟨J, rfl, AS⟩ k; clear Q AR a0
 refine s2 k (e_7 AS rfl (k.ev rfl) (cs := [(Value.int .i64 B), (Value.int .i64 C)]) rfl) ?_
 rintro a6 _ w8 ⟨j, rfl, AB⟩ AQ; clear k AS a1
 refine s2 AQ (d_9 AB rfl x_5 (cs := [(Value.int .i64 0), (Value.int .i64 0)]) rfl) ?_
 rintro Aa _ BC ⟨H, rfl, F⟩ R; clear AQ AB a6
 refine n4 ?_
 refine s1 R (c_4 rfl k_4 (R.ev rfl) (F.bk 2 rfl) (l := [(Value.int .i64 t.frm), (Value.int .i64 t.dst), vr, vb, (Value.int .i64 t.err)]) rfl rfl) fun Ab S => ?_; clear R Aa
 refine s1 S (a_4 rfl m_4 (S.ev rfl)) fun Ac T => ?_; clear S Ab
 refine s1 T (a_3 rfl ty_3 (T.ev rfl) (F.bk 1 rfl) rfl) fun Ad K => ?_; clear T Ac
 refine s2 K (b_1 rfl en_72 (ev2 (K.ev rfl) (K.ev rfl)) (around_ok t _ _ _ (F.sk 3 rfl) (F.sk 4 rfl) (by omega) (by omega) _ hV B)) ?_
 rintro Ae _ BD ⟨rfl, z⟩ U; have AC := F.step z; clear z K F Ad
 refine s1 U (a_1 rfl (U.ev rfl)) fun Af V => ?_; clear U Ae
 refine s1 V (e_5 rfl (V.ev rfl) rfl) fun Ag W => ?_; clear V Af
 refine s1 W (e_5 rfl (W.ev rfl) rfl) fun Ah m => ?_; clear W Ag
 refine s2 m (d_9 AC rfl x_5 (cs := [(Value.int .i64 0), (Value.int .i64 0)]) rfl) ?_
 rintro Ai _ BE ⟨E, rfl, AD⟩ L; clear m AC Ah
 refine s7 L (b_8 AD rfl f_7 (L.ev rfl) (L.ev rfl) (i := 0) rfl (vs := [(Value.int .i64 ((d_0 t B).1)), (Value.int .i64 ((d_0 t B).2))]) rfl rfl rfl (Nat.le_of_ble_eq_true rfl)) ?_
 intro _ Ax AE X; clear L
 have G : Sep NoB w Ax [(blk E 30 [(Value.int .i64 ((d_0 t B).1)), (Value.int .i64 ((d_0 t B).2))]), (blk H 30 [(Value.int .i64 0), (Value.int .i64 0)]), (blk j 30 [(Value.int .i64 B), (Value.int .i64 C)]), (blk J 106 [(Value.int .i64 t.frm), (Value.int .i64 t.dst), vr, vb, (Value.int .i64 t.err)]), (sl vr 2 t.rows.length (pairs t.rows)), (sl vb 1 t.brk.length (ints t.brk))] := AE; clear AE AD
 refine s1 X (a_0 rfl (X.ev rfl)) fun Aj o => ?_; clear X Ai
 refine n2 ?_
 have Y := o.as [(5, (bptr E 0)), (4, (bptr H 0)), (3, (bptr j 0)), (2, (bptr J 0))] rfl; clear o
 refine a_5 ?_
 refine s1 Y (c_4 rfl k_4 (Y.ev rfl) (G.bk 3 rfl) (l := [(Value.int .i64 t.frm), (Value.int .i64 t.dst), vr, vb, (Value.int .i64 t.err)]) rfl rfl) fun Ak Z => ?_; clear Y Aj
 refine s1 Z (a_4 rfl m_5 (Z.ev rfl)) fun Al b => ?_; clear Z Ak
 refine s1 b (a_3 rfl ty_3 (b.ev rfl) (G.bk 2 rfl) rfl) fun Am M => ?_; clear b Al
 refine s2 M (b_1 rfl en_72 (ev2 (M.ev rfl) (M.ev rfl)) (around_ok t _ _ _ (G.sk 4 rfl) (G.sk 5 rfl) (by omega) (by omega) _ hV C)) ?_
 rintro An _ BF ⟨rfl, AA⟩ c; have AF := G.step AA; clear AA M G Am
 refine s1 c (a_1 rfl (c.ev rfl)) fun Ao d => ?_; clear c An
 refine s1 d (e_5 rfl (d.ev rfl) rfl) fun Ap e => ?_; clear d Ao
 refine s1 e (e_5 rfl (e.ev rfl) rfl) fun Aq p => ?_; clear e Ap
 refine s2 p (d_9 AF rfl x_5 (cs := [(Value.int .i64 0), (Value.int .i64 0)]) rfl) ?_
 rintro Ar _ BG ⟨I, rfl, AG⟩ N; clear p AF Aq
 refine s7 N (b_8 AG rfl f_7 (N.ev rfl) (N.ev rfl) (i := 0) rfl (vs := [(Value.int .i64 ((d_0 t C).1)), (Value.int .i64 ((d_0 t C).2))]) rfl rfl rfl (Nat.le_of_ble_eq_true rfl)) ?_
 intro _ Ay AH f; clear N
 have AI : Sep NoB w Ay [(blk I 30 [(Value.int .i64 ((d_0 t C).1)), (Value.int .i64 ((d_0 t C).2))]), (blk E 30 [(Value.int .i64 ((d_0 t B).1)), (Value.int .i64 ((d_0 t B).2))]), (blk H 30 [(Value.int .i64 0), (Value.int .i64 0)]), (blk j 30 [(Value.int .i64 B), (Value.int .i64 C)]), (blk J 106 [(Value.int .i64 t.frm), (Value.int .i64 t.dst), vr, vb, (Value.int .i64 t.err)]), (sl vr 2 t.rows.length (pairs t.rows)), (sl vb 1 t.brk.length (ints t.brk))] := AH; clear AH AG
 refine s1 f (a_0 rfl (f.ev rfl)) fun A6 q => ?_; clear f Ar
 refine n2 ?_
 have r := q.as [(7, (bptr I 0)), (5, (bptr E 0)), (4, (bptr H 0)), (2, (bptr J 0))] rfl; clear q
 have s := r.as [(7, (bptr I 0)), (5, (bptr E 0)), (4, (bptr H 0)), (2, (bptr J 0))] rfl; clear r
 refine x_6 mixed s AI 18 [[], [0], [], [2], [1, 3], [4], [], [6], [5, 7], [], [9], [], [11], [10, 12], [13], [], [15], [14, 16]] [(yw (bptr E 0)), (yw (Value.int .i64 ((d_0 t B).1))), (yw (bptr I 0)), (yw (Value.int .i64 ((d_0 t C).1))), (fun (A : Nat → Value) (v_ : Value) (rs_ : List Res) => True ∧ rs_ = [(row v_ 3 1 2 [(Value.int .i64 ((d_0 t B).1)), (Value.int .i64 ((d_0 t C).1))])]), (yw (Value.int .i64 (min ((d_0 t B).1) ((d_0 t C).1)))), (yw (bptr J 4)), (yw (Value.int .i64 t.err)), (yw (Value.int .i64 ((min ((d_0 t B).1) ((d_0 t C).1)) - t.err))), (yw (bptr E 1)), (yw (Value.int .i64 ((d_0 t B).2))), (yw (bptr I 1)), (yw (Value.int .i64 ((d_0 t C).2))), (fun (A : Nat → Value) (v_ : Value) (rs_ : List Res) => True ∧ rs_ = [(row v_ 3 1 2 [(Value.int .i64 ((d_0 t B).2)), (Value.int .i64 ((d_0 t C).2))])]), (yw (Value.int .i64 (max ((d_0 t B).2) ((d_0 t C).2)))), (yw (bptr J 4)), (yw (Value.int .i64 t.err)), (yw (Value.int .i64 ((max ((d_0 t B).2) ((d_0 t C).2)) + t.err)))] (by decide +kernel) (by decide +kernel) rfl rfl ⟨dw, dw, dw, dw, (fun _ _ _ _ _ h_ => h_), dw, dw, dw, dw, dw, dw, dw, dw, (fun _ _ _ _ _ h_ => h_), dw, dw, dw, dw, trivial⟩ ?_ ?_
 ·skip
  refine ⟨fun a w A hA hS hd => gv1 (a_4 rfl m_4 (hA.ev rfl)), ?_⟩
  refine ⟨fun a w A hA hS hd => gv1 (a_3 rfl ty_3 (gu hd 0) (hS.bk 1 rfl) rfl), ?_⟩
  refine ⟨fun a w A hA hS hd => gv1 (a_4 rfl m_4 (hA.ev rfl)), ?_⟩
  refine ⟨fun a w A hA hS hd => gv1 (a_3 rfl ty_3 (gu hd 2) (hS.bk 0 rfl) rfl), ?_⟩
  refine ⟨fun a w A hA hS hd => d_7 rfl (vblt rfl (pv2 (gu hd 1) (gu hd 3)) k_2 ty_3 ze_3 (by decide) (cs := [(Value.int .i64 ((d_0 t B).1)), (Value.int .i64 ((d_0 t C).1))]) (s_9 _ _) rfl (by decide) (fun _ => And.intro trivial rfl)), ?_⟩
  refine ⟨fun a w A hA hS hd => ?_, ?_⟩
  ·skip
   obtain ⟨e4, BB, Aw, Au⟩ := hd 4 (by decide)
   obtain ⟨BA, Av⟩ := Aw; subst Av
   have hp4_0 := Au _ (List.mem_of_getElem? (i := 0) rfl)
   exact gx1 (b_1 rfl en_79 (ev1 (c_7 (h_8 e4 rfl))) (callsI (least_ok [(d_0 t B).1, (d_0 t C).1] _ _ (SlAt.i_1 hp4_0) (by simp) (by simp)) (min ((d_0 t B).1) ((d_0 t C).1)) rfl))
  refine ⟨fun a w A hA hS hd => gv1 (a_4 rfl v_7 (hA.ev rfl)), ?_⟩
  refine ⟨fun a w A hA hS hd => gv1 (a_3 rfl ty_3 (gu hd 6) (hS.bk 4 rfl) rfl), ?_⟩
  refine ⟨fun a w A hA hS hd => gv1 (g_6 rfl (gu hd 5) (gu hd 7) (by omega) (by omega)), ?_⟩
  refine ⟨fun a w A hA hS hd => gv1 (a_4 rfl m_5 (hA.ev rfl)), ?_⟩
  refine ⟨fun a w A hA hS hd => gv1 (a_3 rfl ty_3 (gu hd 9) (hS.bk 1 rfl) rfl), ?_⟩
  refine ⟨fun a w A hA hS hd => gv1 (a_4 rfl m_5 (hA.ev rfl)), ?_⟩
  refine ⟨fun a w A hA hS hd => gv1 (a_3 rfl ty_3 (gu hd 11) (hS.bk 0 rfl) rfl), ?_⟩
  refine ⟨fun a w A hA hS hd => d_7 rfl (vblt rfl (pv2 (gu hd 10) (gu hd 12)) k_2 ty_3 ze_3 (by decide) (cs := [(Value.int .i64 ((d_0 t B).2)), (Value.int .i64 ((d_0 t C).2))]) (s_9 _ _) rfl (by decide) (fun _ => And.intro trivial rfl)), ?_⟩
  refine ⟨fun a w A hA hS hd => ?_, ?_⟩
  ·skip
   obtain ⟨At, A5, AX, AT⟩ := hd 13 (by decide)
   obtain ⟨A4, AU⟩ := AX; subst AU
   have hp13_0 := AT _ (List.mem_of_getElem? (i := 0) rfl)
   exact gx1 (b_1 rfl en_80 (ev1 (c_7 (h_8 At rfl))) (callsI (greatest_ok [(d_0 t B).2, (d_0 t C).2] _ _ (SlAt.i_1 hp13_0) (by simp) (by simp)) (max ((d_0 t B).2) ((d_0 t C).2)) rfl))
  refine ⟨fun a w A hA hS hd => gv1 (a_4 rfl v_7 (hA.ev rfl)), ?_⟩
  refine ⟨fun a w A hA hS hd => gv1 (a_3 rfl ty_3 (gu hd 15) (hS.bk 4 rfl) rfl), ?_⟩
  refine ⟨fun a w A hA hS hd => gv1 (f_1 rfl (gu hd 14) (gu hd 16) (by omega) (by omega)), ?_⟩
  trivial
 intro As Az A rsf81 u D g; clear s AI
 obtain ⟨AV, AY⟩ := D 4 (by decide)
 obtain ⟨AW, AM⟩ := AY
 obtain ⟨AN, AP⟩ := D 13 (by decide)
 obtain ⟨AO, h⟩ := AP
 have AJ : Sep NoB w Az [(row (A 4) 3 1 2 [(Value.int .i64 ((d_0 t B).1)), (Value.int .i64 ((d_0 t C).1))]), (row (A 13) 3 1 2 [(Value.int .i64 ((d_0 t B).2)), (Value.int .i64 ((d_0 t C).2))]), (blk I 30 [(Value.int .i64 ((d_0 t C).1)), (Value.int .i64 ((d_0 t C).2))]), (blk E 30 [(Value.int .i64 ((d_0 t B).1)), (Value.int .i64 ((d_0 t B).2))]), (blk H 30 [(Value.int .i64 0), (Value.int .i64 0)]), (blk j 30 [(Value.int .i64 B), (Value.int .i64 C)]), (blk J 106 [(Value.int .i64 t.frm), (Value.int .i64 t.dst), vr, vb, (Value.int .i64 t.err)]), (sl vr 2 t.rows.length (pairs t.rows)), (sl vb 1 t.brk.length (ints t.brk))] := by rw [show catR rsf81 0 18 = ([(row (A 4) 3 1 2 [(Value.int .i64 ((d_0 t B).1)), (Value.int .i64 ((d_0 t C).1))]), (row (A 13) 3 1 2 [(Value.int .i64 ((d_0 t B).2)), (Value.int .i64 ((d_0 t C).2))])] : List Res) by (try simp only [catR, gr (D 0 (by decide)), gr (D 1 (by decide)), gr (D 2 (by decide)), gr (D 3 (by decide)), AM, gr (D 5 (by decide)), gr (D 6 (by decide)), gr (D 7 (by decide)), gr (D 8 (by decide)), gr (D 9 (by decide)), gr (D 10 (by decide)), gr (D 11 (by decide)), gr (D 12 (by decide)), h, gr (D 14 (by decide)), gr (D 15 (by decide)), gr (D 16 (by decide)), gr (D 17 (by decide))]); (try rfl)] at g; exact g
 have x := u.add (gs (D 8 (by decide))); clear u
 have O := x.add (gs (D 17 (by decide))); clear x
 clear D g AV AN
 clear AM
 clear AW
 clear h
 clear AO
 refine s1 O (e_0 rfl (pv2 (O.ev rfl) (O.ev rfl)) (k_9 _ _)) fun A7 P => ?_; clear O As
 refine s7 P (b_8 AJ rfl f_7 (P.ev rfl) (P.ev rfl) (i := 4) rfl (vs := [(Value.int .i64 ((min ((d_0 t B).1) ((d_0 t C).1)) - t.err)), (Value.int .i64 ((max ((d_0 t B).2) ((d_0 t C).2)) + t.err))]) rfl rfl rfl (Nat.le_of_ble_eq_true rfl)) ?_
 intro _ A0 AK y; clear P
 have AL : Sep NoB w A0 [(row (A 4) 3 1 2 [(Value.int .i64 ((d_0 t B).1)), (Value.int .i64 ((d_0 t C).1))]), (row (A 13) 3 1 2 [(Value.int .i64 ((d_0 t B).2)), (Value.int .i64 ((d_0 t C).2))]), (blk I 30 [(Value.int .i64 ((d_0 t C).1)), (Value.int .i64 ((d_0 t C).2))]), (blk E 30 [(Value.int .i64 ((d_0 t B).1)), (Value.int .i64 ((d_0 t B).2))]), (blk H 30 [(Value.int .i64 ((min ((d_0 t B).1) ((d_0 t C).1)) - t.err)), (Value.int .i64 ((max ((d_0 t B).2) ((d_0 t C).2)) + t.err))]), (blk j 30 [(Value.int .i64 B), (Value.int .i64 C)]), (blk J 106 [(Value.int .i64 t.frm), (Value.int .i64 t.dst), vr, vb, (Value.int .i64 t.err)]), (sl vr 2 t.rows.length (pairs t.rows)), (sl vb 1 t.brk.length (ints t.brk))] := AK; clear AK AJ
 refine n1 ?_
 refine c_1 ?_
 refine a_7 y (.inl rfl) (a_2 y rfl (.cellA rfl f_7 (AL.bk 4 rfl) (l := [(Value.int .i64 ((min ((d_0 t B).1) ((d_0 t C).1)) - t.err)), (Value.int .i64 ((max ((d_0 t B).2) ((d_0 t C).2)) + t.err))]) rfl rfl)) ?_
 exact ⟨rfl, AL.ext⟩
end Go.Proofs.Ytohgladndklciaa

namespace Go.Proofs.Ytohgladndklciaa
open Go.RowKit Go.Shelf Go.Eng Go.Hard
theorem indexB_int (xs : List Int) (lf : Nat → Int) (bm : Nat) (v : Value) (fid : Nat) (fs cs : Array Value) (p : Nat → Bool) (w : World) (hJ : Sep (fun b => b = bm) w w [blk bm 3 [.int .i64 (lf 0)], sl v 1 xs.length (ints xs)]) (hlen : xs.length ≤ 1000000) (hf : AsksB Try.prog w fid fs cs xs.length (fun i => .int .i64 (xs.getD i 0)) p false bm 3 (fun i => [.int .i64 (lf i)])) :
  Calls Try.prog 115 #[v, (Value.func (.func fid) fs cs)] w (Ret fun v w' => v = .int .i64 (fidx p xs.length) ∧ Ext (fun b => b = bm) w w' ∧ ∃ x, (blk bm 3 [.int .i64 x]).p w') := by
 refine a_8 Try.func115 rfl fun l S => ?_
 replace S : Fr 19 [] [(0, v), (1, (Value.func (.func fid) fs cs))] l := S
 have Z : Sep (fun b => b = bm) w w [(blk bm 3 [(Value.int .i64 (lf 0))]), (sl v 1 xs.length (ints xs))] := hJ
 refine m2 ?_
 refine s1 S (a_0 rfl (evc _ _)) fun a1 T => ?_; clear S l
 refine n2 ?_
 refine m2 ?_
 refine s1 T (a_1 rfl (T.ev rfl)) fun a3 U => ?_; clear T a1
 refine s1 U (d_2 rfl k_2 (U.ev rfl) (Z.sk 1 rfl)) fun a5 e => ?_; clear U a3
 refine s1 e (a_1 rfl (evc _ _)) fun a7 f => ?_; clear e a5
 refine n1 ?_
 refine c_3 ?_
 have g := f.as [(8, (Value.int .i64 0)), (7, (Value.int .i64 (xs.length : Int))), (0, v), (1, (Value.func (.func fid) fs cs))] rfl; clear f
 refine g_4 (G := Nat) (fun (k : Nat) a_ w_ => Fr 19 [] [(8, (Value.int .i64 (k : Int))), (7, (Value.int .i64 (xs.length : Int))), (0, v), (1, (Value.func (.func fid) fs cs))] a_ ∧ Sep (fun b => b = bm) w w_ [(blk bm 3 [(Value.int .i64 (lf k))]), (sl v 1 xs.length (ints xs))] ∧ (k ≤ xs.length) ∧ (∀ i, i < k → p i = false)) (fun k => xs.length - k) 0 ⟨g.as _ rfl, Z, by omega, by omega⟩ ?_
 clear g Z a7
 rintro k m AH ⟨D, C, hk, hn⟩
 refine m2 ?_
 refine s1 D (f_5 rfl (D.ev rfl) (D.ev rfl)) fun c A => ?_; clear D m
 refine n2 ?_
 by_cases a : (k : Int) < (xs.length : Int)
 ·skip
  rw [decide_eq_true a] at A
  refine c_0 A rfl ?_
  refine c_6 ?_
  refine a_9 ?_
  refine b_6 ?_
  refine c_3 ?_
  refine m2 ?_
  refine s1 A (a_1 rfl (A.ev rfl)) fun n H => ?_; clear A c
  refine s1 H (a_0 rfl (H.ev rfl)) fun o I => ?_; clear H n
  refine n4 ?_
  refine s1 I (a_1 rfl (I.ev rfl)) fun q J => ?_; clear I o
  refine s1 J (a_1 rfl (J.ev rfl)) fun r K => ?_; clear J q
  refine s1 K (a_1 rfl (K.ev rfl)) fun s E => ?_; clear K r
  refine s1 E (b_2 rfl k_2 ty_3 (E.ev rfl) (i := k) (E.ev rfl) (C.sk 1 rfl) (by decide) (by omega)) fun t L => ?_; clear E s
  refine s1 L (c_5 rfl ty_3 (L.ev rfl) (C.sk 1 rfl) (ints_at (by omega))) fun u F => ?_; clear L t
  refine s2 F (j_8 rfl (F.ev rfl) hf.1 (ev1 (F.ev rfl)) (hf.2 k (by omega) hn _ C.ext (C.bk 0 rfl))) ?_
  rintro d _ AI ⟨rfl, X, Y⟩ B; have Q := C.updB (i := 0) rfl X Y; clear X Y F C u
  refine n1 ?_
  rcases Bool.eq_false_or_eq_true (p k) with R | R
  ·skip
   rw [R] at B
   refine c_0 B rfl ?_
   refine b_6 ?_
   have M := B.as [(5, (Value.int .i64 (k : Int)))] rfl; clear B
   refine a_5 ?_
   refine s1 M (a_1 rfl (M.ev rfl)) fun y N => ?_; clear M d
   refine s1 N (a_0 rfl (N.ev rfl)) fun AE V => ?_; clear N y
   refine n1 ?_
   refine c_1 ?_
   refine b_9 ?_
   refine a_6 ?_
   refine a_6 ?_
   refine b_9 ?_
   refine a_6 ?_
   refine a_7 V (.inl rfl) (a_2 V rfl (.tmp rfl)) ?_
   exact ⟨by first | rw [j_7 (by omega) hn (by assumption)] | rw [i_0 (fun i hi => hn i (by omega))], Q.ext, _, Q.bk 0 rfl⟩
  skip
  rw [R] at B
  refine b_5 B rfl ?_
  refine c_6 ?_
  refine g_0 ?_
  refine a_9 ?_
  have O := B.as [(8, (Value.int .i64 (k : Int))), (7, (Value.int .i64 (xs.length : Int))), (0, v), (1, (Value.func (.func fid) fs cs))] rfl; clear B
  refine a_5 ?_
  refine s1 O (f_1 rfl (O.ev rfl) (evc _ _) (by omega) (by omega)) fun z P => ?_; clear O d
  refine s1 P (a_1 rfl (P.ev rfl)) fun AF j => ?_; clear P z
  refine e_8 ?_
  exact a_9 ⟨k + 1, ⟨j.as _ rfl, Q, by omega, (fun i hi => by rcases Nat.lt_succ_iff_lt_or_eq.1 hi with h | h; exact hn i h; subst h; assumption)⟩, by omega⟩
 skip
 rw [decide_eq_false a] at A
 refine b_5 A rfl ?_
 refine g_3 ?_
 refine b_3 ?_
 refine b_3 ?_
 refine f_2 ?_
 refine a_9 ?_
 refine m2 ?_
 refine s1 A (a_0 rfl (evc _ _)) fun AG W => ?_; clear A c
 refine n1 ?_
 refine c_1 ?_
 refine a_7 W (.inl rfl) (a_2 W rfl (.tmp rfl)) ?_
 exact ⟨by first | rw [j_7 (by omega) hn (by assumption)] | rw [i_0 (fun i hi => hn i (by omega))], C.ext, _, C.bk 0 rfl⟩
theorem contB_int (xs : List Int) (lf : Nat → Int) (bm : Nat) (v : Value) (fid : Nat) (fs cs : Array Value) (p : Nat → Bool) (w : World) (hJ : Sep (fun b => b = bm) w w [blk bm 3 [.int .i64 (lf 0)], sl v 1 xs.length (ints xs)]) (hlen : xs.length ≤ 1000000) (hf : AsksB Try.prog w fid fs cs xs.length (fun i => .int .i64 (xs.getD i 0)) p false bm 3 (fun i => [.int .i64 (lf i)])) :
  Calls Try.prog 99 #[v, (Value.func (.func fid) fs cs)] w (Ret fun v w' => v = .bool ((List.range xs.length).any p) ∧ Ext (fun b => b = bm) w w' ∧ ∃ x, (blk bm 3 [.int .i64 x]).p w') := by
 refine a_8 Try.func99 rfl fun L B => ?_
 replace B : Fr 9 [] [(0, v), (1, (Value.func (.func fid) fs cs))] L := B
 have K : Sep (fun b => b = bm) w w [(blk bm 3 [(Value.int .i64 (lf 0))]), (sl v 1 xs.length (ints xs))] := hJ
 refine m2 ?_
 refine s1 B (a_0 rfl (evc _ _)) fun N E => ?_; clear B L
 refine n4 ?_
 refine s1 E (a_1 rfl (E.ev rfl)) fun O F => ?_; clear E N
 refine s1 F (a_1 rfl (F.ev rfl)) fun P C => ?_; clear F O
 refine s2 C (b_1 rfl en_115 (ev2 (C.ev rfl) (C.ev rfl)) (indexB_int xs lf bm _ _ _ _ p _ hJ hlen hf)) ?_
 rintro Q _ S ⟨rfl, H, lx13, I⟩ G; have J := K.updB (i := 0) rfl H I; clear H I C K P
 refine s1 G (y_5 rfl (G.ev rfl) (evc _ _)) fun M A => ?_; clear G Q
 refine s1 A (a_0 rfl (A.ev rfl)) fun R D => ?_; clear A M
 refine n1 ?_
 refine c_1 ?_
 refine a_7 D (.inl rfl) (a_2 D rfl (.tmp rfl)) ?_
 exact ⟨congrArg Value.bool (r_0 p xs.length), J.ext, _, J.bk 0 rfl⟩
theorem cloB_int (x : Int) (b bm fid : Nat) (L O : Int) (fs cs : Array Value) (q : Bool) (w : World) (hJ : Sep (fun k => k = bm) w w [blk bm 3 [.int .i64 L], rob b 112 [.func (.func fid) fs cs]]) (hen : ∀ args W, (callFunc fid args).run Try.prog W = .ok (.enter fid args) W) (hf : ∀ W, Ext (fun k => k = bm) w W → (blk bm 3 [.int .i64 L]).p W → Calls Try.prog fid (fs ++ #[.int .i64 x] ++ cs) W (Ret fun v w' => v = .bool q ∧ Ext (fun k => k = bm) W w' ∧ (blk bm 3 [.int .i64 O]).p w')) :
  Calls Try.prog 100 #[(Value.int .i64 x), (bptr b 0)] w (Ret fun v w' => v = .bool (!q) ∧ Ext (fun k => k = bm) w w' ∧ (blk bm 3 [.int .i64 O]).p w') := by
 refine a_8 Try.func100 rfl fun M C => ?_
 replace C : Fr 8 [] [(0, (Value.int .i64 x)), (1, (bptr b 0))] M := C
 have A : Sep (fun k => k = bm) w w [(blk bm 3 [(Value.int .i64 L)]), (rob b 112 [(Value.func (.func fid) fs cs)])] := hJ
 refine m2 ?_
 refine s1 C (a_0 rfl (evc _ _)) fun P F => ?_; clear C M
 refine n4 ?_
 refine s1 F (a_3 rfl ty_112 (F.ev rfl) (A.rk 1 rfl) rfl) fun Q G => ?_; clear F P
 refine s1 G (a_1 rfl (G.ev rfl)) fun R D => ?_; clear G Q
 refine s2 D (j_8 rfl (D.ev rfl) hen (ev1 (D.ev rfl)) (hf _ A.ext (A.bk 0 rfl))) ?_
 rintro S _ U ⟨rfl, I, J⟩ H; have K := A.updB (i := 0) rfl I J; clear I J D A R
 refine s1 H (e_9 rfl (H.ev rfl)) fun N B => ?_; clear H S
 refine s1 B (a_0 rfl (B.ev rfl)) fun T E => ?_; clear B N
 refine n1 ?_
 refine c_1 ?_
 refine a_7 E (.inl rfl) (a_2 E rfl (.tmp rfl)) ?_
 exact ⟨rfl, K.ext, K.bk 0 rfl⟩
theorem allB_int (xs : List Int) (lf : Nat → Int) (bm : Nat) (v : Value) (fid : Nat) (fs cs : Array Value) (p : Nat → Bool) (w : World) (hJ : Sep (fun b => b = bm) w w [blk bm 3 [.int .i64 (lf 0)], sl v 1 xs.length (ints xs)]) (hlen : xs.length ≤ 1000000) (hf : AsksB Try.prog w fid fs cs xs.length (fun i => .int .i64 (xs.getD i 0)) p true bm 3 (fun i => [.int .i64 (lf i)])) :
  Calls Try.prog 69 #[v, (Value.func (.func fid) fs cs)] w (Ret fun v w' => v = .bool ((List.range xs.length).all p) ∧ Ext (fun b => b = bm) w w' ∧ ∃ x, (blk bm 3 [.int .i64 x]).p w') := by
 refine a_8 Try.func69 rfl fun N C => ?_
 replace C : Fr 9 [] [(0, v), (1, (Value.func (.func fid) fs cs))] N := C
 have M : Sep (fun b => b = bm) w w [(blk bm 3 [(Value.int .i64 (lf 0))]), (sl v 1 xs.length (ints xs))] := hJ
 refine m2 ?_
 refine s2 C (e_7 M rfl (C.ev rfl) (cs := [(Value.func (.func fid) fs cs)]) rfl) ?_
 rintro S _ Y ⟨R, rfl, A⟩ L; clear C M N
 refine s1 L (a_0 rfl (evc _ _)) fun T G => ?_; clear L S
 refine n4 ?_
 refine s1 G (a_1 rfl (G.ev rfl)) fun U H => ?_; clear G T
 refine s1 H (g_1 rfl ev0 (ev1 (H.ev rfl))) fun O B => ?_; clear H U
 refine s2 B (b_1 rfl en_99 (ev2 (B.ev rfl) (B.ev rfl)) (contB_int xs lf bm _ 100 #[] #[(bptr R 0)] (fun i => !p i) _ (A.lend (i := 1) rfl rfl (L' := [(sl v 1 xs.length (ints xs))]) (js := [2]) ⟨rfl, by decide, A.sk 2 rfl, ⟨_, rfl, fun _ hz => hz⟩, trivial⟩) hlen ⟨en_100, fun i hi hz W hW hb => cloB_int _ _ _ _ _ _ _ _ (p i) W ((A.updB (i := 1) rfl hW hb).lend (i := 1) rfl rfl (L' := [rob R 112 [(Value.func (.func fid) fs cs)]]) (js := [0]) ⟨rfl, by decide, (A.updB (i := 1) rfl hW hb).bk 0 rfl, ⟨_, rfl, fun _ hz => hz⟩, trivial⟩) hf.1 (fun W' hW' hb' => hf.2 i hi (fun j hj => (Bool.not_eq_false' (p j)).mp (hz j hj)) W' (A.ext.trans (hW.trans hW')) hb')⟩)) ?_
 rintro P _ X ⟨rfl, I, lx18, J⟩ D; have K := A.updB (i := 1) rfl I J; clear I J B A O
 refine s1 D (e_9 rfl (D.ev rfl)) fun Q E => ?_; clear D P
 refine s1 E (a_0 rfl (E.ev rfl)) fun V F => ?_; clear E Q
 refine n1 ?_
 refine c_1 ?_
 refine a_7 F (.inl rfl) (a_2 F rfl (.tmp rfl)) ?_
 exact ⟨congrArg Value.bool (any_not p xs.length), K.ext, _, K.bk 1 rfl⟩
end Go.Proofs.Ytohgladndklciaa

namespace Go.Hard
section
variable {n : Int} {t : TabD}
theorem tab_rows (h : (List.range t.rows.length).all (fun i => rowB (t.rows.getD i (0, 0))) = false) : tabB n t = false := by
  cases hb : tabB n t with
  | false => rfl
  | true =>
    have g := (tabB_iff.1 hb).2.2.2.2.2.1
    have : (List.range t.rows.length).all (fun i => rowB (t.rows.getD i (0, 0))) = true := List.all_eq_true.2 fun i hi => g i (List.mem_range.1 hi)
    rw [this] at h; cases h
theorem tab_rest (h1 : inB t.frm 0 (n - 1) = true) (h2 : inB t.dst 0 (n - 1) = true) (h3 : ¬ t.frm = t.dst) (h4 : inB t.err 0 1000 = true) (h5 : 2 ≤ t.rows.length) (h6 : (List.range t.rows.length).all (fun i => rowB (t.rows.getD i (0, 0))) = true) (h7 : ∀ i, i < t.rows.length - 1 → z_7 (aa_2 t) (t.rows.getD i (0, 0)) (t.rows.getD (i + 1) (0, 0)) = true) : tabB n t = (List.range t.brk.length).all (brkB t) := by
  have h7' : allI (t.rows.length - 1) (fun i => z_7 (aa_2 t) (t.rows.getD i (0, 0)) (t.rows.getD (i + 1) (0, 0))) = true := g_2.2 h7
  have h6' : allI t.rows.length (fun i => rowB (t.rows.getD i (0, 0))) = true := h6
  unfold tabB headB
  rw [h1, h2, h4, h6', h7', decide_eq_true (show 2 ≤ (t.rows.length : Int) by omega), decide_eq_false h3]
  rfl
theorem last_bd (i : Nat) (h : ∀ j, j < i → brkB t j = true) : -1 ≤ ab_5 t i ∧ ab_5 t i ≤ (t.rows.length : Int) := by
  induction i with
  | zero => exact ⟨Int.le_refl _, by show (-1 : Int) ≤ _; omega⟩
  | succ i ih =>
    have a := ih fun j hj => h j (by omega)
    have b := i_4.1 (h i (by omega))
    show -1 ≤ t.brk.getD i 0 ∧ t.brk.getD i 0 ≤ _
    omega
end
end Go.Hard

namespace Go.Proofs.Ytohgladndklciaa
open Go.RowKit Go.Shelf Go.Eng Go.Hard
theorem fd_106_0 : fldK Try.prog 106 0 = some 0 := by kernel_rfl
theorem fd_106_1 : fldK Try.prog 106 1 = some 1 := by kernel_rfl
theorem en_95 : ∀ args w, (callFunc 95 args).run Try.prog w = .ok (.enter 95 args) w := enters_of Try.func95 (by kernel_rfl) rfl
theorem en_94 : ∀ args w, (callFunc 94 args).run Try.prog w = .ok (.enter 94 args) w := enters_of Try.func94 (by kernel_rfl) rfl
theorem en_96 : ∀ args w, (callFunc 96 args).run Try.prog w = .ok (.enter 96 args) w := enters_of Try.func96 (by kernel_rfl) rfl
theorem lastclo_ok (x L : Int) (t : TabD) (vr vb : Value) (bm M : Nat) (w : World) (hJ : Sep (fun b => b = bm) w w [blk bm 3 [.int .i64 L], rob M 106 [.int .i64 t.frm, .int .i64 t.dst, vr, vb, .int .i64 t.err], sl vr 2 t.rows.length (pairs t.rows), sl vb 1 t.brk.length (ints t.brk)]) (m : -1 ≤ L ∧ L ≤ 1000000) (hrl : t.rows.length ≤ 1000000) :
  Calls Try.prog 96 #[(Value.int .i64 x), (bptr bm 0), (bptr M 0)] w (Ret fun v w' => v = .bool (inB x (L + 1) ((t.rows.length : Int) - 2)) ∧ Ext (fun b => b = bm) w w' ∧ (blk bm 3 [.int .i64 x]).p w') := by
 refine a_8 Try.func96 rfl fun V K => ?_
 replace K : Fr 16 [] [(0, (Value.int .i64 x)), (1, (bptr bm 0)), (2, (bptr M 0))] V := K
 have C : Sep (fun b => b = bm) w w [(blk bm 3 [(Value.int .i64 L)]), (rob M 106 [(Value.int .i64 t.frm), (Value.int .i64 t.dst), vr, vb, (Value.int .i64 t.err)]), (sl vr 2 t.rows.length (pairs t.rows)), (sl vb 1 t.brk.length (ints t.brk))] := hJ
 refine m2 ?_
 refine s1 K (a_0 rfl (evc _ _)) fun f N => ?_; clear K V
 refine n4 ?_
 refine s1 N (a_1 rfl (N.ev rfl)) fun g Q => ?_; clear N f
 refine s1 Q (a_3 rfl ty_3 (Q.ev rfl) (C.bk 0 rfl) rfl) fun h R => ?_; clear Q g
 refine s1 R (f_1 rfl (R.ev rfl) (evc _ _) (by omega) (by omega)) fun j S => ?_; clear R h
 refine s1 S (a_4 rfl i_7 (S.ev rfl)) fun k D => ?_; clear S j
 refine s1 D (a_3 rfl n_2 (D.ev rfl) (C.rk 1 rfl) rfl) fun W E => ?_; clear D k
 refine s1 E (d_2 rfl j_9 (E.ev rfl) (C.sk 2 rfl)) fun X F => ?_; clear E W
 refine s1 F (g_6 rfl (F.ev rfl) (evc _ _) (by omega) (by omega)) fun Y A => ?_; clear F X
 refine s2 A (b_1 rfl aa_8 (ev3 (A.ev rfl) (A.ev rfl) (A.ev rfl)) (k_6 _ _ _ _)) ?_
 rintro Z _ W_ ⟨rfl, hW_⟩ G; have hW2_ := hW_.symm; subst hW2_; clear hW_ A Y
 refine s1 G (a_0 rfl (G.ev rfl)) fun a O => ?_; clear G Z
 refine n2 ?_
 have H := O.as [(5, (Value.bool (inB x (L + 1) ((t.rows.length : Int) - 2)))), (0, (Value.int .i64 x)), (1, (bptr bm 0))] rfl; clear O
 refine a_5 ?_
 refine s1 H (a_1 rfl (H.ev rfl)) fun c B => ?_; clear H a
 refine s7 B (b_8 C rfl ty_3 (B.ev rfl) (B.ev rfl) (i := 0) rfl (vs := [(Value.int .i64 x)]) rfl rfl rfl (Nat.le_of_ble_eq_true rfl)) ?_
 intro _ e T I; clear B
 have U : Sep (fun b => b = bm) w e [(blk bm 3 [(Value.int .i64 x)]), (rob M 106 [(Value.int .i64 t.frm), (Value.int .i64 t.dst), vr, vb, (Value.int .i64 t.err)]), (sl vr 2 t.rows.length (pairs t.rows)), (sl vb 1 t.brk.length (ints t.brk))] := T; clear T C
 refine n4 ?_
 refine s1 I (a_1 rfl (I.ev rfl)) fun d J => ?_; clear I c
 refine s1 J (a_0 rfl (J.ev rfl)) fun l P => ?_; clear J d
 refine n1 ?_
 refine c_1 ?_
 refine a_7 P (.inl rfl) (a_2 P rfl (.tmp rfl)) ?_
 exact ⟨rfl, U.ext, U.bk 0 rfl⟩
set_option maxHeartbeats 4000000 in
theorem table_ok (sc : Int) (vt vm : Value) (h1_ : vt.oneCell' = true) (h2_ : vm.oneCell' = true) (hsc : 1 ≤ sc ∧ sc ≤ 4) (t : TabD) (vr vb : Value) (w : World) (hr : SlAt w vr 2 t.rows.length (pairs t.rows)) (hb : SlAt w vb 1 t.brk.length (ints t.brk)) (hrl : t.rows.length ≤ 1000000) (hbl : t.brk.length ≤ 1000000) :
  Calls Try.prog 65 #[(Value.agg #[(Value.int .i64 sc), vt, vm]), (Value.agg #[(Value.int .i64 t.frm), (Value.int .i64 t.dst), vr, vb, (Value.int .i64 t.err)])] w (Ret fun v w' => v = .bool (tabB sc t) ∧ Ext NoB w w') := by
 refine a_8 Try.func65 rfl fun a0 BN => ?_
 replace BN : Fr 98 [] [(0, (Value.agg #[(Value.int .i64 sc), vt, vm])), (1, (Value.agg #[(Value.int .i64 t.frm), (Value.int .i64 t.dst), vr, vb, (Value.int .i64 t.err)]))] a0 := BN
 have Dx : Sep NoB w w [(sl vr 2 t.rows.length (pairs t.rows)), (sl vb 1 t.brk.length (ints t.brk))] := e_3 ⟨rfl, hr, rfl, hb, trivial⟩
 refine m2 ?_
 refine s2 BN (e_7 Dx rfl (BN.ev rfl) (cs := [(Value.int .i64 sc), vt, vm]) rfl) ?_
 rintro a1 _ w3 ⟨b4, rfl, Dy⟩ DY; clear BN Dx a0
 refine s2 DY (e_7 Dy rfl (DY.ev rfl) (cs := [(Value.int .i64 t.frm), (Value.int .i64 t.dst), vr, vb, (Value.int .i64 t.err)]) rfl) ?_
 rintro a6 _ w8 ⟨P, rfl, BI⟩ Dw; clear DY Dy a1
 refine s1 Dw (a_0 rfl (evc _ _)) fun GY BQ => ?_; clear Dw a6
 refine n2 ?_
 refine m2 ?_
 refine s1 BQ (c_4 rfl s_7 (BQ.ev rfl) (BI.bk 1 rfl) (l := [(Value.int .i64 sc), vt, vm]) rfl rfl) fun GZ BR => ?_; clear BQ GY
 refine s1 BR (a_4 rfl fd_106_0 (BR.ev rfl)) fun Ga BS => ?_; clear BR GZ
 refine s1 BS (a_3 rfl ty_3 (BS.ev rfl) (BI.bk 0 rfl) rfl) fun Gb AL => ?_; clear BS Ga
 refine s2 AL (b_1 rfl en_93 (ev2 (AL.ev rfl) (AL.ev rfl)) (scale_ok t.frm sc _ _ _ h1_ h2_ hsc)) ?_
 rintro Gc _ HS ⟨rfl, Dm⟩ BT; have p := BI.step Dm; clear Dm AL BI Gb
 refine s1 BT (e_9 rfl (BT.ev rfl)) fun Gd BU => ?_; clear BT Gc
 refine s1 BU (a_1 rfl (BU.ev rfl)) fun Dt M => ?_; clear BU Gd
 rcases Bool.eq_false_or_eq_true ((inB t.frm 0 (sc - 1))) with Bj | Bj
 ·skip
  rw [Bj] at M
  refine s5 M (c_4 rfl s_7 (M.ev rfl) (p.bk 1 rfl) (l := [(Value.int .i64 sc), vt, vm]) rfl rfl) fun Ge BV => ?_; clear M Dt
  refine s5 BV (a_4 rfl fd_106_1 (BV.ev rfl)) fun Gf BW => ?_; clear BV Ge
  refine s5 BW (a_3 rfl ty_3 (BW.ev rfl) (p.bk 0 rfl) rfl) fun Gg Aq => ?_; clear BW Gf
  refine s6 Aq (b_1 rfl en_93 (ev2 (Aq.ev rfl) (Aq.ev rfl)) (scale_ok t.dst sc _ _ _ h1_ h2_ hsc)) ?_
  rintro Gh _ HT ⟨rfl, Dn⟩ BX; have B := p.step Dn; clear Dn Aq p Gg
  refine s5 BX (e_9 rfl (BX.ev rfl)) fun Gi A0 => ?_; clear BX Gh
  refine s1 A0 (c_8 rfl (A0.ev rfl) (A0.ev rfl)) fun Gj BY => ?_; clear A0 Gi
  refine s1 BY (a_1 rfl (BY.ev rfl)) fun Du N => ?_; clear BY Gj
  rcases Bool.eq_false_or_eq_true ((inB t.dst 0 (sc - 1))) with Bk | Bk
  ·skip
   rw [Bk] at N
   refine s5 N (a_4 rfl fd_106_0 (N.ev rfl)) fun Gk BZ => ?_; clear N Du
   refine s5 BZ (a_3 rfl ty_3 (BZ.ev rfl) (B.bk 0 rfl) rfl) fun Gl Ba => ?_; clear BZ Gk
   refine s5 Ba (a_4 rfl fd_106_1 (Ba.ev rfl)) fun Gm Bb => ?_; clear Ba Gl
   refine s5 Bb (a_3 rfl ty_3 (Bb.ev rfl) (B.bk 0 rfl) rfl) fun Gn BF => ?_; clear Bb Gm
   refine s5 BF (q_9 rfl (BF.ev rfl) (BF.ev rfl)) fun Go BG => ?_; clear BF Gn
   refine s1 BG (c_8 rfl (BG.ev rfl) (BG.ev rfl)) fun Gp Bc => ?_; clear BG Go
   refine s1 Bc (a_1 rfl (Bc.ev rfl)) fun Dv O => ?_; clear Bc Gp
   by_cases Do : t.frm = t.dst
   ·skip
    rw [decide_eq_true Do] at O
    refine s3 O fun Gq DZ => ?_; clear O Dv
    refine s3 DZ fun Gr Da => ?_; clear DZ Gq
    refine s3 Da fun Gs Db => ?_; clear Da Gr
    refine s3 Db fun Gt Bd => ?_; clear Db Gs
    refine s1 Bd (b_4 rfl (Bd.ev rfl) (evc _ _)) fun Gu Be => ?_; clear Bd Gt
    refine s1 Be (a_1 rfl (Be.ev rfl)) fun Gv Dc => ?_; clear Be Gu
    refine s3 Dc fun Gw Dd => ?_; clear Dc Gv
    refine s3 Dd fun Gx De => ?_; clear Dd Gw
    refine s3 De fun Gy Df => ?_; clear De Gx
    refine s3 Df fun Gz Bf => ?_; clear Df Gy
    refine s1 Bf (b_4 rfl (Bf.ev rfl) (evc _ _)) fun G0 Bg => ?_; clear Bf Gz
    refine s1 Bg (a_1 rfl (Bg.ev rfl)) fun G1 Dg => ?_; clear Bg G0
    refine s3 Dg fun G2 Dh => ?_; clear Dg G1
    refine s3 Dh fun G3 Di => ?_; clear Dh G2
    refine s3 Di fun G4 Dj => ?_; clear Di G3
    refine s3 Dj fun G5 Bh => ?_; clear Dj G4
    refine s1 Bh (b_4 rfl (Bh.ev rfl) (evc _ _)) fun G6 Bi => ?_; clear Bh G5
    refine n1 ?_
    refine c_0 Bi rfl ?_
    refine b_6 ?_
    have Dk := Bi.as [] rfl; clear Bi
    refine a_5 ?_
    refine s1 Dk (a_0 rfl (evc _ _)) fun HR Dl => ?_; clear Dk G6
    refine n1 ?_
    refine c_1 ?_
    refine a_6 ?_
    refine a_7 Dl (.inl rfl) (a_2 Dl rfl (.tmp rfl)) ?_
    exact ⟨congrArg Value.bool (Eq.symm (by first | exact tab_rows (by assumption) | exact o_2 (by first | exact .inl (by assumption) | exact .inr (.inl (by assumption)) | exact .inr (.inr (.inl (by assumption))) | exact .inr (.inr (.inr (.inl (by assumption)))) | exact .inr (.inr (.inr (.inr (by omega))))))), B.ext⟩
   skip
   rw [decide_eq_false Do] at O
   refine s5 O (a_4 rfl v_7 (O.ev rfl)) fun G7 q => ?_; clear O Dv
   refine s5 q (a_3 rfl ty_3 (q.ev rfl) (B.bk 0 rfl) rfl) fun Dz r => ?_; clear q G7
   refine s6 r (b_1 rfl aa_8 (ev3 (r.ev rfl) (evc _ _) (evc _ _)) (k_6 _ _ _ _)) ?_
   rintro D0 _ W_ ⟨rfl, hW_⟩ s; have hW2_ := hW_.symm; subst hW2_; clear hW_ r Dz
   refine s5 s (e_9 rfl (s.ev rfl)) fun D1 S => ?_; clear s D0
   refine s1 S (c_8 rfl (S.ev rfl) (S.ev rfl)) fun D2 u => ?_; clear S D1
   refine s1 u (a_1 rfl (u.ev rfl)) fun DR H => ?_; clear u D2
   rcases Bool.eq_false_or_eq_true ((inB t.err 0 1000)) with BK | BK
   ·skip
    rw [BK] at H
    refine s5 H (a_4 rfl i_7 (H.ev rfl)) fun D3 x => ?_; clear H DR
    refine s5 x (a_3 rfl n_2 (x.ev rfl) (B.bk 0 rfl) rfl) fun D4 y => ?_; clear x D3
    refine s5 y (d_2 rfl j_9 (y.ev rfl) (B.sk 2 rfl)) fun D5 z => ?_; clear y D4
    refine s5 z (f_5 rfl (z.ev rfl) (evc _ _)) fun D6 T => ?_; clear z D5
    refine s1 T (c_8 rfl (T.ev rfl) (T.ev rfl)) fun D7 AA => ?_; clear T D6
    refine s1 AA (a_1 rfl (AA.ev rfl)) fun DS I => ?_; clear AA D7
    by_cases DN : (t.rows.length : Int) < 2
    ·skip
     rw [decide_eq_true DN] at I
     refine s3 I fun D8 Bl => ?_; clear I DS
     refine s3 Bl fun D9 Bm => ?_; clear Bl D8
     refine s3 Bm fun EA Bn => ?_; clear Bm D9
     refine s3 Bn fun EB AB => ?_; clear Bn EA
     refine s1 AB (b_4 rfl (AB.ev rfl) (evc _ _)) fun EC AC => ?_; clear AB EB
     refine n1 ?_
     refine c_0 AC rfl ?_
     refine b_6 ?_
     have Bo := AC.as [] rfl; clear AC
     refine a_5 ?_
     refine s1 Bo (a_0 rfl (evc _ _)) fun G9 Bp => ?_; clear Bo EC
     refine n1 ?_
     refine c_1 ?_
     refine a_6 ?_
     refine a_7 Bp (.inl rfl) (a_2 Bp rfl (.tmp rfl)) ?_
     exact ⟨congrArg Value.bool (Eq.symm (by first | exact tab_rows (by assumption) | exact o_2 (by first | exact .inl (by assumption) | exact .inr (.inl (by assumption)) | exact .inr (.inr (.inl (by assumption))) | exact .inr (.inr (.inr (.inl (by assumption)))) | exact .inr (.inr (.inr (.inr (by omega))))))), B.ext⟩
    skip
    rw [decide_eq_false DN] at I
    refine s5 I (a_4 rfl i_7 (I.ev rfl)) fun ED AD => ?_; clear I DS
    refine s5 AD (a_3 rfl n_2 (AD.ev rfl) (B.bk 0 rfl) rfl) fun EE AE => ?_; clear AD ED
    refine s6 AE (b_1 rfl en_94 (ev2 (AE.ev rfl) (evf _ _)) (all_row t.rows _ 95 #[] #[] (fun i => rowB (t.rows.getD i (0, 0))) _ (B.sk 2 rfl) (by omega) ⟨en_95, fun i hi W hW => row_ok _ _ W⟩)) ?_
    rintro EF _ HK ⟨rfl, DE⟩ AF; have BJ := B.step DE; clear DE AE B EE
    refine s5 AF (e_9 rfl (AF.ev rfl)) fun EG U => ?_; clear AF EF
    refine s1 U (c_8 rfl (U.ev rfl) (U.ev rfl)) fun EH E => ?_; clear U EG
    refine n1 ?_
    rcases Bool.eq_false_or_eq_true (((List.range t.rows.length).all (fun i => rowB (t.rows.getD i (0, 0))))) with BL | BL
    ·skip
     rw [BL] at E
     refine b_5 E rfl ?_
     refine c_6 ?_
     refine a_9 ?_
     refine b_6 ?_
     have Bq := E.as [(3, (bptr P 0))] rfl; clear E
     have Br := Bq.as [(3, (bptr P 0))] rfl; clear Bq
     refine f_9 mixed Br BJ 10 [[], [0], [1], [2], [3], [], [5], [6], [7], [8]] [(Yd.val (bptr P 2)), (Yd.val vr), (Yd.val (eptr vr (0 * 2))), (Yd.val (eptr vr (0 * 2 + 1))), (Yd.val (Value.int .i64 ((t.rows.getD 0 (0, 0)).2))), (Yd.val (bptr P 2)), (Yd.val vr), (Yd.val (eptr vr (1 * 2))), (Yd.val (eptr vr (1 * 2 + 1))), (Yd.val (Value.int .i64 ((t.rows.getD 1 (0, 0)).2)))] (by decide +kernel) rfl rfl ?_ ?_
     ·skip
      refine dq (fun a w hA hS hd => a_4 rfl i_7 (hA.ev rfl)) ?_
      refine dq (fun a w hA hS hd => a_3 rfl n_2 (hq hd 0) (hS.bk 0 rfl) rfl) ?_
      refine dq (fun a w hA hS hd => b_2 rfl j_9 h_9 (hq hd 1) (i := 0) (show _ = Value.int .i64 ((0 : Nat) : Int) from (evc _ _)) (hS.sk 2 rfl) (by decide) (by omega)) ?_
      refine dq (fun a w hA hS hd => d_8 rfl l_1 (hq hd 2) (hS.sk 2 rfl) (by rw [((hS.sk 2 rfl)).1]; omega)) ?_
      refine dq (fun a w hA hS hd => c_5 rfl ty_3 (hq hd 3) (hS.sk 2 rfl) (i_2 (by omega))) ?_
      refine dq (fun a w hA hS hd => a_4 rfl i_7 (hA.ev rfl)) ?_
      refine dq (fun a w hA hS hd => a_3 rfl n_2 (hq hd 5) (hS.bk 0 rfl) rfl) ?_
      refine dq (fun a w hA hS hd => b_2 rfl j_9 h_9 (hq hd 6) (i := 1) (show _ = Value.int .i64 ((1 : Nat) : Int) from (evc _ _)) (hS.sk 2 rfl) (by decide) (by omega)) ?_
      refine dq (fun a w hA hS hd => d_8 rfl l_1 (hq hd 7) (hS.sk 2 rfl) (by rw [((hS.sk 2 rfl)).1]; omega)) ?_
      refine dq (fun a w hA hS hd => c_5 rfl ty_3 (hq hd 8) (hS.sk 2 rfl) (i_2 (by omega))) ?_
      trivial
     intro EI HL Bs Q BH; clear Br BJ
     have Bt := Bs.add (hz BH 4); clear Bs
     have V := Bt.add (hz BH 9); clear Bt
     clear BH
     refine s1 V (f_5 rfl (V.ev rfl) (V.ev rfl)) fun EJ AG => ?_; clear V EI
     refine s1 AG (a_0 rfl (AG.ev rfl)) fun EK AH => ?_; clear AG EJ
     refine n2 ?_
     refine m2 ?_
     refine s1 AH (a_4 rfl i_7 (AH.ev rfl)) fun EL AI => ?_; clear AH EK
     refine s1 AI (a_3 rfl n_2 (AI.ev rfl) (Q.bk 0 rfl) rfl) fun EM AJ => ?_; clear AI EL
     refine s1 AJ (op_sliceLo rfl j_9 h_9 (AJ.ev rfl) (l := 1) (show _ = Value.int .i64 ((1 : Nat) : Int) from (evc _ _)) (Q.sk 2 rfl) (by omega)) fun EN AK => ?_; clear AJ EM
     refine s1 AK (d_2 rfl j_9 (AK.ev rfl) (SlAt.say (n' := (t.rows.length - 1)) (cs' := (pairs (t.rows.drop 1))) (SlAt.cut (Q.sk 2 rfl) (by omega) (Nat.le_refl _)) rfl (o_6 _))) fun EO Bu => ?_; clear AK EN
     refine s1 Bu (a_1 rfl (evc _ _)) fun EP Bv => ?_; clear Bu EO
     refine n1 ?_
     refine c_3 ?_
     have Bw := Bv.as [(62, (Value.int .i64 0)), (61, (Value.int .i64 (((t.rows.length - 1) : Nat) : Int))), (60, (slcut vr 1 t.rows.length 2)), (5, (Value.bool (decide (((t.rows.getD 0 (0, 0)).2) < ((t.rows.getD 1 (0, 0)).2))))), (3, (bptr P 0))] rfl; clear Bv
     refine g_4 (G := Nat) (fun (k : Nat) a_ w_ => Fr 98 [] [(62, (Value.int .i64 (k : Int))), (61, (Value.int .i64 (((t.rows.length - 1) : Nat) : Int))), (60, (slcut vr 1 t.rows.length 2)), (5, (Value.bool (decide (((t.rows.getD 0 (0, 0)).2) < ((t.rows.getD 1 (0, 0)).2))))), (3, (bptr P 0))] a_ ∧ Sep NoB w w_ [(blk P 106 [(Value.int .i64 t.frm), (Value.int .i64 t.dst), vr, vb, (Value.int .i64 t.err)]), (blk b4 37 [(Value.int .i64 sc), vt, vm]), (sl vr 2 t.rows.length (pairs t.rows)), (sl vb 1 t.brk.length (ints t.brk))] ∧ (k ≤ t.rows.length - 1) ∧ (∀ i, i < k → z_7 (aa_2 t) (t.rows.getD i (0, 0)) (t.rows.getD (i + 1) (0, 0)) = true)) (fun k => t.rows.length - 1 - k) 0 ⟨Bw.as _ rfl, Q, by omega, (fun _ h => absurd h (Nat.not_lt_zero _))⟩ ?_
     clear Bw Q EP
     rintro k EQ HM ⟨X, L, hkk, hst⟩
     refine m2 ?_
     refine s1 X (f_5 rfl (X.ev rfl) (X.ev rfl)) fun DT C => ?_; clear X EQ
     refine n2 ?_
     by_cases DO : (k : Int) < (((t.rows.length - 1) : Nat) : Int)
     ·skip
      rw [decide_eq_true DO] at C
      refine c_0 C rfl ?_
      refine c_6 ?_
      refine a_9 ?_
      refine b_6 ?_
      refine c_3 ?_
      refine m2 ?_
      refine s1 C (a_1 rfl (C.ev rfl)) fun ER Y => ?_; clear C DT
      refine s1 Y (b_2 rfl j_9 h_9 (Y.ev rfl) (i := k) (Y.ev rfl) (SlAt.say (n' := (t.rows.length - 1)) (cs' := (pairs (t.rows.drop 1))) (SlAt.cut (L.sk 2 rfl) (by omega) (Nat.le_refl _)) rfl (o_6 _)) (by decide) (by omega)) fun ES AM => ?_; clear Y ER
      refine s1 AM (e_2 rfl h_9 (AM.ev rfl) (SlAt.say (n' := (t.rows.length - 1)) (cs' := (pairs (t.rows.drop 1))) (SlAt.cut (L.sk 2 rfl) (by omega) (Nat.le_refl _)) rfl (o_6 _)) (dropP_all (by omega)) rfl (by decide)) fun ET Bx => ?_; clear AM ES
      refine s2 Bx (d_9 L rfl x_2 (cs := [(Value.int .i64 0), (Value.int .i64 0)]) rfl) ?_
      rintro EU _ HN ⟨BO, rfl, DH⟩ AN; clear Bx L ET
      refine s1 AN (a_0 rfl (AN.ev rfl)) fun EV Z => ?_; clear AN EU
      refine s7 Z (b_8 DH rfl h_9 (Z.ev rfl) (Z.ev rfl) (i := 0) rfl (vs := [(Value.int .i64 ((t.rows.getD (k + 1) (0, 0)).1)), (Value.int .i64 ((t.rows.getD (k + 1) (0, 0)).2))]) rfl rfl rfl (Nat.le_of_ble_eq_true rfl)) ?_
      intro _ GU DI AO; clear Z
      have R : Sep NoB w GU [(blk BO 107 [(Value.int .i64 ((t.rows.getD (k + 1) (0, 0)).1)), (Value.int .i64 ((t.rows.getD (k + 1) (0, 0)).2))]), (blk P 106 [(Value.int .i64 t.frm), (Value.int .i64 t.dst), vr, vb, (Value.int .i64 t.err)]), (blk b4 37 [(Value.int .i64 sc), vt, vm]), (sl vr 2 t.rows.length (pairs t.rows)), (sl vb 1 t.brk.length (ints t.brk))] := DI; clear DI DH
      refine n4 ?_
      refine s1 AO (a_4 rfl i_7 (AO.ev rfl)) fun EW AP => ?_; clear AO EV
      refine s1 AP (a_3 rfl n_2 (AP.ev rfl) (R.bk 1 rfl) rfl) fun EX AQ => ?_; clear AP EW
      refine s1 AQ (a_1 rfl (AQ.ev rfl)) fun EY b => ?_; clear AQ EX
      refine s1 b (b_2 rfl j_9 h_9 (b.ev rfl) (i := k) (b.ev rfl) (R.sk 3 rfl) (by decide) (by omega)) fun EZ AR => ?_; clear b EY
      refine s1 AR (e_2 rfl h_9 (AR.ev rfl) (R.sk 3 rfl) (h_5 (by omega)) rfl (by decide)) fun Ea By => ?_; clear AR EZ
      refine s2 By (d_9 R rfl x_2 (cs := [(Value.int .i64 0), (Value.int .i64 0)]) rfl) ?_
      rintro Eb _ HO ⟨DX, rfl, DJ⟩ c; clear By R Ea
      refine s7 c (b_8 DJ rfl h_9 (c.ev rfl) (c.ev rfl) (i := 0) rfl (vs := [(Value.int .i64 ((t.rows.getD k (0, 0)).1)), (Value.int .i64 ((t.rows.getD k (0, 0)).2))]) rfl rfl rfl (Nat.le_of_ble_eq_true rfl)) ?_
      intro _ GV DK Bz; clear c
      have A : Sep NoB w GV [(blk DX 107 [(Value.int .i64 ((t.rows.getD k (0, 0)).1)), (Value.int .i64 ((t.rows.getD k (0, 0)).2))]), (blk BO 107 [(Value.int .i64 ((t.rows.getD (k + 1) (0, 0)).1)), (Value.int .i64 ((t.rows.getD (k + 1) (0, 0)).2))]), (blk P 106 [(Value.int .i64 t.frm), (Value.int .i64 t.dst), vr, vb, (Value.int .i64 t.err)]), (blk b4 37 [(Value.int .i64 sc), vt, vm]), (sl vr 2 t.rows.length (pairs t.rows)), (sl vb 1 t.brk.length (ints t.brk))] := DK; clear DK DJ
      refine n2 ?_
      have AS := Bz.as [(8, (bptr DX 0)), (7, (bptr BO 0)), (62, (Value.int .i64 (k : Int))), (61, (Value.int .i64 (((t.rows.length - 1) : Nat) : Int))), (60, (slcut vr 1 t.rows.length 2)), (5, (Value.bool (decide (((t.rows.getD 0 (0, 0)).2) < ((t.rows.getD 1 (0, 0)).2))))), (3, (bptr P 0))] rfl; clear Bz
      refine a_5 ?_
      refine s1 AS (a_4 rfl i_8 (AS.ev rfl)) fun Ec AT => ?_; clear AS Eb
      refine s1 AT (a_3 rfl ty_3 (AT.ev rfl) (A.bk 1 rfl) rfl) fun Ed AU => ?_; clear AT Ec
      refine s1 AU (a_4 rfl i_8 (AU.ev rfl)) fun Ee AV => ?_; clear AU Ed
      refine s1 AV (a_3 rfl ty_3 (AV.ev rfl) (A.bk 0 rfl) rfl) fun Ef d => ?_; clear AV Ee
      refine s1 d (t_1 rfl (d.ev rfl) (d.ev rfl)) fun Eg AW => ?_; clear d Ef
      refine s1 AW (a_1 rfl (AW.ev rfl)) fun DU J => ?_; clear AW Eg
      by_cases DP : ((t.rows.getD (k + 1) (0, 0)).1) ≤ ((t.rows.getD k (0, 0)).1)
      ·skip
       rw [decide_eq_true DP] at J
       refine s3 J fun Eh B0 => ?_; clear J DU
       refine s3 B0 fun Ei B1 => ?_; clear B0 Eh
       refine s3 B1 fun Ej B2 => ?_; clear B1 Ei
       refine s3 B2 fun Ek B3 => ?_; clear B2 Ej
       refine s3 B3 fun El AX => ?_; clear B3 Ek
       refine s1 AX (b_4 rfl (AX.ev rfl) (evc _ _)) fun Em AY => ?_; clear AX El
       refine s1 AY (a_1 rfl (AY.ev rfl)) fun En B4 => ?_; clear AY Em
       refine s3 B4 fun Eo B5 => ?_; clear B4 En
       refine s3 B5 fun Ep B6 => ?_; clear B5 Eo
       refine s3 B6 fun Er B7 => ?_; clear B6 Ep
       refine s3 B7 fun Es B8 => ?_; clear B7 Er
       refine s3 B8 fun Et B9 => ?_; clear B8 Es
       refine s3 B9 fun Eu CA => ?_; clear B9 Et
       refine s3 CA fun Ev AZ => ?_; clear CA Eu
       refine s1 AZ (b_4 rfl (AZ.ev rfl) (evc _ _)) fun Ew Aa => ?_; clear AZ Ev
       refine n1 ?_
       refine c_0 Aa rfl ?_
       refine b_6 ?_
       have CB := Aa.as [] rfl; clear Aa
       refine a_5 ?_
       refine s1 CB (a_0 rfl (evc _ _)) fun HA CC => ?_; clear CB Ew
       refine n1 ?_
       refine c_1 ?_
       refine b_9 ?_
       refine a_6 ?_
       refine a_6 ?_
       refine b_9 ?_
       refine a_6 ?_
       refine a_7 CC (.inl rfl) (a_2 CC rfl (.tmp rfl)) ?_
       exact ⟨congrArg Value.bool (Eq.symm (t_2 (k := k) (by omega) (by first | exact neq_n (by assumption) | exact q_3 (.inl (by omega)) | exact q_3 (.inr (.inl (by omega)))))), A.ext⟩
      skip
      rw [decide_eq_false DP] at J
      refine s5 J (a_4 rfl l_1 (J.ev rfl)) fun Ex Ab => ?_; clear J DU
      refine s5 Ab (a_3 rfl ty_3 (Ab.ev rfl) (A.bk 1 rfl) rfl) fun Ey Ac => ?_; clear Ab Ex
      refine s5 Ac (a_4 rfl l_1 (Ac.ev rfl)) fun Ez Ad => ?_; clear Ac Ey
      refine s5 Ad (a_3 rfl ty_3 (Ad.ev rfl) (A.bk 0 rfl) rfl) fun E0 e => ?_; clear Ad Ez
      refine s5 e (q_9 rfl (e.ev rfl) (e.ev rfl)) fun E1 f => ?_; clear e E0
      refine s1 f (c_8 rfl (f.ev rfl) (f.ev rfl)) fun E2 Ae => ?_; clear f E1
      refine s1 Ae (a_1 rfl (Ae.ev rfl)) fun DV K => ?_; clear Ae E2
      by_cases DQ : ((t.rows.getD (k + 1) (0, 0)).2) = ((t.rows.getD k (0, 0)).2)
      ·skip
       rw [decide_eq_true DQ] at K
       refine s3 K fun E3 CD => ?_; clear K DV
       refine s3 CD fun E4 CE => ?_; clear CD E3
       refine s3 CE fun E5 CF => ?_; clear CE E4
       refine s3 CF fun E6 CG => ?_; clear CF E5
       refine s3 CG fun E7 CH => ?_; clear CG E6
       refine s3 CH fun E8 CI => ?_; clear CH E7
       refine s3 CI fun E9 Af => ?_; clear CI E8
       refine s1 Af (b_4 rfl (Af.ev rfl) (evc _ _)) fun FA Ag => ?_; clear Af E9
       refine n1 ?_
       refine c_0 Ag rfl ?_
       refine b_6 ?_
       have CJ := Ag.as [] rfl; clear Ag
       refine a_5 ?_
       refine s1 CJ (a_0 rfl (evc _ _)) fun HB CK => ?_; clear CJ FA
       refine n1 ?_
       refine c_1 ?_
       refine b_9 ?_
       refine a_6 ?_
       refine a_6 ?_
       refine b_9 ?_
       refine a_6 ?_
       refine a_7 CK (.inl rfl) (a_2 CK rfl (.tmp rfl)) ?_
       exact ⟨congrArg Value.bool (Eq.symm (t_2 (k := k) (by omega) (by first | exact neq_n (by assumption) | exact q_3 (.inl (by omega)) | exact q_3 (.inr (.inl (by omega)))))), A.ext⟩
      skip
      rw [decide_eq_false DQ] at K
      refine s5 K (a_4 rfl l_1 (K.ev rfl)) fun FB Ah => ?_; clear K DV
      refine s5 Ah (a_3 rfl ty_3 (Ah.ev rfl) (A.bk 1 rfl) rfl) fun FC Ai => ?_; clear Ah FB
      refine s5 Ai (a_4 rfl l_1 (Ai.ev rfl)) fun FD Aj => ?_; clear Ai FC
      refine s5 Aj (a_3 rfl ty_3 (Aj.ev rfl) (A.bk 0 rfl) rfl) fun FE g => ?_; clear Aj FD
      refine s5 g (j_6 rfl (g.ev rfl) (g.ev rfl)) fun FF Ak => ?_; clear g FE
      refine s5 Ak (a_1 rfl (Ak.ev rfl)) fun FG j => ?_; clear Ak FF
      refine s5 j (op_neqB un_4 rfl (j.ev rfl) (j.ev rfl)) fun FH m => ?_; clear j FG
      refine s1 m (c_8 rfl (m.ev rfl) (m.ev rfl)) fun DW F => ?_; clear m FH
      refine n1 ?_
      rcases Bool.eq_false_or_eq_true ((decide (((t.rows.getD k (0, 0)).2) < ((t.rows.getD (k + 1) (0, 0)).2))) == (decide (((t.rows.getD 0 (0, 0)).2) < ((t.rows.getD 1 (0, 0)).2)))) with BM | BM
      ·skip
       rw [BM] at F
       refine b_5 F rfl ?_
       refine c_6 ?_
       refine g_0 ?_
       refine a_9 ?_
       have Al := F.as [(62, (Value.int .i64 (k : Int))), (61, (Value.int .i64 (((t.rows.length - 1) : Nat) : Int))), (60, (slcut vr 1 t.rows.length 2)), (5, (Value.bool (decide (((t.rows.getD 0 (0, 0)).2) < ((t.rows.getD 1 (0, 0)).2))))), (3, (bptr P 0))] rfl; clear F
       refine a_5 ?_
       refine s1 Al (f_1 rfl (Al.ev rfl) (evc _ _) (by omega) (by omega)) fun FI Am => ?_; clear Al DW
       refine s1 Am (a_1 rfl (Am.ev rfl)) fun HC Dq => ?_; clear Am FI
       refine e_8 ?_
       have Dr := A.gkp (gpc 2 (gpc 3 (gpc 4 (gpc 5 gpn)))); clear A
       exact a_9 ⟨k + 1, ⟨Dq.as _ rfl, Dr, by omega, (fun i hi => by rcases Nat.lt_succ_iff_lt_or_eq.1 hi with h | h; exact hst i h; subst h; exact neq_y (by omega) (by omega) (by assumption))⟩, by omega⟩
      skip
      rw [BM] at F
      refine c_0 F rfl ?_
      refine b_6 ?_
      have CL := F.as [] rfl; clear F
      refine a_5 ?_
      refine s1 CL (a_0 rfl (evc _ _)) fun HD CM => ?_; clear CL DW
      refine n1 ?_
      refine c_1 ?_
      refine b_9 ?_
      refine a_6 ?_
      refine a_6 ?_
      refine b_9 ?_
      refine a_6 ?_
      refine a_7 CM (.inl rfl) (a_2 CM rfl (.tmp rfl)) ?_
      exact ⟨congrArg Value.bool (Eq.symm (t_2 (k := k) (by omega) (by first | exact neq_n (by assumption) | exact q_3 (.inl (by omega)) | exact q_3 (.inr (.inl (by omega)))))), A.ext⟩
     skip
     rw [decide_eq_false DO] at C
     refine b_5 C rfl ?_
     refine g_3 ?_
     refine b_3 ?_
     refine b_3 ?_
     refine f_2 ?_
     refine a_9 ?_
     refine m2 ?_
     refine s2 C (d_9 L rfl ze_3 (cs := [(Value.int .i64 0)]) rfl) ?_
     rintro FJ _ HP ⟨BP, rfl, DL⟩ An; clear C L DT
     refine s7 An (b_8 DL rfl ty_3 (An.ev rfl) (evc _ _) (i := 0) rfl (vs := [(Value.int .i64 (-1))]) rfl rfl rfl (Nat.le_of_ble_eq_true rfl)) ?_
     intro _ GW DM Ao; clear An
     have D : Sep NoB w GW [(blk BP 3 [(Value.int .i64 (-1))]), (blk P 106 [(Value.int .i64 t.frm), (Value.int .i64 t.dst), vr, vb, (Value.int .i64 t.err)]), (blk b4 37 [(Value.int .i64 sc), vt, vm]), (sl vr 2 t.rows.length (pairs t.rows)), (sl vb 1 t.brk.length (ints t.brk))] := DM; clear DM DL
     refine n4 ?_
     refine s1 Ao (a_4 rfl fd_106_3 (Ao.ev rfl)) fun FK Ap => ?_; clear Ao FJ
     refine s1 Ap (a_3 rfl v_2 (Ap.ev rfl) (D.bk 1 rfl) rfl) fun FL n => ?_; clear Ap FK
     refine s1 n (g_1 rfl ev0 (ev2 (n.ev rfl) (n.ev rfl))) fun FM o => ?_; clear n FL
     refine s2 o (b_1 rfl en_69 (ev2 (o.ev rfl) (o.ev rfl)) (allB_int t.brk (ab_5 t) BP _ 96 #[] #[(bptr BP 0), (bptr P 0)] (brkB t) _ (D.lend (i := 0) rfl rfl (L' := [(sl vb 1 t.brk.length (ints t.brk))]) (js := [4]) ⟨rfl, by decide, D.sk 4 rfl, ⟨_, rfl, fun _ hz => hz⟩, trivial⟩) hbl ⟨en_96, fun i hi hz W hW hb => lastclo_ok _ _ t vr vb _ _ W ((D.updB (i := 0) rfl hW hb).lend (i := 0) rfl rfl (L' := [rob P 106 [.int .i64 t.frm, .int .i64 t.dst, vr, vb, .int .i64 t.err], (sl vr 2 t.rows.length (pairs t.rows)), (sl vb 1 t.brk.length (ints t.brk))]) (js := [1, 3, 4]) ⟨rfl, by decide, (D.updB (i := 0) rfl hW hb).bk 1 rfl, ⟨_, rfl, fun _ hz => hz⟩, rfl, by decide, (D.updB (i := 0) rfl hW hb).sk 3 rfl, ⟨_, rfl, fun _ hz => hz⟩, rfl, by decide, (D.updB (i := 0) rfl hW hb).sk 4 rfl, ⟨_, rfl, fun _ hz => hz⟩, trivial⟩) (by have := last_bd (t := t) i hz; omega) hrl⟩)) ?_
     rintro FN _ HQ ⟨rfl, DF, lx349, DG⟩ Ar; have Ds := D.updB (i := 0) rfl DF DG; clear DF DG o D FM
     refine s1 Ar (a_0 rfl (Ar.ev rfl)) fun HE CN => ?_; clear Ar FN
     refine n1 ?_
     refine c_1 ?_
     refine a_7 CN (.inl rfl) (a_2 CN rfl (.tmp rfl)) ?_
     exact ⟨congrArg Value.bool (Eq.symm (tab_rest (by assumption) (by assumption) (by assumption) (by assumption) (by omega) (by assumption) (fun i hi => hst i (by omega)))), Ds.ext⟩
    skip
    rw [BL] at E
    refine c_0 E rfl ?_
    refine b_6 ?_
    have CO := E.as [] rfl; clear E
    refine a_5 ?_
    refine s1 CO (a_0 rfl (evc _ _)) fun HF CP => ?_; clear CO EH
    refine n1 ?_
    refine c_1 ?_
    refine a_6 ?_
    refine a_7 CP (.inl rfl) (a_2 CP rfl (.tmp rfl)) ?_
    exact ⟨congrArg Value.bool (Eq.symm (by first | exact tab_rows (by assumption) | exact o_2 (by first | exact .inl (by assumption) | exact .inr (.inl (by assumption)) | exact .inr (.inr (.inl (by assumption))) | exact .inr (.inr (.inr (.inl (by assumption)))) | exact .inr (.inr (.inr (.inr (by omega))))))), BJ.ext⟩
   skip
   rw [BK] at H
   refine s3 H fun FO CQ => ?_; clear H DR
   refine s3 CQ fun FP CR => ?_; clear CQ FO
   refine s3 CR fun FQ CS => ?_; clear CR FP
   refine s3 CS fun FSa As => ?_; clear CS FQ
   refine s1 As (b_4 rfl (As.ev rfl) (evc _ _)) fun FT At => ?_; clear As FSa
   refine s1 At (a_1 rfl (At.ev rfl)) fun FU CT => ?_; clear At FT
   refine s3 CT fun FV CU => ?_; clear CT FU
   refine s3 CU fun FW CV => ?_; clear CU FV
   refine s3 CV fun FX CW => ?_; clear CV FW
   refine s3 CW fun FY Au => ?_; clear CW FX
   refine s1 Au (b_4 rfl (Au.ev rfl) (evc _ _)) fun FZ Av => ?_; clear Au FY
   refine n1 ?_
   refine c_0 Av rfl ?_
   refine b_6 ?_
   have CX := Av.as [] rfl; clear Av
   refine a_5 ?_
   refine s1 CX (a_0 rfl (evc _ _)) fun HG CY => ?_; clear CX FZ
   refine n1 ?_
   refine c_1 ?_
   refine a_6 ?_
   refine a_7 CY (.inl rfl) (a_2 CY rfl (.tmp rfl)) ?_
   exact ⟨congrArg Value.bool (Eq.symm (by first | exact tab_rows (by assumption) | exact o_2 (by first | exact .inl (by assumption) | exact .inr (.inl (by assumption)) | exact .inr (.inr (.inl (by assumption))) | exact .inr (.inr (.inr (.inl (by assumption)))) | exact .inr (.inr (.inr (.inr (by omega))))))), B.ext⟩
  skip
  rw [Bk] at N
  refine s3 N fun Fa CZ => ?_; clear N Du
  refine s3 CZ fun Fb Ca => ?_; clear CZ Fa
  refine s3 Ca fun Fc Cb => ?_; clear Ca Fb
  refine s3 Cb fun Fd Cc => ?_; clear Cb Fc
  refine s3 Cc fun Fe Aw => ?_; clear Cc Fd
  refine s1 Aw (b_4 rfl (Aw.ev rfl) (evc _ _)) fun Ff Ax => ?_; clear Aw Fe
  refine s1 Ax (a_1 rfl (Ax.ev rfl)) fun Fg Cd => ?_; clear Ax Ff
  refine s3 Cd fun Fh Ce => ?_; clear Cd Fg
  refine s3 Ce fun Fi Cf => ?_; clear Ce Fh
  refine s3 Cf fun Fj Cg => ?_; clear Cf Fi
  refine s3 Cg fun Fk Ay => ?_; clear Cg Fj
  refine s1 Ay (b_4 rfl (Ay.ev rfl) (evc _ _)) fun Fl Az => ?_; clear Ay Fk
  refine s1 Az (a_1 rfl (Az.ev rfl)) fun Fm Ch => ?_; clear Az Fl
  refine s3 Ch fun Fn Ci => ?_; clear Ch Fm
  refine s3 Ci fun Fo Cj => ?_; clear Ci Fn
  refine s3 Cj fun Fp Ck => ?_; clear Cj Fo
  refine s3 Ck fun Fq A1 => ?_; clear Ck Fp
  refine s1 A1 (b_4 rfl (A1.ev rfl) (evc _ _)) fun Fs A2 => ?_; clear A1 Fq
  refine s1 A2 (a_1 rfl (A2.ev rfl)) fun Ft Cl => ?_; clear A2 Fs
  refine s3 Cl fun Fu Cm => ?_; clear Cl Ft
  refine s3 Cm fun Fv Cn => ?_; clear Cm Fu
  refine s3 Cn fun Fw Co => ?_; clear Cn Fv
  refine s3 Co fun Fx A3 => ?_; clear Co Fw
  refine s1 A3 (b_4 rfl (A3.ev rfl) (evc _ _)) fun Fy A4 => ?_; clear A3 Fx
  refine n1 ?_
  refine c_0 A4 rfl ?_
  refine b_6 ?_
  have Cp := A4.as [] rfl; clear A4
  refine a_5 ?_
  refine s1 Cp (a_0 rfl (evc _ _)) fun HH Cq => ?_; clear Cp Fy
  refine n1 ?_
  refine c_1 ?_
  refine a_6 ?_
  refine a_7 Cq (.inl rfl) (a_2 Cq rfl (.tmp rfl)) ?_
  exact ⟨congrArg Value.bool (Eq.symm (by first | exact tab_rows (by assumption) | exact o_2 (by first | exact .inl (by assumption) | exact .inr (.inl (by assumption)) | exact .inr (.inr (.inl (by assumption))) | exact .inr (.inr (.inr (.inl (by assumption)))) | exact .inr (.inr (.inr (.inr (by omega))))))), B.ext⟩
 skip
 rw [Bj] at M
 refine s3 M fun Fz Cr => ?_; clear M Dt
 refine s3 Cr fun F0 Cs => ?_; clear Cr Fz
 refine s3 Cs fun F1 Ct => ?_; clear Cs F0
 refine s3 Ct fun F2 Cu => ?_; clear Ct F1
 refine s3 Cu fun F3 A5 => ?_; clear Cu F2
 refine s1 A5 (b_4 rfl (A5.ev rfl) (evc _ _)) fun F4 A6 => ?_; clear A5 F3
 refine s1 A6 (a_1 rfl (A6.ev rfl)) fun F5 Cv => ?_; clear A6 F4
 refine s3 Cv fun F6 Cw => ?_; clear Cv F5
 refine s3 Cw fun F7 Cx => ?_; clear Cw F6
 refine s3 Cx fun F8 Cy => ?_; clear Cx F7
 refine s3 Cy fun F9 Cz => ?_; clear Cy F8
 refine s3 Cz fun GA A7 => ?_; clear Cz F9
 refine s1 A7 (b_4 rfl (A7.ev rfl) (evc _ _)) fun GB A8 => ?_; clear A7 GA
 refine s1 A8 (a_1 rfl (A8.ev rfl)) fun GC C0 => ?_; clear A8 GB
 refine s3 C0 fun GD C1 => ?_; clear C0 GC
 refine s3 C1 fun GE C2 => ?_; clear C1 GD
 refine s3 C2 fun GF C3 => ?_; clear C2 GE
 refine s3 C3 fun GG A9 => ?_; clear C3 GF
 refine s1 A9 (b_4 rfl (A9.ev rfl) (evc _ _)) fun GH BA => ?_; clear A9 GG
 refine s1 BA (a_1 rfl (BA.ev rfl)) fun GI C4 => ?_; clear BA GH
 refine s3 C4 fun GJ C5 => ?_; clear C4 GI
 refine s3 C5 fun GK C6 => ?_; clear C5 GJ
 refine s3 C6 fun GL C7 => ?_; clear C6 GK
 refine s3 C7 fun GM BB => ?_; clear C7 GL
 refine s1 BB (b_4 rfl (BB.ev rfl) (evc _ _)) fun GN BC => ?_; clear BB GM
 refine s1 BC (a_1 rfl (BC.ev rfl)) fun GO C8 => ?_; clear BC GN
 refine s3 C8 fun GP C9 => ?_; clear C8 GO
 refine s3 C9 fun GQ DA => ?_; clear C9 GP
 refine s3 DA fun GR DB => ?_; clear DA GQ
 refine s3 DB fun GS BD => ?_; clear DB GR
 refine s1 BD (b_4 rfl (BD.ev rfl) (evc _ _)) fun GT BE => ?_; clear BD GS
 refine n1 ?_
 refine c_0 BE rfl ?_
 refine b_6 ?_
 have DC := BE.as [] rfl; clear BE
 refine a_5 ?_
 refine s1 DC (a_0 rfl (evc _ _)) fun HI DD => ?_; clear DC GT
 refine n1 ?_
 refine c_1 ?_
 refine a_6 ?_
 refine a_7 DD (.inl rfl) (a_2 DD rfl (.tmp rfl)) ?_
 exact ⟨congrArg Value.bool (Eq.symm (by first | exact tab_rows (by assumption) | exact o_2 (by first | exact .inl (by assumption) | exact .inr (.inl (by assumption)) | exact .inr (.inr (.inl (by assumption))) | exact .inr (.inr (.inr (.inl (by assumption)))) | exact .inr (.inr (.inr (.inr (by omega))))))), p.ext⟩
end Go.Proofs.Ytohgladndklciaa
