/-
  When a table is one of a book: told by the first thing that is not right.
  The straight lines of a table that are not broken, in order; what a function that goes through them finds.
  When a table is one of a book: told by all its tests at once.
  The error of a book, told by the first thing that is not right; thin books.
-/
import Derived.Test.YtohgladndklciaaBa
import Derived.Test.YtohgladndklciaaEnga
import Derived.Test.YtohgladndklciaaEngb
set_option linter.unusedSimpArgs false
set_option linter.unusedVariables false
namespace Go.Hard
section
variable {n : Int} {t : TabD} {k : Nat}
theorem tabB_iff : tabB n t = true ↔ inB t.frm 0 (n - 1) = true ∧ inB t.dst 0 (n - 1) = true ∧ t.frm ≠ t.dst ∧ inB t.err 0 1000 = true ∧ 2 ≤ (t.rows.length : Int) ∧ (∀ i, i < t.rows.length → rowB (t.rows.getD i (0, 0)) = true) ∧ (∀ i, i < t.rows.length - 1 → ac_6 (ad_6 t) (t.rows.getD i (0, 0)) (t.rows.getD (i + 1) (0, 0)) = true) ∧ ∀ i, i < t.brk.length → brkB t i = true := by
  unfold tabB headB
  simp only [Bool.and_eq_true, Bool.not_eq_true', decide_eq_false_iff_not, decide_eq_true_eq, i_3, ne_eq, and_assoc]
theorem q_2 (h : inB t.frm 0 (n - 1) = false ∨ inB t.dst 0 (n - 1) = false ∨ t.frm = t.dst ∨ inB t.err 0 1000 = false ∨ (t.rows.length : Int) < 2) : tabB n t = false := by
  cases hb : tabB n t with
  | false => rfl
  | true =>
    have g := tabB_iff.1 hb
    rcases h with h | h | h | h | h
    · rw [h] at g; cases g.1
    · rw [h] at g; cases g.2.1
    · exact absurd h g.2.2.1
    · rw [h] at g; cases g.2.2.2.1
    · have := g.2.2.2.2.1; omega
theorem tab_row (hk : k < t.rows.length) (h : rowB (t.rows.getD k (0, 0)) = false) : tabB n t = false := by
  cases hb : tabB n t with
  | false => rfl
  | true => have g := (tabB_iff.1 hb).2.2.2.2.2.1 k hk; rw [h] at g; cases g
theorem w_8 (hk : k + 1 < t.rows.length) (h : ac_6 (ad_6 t) (t.rows.getD k (0, 0)) (t.rows.getD (k + 1) (0, 0)) = false) : tabB n t = false := by
  cases hb : tabB n t with
  | false => rfl
  | true => have g := (tabB_iff.1 hb).2.2.2.2.2.2.1 k (by omega); rw [h] at g; cases g
theorem tab_brk (hk : k < t.brk.length) (h : brkB t k = false) : tabB n t = false := by
  cases hb : tabB n t with
  | false => rfl
  | true => have g := (tabB_iff.1 hb).2.2.2.2.2.2.2 k hk; rw [h] at g; cases g
theorem s_5 {r : Bool} {a b : Int × Int} (h : ¬ a.1 < b.1 ∨ b.2 = a.2 ∨ decide (a.2 < b.2) ≠ r) : ac_6 r a b = false := by
  cases hb : ac_6 r a b with
  | false => rfl
  | true =>
    unfold ac_6 at hb
    simp only [Bool.and_eq_true, decide_eq_true_eq, Bool.not_eq_true', decide_eq_false_iff_not, beq_iff_eq] at hb
    rcases h with h | h | h
    · exact absurd hb.1.1 h
    · exact absurd h hb.1.2
    · exact absurd hb.2 h
theorem step_y {r : Bool} {a b : Int × Int} (h1 : a.1 < b.1) (h2 : ¬ b.2 = a.2) (h3 : decide (a.2 < b.2) = r) : ac_6 r a b = true := by
  unfold ac_6
  simp only [Bool.and_eq_true, decide_eq_true_eq, Bool.not_eq_true', decide_eq_false_iff_not, beq_iff_eq]
  exact ⟨⟨h1, h2⟩, h3⟩
theorem brk_y0 (h : inB (t.brk.getD 0 0) 0 ((t.rows.length : Int) - 2) = true) : brkB t 0 = true := by
  unfold brkB; rw [show ae_6 t 0 = -1 from rfl]; rw [i_4] at h ⊢; omega
theorem brk_y1 (h : inB (t.brk.getD (k + 1) 0) 0 ((t.rows.length : Int) - 2) = true) (h2 : t.brk.getD k 0 < t.brk.getD (k + 1) 0) : brkB t (k + 1) = true := by
  unfold brkB ae_6; rw [i_4] at h ⊢; dsimp only; omega
theorem brk_n {i : Nat} (hp : ∀ j, j < i → 0 ≤ t.brk.getD j 0) (h : inB (t.brk.getD i 0) 0 ((t.rows.length : Int) - 2) = false) : brkB t i = false := by
  cases hb : brkB t i with
  | false => rfl
  | true =>
    unfold brkB at hb
    rw [i_4] at hb
    have : inB (t.brk.getD i 0) 0 ((t.rows.length : Int) - 2) = true := by
      rw [i_4]
      cases i with
      | zero => rw [show ae_6 t 0 = -1 from rfl] at hb; omega
      | succ j => have := hp j (by omega); unfold ae_6 at hb; dsimp only at hb; omega
    rw [this] at h; cases h
theorem brk_n1 (h : ¬ t.brk.getD k 0 < t.brk.getD (k + 1) 0) : brkB t (k + 1) = false := by
  cases hb : brkB t (k + 1) with
  | false => rfl
  | true => unfold brkB ae_6 at hb; rw [i_4] at hb; dsimp only at hb; omega
end
end Go.Hard

namespace Go.Proofs.Ytohgladndklciaa
open Go.RowKit Go.Shelf Go.Eng Go.Hard
end Go.Proofs.Ytohgladndklciaa

namespace Go.Proofs.Ytohgladndklciaa
open Go.RowKit Go.Shelf Go.Eng Go.Hard
theorem fd_46_0 : fldK Try.prog 46 0 = some 0 := by kernel_rfl
theorem s_7 : fldK Try.prog 46 1 = some 1 := by kernel_rfl
theorem un_4 : Try.prog.underlying 4 = some .bool := by kernel_rfl
theorem neq_n {r : Bool} {a b : Int × Int} (h : (decide (a.2 < b.2) == r) = false) : ac_6 r a b = false := s_5 (.inr (.inr (fun e => by rw [e] at h; simp at h)))
theorem neq_y {r : Bool} {a b : Int × Int} (A : a.1 < b.1) (B : ¬ b.2 = a.2) (h : (decide (a.2 < b.2) == r) = true) : ac_6 r a b = true := step_y A B (by simpa using h)
theorem back1 {k : Nat} (h : 0 < (k : Int)) : ∃ i, k = i + 1 := ⟨k - 1, by omega⟩
theorem pred1 (i : Nat) : ((((i + 1 : Nat) : Int)) - 1).toNat = i := by omega
set_option maxHeartbeats 4000000 in
theorem istable_ok (n : Int) (hn : 1 ≤ n ∧ n ≤ 4) (t : TabD) (vr vb : Value) (w : World) (hr : SlAt w vr 2 t.rows.length (pairs t.rows)) (hb : SlAt w vb 1 t.brk.length (ints t.brk)) (hrl : t.rows.length ≤ 1000000) (hbl : t.brk.length ≤ 1000000) :
  Calls Try.prog 51 #[(iv n), (Value.agg #[(iv t.frm), (iv t.dst), vr, vb, (iv t.err)])] w (Ret fun v w' => v = .bool (tabB n t) ∧ Ext NoB w w') := by
 refine a_9 Try.func51 rfl fun a0 BT => ?_
 replace BT : Fr 165 [] [(0, (iv n)), (1, (Value.agg #[(iv t.frm), (iv t.dst), vr, vb, (iv t.err)]))] a0 := BT
 have EY : Sep NoB w w [(sl vr 2 t.rows.length (pairs t.rows)), (sl vb 1 t.brk.length (ints t.brk))] := f_1 ⟨rfl, hr, rfl, hb, trivial⟩
 refine m2 (s2 BT (f_4 EY rfl BT.e (cs := [(iv t.frm), (iv t.dst), vr, vb, (iv t.err)]) rfl) ?_)
 rintro a1 _ w3 ⟨B, rfl, L⟩ EX; clear BT EY a0
 refine s1 EX (a_0 rfl (evc _ _)) fun a6 EC => ?_; clear EX a1
 refine n2 (m2 (s1 EC (a_4 rfl fd_46_0 EC.e) fun a8 EI => ?_)); clear EC a6
 refine s1 EI (a_2 rfl ty_3 EI.e (L.bk 0 rfl) rfl) fun Gh BV => ?_; clear EI a8
 refine s1 BV (a_1 rfl BV.e) fun Gi BW => ?_; clear BV Gh
 refine s1 BW (h_2 rfl BW.e (evc _ _) (by omega) (by omega)) fun Gj AP => ?_; clear BW Gi
 refine s2 AP (b_3 rfl ad_5 (ev3 AP.e (evc _ _) AP.e) (ad_3 _ _ _ _)) ?_
 rintro Gk _ W_ ⟨rfl, hW_⟩ BX; have hW2_ := hW_.symm; subst hW2_; clear hW_ AP Gj
 refine s1 BX (f_5 rfl BX.e) fun Gl BY => ?_; clear BX Gk
 refine s1 BY (a_1 rfl BY.e) fun ET N => ?_; clear BY Gl
 rcases Bool.eq_false_or_eq_true ((inB t.frm 0 (n - 1))) with Bs | Bs
 ·skip
  rw [Bs] at N
  refine s5 N (a_4 rfl s_7 N.e) fun Gm BZ => ?_; clear N ET
  refine s5 BZ (a_2 rfl ty_3 BZ.e (L.bk 0 rfl) rfl) fun Gn Ba => ?_; clear BZ Gm
  refine s5 Ba (a_1 rfl Ba.e) fun Go Bb => ?_; clear Ba Gn
  refine s5 Bb (h_2 rfl Bb.e (evc _ _) (by omega) (by omega)) fun Gp Ao => ?_; clear Bb Go
  refine s6 Ao (b_3 rfl ad_5 (ev3 Ao.e (evc _ _) Ao.e) (ad_3 _ _ _ _)) ?_
  rintro Gq _ W_ ⟨rfl, hW_⟩ Bc; have hW2_ := hW_.symm; subst hW2_; clear hW_ Ao Gp
  refine s5 Bc (f_5 rfl Bc.e) fun Gr Aw => ?_; clear Bc Gq
  refine s1 Aw (c_7 rfl Aw.e Aw.e) fun Gs Bd => ?_; clear Aw Gr
  refine s1 Bd (a_1 rfl Bd.e) fun EU O => ?_; clear Bd Gs
  rcases Bool.eq_false_or_eq_true ((inB t.dst 0 (n - 1))) with Bt | Bt
  ·skip
   rw [Bt] at O
   refine s5 O (a_4 rfl fd_46_0 O.e) fun Gt Be => ?_; clear O EU
   refine s5 Be (a_2 rfl ty_3 Be.e (L.bk 0 rfl) rfl) fun Gu Bf => ?_; clear Be Gt
   refine s5 Bf (a_4 rfl s_7 Bf.e) fun Gv Bg => ?_; clear Bf Gu
   refine s5 Bg (a_2 rfl ty_3 Bg.e (L.bk 0 rfl) rfl) fun Gw BG => ?_; clear Bg Gv
   refine s5 BG (q_0 rfl BG.e BG.e) fun Gx BK => ?_; clear BG Gw
   refine s1 BK (c_7 rfl BK.e BK.e) fun Gy Bh => ?_; clear BK Gx
   refine s1 Bh (a_1 rfl Bh.e) fun EV P => ?_; clear Bh Gy
   by_cases EJ : t.frm = t.dst
   ·skip
    rw [decide_eq_true EJ] at P
    refine s3 P fun Gz D8 => ?_; clear P EV
    refine s3 D8 fun G0 D9 => ?_; clear D8 Gz
    refine s3 D9 fun G1 EA => ?_; clear D9 G0
    refine s3 EA fun G2 Bi => ?_; clear EA G1
    refine s1 Bi (b_6 rfl Bi.e (evc _ _)) fun G3 Bj => ?_; clear Bi G2
    refine s1 Bj (a_1 rfl Bj.e) fun G4 EB => ?_; clear Bj G3
    refine s3 EB fun G5 ED => ?_; clear EB G4
    refine s3 ED fun G6 EE => ?_; clear ED G5
    refine s3 EE fun G7 EF => ?_; clear EE G6
    refine s3 EF fun G8 Bk => ?_; clear EF G7
    refine s1 Bk (b_6 rfl Bk.e (evc _ _)) fun G9 Bl => ?_; clear Bk G8
    refine n1 (c_0 Bl rfl (b_5 ?_))
    have EG := Bl.as [] rfl; clear Bl
    refine a_5 (s1 EG (a_0 rfl (evc _ _)) fun Hk EH => ?_); clear EG G9
    exact n1 (c_2 (a_6 (a_8 EH (.inl rfl) (a_3 EH rfl (.tmp rfl)) (⟨congrArg Value.bool (Eq.symm (q_2 (by first | exact .inl (by assumption) | exact .inr (.inl (by assumption)) | exact .inr (.inr (.inl (by assumption))) | exact .inr (.inr (.inr (.inl (by assumption)))) | exact .inr (.inr (.inr (.inr (by omega))))))), L.ext⟩))))
   skip
   rw [decide_eq_false EJ] at P
   refine s5 P (a_4 rfl x_2 P.e) fun HA Bm => ?_; clear P EV
   refine s5 Bm (a_2 rfl ty_3 Bm.e (L.bk 0 rfl) rfl) fun HB Bn => ?_; clear Bm HA
   refine s6 Bn (b_3 rfl ad_5 (ev3 Bn.e (evc _ _) (evc _ _)) (ad_3 _ _ _ _)) ?_
   rintro HC _ W_ ⟨rfl, hW_⟩ Bo; have hW2_ := hW_.symm; subst hW2_; clear hW_ Bn HB
   refine s5 Bo (f_5 rfl Bo.e) fun HD BM => ?_; clear Bo HC
   refine s1 BM (c_7 rfl BM.e BM.e) fun HE Bp => ?_; clear BM HD
   refine s1 Bp (a_1 rfl Bp.e) fun EW Q => ?_; clear Bp HE
   rcases Bool.eq_false_or_eq_true ((inB t.err 0 1000)) with Bu | Bu
   ·skip
    rw [Bu] at Q
    refine s5 Q (a_4 rfl i_1 Q.e) fun HF Bq => ?_; clear Q EW
    refine s5 Bq (a_2 rfl n_8 Bq.e (L.bk 0 rfl) rfl) fun HG Br => ?_; clear Bq HF
    refine s5 Br (d_1 rfl n_9 Br.e (L.sk 1 rfl)) fun EZ AG => ?_; clear Br HG
    refine s5 AG (f_7 rfl AG.e (evc _ _)) fun Ea Y => ?_; clear AG EZ
    refine s1 Y (c_7 rfl Y.e Y.e) fun Eb F => ?_; clear Y Ea
    refine n1 ?_
    by_cases Dr : (t.rows.length : Int) < 2
    ·skip
     rw [decide_eq_true Dr] at F
     refine c_0 F rfl (b_5 ?_)
     have Bv := F.as [] rfl; clear F
     refine a_5 (s1 Bv (a_0 rfl (evc _ _)) fun HI Bw => ?_); clear Bv Eb
     exact n1 (c_2 (a_6 (a_8 Bw (.inl rfl) (a_3 Bw rfl (.tmp rfl)) (⟨congrArg Value.bool (Eq.symm (q_2 (by first | exact .inl (by assumption) | exact .inr (.inl (by assumption)) | exact .inr (.inr (.inl (by assumption))) | exact .inr (.inr (.inr (.inl (by assumption)))) | exact .inr (.inr (.inr (.inr (by omega))))))), L.ext⟩))))
    skip
    rw [decide_eq_false Dr] at F
    refine b_4 F rfl (c_6 (a_7 (b_5 ?_)))
    have Bx := F.as [(3, (bptr B 0))] rfl; clear F
    have By := Bx.as [(3, (bptr B 0))] rfl; clear Bx
    refine g_0 mixed By L 10 [[], [0], [1], [2], [3], [], [5], [6], [7], [8]] [(Yd.val (bptr B 2)), (Yd.val vr), (Yd.val (eptr vr (1 * 2))), (Yd.val (eptr vr (1 * 2 + 1))), (Yd.val (iv ((t.rows.getD 1 (0, 0)).2))), (Yd.val (bptr B 2)), (Yd.val vr), (Yd.val (eptr vr (0 * 2))), (Yd.val (eptr vr (0 * 2 + 1))), (Yd.val (iv ((t.rows.getD 0 (0, 0)).2)))] (by decide +kernel) rfl rfl ?_ ?_
    ·skip
     refine dq (fun a w hA hS hd => a_4 rfl i_1 hA.e) ?_
     refine dq (fun a w hA hS hd => a_2 rfl n_8 (hq hd 0) (hS.bk 0 rfl) rfl) ?_
     refine dq (fun a w hA hS hd => b_0 rfl n_9 r_3 (hq hd 1) (i := 1) (show _ = Value.int .i64 ((1 : Nat) : Int) from (evc _ _)) (hS.sk 1 rfl) (by decide) (by omega)) ?_
     refine dq (fun a w hA hS hd => e_5 rfl n_6 (hq hd 2) (hS.sk 1 rfl) (by rw [((hS.sk 1 rfl)).1]; omega)) ?_
     refine dq (fun a w hA hS hd => c_1 rfl ty_3 (hq hd 3) (hS.sk 1 rfl) (j_0 (by omega))) ?_
     refine dq (fun a w hA hS hd => a_4 rfl i_1 hA.e) ?_
     refine dq (fun a w hA hS hd => a_2 rfl n_8 (hq hd 5) (hS.bk 0 rfl) rfl) ?_
     refine dq (fun a w hA hS hd => b_0 rfl n_9 r_3 (hq hd 6) (i := 0) (show _ = Value.int .i64 ((0 : Nat) : Int) from (evc _ _)) (hS.sk 1 rfl) (by decide) (by omega)) ?_
     refine dq (fun a w hA hS hd => e_5 rfl n_6 (hq hd 7) (hS.sk 1 rfl) (by rw [((hS.sk 1 rfl)).1]; omega)) ?_
     refine dq (fun a w hA hS hd => c_1 rfl ty_3 (hq hd 8) (hS.sk 1 rfl) (j_0 (by omega))) ?_
     trivial
    intro Ec Ha Bz Do BN; clear By L
    have B0 := Bz.add (hz BN 4); clear Bz
    have Z := B0.add (hz BN 9); clear B0
    clear BN
    refine s1 Z (j_5 rfl Z.e Z.e) fun Ed AH => ?_; clear Z Ec
    refine s1 AH (a_0 rfl AH.e) fun Ee B1 => ?_; clear AH Ed
    refine n2 (m2 (s1 B1 (a_0 rfl (evc _ _)) fun Ef B2 => ?_)); clear B1 Ee
    refine n1 (c_4 ?_)
    have B3 := B2.as [(6, (iv 0)), (5, (Value.bool (decide (((t.rows.getD 0 (0, 0)).2) < ((t.rows.getD 1 (0, 0)).2))))), (3, (bptr B 0))] rfl; clear B2
    refine h_3 (G := Nat) (fun (k : Nat) a_ w_ => Fr 165 [] [(6, (iv (k : Int))), (5, (Value.bool (decide (((t.rows.getD 0 (0, 0)).2) < ((t.rows.getD 1 (0, 0)).2))))), (3, (bptr B 0))] a_ ∧ Sep NoB w w_ [(blk B 46 [(iv t.frm), (iv t.dst), vr, vb, (iv t.err)]), (sl vr 2 t.rows.length (pairs t.rows)), (sl vb 1 t.brk.length (ints t.brk))] ∧ (k ≤ t.rows.length) ∧ (∀ i, i < k → rowB (t.rows.getD i (0, 0)) = true) ∧ (∀ i, i + 1 < k → ac_6 (ad_6 t) (t.rows.getD i (0, 0)) (t.rows.getD (i + 1) (0, 0)) = true)) (fun k => t.rows.length - k) 0 ⟨B3.as _ rfl, Do, by omega, (fun _ h => absurd h (Nat.not_lt_zero _)), (fun _ h => absurd h (Nat.not_lt_zero _))⟩ ?_
    clear B3 Do Ef
    rintro k Eg Hb ⟨AI, A, hkk, hrw, hst⟩
    refine b_5 (m2 (s1 AI (a_1 rfl AI.e) fun Eh AJ => ?_)); clear AI Eg
    refine s1 AJ (a_4 rfl i_1 AJ.e) fun Ei AK => ?_; clear AJ Eh
    refine s1 AK (a_2 rfl n_8 AK.e (A.bk 0 rfl) rfl) fun Ej AL => ?_; clear AK Ei
    refine s1 AL (d_1 rfl n_9 AL.e (A.sk 1 rfl)) fun Ek b => ?_; clear AL Ej
    refine s1 b (f_7 rfl b.e b.e) fun Dx D => ?_; clear b Ek
    refine n1 ?_
    by_cases Ds : (k : Int) < (t.rows.length : Int)
    ·skip
     rw [decide_eq_true Ds] at D
     refine c_0 D rfl (c_6 (a_7 (b_5 (c_4 (b_5 (m2 (s1 D (a_4 rfl i_1 D.e) fun El AM => ?_))))))); clear D Dx
     refine s1 AM (a_2 rfl n_8 AM.e (A.bk 0 rfl) rfl) fun Em AN => ?_; clear AM El
     refine s1 AN (a_1 rfl AN.e) fun En c => ?_; clear AN Em
     refine s1 c (b_0 rfl n_9 r_3 c.e (i := k) c.e (A.sk 1 rfl) (by decide) (by omega)) fun Eo AO => ?_; clear c En
     refine s1 AO (e_5 rfl p_9 AO.e (A.sk 1 rfl) (by rw [((A.sk 1 rfl)).1]; omega)) fun Ep AQ => ?_; clear AO Eo
     refine s1 AQ (c_1 rfl ty_3 AQ.e (A.sk 1 rfl) (i_6 (by omega))) fun Er AR => ?_; clear AQ Ep
     refine s2 AR (b_3 rfl ad_5 (ev3 AR.e (evc _ _) (evc _ _)) (ad_3 _ _ _ _)) ?_
     rintro Es _ W_ ⟨rfl, hW_⟩ AS; have hW2_ := hW_.symm; subst hW2_; clear hW_ AR Er
     refine s1 AS (f_5 rfl AS.e) fun Et AT => ?_; clear AS Es
     refine s1 AT (a_1 rfl AT.e) fun Dy M => ?_; clear AT Et
     rcases Bool.eq_false_or_eq_true ((inB ((t.rows.getD k (0, 0)).1) 1 100000)) with BO | BO
     ·skip
      rw [BO] at M
      refine s5 M (a_4 rfl i_1 M.e) fun Eu AU => ?_; clear M Dy
      refine s5 AU (a_2 rfl n_8 AU.e (A.bk 0 rfl) rfl) fun Ev AV => ?_; clear AU Eu
      refine s5 AV (a_1 rfl AV.e) fun Ew d => ?_; clear AV Ev
      refine s5 d (b_0 rfl n_9 r_3 d.e (i := k) d.e (A.sk 1 rfl) (by decide) (by omega)) fun Ex AW => ?_; clear d Ew
      refine s5 AW (e_5 rfl n_6 AW.e (A.sk 1 rfl) (by rw [((A.sk 1 rfl)).1]; omega)) fun Ey AX => ?_; clear AW Ex
      refine s5 AX (c_1 rfl ty_3 AX.e (A.sk 1 rfl) (j_0 (by omega))) fun Ez AY => ?_; clear AX Ey
      refine s6 AY (b_3 rfl ad_5 (ev3 AY.e (evc _ _) (evc _ _)) (ad_3 _ _ _ _)) ?_
      rintro E0 _ W_ ⟨rfl, hW_⟩ AZ; have hW2_ := hW_.symm; subst hW2_; clear hW_ AY Ez
      refine s5 AZ (f_5 rfl AZ.e) fun E1 f => ?_; clear AZ E0
      refine s1 f (c_7 rfl f.e f.e) fun E2 H => ?_; clear f E1
      refine n1 ?_
      rcases Bool.eq_false_or_eq_true ((inB ((t.rows.getD k (0, 0)).2) 1 100000)) with BP | BP
      ·skip
       rw [BP] at H
       refine b_4 H rfl (c_6 (a_7 (b_5 ?_)))
       have B4 := H.as [(6, (iv (k : Int))), (5, (Value.bool (decide (((t.rows.getD 0 (0, 0)).2) < ((t.rows.getD 1 (0, 0)).2))))), (3, (bptr B 0))] rfl; clear H
       have g := B4.as [(6, (iv (k : Int))), (5, (Value.bool (decide (((t.rows.getD 0 (0, 0)).2) < ((t.rows.getD 1 (0, 0)).2))))), (3, (bptr B 0))] rfl; clear B4
       by_cases AD : 0 < (k : Int)
       ·skip
        have l := g.as [(6, (iv (k : Int))), (5, (Value.bool (decide (((t.rows.getD 0 (0, 0)).2) < ((t.rows.getD 1 (0, 0)).2))))), (3, (bptr B 0))] rfl; clear g
        by_cases BQ : ((t.rows.getD k (0, 0)).1) ≤ ((t.rows.getD (((k : Int) - 1).toNat) (0, 0)).1)
        ·skip
         have B5 := l.as [(6, (iv (k : Int))), (5, (Value.bool (decide (((t.rows.getD 0 (0, 0)).2) < ((t.rows.getD 1 (0, 0)).2))))), (3, (bptr B 0))] rfl; clear l
         refine g_0 mixed B5 A 49 [[], [0], [1], [2], [2, 3], [2], [2, 4, 5], [2, 6], [2, 7], [2], [2, 9], [2], [2, 11], [2, 10, 12], [2, 13], [2, 14], [2, 8, 15], [2, 16], [17], [17, 18], [17], [17, 19, 20], [17, 21], [17, 22], [17], [17, 24], [17], [17, 26], [17, 25, 27], [17, 28], [17, 29], [17, 23, 30], [2, 17, 31], [2, 32], [33], [33, 34], [33], [33, 35, 36], [33, 37], [33, 38], [33], [33, 40], [33], [33, 42], [33, 41, 43], [33, 44], [33, 45], [33, 39, 46], [33]] [(Yd.val (iv (k : Int))), (Yd.val (Value.bool true)), (Yd.val (Value.bool true)), (Yd.val (bptr B 2)), (Yd.val vr), (Yd.val (iv (k : Int))), (Yd.val (eptr vr (k * 2))), (Yd.val (eptr vr (k * 2 + 0))), (Yd.val (iv ((t.rows.getD k (0, 0)).1))), (Yd.val (bptr B 2)), (Yd.val vr), (Yd.val (iv (k : Int))), (Yd.val (iv ((k : Int) - 1))), (Yd.val (eptr vr (((k : Int) - 1).toNat * 2))), (Yd.val (eptr vr (((k : Int) - 1).toNat * 2 + 0))), (Yd.val (iv ((t.rows.getD (((k : Int) - 1).toNat) (0, 0)).1))), (Yd.val (Value.bool true)), (Yd.val (Value.bool true)), (Yd.val undef), (Yd.val undef), (Yd.val undef), (Yd.val undef), (Yd.val undef), (Yd.val undef), (Yd.val undef), (Yd.val undef), (Yd.val undef), (Yd.val undef), (Yd.val undef), (Yd.val undef), (Yd.val undef), (Yd.val undef), (Yd.val (Value.bool true)), (Yd.val (Value.bool true)), (Yd.val undef), (Yd.val undef), (Yd.val undef), (Yd.val undef), (Yd.val undef), (Yd.val undef), (Yd.val undef), (Yd.val undef), (Yd.val undef), (Yd.val undef), (Yd.val undef), (Yd.val undef), (Yd.val undef), (Yd.val undef), (Yd.val undef)] (by decide +kernel) rfl rfl ?_ ?_
         ·skip
          refine dq (fun a w hA hS hd => a_1 rfl hA.e) ?_
          refine ⟨fun a w hA hS hd => by have e0 := hx hd 0; exact d_5 rfl (dv (j_5 rfl (c_3 e0) (evc _ _)) hS (by show Value.bool _ = _; simp only [decide_eq_true AD, decide_true, decide_false, Bool.not_true, Bool.not_false])), ?_⟩
          refine dq (fun a w hA hS hd => a_1 rfl (hq hd 1)) ?_
          refine dy 2 (fun a w hA hS hd => a_4 rfl i_1 hA.e) ?_
          refine dy 2 (fun a w hA hS hd => a_2 rfl n_8 (hq hd 3) (hS.bk 0 rfl) rfl) ?_
          refine dy 2 (fun a w hA hS hd => a_1 rfl hA.e) ?_
          refine dy 2 (fun a w hA hS hd => b_0 rfl n_9 r_3 (hq hd 4) (i := k) (hq hd 5) (hS.sk 1 rfl) (by decide) (by omega)) ?_
          refine dy 2 (fun a w hA hS hd => e_5 rfl p_9 (hq hd 6) (hS.sk 1 rfl) (by rw [((hS.sk 1 rfl)).1]; omega)) ?_
          refine dy 2 (fun a w hA hS hd => c_1 rfl ty_3 (hq hd 7) (hS.sk 1 rfl) (i_6 (by omega))) ?_
          refine dy 2 (fun a w hA hS hd => a_4 rfl i_1 hA.e) ?_
          refine dy 2 (fun a w hA hS hd => a_2 rfl n_8 (hq hd 9) (hS.bk 0 rfl) rfl) ?_
          refine dy 2 (fun a w hA hS hd => a_1 rfl hA.e) ?_
          refine dy 2 (fun a w hA hS hd => h_2 rfl (hq hd 11) (evc _ _) (by omega) (by omega)) ?_
          refine dy 2 (fun a w hA hS hd => b_0 rfl n_9 r_3 (hq hd 10) (i := ((k : Int) - 1).toNat) ((hq hd 12).trans (g_4 (by omega))) (hS.sk 1 rfl) (by decide) (by omega)) ?_
          refine dy 2 (fun a w hA hS hd => e_5 rfl p_9 (hq hd 13) (hS.sk 1 rfl) (by rw [((hS.sk 1 rfl)).1]; omega)) ?_
          refine dy 2 (fun a w hA hS hd => c_1 rfl ty_3 (hq hd 14) (hS.sk 1 rfl) (i_6 (by omega))) ?_
          refine ⟨fun a w hA hS hd => by have e2 := hx hd 2; have e8 := hx hd 8; have BS := hx hd 15; exact f_8 rfl rfl e2 (dv (v_6 rfl (c_3 e8) (c_3 BS)) hS (by show Value.bool _ = _; simp only [decide_eq_true BQ, decide_true, decide_false, Bool.not_true, Bool.not_false])), ?_⟩
          refine dy 2 (fun a w hA hS hd => a_1 rfl (hq hd 16)) ?_
          refine dn 17 (dn 17 (dn 17 (dn 17 (dn 17 (dn 17 (dn 17 (dn 17 (dn 17 (dn 17 (dn 17 (dn 17 (dn 17 ?_))))))))))))
          refine dn 17 (dy 2 (fun a w hA hS hd => b_6 rfl (hq hd 17) (evc _ _)) ?_)
          refine dy 2 (fun a w hA hS hd => a_1 rfl (hq hd 32)) ?_
          refine dn 33 (dn 33 (dn 33 (dn 33 (dn 33 (dn 33 (dn 33 (dn 33 (dn 33 (dn 33 (dn 33 (dn 33 (dn 33 ?_))))))))))))
          refine dn 33 (dn 33 ?_)
          trivial
         intro E3 Hc B6 EO R; clear B5 A
         have B7 := B6.add (hz R 2); clear B6
         have B8 := B7.add (hz R 33); clear B7
         have B9 := B8.add (hz R 47); clear B8
         have CA := B9.add (hz R 48); clear B9
         clear R
         refine s3 CA fun E4 Aa => ?_; clear CA E3
         refine s5 Aa (b_6 rfl Aa.e (evc _ _)) fun E5 m => ?_; clear Aa E4
         refine s1 m (b_6 rfl m.e m.e) fun E6 Ab => ?_; clear m E5
         refine n1 (c_0 Ab rfl (b_5 ?_))
         have CB := Ab.as [] rfl; clear Ab
         refine a_5 (s1 CB (a_0 rfl (evc _ _)) fun HJ CC => ?_); clear CB E6
         refine n1 (c_2 (c_8 (a_6 (a_6 (c_8 (a_6 (a_8 CC (.inl rfl) (a_3 CC rfl (.tmp rfl)) ?_)))))))
         exact ⟨congrArg Value.bool (Eq.symm (by first | exact tab_row (k := k) (by omega) (by unfold rowB; rw [Bool.and_eq_false_iff]; first | exact .inl (by assumption) | exact .inr (by assumption)) | (obtain ⟨i, rfl⟩ := back1 (k := k) (by omega); simp only [pred1] at *; exact w_8 (k := i) (by omega) (by first | exact neq_n (by assumption) | exact s_5 (.inl (by omega)) | exact s_5 (.inr (.inl (by omega))))))), EO.ext⟩
        skip
        have o := l.as [(6, (iv (k : Int))), (5, (Value.bool (decide (((t.rows.getD 0 (0, 0)).2) < ((t.rows.getD 1 (0, 0)).2))))), (3, (bptr B 0))] rfl; clear l
        by_cases Dt : ((t.rows.getD k (0, 0)).2) = ((t.rows.getD (((k : Int) - 1).toNat) (0, 0)).2)
        ·skip
         have CD := o.as [(6, (iv (k : Int))), (5, (Value.bool (decide (((t.rows.getD 0 (0, 0)).2) < ((t.rows.getD 1 (0, 0)).2))))), (3, (bptr B 0))] rfl; clear o
         refine g_0 mixed CD A 49 [[], [0], [1], [2], [2, 3], [2], [2, 4, 5], [2, 6], [2, 7], [2], [2, 9], [2], [2, 11], [2, 10, 12], [2, 13], [2, 14], [2, 8, 15], [2, 16], [17], [17, 18], [17], [17, 19, 20], [17, 21], [17, 22], [17], [17, 24], [17], [17, 26], [17, 25, 27], [17, 28], [17, 29], [17, 23, 30], [2, 17, 31], [2, 32], [33], [33, 34], [33], [33, 35, 36], [33, 37], [33, 38], [33], [33, 40], [33], [33, 42], [33, 41, 43], [33, 44], [33, 45], [33, 39, 46], [33]] [(Yd.val (iv (k : Int))), (Yd.val (Value.bool true)), (Yd.val (Value.bool true)), (Yd.val (bptr B 2)), (Yd.val vr), (Yd.val (iv (k : Int))), (Yd.val (eptr vr (k * 2))), (Yd.val (eptr vr (k * 2 + 0))), (Yd.val (iv ((t.rows.getD k (0, 0)).1))), (Yd.val (bptr B 2)), (Yd.val vr), (Yd.val (iv (k : Int))), (Yd.val (iv ((k : Int) - 1))), (Yd.val (eptr vr (((k : Int) - 1).toNat * 2))), (Yd.val (eptr vr (((k : Int) - 1).toNat * 2 + 0))), (Yd.val (iv ((t.rows.getD (((k : Int) - 1).toNat) (0, 0)).1))), (Yd.val (Value.bool false)), (Yd.val (Value.bool false)), (Yd.val (bptr B 2)), (Yd.val vr), (Yd.val (iv (k : Int))), (Yd.val (eptr vr (k * 2))), (Yd.val (eptr vr (k * 2 + 1))), (Yd.val (iv ((t.rows.getD k (0, 0)).2))), (Yd.val (bptr B 2)), (Yd.val vr), (Yd.val (iv (k : Int))), (Yd.val (iv ((k : Int) - 1))), (Yd.val (eptr vr (((k : Int) - 1).toNat * 2))), (Yd.val (eptr vr (((k : Int) - 1).toNat * 2 + 1))), (Yd.val (iv ((t.rows.getD (((k : Int) - 1).toNat) (0, 0)).2))), (Yd.val (Value.bool true)), (Yd.val (Value.bool true)), (Yd.val (Value.bool true)), (Yd.val undef), (Yd.val undef), (Yd.val undef), (Yd.val undef), (Yd.val undef), (Yd.val undef), (Yd.val undef), (Yd.val undef), (Yd.val undef), (Yd.val undef), (Yd.val undef), (Yd.val undef), (Yd.val undef), (Yd.val undef), (Yd.val undef)] (by decide +kernel) rfl rfl ?_ ?_
         ·skip
          refine dq (fun a w hA hS hd => a_1 rfl hA.e) ?_
          refine ⟨fun a w hA hS hd => by have e0 := hx hd 0; exact d_5 rfl (dv (j_5 rfl (c_3 e0) (evc _ _)) hS (by show Value.bool _ = _; simp only [decide_eq_true AD, decide_true, decide_false, Bool.not_true, Bool.not_false])), ?_⟩
          refine dq (fun a w hA hS hd => a_1 rfl (hq hd 1)) ?_
          refine dy 2 (fun a w hA hS hd => a_4 rfl i_1 hA.e) ?_
          refine dy 2 (fun a w hA hS hd => a_2 rfl n_8 (hq hd 3) (hS.bk 0 rfl) rfl) ?_
          refine dy 2 (fun a w hA hS hd => a_1 rfl hA.e) ?_
          refine dy 2 (fun a w hA hS hd => b_0 rfl n_9 r_3 (hq hd 4) (i := k) (hq hd 5) (hS.sk 1 rfl) (by decide) (by omega)) ?_
          refine dy 2 (fun a w hA hS hd => e_5 rfl p_9 (hq hd 6) (hS.sk 1 rfl) (by rw [((hS.sk 1 rfl)).1]; omega)) ?_
          refine dy 2 (fun a w hA hS hd => c_1 rfl ty_3 (hq hd 7) (hS.sk 1 rfl) (i_6 (by omega))) ?_
          refine dy 2 (fun a w hA hS hd => a_4 rfl i_1 hA.e) ?_
          refine dy 2 (fun a w hA hS hd => a_2 rfl n_8 (hq hd 9) (hS.bk 0 rfl) rfl) ?_
          refine dy 2 (fun a w hA hS hd => a_1 rfl hA.e) ?_
          refine dy 2 (fun a w hA hS hd => h_2 rfl (hq hd 11) (evc _ _) (by omega) (by omega)) ?_
          refine dy 2 (fun a w hA hS hd => b_0 rfl n_9 r_3 (hq hd 10) (i := ((k : Int) - 1).toNat) ((hq hd 12).trans (g_4 (by omega))) (hS.sk 1 rfl) (by decide) (by omega)) ?_
          refine dy 2 (fun a w hA hS hd => e_5 rfl p_9 (hq hd 13) (hS.sk 1 rfl) (by rw [((hS.sk 1 rfl)).1]; omega)) ?_
          refine dy 2 (fun a w hA hS hd => c_1 rfl ty_3 (hq hd 14) (hS.sk 1 rfl) (i_6 (by omega))) ?_
          refine ⟨fun a w hA hS hd => by have e2 := hx hd 2; have e8 := hx hd 8; have BS := hx hd 15; exact f_8 rfl rfl e2 (dv (v_6 rfl (c_3 e8) (c_3 BS)) hS (by show Value.bool _ = _; simp only [decide_eq_false BQ, decide_true, decide_false, Bool.not_true, Bool.not_false])), ?_⟩
          refine dy 2 (fun a w hA hS hd => a_1 rfl (hq hd 16)) ?_
          refine dy 17 (fun a w hA hS hd => a_4 rfl i_1 hA.e) ?_
          refine dy 17 (fun a w hA hS hd => a_2 rfl n_8 (hq hd 18) (hS.bk 0 rfl) rfl) ?_
          refine dy 17 (fun a w hA hS hd => a_1 rfl hA.e) ?_
          refine dy 17 (fun a w hA hS hd => b_0 rfl n_9 r_3 (hq hd 19) (i := k) (hq hd 20) (hS.sk 1 rfl) (by decide) (by omega)) ?_
          refine dy 17 (fun a w hA hS hd => e_5 rfl n_6 (hq hd 21) (hS.sk 1 rfl) (by rw [((hS.sk 1 rfl)).1]; omega)) ?_
          refine dy 17 (fun a w hA hS hd => c_1 rfl ty_3 (hq hd 22) (hS.sk 1 rfl) (j_0 (by omega))) ?_
          refine dy 17 (fun a w hA hS hd => a_4 rfl i_1 hA.e) ?_
          refine dy 17 (fun a w hA hS hd => a_2 rfl n_8 (hq hd 24) (hS.bk 0 rfl) rfl) ?_
          refine dy 17 (fun a w hA hS hd => a_1 rfl hA.e) ?_
          refine dy 17 (fun a w hA hS hd => h_2 rfl (hq hd 26) (evc _ _) (by omega) (by omega)) ?_
          refine dy 17 (fun a w hA hS hd => b_0 rfl n_9 r_3 (hq hd 25) (i := ((k : Int) - 1).toNat) ((hq hd 27).trans (g_4 (by omega))) (hS.sk 1 rfl) (by decide) (by omega)) ?_
          refine dy 17 (fun a w hA hS hd => e_5 rfl n_6 (hq hd 28) (hS.sk 1 rfl) (by rw [((hS.sk 1 rfl)).1]; omega)) ?_
          refine dy 17 (fun a w hA hS hd => c_1 rfl ty_3 (hq hd 29) (hS.sk 1 rfl) (j_0 (by omega))) ?_
          refine ⟨fun a w hA hS hd => by have D3 := hx hd 17; have D5 := hx hd 23; have D6 := hx hd 30; exact f_8 rfl rfl D3 (dv (q_0 rfl (c_3 D5) (c_3 D6)) hS (by show Value.bool _ = _; simp only [decide_eq_true Dt, decide_true, decide_false, Bool.not_true, Bool.not_false])), ?_⟩
          refine dy 2 (fun a w hA hS hd => c_7 rfl (hq hd 17) (hq hd 31)) ?_
          refine dy 2 (fun a w hA hS hd => a_1 rfl (hq hd 32)) ?_
          refine dn 33 (dn 33 (dn 33 (dn 33 (dn 33 (dn 33 (dn 33 (dn 33 (dn 33 (dn 33 (dn 33 (dn 33 (dn 33 ?_))))))))))))
          refine dn 33 (dn 33 ?_)
          trivial
         intro E7 Hd CE EP S; clear CD A
         have CF := CE.add (hz S 2); clear CE
         have CG := CF.add (hz S 33); clear CF
         have CH := CG.add (hz S 47); clear CG
         have CI := CH.add (hz S 48); clear CH
         clear S
         refine s3 CI fun E8 Ac => ?_; clear CI E7
         refine s5 Ac (b_6 rfl Ac.e (evc _ _)) fun E9 p => ?_; clear Ac E8
         refine s1 p (b_6 rfl p.e p.e) fun FA Ad => ?_; clear p E9
         refine n1 (c_0 Ad rfl (b_5 ?_))
         have CJ := Ad.as [] rfl; clear Ad
         refine a_5 (s1 CJ (a_0 rfl (evc _ _)) fun HK CK => ?_); clear CJ FA
         refine n1 (c_2 (c_8 (a_6 (a_6 (c_8 (a_6 (a_8 CK (.inl rfl) (a_3 CK rfl (.tmp rfl)) ?_)))))))
         exact ⟨congrArg Value.bool (Eq.symm (by first | exact tab_row (k := k) (by omega) (by unfold rowB; rw [Bool.and_eq_false_iff]; first | exact .inl (by assumption) | exact .inr (by assumption)) | (obtain ⟨i, rfl⟩ := back1 (k := k) (by omega); simp only [pred1] at *; exact w_8 (k := i) (by omega) (by first | exact neq_n (by assumption) | exact s_5 (.inl (by omega)) | exact s_5 (.inr (.inl (by omega))))))), EP.ext⟩
        skip
        have CL := o.as [(6, (iv (k : Int))), (5, (Value.bool (decide (((t.rows.getD 0 (0, 0)).2) < ((t.rows.getD 1 (0, 0)).2))))), (3, (bptr B 0))] rfl; clear o
        refine g_0 mixed CL A 49 [[], [0], [1], [2], [2, 3], [2], [2, 4, 5], [2, 6], [2, 7], [2], [2, 9], [2], [2, 11], [2, 10, 12], [2, 13], [2, 14], [2, 8, 15], [2, 16], [17], [17, 18], [17], [17, 19, 20], [17, 21], [17, 22], [17], [17, 24], [17], [17, 26], [17, 25, 27], [17, 28], [17, 29], [17, 23, 30], [2, 17, 31], [2, 32], [33], [33, 34], [33], [33, 35, 36], [33, 37], [33, 38], [33], [33, 40], [33], [33, 42], [33, 41, 43], [33, 44], [33, 45], [33, 39, 46], [33]] [(Yd.val (iv (k : Int))), (Yd.val (Value.bool true)), (Yd.val (Value.bool true)), (Yd.val (bptr B 2)), (Yd.val vr), (Yd.val (iv (k : Int))), (Yd.val (eptr vr (k * 2))), (Yd.val (eptr vr (k * 2 + 0))), (Yd.val (iv ((t.rows.getD k (0, 0)).1))), (Yd.val (bptr B 2)), (Yd.val vr), (Yd.val (iv (k : Int))), (Yd.val (iv ((k : Int) - 1))), (Yd.val (eptr vr (((k : Int) - 1).toNat * 2))), (Yd.val (eptr vr (((k : Int) - 1).toNat * 2 + 0))), (Yd.val (iv ((t.rows.getD (((k : Int) - 1).toNat) (0, 0)).1))), (Yd.val (Value.bool false)), (Yd.val (Value.bool false)), (Yd.val (bptr B 2)), (Yd.val vr), (Yd.val (iv (k : Int))), (Yd.val (eptr vr (k * 2))), (Yd.val (eptr vr (k * 2 + 1))), (Yd.val (iv ((t.rows.getD k (0, 0)).2))), (Yd.val (bptr B 2)), (Yd.val vr), (Yd.val (iv (k : Int))), (Yd.val (iv ((k : Int) - 1))), (Yd.val (eptr vr (((k : Int) - 1).toNat * 2))), (Yd.val (eptr vr (((k : Int) - 1).toNat * 2 + 1))), (Yd.val (iv ((t.rows.getD (((k : Int) - 1).toNat) (0, 0)).2))), (Yd.val (Value.bool false)), (Yd.val (Value.bool false)), (Yd.val (Value.bool false)), (Yd.val (bptr B 2)), (Yd.val vr), (Yd.val (iv (k : Int))), (Yd.val (eptr vr (k * 2))), (Yd.val (eptr vr (k * 2 + 1))), (Yd.val (iv ((t.rows.getD k (0, 0)).2))), (Yd.val (bptr B 2)), (Yd.val vr), (Yd.val (iv (k : Int))), (Yd.val (iv ((k : Int) - 1))), (Yd.val (eptr vr (((k : Int) - 1).toNat * 2))), (Yd.val (eptr vr (((k : Int) - 1).toNat * 2 + 1))), (Yd.val (iv ((t.rows.getD (((k : Int) - 1).toNat) (0, 0)).2))), (Yd.val (Value.bool (decide (((t.rows.getD (((k : Int) - 1).toNat) (0, 0)).2) < ((t.rows.getD k (0, 0)).2))))), (Yd.val (Value.bool (decide (((t.rows.getD 0 (0, 0)).2) < ((t.rows.getD 1 (0, 0)).2)))))] (by decide +kernel) rfl rfl ?_ ?_
        ·skip
         refine dq (fun a w hA hS hd => a_1 rfl hA.e) ?_
         refine ⟨fun a w hA hS hd => by have e0 := hx hd 0; exact d_5 rfl (dv (j_5 rfl (c_3 e0) (evc _ _)) hS (by show Value.bool _ = _; simp only [decide_eq_true AD, decide_true, decide_false, Bool.not_true, Bool.not_false])), ?_⟩
         refine dq (fun a w hA hS hd => a_1 rfl (hq hd 1)) ?_
         refine dy 2 (fun a w hA hS hd => a_4 rfl i_1 hA.e) ?_
         refine dy 2 (fun a w hA hS hd => a_2 rfl n_8 (hq hd 3) (hS.bk 0 rfl) rfl) ?_
         refine dy 2 (fun a w hA hS hd => a_1 rfl hA.e) ?_
         refine dy 2 (fun a w hA hS hd => b_0 rfl n_9 r_3 (hq hd 4) (i := k) (hq hd 5) (hS.sk 1 rfl) (by decide) (by omega)) ?_
         refine dy 2 (fun a w hA hS hd => e_5 rfl p_9 (hq hd 6) (hS.sk 1 rfl) (by rw [((hS.sk 1 rfl)).1]; omega)) ?_
         refine dy 2 (fun a w hA hS hd => c_1 rfl ty_3 (hq hd 7) (hS.sk 1 rfl) (i_6 (by omega))) ?_
         refine dy 2 (fun a w hA hS hd => a_4 rfl i_1 hA.e) ?_
         refine dy 2 (fun a w hA hS hd => a_2 rfl n_8 (hq hd 9) (hS.bk 0 rfl) rfl) ?_
         refine dy 2 (fun a w hA hS hd => a_1 rfl hA.e) ?_
         refine dy 2 (fun a w hA hS hd => h_2 rfl (hq hd 11) (evc _ _) (by omega) (by omega)) ?_
         refine dy 2 (fun a w hA hS hd => b_0 rfl n_9 r_3 (hq hd 10) (i := ((k : Int) - 1).toNat) ((hq hd 12).trans (g_4 (by omega))) (hS.sk 1 rfl) (by decide) (by omega)) ?_
         refine dy 2 (fun a w hA hS hd => e_5 rfl p_9 (hq hd 13) (hS.sk 1 rfl) (by rw [((hS.sk 1 rfl)).1]; omega)) ?_
         refine dy 2 (fun a w hA hS hd => c_1 rfl ty_3 (hq hd 14) (hS.sk 1 rfl) (i_6 (by omega))) ?_
         refine ⟨fun a w hA hS hd => by have e2 := hx hd 2; have e8 := hx hd 8; have BS := hx hd 15; exact f_8 rfl rfl e2 (dv (v_6 rfl (c_3 e8) (c_3 BS)) hS (by show Value.bool _ = _; simp only [decide_eq_false BQ, decide_true, decide_false, Bool.not_true, Bool.not_false])), ?_⟩
         refine dy 2 (fun a w hA hS hd => a_1 rfl (hq hd 16)) ?_
         refine dy 17 (fun a w hA hS hd => a_4 rfl i_1 hA.e) ?_
         refine dy 17 (fun a w hA hS hd => a_2 rfl n_8 (hq hd 18) (hS.bk 0 rfl) rfl) ?_
         refine dy 17 (fun a w hA hS hd => a_1 rfl hA.e) ?_
         refine dy 17 (fun a w hA hS hd => b_0 rfl n_9 r_3 (hq hd 19) (i := k) (hq hd 20) (hS.sk 1 rfl) (by decide) (by omega)) ?_
         refine dy 17 (fun a w hA hS hd => e_5 rfl n_6 (hq hd 21) (hS.sk 1 rfl) (by rw [((hS.sk 1 rfl)).1]; omega)) ?_
         refine dy 17 (fun a w hA hS hd => c_1 rfl ty_3 (hq hd 22) (hS.sk 1 rfl) (j_0 (by omega))) ?_
         refine dy 17 (fun a w hA hS hd => a_4 rfl i_1 hA.e) ?_
         refine dy 17 (fun a w hA hS hd => a_2 rfl n_8 (hq hd 24) (hS.bk 0 rfl) rfl) ?_
         refine dy 17 (fun a w hA hS hd => a_1 rfl hA.e) ?_
         refine dy 17 (fun a w hA hS hd => h_2 rfl (hq hd 26) (evc _ _) (by omega) (by omega)) ?_
         refine dy 17 (fun a w hA hS hd => b_0 rfl n_9 r_3 (hq hd 25) (i := ((k : Int) - 1).toNat) ((hq hd 27).trans (g_4 (by omega))) (hS.sk 1 rfl) (by decide) (by omega)) ?_
         refine dy 17 (fun a w hA hS hd => e_5 rfl n_6 (hq hd 28) (hS.sk 1 rfl) (by rw [((hS.sk 1 rfl)).1]; omega)) ?_
         refine dy 17 (fun a w hA hS hd => c_1 rfl ty_3 (hq hd 29) (hS.sk 1 rfl) (j_0 (by omega))) ?_
         refine ⟨fun a w hA hS hd => by have D3 := hx hd 17; have D5 := hx hd 23; have D6 := hx hd 30; exact f_8 rfl rfl D3 (dv (q_0 rfl (c_3 D5) (c_3 D6)) hS (by show Value.bool _ = _; simp only [decide_eq_false Dt, decide_true, decide_false, Bool.not_true, Bool.not_false])), ?_⟩
         refine dy 2 (fun a w hA hS hd => c_7 rfl (hq hd 17) (hq hd 31)) ?_
         refine dy 2 (fun a w hA hS hd => a_1 rfl (hq hd 32)) ?_
         refine dy 33 (fun a w hA hS hd => a_4 rfl i_1 hA.e) ?_
         refine dy 33 (fun a w hA hS hd => a_2 rfl n_8 (hq hd 34) (hS.bk 0 rfl) rfl) ?_
         refine dy 33 (fun a w hA hS hd => a_1 rfl hA.e) ?_
         refine dy 33 (fun a w hA hS hd => b_0 rfl n_9 r_3 (hq hd 35) (i := k) (hq hd 36) (hS.sk 1 rfl) (by decide) (by omega)) ?_
         refine dy 33 (fun a w hA hS hd => e_5 rfl n_6 (hq hd 37) (hS.sk 1 rfl) (by rw [((hS.sk 1 rfl)).1]; omega)) ?_
         refine dy 33 (fun a w hA hS hd => c_1 rfl ty_3 (hq hd 38) (hS.sk 1 rfl) (j_0 (by omega))) ?_
         refine dy 33 (fun a w hA hS hd => a_4 rfl i_1 hA.e) ?_
         refine dy 33 (fun a w hA hS hd => a_2 rfl n_8 (hq hd 40) (hS.bk 0 rfl) rfl) ?_
         refine dy 33 (fun a w hA hS hd => a_1 rfl hA.e) ?_
         refine dy 33 (fun a w hA hS hd => h_2 rfl (hq hd 42) (evc _ _) (by omega) (by omega)) ?_
         refine dy 33 (fun a w hA hS hd => b_0 rfl n_9 r_3 (hq hd 41) (i := ((k : Int) - 1).toNat) ((hq hd 43).trans (g_4 (by omega))) (hS.sk 1 rfl) (by decide) (by omega)) ?_
         refine dy 33 (fun a w hA hS hd => e_5 rfl n_6 (hq hd 44) (hS.sk 1 rfl) (by rw [((hS.sk 1 rfl)).1]; omega)) ?_
         refine dy 33 (fun a w hA hS hd => c_1 rfl ty_3 (hq hd 45) (hS.sk 1 rfl) (j_0 (by omega))) ?_
         refine dy 33 (fun a w hA hS hd => j_5 rfl (hq hd 39) (hq hd 46)) ?_
         refine dy 33 (fun a w hA hS hd => a_1 rfl hA.e) ?_
         trivial
        intro FB He CM Dp T; clear CL A
        have CN := CM.add (hz T 2); clear CM
        have CO := CN.add (hz T 33); clear CN
        have CP := CO.add (hz T 47); clear CO
        have q := CP.add (hz T 48); clear CP
        clear T
        refine s5 q (op_neqB un_4 rfl q.e q.e) fun FC r => ?_; clear q FB
        refine s5 r (c_7 rfl r.e r.e) fun FD s => ?_; clear r FC
        refine s1 s (b_6 rfl s.e s.e) fun Dz I => ?_; clear s FD
        refine n1 ?_
        rcases Bool.eq_false_or_eq_true ((decide (((t.rows.getD (((k : Int) - 1).toNat) (0, 0)).2) < ((t.rows.getD k (0, 0)).2))) == (decide (((t.rows.getD 0 (0, 0)).2) < ((t.rows.getD 1 (0, 0)).2)))) with BR | BR
        ·skip
         rw [BR] at I
         refine b_4 I rfl (c_6 (g_3 (a_7 ?_)))
         have Ae := I.as [(6, (iv (k : Int))), (5, (Value.bool (decide (((t.rows.getD 0 (0, 0)).2) < ((t.rows.getD 1 (0, 0)).2))))), (3, (bptr B 0))] rfl; clear I
         refine a_5 (s1 Ae (a_1 rfl Ae.e) fun FE Af => ?_); clear Ae Dz
         refine s1 Af (e_3 rfl Af.e (evc _ _) (by omega) (by omega)) fun FF Ag => ?_; clear Af FE
         refine s1 Ag (a_0 rfl Ag.e) fun HL EK => ?_; clear Ag FF
         refine e_6 ?_
         exact a_7 ⟨k + 1, ⟨EK.as _ rfl, Dp, by omega, (fun i hi => by rcases Nat.lt_succ_iff_lt_or_eq.1 hi with h | h; exact hrw i h; subst h; (unfold rowB; rw [Bool.and_eq_true]; exact ⟨by assumption, by assumption⟩)), (fun i hi => by rcases Nat.lt_succ_iff_lt_or_eq.1 hi with h | h; exact hst i h; subst h; first | (exfalso; omega) | (simp only [pred1] at *; exact neq_y (by omega) (by omega) (by assumption)))⟩, by omega⟩
        skip
        rw [BR] at I
        refine c_0 I rfl (b_5 ?_)
        have CQ := I.as [] rfl; clear I
        refine a_5 (s1 CQ (a_0 rfl (evc _ _)) fun HM CR => ?_); clear CQ Dz
        refine n1 (c_2 (c_8 (a_6 (a_6 (c_8 (a_6 (a_8 CR (.inl rfl) (a_3 CR rfl (.tmp rfl)) ?_)))))))
        exact ⟨congrArg Value.bool (Eq.symm (by first | exact tab_row (k := k) (by omega) (by unfold rowB; rw [Bool.and_eq_false_iff]; first | exact .inl (by assumption) | exact .inr (by assumption)) | (obtain ⟨i, rfl⟩ := back1 (k := k) (by omega); simp only [pred1] at *; exact w_8 (k := i) (by omega) (by first | exact neq_n (by assumption) | exact s_5 (.inl (by omega)) | exact s_5 (.inr (.inl (by omega))))))), Dp.ext⟩
       skip
       have CS := g.as [(6, (iv (k : Int))), (5, (Value.bool (decide (((t.rows.getD 0 (0, 0)).2) < ((t.rows.getD 1 (0, 0)).2))))), (3, (bptr B 0))] rfl; clear g
       refine g_0 mixed CS A 49 [[], [0], [1], [2], [2, 3], [2], [2, 4, 5], [2, 6], [2, 7], [2], [2, 9], [2], [2, 11], [2, 10, 12], [2, 13], [2, 14], [2, 8, 15], [2, 16], [17], [17, 18], [17], [17, 19, 20], [17, 21], [17, 22], [17], [17, 24], [17], [17, 26], [17, 25, 27], [17, 28], [17, 29], [17, 23, 30], [2, 17, 31], [2, 32], [33], [33, 34], [33], [33, 35, 36], [33, 37], [33, 38], [33], [33, 40], [33], [33, 42], [33, 41, 43], [33, 44], [33, 45], [33, 39, 46], [33]] [(Yd.val (iv (k : Int))), (Yd.val (Value.bool false)), (Yd.val (Value.bool false)), (Yd.val undef), (Yd.val undef), (Yd.val undef), (Yd.val undef), (Yd.val undef), (Yd.val undef), (Yd.val undef), (Yd.val undef), (Yd.val undef), (Yd.val undef), (Yd.val undef), (Yd.val undef), (Yd.val undef), (Yd.val undef), (Yd.val undef), (Yd.val undef), (Yd.val undef), (Yd.val undef), (Yd.val undef), (Yd.val undef), (Yd.val undef), (Yd.val undef), (Yd.val undef), (Yd.val undef), (Yd.val undef), (Yd.val undef), (Yd.val undef), (Yd.val undef), (Yd.val undef), (Yd.val undef), (Yd.val undef), (Yd.val undef), (Yd.val undef), (Yd.val undef), (Yd.val undef), (Yd.val undef), (Yd.val undef), (Yd.val undef), (Yd.val undef), (Yd.val undef), (Yd.val undef), (Yd.val undef), (Yd.val undef), (Yd.val undef), (Yd.val undef), (Yd.val undef)] (by decide +kernel) rfl rfl ?_ ?_
       ·skip
        refine dq (fun a w hA hS hd => a_1 rfl hA.e) ?_
        refine ⟨fun a w hA hS hd => by have e0 := hx hd 0; exact d_5 rfl (dv (j_5 rfl (c_3 e0) (evc _ _)) hS (by show Value.bool _ = _; simp only [decide_eq_false AD, decide_true, decide_false, Bool.not_true, Bool.not_false])), ?_⟩
        refine dq (fun a w hA hS hd => a_1 rfl (hq hd 1)) ?_
        refine dn 2 (dn 2 (dn 2 (dn 2 (dn 2 (dn 2 (dn 2 (dn 2 (dn 2 (dn 2 (dn 2 (dn 2 (dn 2 ?_))))))))))))
        refine dn 2 (dn 2 (du 17 (du 17 (du 17 (du 17 (du 17 (du 17 (du 17 (du 17 (du 17 (du 17 (du 17 ?_))))))))))))
        refine du 17 (du 17 (du 17 (dn 2 (dn 2 (du 33 (du 33 (du 33 (du 33 (du 33 (du 33 (du 33 (du 33 ?_))))))))))))
        refine du 33 (du 33 (du 33 (du 33 (du 33 (du 33 (du 33 ?_))))))
        trivial
       intro FG Hf CT EQ U; clear CS A
       have CU := CT.add (hz U 2); clear CT
       have CV := CU.add (hz U 33); clear CU
       have CW := CV.add (hz U 47); clear CV
       have CX := CW.add (hz U 48); clear CW
       clear U
       refine s4 CX fun FH CY => ?_; clear CX FG
       refine s3 CY fun FI Ah => ?_; clear CY FH
       refine s1 Ah (c_7 rfl Ah.e (evc _ _)) fun FJ Ai => ?_; clear Ah FI
       refine n1 (b_4 Ai rfl (c_6 (g_3 (a_7 ?_))))
       have Aj := Ai.as [(6, (iv (k : Int))), (5, (Value.bool (decide (((t.rows.getD 0 (0, 0)).2) < ((t.rows.getD 1 (0, 0)).2))))), (3, (bptr B 0))] rfl; clear Ai
       refine a_5 (s1 Aj (a_1 rfl Aj.e) fun FK Ak => ?_); clear Aj FJ
       refine s1 Ak (e_3 rfl Ak.e (evc _ _) (by omega) (by omega)) fun FL Al => ?_; clear Ak FK
       refine s1 Al (a_0 rfl Al.e) fun HN EL => ?_; clear Al FL
       refine e_6 ?_
       exact a_7 ⟨k + 1, ⟨EL.as _ rfl, EQ, by omega, (fun i hi => by rcases Nat.lt_succ_iff_lt_or_eq.1 hi with h | h; exact hrw i h; subst h; (unfold rowB; rw [Bool.and_eq_true]; exact ⟨by assumption, by assumption⟩)), (fun i hi => by rcases Nat.lt_succ_iff_lt_or_eq.1 hi with h | h; exact hst i h; subst h; first | (exfalso; omega) | (simp only [pred1] at *; exact neq_y (by omega) (by omega) (by assumption)))⟩, by omega⟩
      skip
      rw [BP] at H
      refine c_0 H rfl (b_5 ?_)
      have CZ := H.as [] rfl; clear H
      refine a_5 (s1 CZ (a_0 rfl (evc _ _)) fun HO Ca => ?_); clear CZ E2
      refine n1 (c_2 (a_6 (c_8 (a_6 (a_6 (c_8 (a_6 (a_8 Ca (.inl rfl) (a_3 Ca rfl (.tmp rfl)) ?_))))))))
      exact ⟨congrArg Value.bool (Eq.symm (by first | exact tab_row (k := k) (by omega) (by unfold rowB; rw [Bool.and_eq_false_iff]; first | exact .inl (by assumption) | exact .inr (by assumption)) | (obtain ⟨i, rfl⟩ := back1 (k := k) (by omega); simp only [pred1] at *; exact w_8 (k := i) (by omega) (by first | exact neq_n (by assumption) | exact s_5 (.inl (by omega)) | exact s_5 (.inr (.inl (by omega))))))), A.ext⟩
     skip
     rw [BO] at M
     refine s3 M fun FM Cb => ?_; clear M Dy
     refine s3 Cb fun FN Cc => ?_; clear Cb FM
     refine s3 Cc fun FO Cd => ?_; clear Cc FN
     refine s3 Cd fun FP Ce => ?_; clear Cd FO
     refine s3 Ce fun FQ Cf => ?_; clear Ce FP
     refine s3 Cf fun FSa Cg => ?_; clear Cf FQ
     refine s3 Cg fun FT Ch => ?_; clear Cg FSa
     refine s3 Ch fun FU Am => ?_; clear Ch FT
     refine s1 Am (b_6 rfl Am.e (evc _ _)) fun FV An => ?_; clear Am FU
     refine n1 (c_0 An rfl (b_5 ?_))
     have Ci := An.as [] rfl; clear An
     refine a_5 (s1 Ci (a_0 rfl (evc _ _)) fun HP Cj => ?_); clear Ci FV
     refine n1 (c_2 (a_6 (c_8 (a_6 (a_6 (c_8 (a_6 (a_8 Cj (.inl rfl) (a_3 Cj rfl (.tmp rfl)) ?_))))))))
     exact ⟨congrArg Value.bool (Eq.symm (by first | exact tab_row (k := k) (by omega) (by unfold rowB; rw [Bool.and_eq_false_iff]; first | exact .inl (by assumption) | exact .inr (by assumption)) | (obtain ⟨i, rfl⟩ := back1 (k := k) (by omega); simp only [pred1] at *; exact w_8 (k := i) (by omega) (by first | exact neq_n (by assumption) | exact s_5 (.inl (by omega)) | exact s_5 (.inr (.inl (by omega))))))), A.ext⟩
    skip
    rw [decide_eq_false Ds] at D
    refine b_4 D rfl (g_6 (b_2 (b_2 (f_2 (a_7 (b_5 (b_5 ?_)))))))
    have Ck := D.as [(3, (bptr B 0))] rfl; clear D
    refine a_5 (s1 Ck (a_0 rfl (evc _ _)) fun FW Cl => ?_); clear Ck Dx
    refine n1 (c_4 ?_)
    have Cm := Cl.as [(7, (iv 0)), (3, (bptr B 0))] rfl; clear Cl
    refine h_3 (G := Nat) (fun (C : Nat) a_ w_ => Fr 165 [] [(7, (iv (C : Int))), (3, (bptr B 0))] a_ ∧ Sep NoB w w_ [(blk B 46 [(iv t.frm), (iv t.dst), vr, vb, (iv t.err)]), (sl vr 2 t.rows.length (pairs t.rows)), (sl vb 1 t.brk.length (ints t.brk))] ∧ (C ≤ t.brk.length) ∧ (∀ i, i < C → 0 ≤ t.brk.getD i 0) ∧ (∀ i, i < C → brkB t i = true)) (fun C => t.brk.length - C) 0 ⟨Cm.as _ rfl, A, by omega, (fun _ h => absurd h (Nat.not_lt_zero _)), (fun _ h => absurd h (Nat.not_lt_zero _))⟩ ?_
    clear Cm A FW
    rintro C FX Hg ⟨Ap, E, hkk1, hbk0, hbk⟩
    refine b_5 (m2 (s1 Ap (a_1 rfl Ap.e) fun FY Aq => ?_)); clear Ap FX
    refine s1 Aq (a_4 rfl x_0 Aq.e) fun FZ Ar => ?_; clear Aq FY
    refine s1 Ar (a_2 rfl w_2 Ar.e (E.bk 0 rfl) rfl) fun Fa As => ?_; clear Ar FZ
    refine s1 As (d_1 rfl j_1 As.e (E.sk 2 rfl)) fun Fb u => ?_; clear As Fa
    refine s1 u (f_7 rfl u.e u.e) fun Fc J => ?_; clear u Fb
    refine n1 ?_
    by_cases Du : (C : Int) < (t.brk.length : Int)
    ·skip
     rw [decide_eq_true Du] at J
     refine c_0 J rfl (c_6 (a_7 (b_5 (c_4 (b_5 ?_)))))
     have x := J.as [(7, (iv (C : Int))), (3, (bptr B 0))] rfl; clear J
     rcases Bool.eq_false_or_eq_true ((inB (t.brk.getD C 0) 0 ((t.rows.length : Int) - 2))) with AE | AE
     ·skip
      have y := x.as [(7, (iv (C : Int))), (3, (bptr B 0))] rfl; clear x
      by_cases Dv : 0 < (C : Int)
      ·skip
       have Cn := y.as [(7, (iv (C : Int))), (3, (bptr B 0))] rfl; clear y
       refine g_0 mixed Cn E 26 [[], [0], [], [1, 2], [3], [], [5], [6], [7], [4, 8], [9], [10], [11], [11, 12], [11, 13], [14], [14, 15], [14], [14, 16, 17], [14, 18], [14], [14, 20], [14], [14, 22], [14, 21, 23], [14, 24]] [(Yd.val (bptr B 3)), (Yd.val vb), (Yd.val (iv (C : Int))), (Yd.val (eptr vb (C * 1))), (Yd.val (iv (t.brk.getD C 0))), (Yd.val (bptr B 2)), (Yd.val vr), (Yd.val (iv (t.rows.length : Int))), (Yd.val (iv ((t.rows.length : Int) - 2))), (Yd.val (Value.bool true)), (Yd.val (Value.bool (!true))), (Yd.val (Value.bool (!true))), (Yd.val (iv (C : Int))), (Yd.val (Value.bool true)), (Yd.val (Value.bool true)), (Yd.val (bptr B 3)), (Yd.val vb), (Yd.val (iv (C : Int))), (Yd.val (eptr vb (C * 1))), (Yd.val (iv (t.brk.getD C 0))), (Yd.val (bptr B 3)), (Yd.val vb), (Yd.val (iv (C : Int))), (Yd.val (iv ((C : Int) - 1))), (Yd.val (eptr vb (((C : Int) - 1).toNat * 1))), (Yd.val (iv (t.brk.getD (((C : Int) - 1).toNat) 0)))] (by decide +kernel) rfl rfl ?_ ?_
       ·skip
        refine dq (fun a w hA hS hd => a_4 rfl x_0 hA.e) ?_
        refine dq (fun a w hA hS hd => a_2 rfl w_2 (hq hd 0) (hS.bk 0 rfl) rfl) ?_
        refine dq (fun a w hA hS hd => a_1 rfl hA.e) ?_
        refine dq (fun a w hA hS hd => b_0 rfl j_1 ty_3 (hq hd 1) (i := C) (hq hd 2) (hS.sk 2 rfl) (by decide) (by omega)) ?_
        refine dq (fun a w hA hS hd => c_1 rfl ty_3 (hq hd 3) (hS.sk 2 rfl) (ints_at (by omega))) ?_
        refine dq (fun a w hA hS hd => a_4 rfl i_1 hA.e) ?_
        refine dq (fun a w hA hS hd => a_2 rfl n_8 (hq hd 5) (hS.bk 0 rfl) rfl) ?_
        refine dq (fun a w hA hS hd => d_1 rfl n_9 (hq hd 6) (hS.sk 1 rfl)) ?_
        refine dq (fun a w hA hS hd => h_2 rfl (hq hd 7) (evc _ _) (by omega) (by omega)) ?_
        refine ⟨fun a w hA hS hd => by have e4 := hx hd 4; have e8 := hx hd 8; exact d_5 rfl (dv (b_3 rfl ad_5 (ev3 (c_3 e4) (evc _ _) (c_3 e8)) (ad_3 _ _ _ _)) hS (by show Value.bool _ = _; simp only [AE, decide_true, decide_false, Bool.not_true, Bool.not_false])), ?_⟩
        refine dq (fun a w hA hS hd => f_5 rfl (hq hd 9)) ?_
        refine dq (fun a w hA hS hd => a_1 rfl (hq hd 10)) ?_
        refine dy 11 (fun a w hA hS hd => a_1 rfl hA.e) ?_
        refine ⟨fun a w hA hS hd => by have D1 := hx hd 11; have D2 := hx hd 12; exact f_8 rfl rfl D1 (dv (j_5 rfl (c_3 D2) (evc _ _)) hS (by show Value.bool _ = _; simp only [decide_eq_true Dv, decide_true, decide_false, Bool.not_true, Bool.not_false])), ?_⟩
        refine dy 11 (fun a w hA hS hd => a_1 rfl (hq hd 13)) ?_
        refine dy 14 (fun a w hA hS hd => a_4 rfl x_0 hA.e) ?_
        refine dy 14 (fun a w hA hS hd => a_2 rfl w_2 (hq hd 15) (hS.bk 0 rfl) rfl) ?_
        refine dy 14 (fun a w hA hS hd => a_1 rfl hA.e) ?_
        refine dy 14 (fun a w hA hS hd => b_0 rfl j_1 ty_3 (hq hd 16) (i := C) (hq hd 17) (hS.sk 2 rfl) (by decide) (by omega)) ?_
        refine dy 14 (fun a w hA hS hd => c_1 rfl ty_3 (hq hd 18) (hS.sk 2 rfl) (ints_at (by omega))) ?_
        refine dy 14 (fun a w hA hS hd => a_4 rfl x_0 hA.e) ?_
        refine dy 14 (fun a w hA hS hd => a_2 rfl w_2 (hq hd 20) (hS.bk 0 rfl) rfl) ?_
        refine dy 14 (fun a w hA hS hd => a_1 rfl hA.e) ?_
        refine dy 14 (fun a w hA hS hd => h_2 rfl (hq hd 22) (evc _ _) (by omega) (by omega)) ?_
        refine dy 14 (fun a w hA hS hd => b_0 rfl j_1 ty_3 (hq hd 21) (i := ((C : Int) - 1).toNat) ((hq hd 23).trans (g_4 (by omega))) (hS.sk 2 rfl) (by decide) (by omega)) ?_
        refine dy 14 (fun a w hA hS hd => c_1 rfl ty_3 (hq hd 24) (hS.sk 2 rfl) (ints_at (by omega))) ?_
        trivial
       intro Fd Hh Co Dq V; clear Cn E
       have Cp := Co.add (hz V 11); clear Co
       have Cq := Cp.add (hz V 14); clear Cp
       have Cr := Cq.add (hz V 19); clear Cq
       have z := Cr.add (hz V 25); clear Cr
       clear V
       refine s5 z (v_6 rfl z.e z.e) fun Fe AA => ?_; clear z Fd
       refine s5 AA (b_6 rfl AA.e AA.e) fun Ff AB => ?_; clear AA Fe
       refine s1 AB (c_7 rfl AB.e AB.e) fun D0 K => ?_; clear AB Ff
       refine n1 ?_
       by_cases Dw : (t.brk.getD C 0) ≤ (t.brk.getD (((C : Int) - 1).toNat) 0)
       ·skip
        rw [decide_eq_true Dw] at K
        refine c_0 K rfl (b_5 ?_)
        have Cs := K.as [] rfl; clear K
        refine a_5 (s1 Cs (a_0 rfl (evc _ _)) fun HQ Ct => ?_); clear Cs D0
        refine n1 (c_2 (c_8 (a_6 (a_6 (c_8 (a_6 (a_8 Ct (.inl rfl) (a_3 Ct rfl (.tmp rfl)) ?_)))))))
        exact ⟨congrArg Value.bool (Eq.symm (by first | exact tab_brk (k := C) (by omega) (brk_n (fun j hj => hbk0 j hj) (by assumption)) | (obtain ⟨j, rfl⟩ := back1 (k := C) (by omega); simp only [pred1] at *; exact tab_brk (k := j + 1) (by omega) (brk_n1 (by omega))))), Dq.ext⟩
       skip
       rw [decide_eq_false Dw] at K
       refine b_4 K rfl (c_6 (g_3 (a_7 ?_)))
       have At := K.as [(7, (iv (C : Int))), (3, (bptr B 0))] rfl; clear K
       refine a_5 (s1 At (a_1 rfl At.e) fun Fg Au => ?_); clear At D0
       refine s1 Au (e_3 rfl Au.e (evc _ _) (by omega) (by omega)) fun Fh Av => ?_; clear Au Fg
       refine s1 Av (a_0 rfl Av.e) fun HR EM => ?_; clear Av Fh
       refine e_6 ?_
       exact a_7 ⟨C + 1, ⟨EM.as _ rfl, Dq, by omega, (fun i hi => by rcases Nat.lt_succ_iff_lt_or_eq.1 hi with h | h; exact hbk0 i h; subst h; (have hz_ := i_4.1 (by assumption : inB (t.brk.getD i 0) 0 ((t.rows.length : Int) - 2) = true); omega)), (fun i hi => by rcases Nat.lt_succ_iff_lt_or_eq.1 hi with h | h; exact hbk i h; subst h; (cases i with | zero => exact brk_y0 (by assumption) | succ j => have e5_ : ((((j + 1 : Nat) : Int)) - 1).toNat = j := (by omega); have e6_ : t.brk.getD (((j + 1 : Nat) : Int) - 1).toNat 0 = t.brk.getD j 0 := (by rw [e5_]); exact brk_y1 (by assumption) (by omega)))⟩, by omega⟩
      skip
      have Cu := y.as [(7, (iv (C : Int))), (3, (bptr B 0))] rfl; clear y
      refine g_0 mixed Cu E 26 [[], [0], [], [1, 2], [3], [], [5], [6], [7], [4, 8], [9], [10], [11], [11, 12], [11, 13], [14], [14, 15], [14], [14, 16, 17], [14, 18], [14], [14, 20], [14], [14, 22], [14, 21, 23], [14, 24]] [(Yd.val (bptr B 3)), (Yd.val vb), (Yd.val (iv (C : Int))), (Yd.val (eptr vb (C * 1))), (Yd.val (iv (t.brk.getD C 0))), (Yd.val (bptr B 2)), (Yd.val vr), (Yd.val (iv (t.rows.length : Int))), (Yd.val (iv ((t.rows.length : Int) - 2))), (Yd.val (Value.bool true)), (Yd.val (Value.bool (!true))), (Yd.val (Value.bool (!true))), (Yd.val (iv (C : Int))), (Yd.val (Value.bool false)), (Yd.val (Value.bool false)), (Yd.val undef), (Yd.val undef), (Yd.val undef), (Yd.val undef), (Yd.val undef), (Yd.val undef), (Yd.val undef), (Yd.val undef), (Yd.val undef), (Yd.val undef), (Yd.val undef)] (by decide +kernel) rfl rfl ?_ ?_
      ·skip
       refine dq (fun a w hA hS hd => a_4 rfl x_0 hA.e) ?_
       refine dq (fun a w hA hS hd => a_2 rfl w_2 (hq hd 0) (hS.bk 0 rfl) rfl) ?_
       refine dq (fun a w hA hS hd => a_1 rfl hA.e) ?_
       refine dq (fun a w hA hS hd => b_0 rfl j_1 ty_3 (hq hd 1) (i := C) (hq hd 2) (hS.sk 2 rfl) (by decide) (by omega)) ?_
       refine dq (fun a w hA hS hd => c_1 rfl ty_3 (hq hd 3) (hS.sk 2 rfl) (ints_at (by omega))) ?_
       refine dq (fun a w hA hS hd => a_4 rfl i_1 hA.e) ?_
       refine dq (fun a w hA hS hd => a_2 rfl n_8 (hq hd 5) (hS.bk 0 rfl) rfl) ?_
       refine dq (fun a w hA hS hd => d_1 rfl n_9 (hq hd 6) (hS.sk 1 rfl)) ?_
       refine dq (fun a w hA hS hd => h_2 rfl (hq hd 7) (evc _ _) (by omega) (by omega)) ?_
       refine ⟨fun a w hA hS hd => by have e4 := hx hd 4; have e8 := hx hd 8; exact d_5 rfl (dv (b_3 rfl ad_5 (ev3 (c_3 e4) (evc _ _) (c_3 e8)) (ad_3 _ _ _ _)) hS (by show Value.bool _ = _; simp only [AE, decide_true, decide_false, Bool.not_true, Bool.not_false])), ?_⟩
       refine dq (fun a w hA hS hd => f_5 rfl (hq hd 9)) ?_
       refine dq (fun a w hA hS hd => a_1 rfl (hq hd 10)) ?_
       refine dy 11 (fun a w hA hS hd => a_1 rfl hA.e) ?_
       refine ⟨fun a w hA hS hd => by have D1 := hx hd 11; have D2 := hx hd 12; exact f_8 rfl rfl D1 (dv (j_5 rfl (c_3 D2) (evc _ _)) hS (by show Value.bool _ = _; simp only [decide_eq_false Dv, decide_true, decide_false, Bool.not_true, Bool.not_false])), ?_⟩
       refine dy 11 (fun a w hA hS hd => a_1 rfl (hq hd 13)) ?_
       refine dn 14 (dn 14 (dn 14 (dn 14 (dn 14 (dn 14 (dn 14 (dn 14 (dn 14 (dn 14 (dn 14 ?_))))))))))
       trivial
      intro Fi Hi Cv ER W; clear Cu E
      have Cw := Cv.add (hz W 11); clear Cv
      have Cx := Cw.add (hz W 14); clear Cw
      have Cy := Cx.add (hz W 19); clear Cx
      have Cz := Cy.add (hz W 25); clear Cy
      clear W
      refine s3 Cz fun Fj Ax => ?_; clear Cz Fi
      refine s5 Ax (c_7 rfl Ax.e (evc _ _)) fun Fk AC => ?_; clear Ax Fj
      refine s1 AC (c_7 rfl AC.e AC.e) fun Fl Ay => ?_; clear AC Fk
      refine n1 (b_4 Ay rfl (c_6 (g_3 (a_7 ?_))))
      have Az := Ay.as [(7, (iv (C : Int))), (3, (bptr B 0))] rfl; clear Ay
      refine a_5 (s1 Az (a_1 rfl Az.e) fun Fm A0 => ?_); clear Az Fl
      refine s1 A0 (e_3 rfl A0.e (evc _ _) (by omega) (by omega)) fun Fn A1 => ?_; clear A0 Fm
      refine s1 A1 (a_0 rfl A1.e) fun HS EN => ?_; clear A1 Fn
      refine e_6 ?_
      exact a_7 ⟨C + 1, ⟨EN.as _ rfl, ER, by omega, (fun i hi => by rcases Nat.lt_succ_iff_lt_or_eq.1 hi with h | h; exact hbk0 i h; subst h; (have hz_ := i_4.1 (by assumption : inB (t.brk.getD i 0) 0 ((t.rows.length : Int) - 2) = true); omega)), (fun i hi => by rcases Nat.lt_succ_iff_lt_or_eq.1 hi with h | h; exact hbk i h; subst h; (cases i with | zero => exact brk_y0 (by assumption) | succ j => have e5_ : ((((j + 1 : Nat) : Int)) - 1).toNat = j := (by omega); have e6_ : t.brk.getD (((j + 1 : Nat) : Int) - 1).toNat 0 = t.brk.getD j 0 := (by rw [e5_]); exact brk_y1 (by assumption) (by omega)))⟩, by omega⟩
     skip
     have C0 := x.as [(7, (iv (C : Int))), (3, (bptr B 0))] rfl; clear x
     refine g_0 mixed C0 E 26 [[], [0], [], [1, 2], [3], [], [5], [6], [7], [4, 8], [9], [10], [11], [11, 12], [11, 13], [14], [14, 15], [14], [14, 16, 17], [14, 18], [14], [14, 20], [14], [14, 22], [14, 21, 23], [14, 24]] [(Yd.val (bptr B 3)), (Yd.val vb), (Yd.val (iv (C : Int))), (Yd.val (eptr vb (C * 1))), (Yd.val (iv (t.brk.getD C 0))), (Yd.val (bptr B 2)), (Yd.val vr), (Yd.val (iv (t.rows.length : Int))), (Yd.val (iv ((t.rows.length : Int) - 2))), (Yd.val (Value.bool false)), (Yd.val (Value.bool (!false))), (Yd.val (Value.bool (!false))), (Yd.val undef), (Yd.val undef), (Yd.val undef), (Yd.val undef), (Yd.val undef), (Yd.val undef), (Yd.val undef), (Yd.val undef), (Yd.val undef), (Yd.val undef), (Yd.val undef), (Yd.val undef), (Yd.val undef), (Yd.val undef)] (by decide +kernel) rfl rfl ?_ ?_
     ·skip
      refine dq (fun a w hA hS hd => a_4 rfl x_0 hA.e) ?_
      refine dq (fun a w hA hS hd => a_2 rfl w_2 (hq hd 0) (hS.bk 0 rfl) rfl) ?_
      refine dq (fun a w hA hS hd => a_1 rfl hA.e) ?_
      refine dq (fun a w hA hS hd => b_0 rfl j_1 ty_3 (hq hd 1) (i := C) (hq hd 2) (hS.sk 2 rfl) (by decide) (by omega)) ?_
      refine dq (fun a w hA hS hd => c_1 rfl ty_3 (hq hd 3) (hS.sk 2 rfl) (ints_at (by omega))) ?_
      refine dq (fun a w hA hS hd => a_4 rfl i_1 hA.e) ?_
      refine dq (fun a w hA hS hd => a_2 rfl n_8 (hq hd 5) (hS.bk 0 rfl) rfl) ?_
      refine dq (fun a w hA hS hd => d_1 rfl n_9 (hq hd 6) (hS.sk 1 rfl)) ?_
      refine dq (fun a w hA hS hd => h_2 rfl (hq hd 7) (evc _ _) (by omega) (by omega)) ?_
      refine ⟨fun a w hA hS hd => by have e4 := hx hd 4; have e8 := hx hd 8; exact d_5 rfl (dv (b_3 rfl ad_5 (ev3 (c_3 e4) (evc _ _) (c_3 e8)) (ad_3 _ _ _ _)) hS (by show Value.bool _ = _; simp only [AE, decide_true, decide_false, Bool.not_true, Bool.not_false])), ?_⟩
      refine dq (fun a w hA hS hd => f_5 rfl (hq hd 9)) ?_
      refine dq (fun a w hA hS hd => a_1 rfl (hq hd 10)) ?_
      refine dn 11 (dn 11 (dn 11 (du 14 (du 14 (du 14 (du 14 (du 14 (du 14 (du 14 (du 14 (du 14 (du 14 ?_))))))))))))
      refine du 14 ?_
      trivial
     intro Fo Hj C1 ES X; clear C0 E
     have C2 := C1.add (hz X 11); clear C1
     have C3 := C2.add (hz X 14); clear C2
     have C4 := C3.add (hz X 19); clear C3
     have C5 := C4.add (hz X 25); clear C4
     clear X
     refine s4 C5 fun Fp C6 => ?_; clear C5 Fo
     refine s3 C6 fun Fq A2 => ?_; clear C6 Fp
     refine s1 A2 (b_6 rfl A2.e (evc _ _)) fun Fs A3 => ?_; clear A2 Fq
     refine n1 (c_0 A3 rfl (b_5 ?_))
     have C7 := A3.as [] rfl; clear A3
     refine a_5 (s1 C7 (a_0 rfl (evc _ _)) fun HT C8 => ?_); clear C7 Fs
     refine n1 (c_2 (c_8 (a_6 (a_6 (c_8 (a_6 (a_8 C8 (.inl rfl) (a_3 C8 rfl (.tmp rfl)) ?_)))))))
     exact ⟨congrArg Value.bool (Eq.symm (by first | exact tab_brk (k := C) (by omega) (brk_n (fun j hj => hbk0 j hj) (by assumption)) | (obtain ⟨j, rfl⟩ := back1 (k := C) (by omega); simp only [pred1] at *; exact tab_brk (k := j + 1) (by omega) (brk_n1 (by omega))))), ES.ext⟩
    skip
    rw [decide_eq_false Du] at J
    refine b_4 J rfl (g_6 (b_2 (b_2 (f_2 (a_7 (b_5 ?_))))))
    have C9 := J.as [] rfl; clear J
    refine a_5 (s1 C9 (a_0 rfl (evc _ _)) fun HU DA => ?_); clear C9 Fc
    refine n1 (c_2 (a_8 DA (.inl rfl) (a_3 DA rfl (.tmp rfl)) ?_))
    exact ⟨congrArg Value.bool (Eq.symm (tabB_iff.2 ⟨by assumption, by assumption, by assumption, by assumption, by omega, fun i hi => hrw i (by omega), fun i hi => hst i (by omega), fun i hi => hbk i (by omega)⟩)), E.ext⟩
   skip
   rw [Bu] at Q
   refine s3 Q fun Ft DB => ?_; clear Q EW
   refine s3 DB fun Fu DC => ?_; clear DB Ft
   refine s3 DC fun Fv DD => ?_; clear DC Fu
   refine s3 DD fun Fw A4 => ?_; clear DD Fv
   refine s1 A4 (b_6 rfl A4.e (evc _ _)) fun Fx A5 => ?_; clear A4 Fw
   refine n1 (c_0 A5 rfl (b_5 ?_))
   have DE := A5.as [] rfl; clear A5
   refine a_5 (s1 DE (a_0 rfl (evc _ _)) fun HV DF => ?_); clear DE Fx
   exact n1 (c_2 (a_6 (a_8 DF (.inl rfl) (a_3 DF rfl (.tmp rfl)) (⟨congrArg Value.bool (Eq.symm (q_2 (by first | exact .inl (by assumption) | exact .inr (.inl (by assumption)) | exact .inr (.inr (.inl (by assumption))) | exact .inr (.inr (.inr (.inl (by assumption)))) | exact .inr (.inr (.inr (.inr (by omega))))))), L.ext⟩))))
  skip
  rw [Bt] at O
  refine s3 O fun Fy DG => ?_; clear O EU
  refine s3 DG fun Fz DH => ?_; clear DG Fy
  refine s3 DH fun F0 DI => ?_; clear DH Fz
  refine s3 DI fun F1 DJ => ?_; clear DI F0
  refine s3 DJ fun F2 A6 => ?_; clear DJ F1
  refine s1 A6 (b_6 rfl A6.e (evc _ _)) fun F3 A7 => ?_; clear A6 F2
  refine s1 A7 (a_1 rfl A7.e) fun F4 DK => ?_; clear A7 F3
  refine s3 DK fun F5 DL => ?_; clear DK F4
  refine s3 DL fun F6 DM => ?_; clear DL F5
  refine s3 DM fun F7 DN => ?_; clear DM F6
  refine s3 DN fun F8 A8 => ?_; clear DN F7
  refine s1 A8 (b_6 rfl A8.e (evc _ _)) fun F9 A9 => ?_; clear A8 F8
  refine s1 A9 (a_1 rfl A9.e) fun GA DO => ?_; clear A9 F9
  refine s3 DO fun GB DP => ?_; clear DO GA
  refine s3 DP fun GC DQ => ?_; clear DP GB
  refine s3 DQ fun GD DR => ?_; clear DQ GC
  refine s3 DR fun GE BA => ?_; clear DR GD
  refine s1 BA (b_6 rfl BA.e (evc _ _)) fun GF BB => ?_; clear BA GE
  refine n1 (c_0 BB rfl (b_5 ?_))
  have DS := BB.as [] rfl; clear BB
  refine a_5 (s1 DS (a_0 rfl (evc _ _)) fun HW DT => ?_); clear DS GF
  exact n1 (c_2 (a_6 (a_8 DT (.inl rfl) (a_3 DT rfl (.tmp rfl)) (⟨congrArg Value.bool (Eq.symm (q_2 (by first | exact .inl (by assumption) | exact .inr (.inl (by assumption)) | exact .inr (.inr (.inl (by assumption))) | exact .inr (.inr (.inr (.inl (by assumption)))) | exact .inr (.inr (.inr (.inr (by omega))))))), L.ext⟩))))
 skip
 rw [Bs] at N
 refine s3 N fun GG DU => ?_; clear N ET
 refine s3 DU fun GH DV => ?_; clear DU GG
 refine s3 DV fun GI DW => ?_; clear DV GH
 refine s3 DW fun GJ DX => ?_; clear DW GI
 refine s3 DX fun GK DY => ?_; clear DX GJ
 refine s3 DY fun GL BC => ?_; clear DY GK
 refine s1 BC (b_6 rfl BC.e (evc _ _)) fun GM BD => ?_; clear BC GL
 refine s1 BD (a_1 rfl BD.e) fun GN DZ => ?_; clear BD GM
 refine s3 DZ fun GO Da => ?_; clear DZ GN
 refine s3 Da fun GP Db => ?_; clear Da GO
 refine s3 Db fun GQ Dc => ?_; clear Db GP
 refine s3 Dc fun GR Dd => ?_; clear Dc GQ
 refine s3 Dd fun GS BE => ?_; clear Dd GR
 refine s1 BE (b_6 rfl BE.e (evc _ _)) fun GT BF => ?_; clear BE GS
 refine s1 BF (a_1 rfl BF.e) fun GU De => ?_; clear BF GT
 refine s3 De fun GV Df => ?_; clear De GU
 refine s3 Df fun GW Dg => ?_; clear Df GV
 refine s3 Dg fun GX Dh => ?_; clear Dg GW
 refine s3 Dh fun GY BH => ?_; clear Dh GX
 refine s1 BH (b_6 rfl BH.e (evc _ _)) fun GZ BI => ?_; clear BH GY
 refine s1 BI (a_1 rfl BI.e) fun Ga Di => ?_; clear BI GZ
 refine s3 Di fun Gb Dj => ?_; clear Di Ga
 refine s3 Dj fun Gc Dk => ?_; clear Dj Gb
 refine s3 Dk fun Gd Dl => ?_; clear Dk Gc
 refine s3 Dl fun Ge BJ => ?_; clear Dl Gd
 refine s1 BJ (b_6 rfl BJ.e (evc _ _)) fun Gf BL => ?_; clear BJ Ge
 refine n1 (c_0 BL rfl (b_5 ?_))
 have Dm := BL.as [] rfl; clear BL
 refine a_5 (s1 Dm (a_0 rfl (evc _ _)) fun HX Dn => ?_); clear Dm Gf
 exact n1 (c_2 (a_6 (a_8 Dn (.inl rfl) (a_3 Dn rfl (.tmp rfl)) (⟨congrArg Value.bool (Eq.symm (q_2 (by first | exact .inl (by assumption) | exact .inr (.inl (by assumption)) | exact .inr (.inr (.inl (by assumption))) | exact .inr (.inr (.inr (.inl (by assumption)))) | exact .inr (.inr (.inr (.inr (by omega))))))), L.ext⟩))))
end Go.Proofs.Ytohgladndklciaa

namespace Go.Hard
open Go.RowKit Go.Eng
theorem r_0 (xs : List (Int × Int)) : ((pairs xs).drop (1 * 2)).take ((xs.length - 1) * 2) = pairs (xs.drop 1) := by
  cases xs with
  | nil => rfl
  | cons x xs =>
    show ((pairs (x :: xs)).drop 2).take ((xs.length + 1 - 1) * 2) = pairs xs
    have : (pairs (x :: xs)).drop 2 = pairs xs := rfl
    rw [this, Nat.add_sub_cancel, List.take_of_length_le (by rw [b_1]; exact Nat.le_refl _)]
theorem drop_getD {xs : List (Int × Int)} {i : Nat} : (xs.drop 1).getD i (0, 0) = xs.getD (i + 1) (0, 0) := by
  simp [List.getD, Nat.add_comm]
theorem dropP_all {xs : List (Int × Int)} {i : Nat} (h : i < xs.length - 1) : ((pairs (xs.drop 1)).drop (i * 2)).take 2 = [.int .i64 (xs.getD (i + 1) (0, 0)).1, .int .i64 (xs.getD (i + 1) (0, 0)).2] := by
  rw [h_7 (by rw [List.length_drop]; exact h), drop_getD]
def o_3 (t : TabD) (k : Nat) : List Nat := (List.range k).filter fun i => !decide ((i : Int) ∈ t.brk)
def d_6 (t : TabD) : List Nat := o_3 t (t.rows.length - 1)
theorem good_no {t : TabD} {k : Nat} (h : (k : Int) ∈ t.brk) : o_3 t (k + 1) = o_3 t k := by
  unfold o_3; rw [List.range_succ, List.filter_append]; simp [h]
theorem good_yes {t : TabD} {k : Nat} (h : ¬ (k : Int) ∈ t.brk) : o_3 t (k + 1) = o_3 t k ++ [k] := by
  unfold o_3; rw [List.range_succ, List.filter_append]; simp [h]
theorem good_pre {t : TabD} {k m : Nat} (h : k ≤ m) : o_3 t k <+: o_3 t m := by
  obtain ⟨d, rfl⟩ := Nat.exists_eq_add_of_le h
  unfold o_3
  rw [List.range_add, List.filter_append]
  exact List.prefix_append _ _
theorem good_at {t : TabD} {k m : Nat} (hk : k < m) (h : ¬ (k : Int) ∈ t.brk) : (o_3 t k).length < (o_3 t m).length ∧ (o_3 t m).getD (o_3 t k).length 0 = k := by
  obtain ⟨r, e⟩ := good_pre (t := t) (show k + 1 ≤ m by omega)
  rw [good_yes h] at e
  rw [← e]
  constructor
  · simp only [List.length_append, List.length_singleton]; omega
  · simp [List.getD]
theorem good_mem {t : TabD} {m q : Nat} (h : q < (o_3 t m).length) : (o_3 t m).getD q 0 < m ∧ ¬ (((o_3 t m).getD q 0 : Nat) : Int) ∈ t.brk := by
  have hm : (o_3 t m).getD q 0 ∈ o_3 t m := by
    simp only [List.getD, List.getElem?_eq_getElem h, Option.getD_some]; exact List.getElem_mem h
  generalize (o_3 t m).getD q 0 = i at hm
  unfold o_3 at hm
  rw [List.mem_filter, List.mem_range] at hm
  exact ⟨hm.1, by simpa using hm.2⟩
theorem good_sorted (t : TabD) (m : Nat) : (o_3 t m).Pairwise (· < ·) := by
  unfold o_3
  exact List.Pairwise.filter _ List.pairwise_lt_range
theorem good_before {t : TabD} {m q i : Nat} (hq : q < (o_3 t m).length) (hi : i < (o_3 t m).getD q 0) (hb : ¬ (i : Int) ∈ t.brk) : ∃ j, j < q ∧ (o_3 t m).getD j 0 = i := by
  have him : i ∈ o_3 t m := by
    unfold o_3
    have := (good_mem hq).1
    rw [List.mem_filter, List.mem_range]
    exact ⟨by omega, by simpa using hb⟩
  obtain ⟨j, hj, e⟩ := List.getElem_of_mem him
  refine ⟨j, ?_, by simp only [List.getD, List.getElem?_eq_getElem hj, Option.getD_some]; exact e⟩
  rcases Nat.lt_or_ge j q with h | h
  · exact h
  · exfalso
    rcases Nat.lt_or_ge q j with h2 | h2
    · have := List.pairwise_iff_getElem.1 (good_sorted t m) q j hq hj h2
      simp only [List.getD, List.getElem?_eq_getElem hq, Option.getD_some] at hi
      omega
    · obtain rfl : q = j := by omega
      simp only [List.getD, List.getElem?_eq_getElem hq, Option.getD_some] at hi
      omega
theorem made_good {t : TabD} {v : Int} {q : Nat} (hn : ∀ i, i < t.rows.length → ¬ tx t i = v) (hq : q < (d_6 t).length) (h : ∀ j, j < q → m_0 t v ((d_6 t).getD j 0) = false) (e : m_0 t v ((d_6 t).getD q 0) = true) : i_8 t v = some (pieceR t v ((d_6 t).getD q 0)) := by
  have hg := good_mem hq
  refine made_piece hn (by have := hg.1; unfold d_6; omega) (fun i hi => ?_) e
  by_cases hb : (i : Int) ∈ t.brk
  · exact m_1 (.inr (.inr hb))
  · obtain ⟨j, hj, rfl⟩ := good_before hq hi hb
    exact h j hj
theorem made_goodno {t : TabD} {v : Int} (hn : ∀ i, i < t.rows.length → ¬ tx t i = v) (h : ∀ j, j < (d_6 t).length → m_0 t v ((d_6 t).getD j 0) = false) : i_8 t v = none := by
  refine made_no hn fun i hi => ?_
  by_cases hb : (i : Int) ∈ t.brk
  · exact m_1 (.inr (.inr hb))
  · have := good_at (t := t) (show i < t.rows.length - 1 by omega) hb
    have h2 := h _ this.1
    rw [show (d_6 t).getD (o_3 t i).length 0 = i from this.2] at h2
    exact h2
theorem good_piece {t : TabD} {v : Int} {q : Nat} (hq : q < (d_6 t).length) (h1 : tx t ((d_6 t).getD q 0) < v) (h2 : v < tx t ((d_6 t).getD q 0 + 1)) : m_0 t v ((d_6 t).getD q 0) = true := piece_y h1 h2 (good_mem hq).2
end Go.Hard

namespace Go.Proofs.Ytohgladndklciaa
open Go.RowKit Go.Shelf Go.Eng Go.Hard
theorem aa_6 : (Try.prog.info? 107).bind (·.zero) = some (Value.agg #[(iv 0), (iv 0)]) := by kernel_rfl
theorem en_122 : ∀ args w, (callFunc 122 args).run Try.prog w = .ok (.enter 122 args) w := enters_of Try.func122 (by kernel_rfl) rfl
theorem pieces_it (C : Nat) (t : TabD) (vr vb : Value) (hln : 2 ≤ t.rows.length) (hrl : t.rows.length ≤ 1000000) (hbl : t.brk.length ≤ 1000000) :
  IterG Try.prog 121 #[bptr C 0] nilR [rob C 106 [.int .i64 t.frm, .int .i64 t.dst, vr, vb, .int .i64 t.err], sl vr 2 t.rows.length (pairs t.rows), sl vb 1 t.brk.length (ints t.brk)] (d_6 t).length (fun q => #[.agg #[.int .i64 (t.rows.getD ((d_6 t).getD q 0) (0, 0)).1, .int .i64 (t.rows.getD ((d_6 t).getD q 0) (0, 0)).2], .agg #[.int .i64 (t.rows.getD ((d_6 t).getD q 0 + 1) (0, 0)).1, .int .i64 (t.rows.getD ((d_6 t).getD q 0 + 1) (0, 0)).2]]) := by
 intro l J Jx W hJ hJx hD hDx h0 hy
 refine a_9 Try.func121 rfl fun a0 R => ?_
 replace R : Fr 31 [] [(0, (Value.func (.yield l) #[] #[])), (1, (bptr C 0))] a0 := R
 have T : Sep nilR.S W W [nilR, (rob C 106 [(iv t.frm), (iv t.dst), vr, vb, (iv t.err)]), (sl vr 2 t.rows.length (pairs t.rows)), (sl vb 1 t.brk.length (ints t.brk))] := (hD _ _ _ h0).2
 refine m2 (s1 R (a_4 rfl j_3 R.e) fun a2 r => ?_); clear R a0
 refine s1 r (a_2 rfl o_4 r.e (T.rk 1 rfl) rfl) fun a4 AA => ?_; clear r a2
 refine s1 AA (op_sliceLo rfl k_4 i_7 AA.e (l := 1) (show _ = Value.int .i64 ((1 : Nat) : Int) from (evc _ _)) (T.sk 2 rfl) (by omega)) fun a6 AG => ?_; clear AA a4
 refine s1 AG (d_1 rfl k_4 AG.e (SlAt.say (n' := (t.rows.length - 1)) (cs' := (pairs (t.rows.drop 1))) (SlAt.cut (T.sk 2 rfl) (by omega) (Nat.le_refl _)) rfl (r_0 _))) fun a8 AT => ?_; clear AG a6
 refine s1 AT (a_1 rfl (evc _ _)) fun Af n => ?_; clear AT a8
 refine n1 (c_4 ?_)
 have o := n.as [(9, (iv 0)), (8, (iv (((t.rows.length - 1) : Nat) : Int))), (7, (slcut vr 1 t.rows.length 2)), (0, (Value.func (.yield l) #[] #[])), (1, (bptr C 0))] rfl; clear n
 refine h_3 (G := Nat) (fun (k : Nat) a_ w_ => Fr 31 [] [(9, (iv (k : Int))), (8, (iv (((t.rows.length - 1) : Nat) : Int))), (7, (slcut vr 1 t.rows.length 2)), (0, (Value.func (.yield l) #[] #[])), (1, (bptr C 0))] a_ ∧ True ∧ (k ≤ t.rows.length - 1) ∧ (J (o_3 t k).length nilR w_)) (fun k => t.rows.length - k) 0 ⟨o.as _ rfl, trivial, by omega, (hJ _ _ _ _ _ h0 (Sep.keep T [0] (by decide) _ rfl rfl) rfl)⟩ ?_
 clear o T Af
 rintro k Ag AQ ⟨K, Ab, hk, hj⟩
 clear Ab
 have I : Sep nilR.S AQ AQ [nilR, (rob C 106 [(iv t.frm), (iv t.dst), vr, vb, (iv t.err)]), (sl vr 2 t.rows.length (pairs t.rows)), (sl vb 1 t.brk.length (ints t.brk))] := (hD _ _ _ hj).2
 refine m2 (s1 K (f_7 rfl K.e K.e) fun Ah B => ?_); clear K Ag
 refine n2 ?_
 by_cases AN : (k : Int) < (((t.rows.length - 1) : Nat) : Int)
 ·skip
  rw [decide_eq_true AN] at B
  refine c_0 B rfl (c_6 (a_7 (b_5 (c_4 (m2 (s1 B (a_1 rfl B.e) fun Ai L => ?_)))))); clear B Ah
  refine s1 L (b_0 rfl k_4 i_7 L.e (i := k) L.e (SlAt.say (n' := (t.rows.length - 1)) (cs' := (pairs (t.rows.drop 1))) (SlAt.cut (I.sk 2 rfl) (by omega) (Nat.le_refl _)) rfl (r_0 _)) (by decide) (by omega)) fun Aj U => ?_; clear L Ai
  refine s1 U (e_8 rfl i_7 U.e (SlAt.say (n' := (t.rows.length - 1)) (cs' := (pairs (t.rows.drop 1))) (SlAt.cut (I.sk 2 rfl) (by omega) (Nat.le_refl _)) rfl (r_0 _)) (dropP_all (by omega)) rfl (by decide)) fun Ak p => ?_; clear U Aj
  refine s2 p (d_9 I rfl aa_6 (cs := [(iv 0), (iv 0)]) rfl) ?_
  rintro Al _ BA ⟨j, rfl, AK⟩ V; clear p I Ak
  refine s1 V (a_0 rfl V.e) fun A5 M => ?_; clear V Al
  refine s7 M (b_7 AK rfl i_7 M.e M.e (i := 0) rfl (vs := [(iv ((t.rows.getD (k + 1) (0, 0)).1)), (iv ((t.rows.getD (k + 1) (0, 0)).2))]) rfl rfl rfl (Nat.le_of_ble_eq_true rfl)) ?_
  intro _ A0 AL s; clear M
  have Q : Sep nilR.S AQ A0 [(blk j 107 [(iv ((t.rows.getD (k + 1) (0, 0)).1)), (iv ((t.rows.getD (k + 1) (0, 0)).2))]), nilR, (rob C 106 [(iv t.frm), (iv t.dst), vr, vb, (iv t.err)]), (sl vr 2 t.rows.length (pairs t.rows)), (sl vb 1 t.brk.length (ints t.brk))] := AL; clear AL AK
  refine n2 ?_
  have N := s.as [(3, (iv (k : Int))), (4, (bptr j 0)), (9, (iv (k : Int))), (8, (iv (((t.rows.length - 1) : Nat) : Int))), (7, (slcut vr 1 t.rows.length 2)), (0, (Value.func (.yield l) #[] #[])), (1, (bptr C 0))] rfl; clear s
  by_cases AO : (k : Int) ∈ t.brk
  ·skip
   have u := N.as [(3, (iv (k : Int))), (4, (bptr j 0)), (9, (iv (k : Int))), (8, (iv (((t.rows.length - 1) : Nat) : Int))), (7, (slcut vr 1 t.rows.length 2)), (0, (Value.func (.yield l) #[] #[])), (1, (bptr C 0))] rfl; clear N
   refine g_0 mixed u Q 13 [[], [0], [], [1, 2], [3], [4], [5], [5], [5, 7], [5], [5, 8, 9], [5, 10], [5]] [(Yd.val (bptr C 3)), (Yd.val vb), (Yd.val (iv (k : Int))), (Yd.val (Value.bool true)), (Yd.val (Value.bool (!true))), (Yd.val (Value.bool (!true))), (Yd.val undef), (Yd.val undef), (Yd.val undef), (Yd.val undef), (Yd.val undef), (Yd.val undef), (Yd.val undef)] (by decide +kernel) rfl rfl ?_ ?_
   ·skip
    refine ⟨fun a w hA hS hd => ?_, ?_⟩
    ·skip
     exact d_5 rfl (dv (a_4 rfl fd_106_3 hA.e) hS rfl)
    refine ⟨fun a w hA hS hd => ?_, ?_⟩
    ·skip
     have e0 := e_4 (hd 0 (by decide)) rfl (fun _ h => h)
     exact d_5 rfl (dv (a_2 rfl w_2 (c_3 e0) (hS.rk 2 rfl) rfl) hS rfl)
    refine ⟨fun a w hA hS hd => ?_, ?_⟩
    ·skip
     exact d_5 rfl (dv (a_1 rfl hA.e) hS rfl)
    refine ⟨fun a w hA hS hd => ?_, ?_⟩
    ·skip
     have e1 := e_4 (hd 1 (by decide)) rfl (fun _ h => h)
     have e2 := e_4 (hd 2 (by decide)) rfl (fun _ h => h)
     exact d_5 rfl (dx (b_3 rfl en_122 (ev2 (c_3 e1) (c_3 e2)) (contains_ok t.brk (k : Int) _ _ (hS.sk 4 rfl) (by omega))) hS (fun _ => (by show Value.bool _ = _; simp [AO])))
    refine ⟨fun a w hA hS hd => ?_, ?_⟩
    ·skip
     have e3 := e_4 (hd 3 (by decide)) rfl (fun _ h => h)
     exact d_5 rfl (dv (f_5 rfl (c_3 e3)) hS rfl)
    refine ⟨fun a w hA hS hd => ?_, ?_⟩
    ·skip
     have e4 := e_4 (hd 4 (by decide)) rfl (fun _ h => h)
     exact d_5 rfl (dv (a_1 rfl (c_3 e4)) hS rfl)
    refine ⟨fun a w hA hS hd => ?_, ?_⟩
    ·skip
     have A := e_4 (hd 5 (by decide)) rfl (fun _ h => h)
     exact opG_no rfl rfl A rfl (dskip hS rfl)
    refine ⟨fun a w hA hS hd => ?_, ?_⟩
    ·skip
     have A := e_4 (hd 5 (by decide)) rfl (fun _ h => h)
     exact opG_no rfl rfl A rfl (dskip hS rfl)
    refine ⟨fun a w hA hS hd => ?_, ?_⟩
    ·skip
     have A := e_4 (hd 5 (by decide)) rfl (fun _ h => h)
     have e7 := e_4 (hd 7 (by decide)) rfl (fun _ h => h)
     exact opG_no rfl rfl A rfl (dskip hS rfl)
    refine ⟨fun a w hA hS hd => ?_, ?_⟩
    ·skip
     have A := e_4 (hd 5 (by decide)) rfl (fun _ h => h)
     exact opG_no rfl rfl A rfl (dskip hS rfl)
    refine ⟨fun a w hA hS hd => ?_, ?_⟩
    ·skip
     have A := e_4 (hd 5 (by decide)) rfl (fun _ h => h)
     have e8 := e_4 (hd 8 (by decide)) rfl (fun _ h => h)
     have e9 := e_4 (hd 9 (by decide)) rfl (fun _ h => h)
     exact opG_no rfl rfl A rfl (dskip hS rfl)
    refine ⟨fun a w hA hS hd => ?_, ?_⟩
    ·skip
     have A := e_4 (hd 5 (by decide)) rfl (fun _ h => h)
     have AS := e_4 (hd 10 (by decide)) rfl (fun _ h => h)
     exact opG_no rfl rfl A rfl (dskip hS rfl)
    refine ⟨fun a w hA hS hd => ?_, ?_⟩
    ·skip
     have A := e_4 (hd 5 (by decide)) rfl (fun _ h => h)
     exact opG_no rfl rfl A rfl (dskip hS rfl)
    trivial
   intro Am BB v Ac F; clear u Q
   have x := v.add (hz F 5); clear v
   have y := x.add (hz F 6); clear x
   have z := y.add (hz F 11); clear y
   have AB := z.add (hz F 12); clear z
   clear F
   refine s3 AB fun An AC => ?_; clear AB Am
   refine s3 AC fun Ao X => ?_; clear AC An
   refine s1 X (c_7 rfl X.e (evc _ _)) fun Ap Y => ?_; clear X Ao
   refine n1 (b_4 Y rfl (c_6 (g_3 (a_7 ?_))))
   have Z := Y.as [(9, (iv (k : Int))), (8, (iv (((t.rows.length - 1) : Nat) : Int))), (7, (slcut vr 1 t.rows.length 2)), (0, (Value.func (.yield l) #[] #[])), (1, (bptr C 0))] rfl; clear Y
   refine a_5 (s1 Z (e_3 rfl Z.e (evc _ _) (by omega) (by omega)) fun Aq b => ?_); clear Z Ap
   refine s1 b (a_1 rfl b.e) fun A6 AZ => ?_; clear b Aq
   refine e_6 ?_
   exact a_7 ⟨k + 1, ⟨AZ.as _ rfl, trivial, by omega, (by rw [good_no (by assumption)]; exact (hJ _ _ _ _ _ hj (Sep.keep Ac [1] (by decide) _ rfl rfl) rfl))⟩, by omega⟩
  skip
  have AD := N.as [(3, (iv (k : Int))), (4, (bptr j 0)), (9, (iv (k : Int))), (8, (iv (((t.rows.length - 1) : Nat) : Int))), (7, (slcut vr 1 t.rows.length 2)), (0, (Value.func (.yield l) #[] #[])), (1, (bptr C 0))] rfl; clear N
  refine g_0 mixed AD Q 13 [[], [0], [], [1, 2], [3], [4], [5], [5], [5, 7], [5], [5, 8, 9], [5, 10], [5]] [(Yd.val (bptr C 3)), (Yd.val vb), (Yd.val (iv (k : Int))), (Yd.val (Value.bool false)), (Yd.val (Value.bool (!false))), (Yd.val (Value.bool (!false))), (Yd.val (Value.func (.yield l) #[] #[])), (Yd.val (bptr C 2)), (Yd.val vr), (Yd.val (iv (k : Int))), (Yd.val (eptr vr (k * 2))), (Yd.val (Value.agg #[(iv ((t.rows.getD k (0, 0)).1)), (iv ((t.rows.getD k (0, 0)).2))])), (Yd.val (Value.agg #[(iv ((t.rows.getD (k + 1) (0, 0)).1)), (iv ((t.rows.getD (k + 1) (0, 0)).2))]))] (by decide +kernel) rfl rfl ?_ ?_
  ·skip
   refine ⟨fun a w hA hS hd => ?_, ?_⟩
   ·skip
    exact d_5 rfl (dv (a_4 rfl fd_106_3 hA.e) hS rfl)
   refine ⟨fun a w hA hS hd => ?_, ?_⟩
   ·skip
    have e0 := e_4 (hd 0 (by decide)) rfl (fun _ h => h)
    exact d_5 rfl (dv (a_2 rfl w_2 (c_3 e0) (hS.rk 2 rfl) rfl) hS rfl)
   refine ⟨fun a w hA hS hd => ?_, ?_⟩
   ·skip
    exact d_5 rfl (dv (a_1 rfl hA.e) hS rfl)
   refine ⟨fun a w hA hS hd => ?_, ?_⟩
   ·skip
    have e1 := e_4 (hd 1 (by decide)) rfl (fun _ h => h)
    have e2 := e_4 (hd 2 (by decide)) rfl (fun _ h => h)
    exact d_5 rfl (dx (b_3 rfl en_122 (ev2 (c_3 e1) (c_3 e2)) (contains_ok t.brk (k : Int) _ _ (hS.sk 4 rfl) (by omega))) hS (fun _ => (by show Value.bool _ = _; simp [AO])))
   refine ⟨fun a w hA hS hd => ?_, ?_⟩
   ·skip
    have e3 := e_4 (hd 3 (by decide)) rfl (fun _ h => h)
    exact d_5 rfl (dv (f_5 rfl (c_3 e3)) hS rfl)
   refine ⟨fun a w hA hS hd => ?_, ?_⟩
   ·skip
    have e4 := e_4 (hd 4 (by decide)) rfl (fun _ h => h)
    exact d_5 rfl (dv (a_1 rfl (c_3 e4)) hS rfl)
   refine ⟨fun a w hA hS hd => ?_, ?_⟩
   ·skip
    have A := e_4 (hd 5 (by decide)) rfl (fun _ h => h)
    exact f_8 rfl rfl A (dv (a_1 rfl hA.e) hS rfl)
   refine ⟨fun a w hA hS hd => ?_, ?_⟩
   ·skip
    have A := e_4 (hd 5 (by decide)) rfl (fun _ h => h)
    exact f_8 rfl rfl A (dv (a_4 rfl j_3 hA.e) hS rfl)
   refine ⟨fun a w hA hS hd => ?_, ?_⟩
   ·skip
    have A := e_4 (hd 5 (by decide)) rfl (fun _ h => h)
    have e7 := e_4 (hd 7 (by decide)) rfl (fun _ h => h)
    exact f_8 rfl rfl A (dv (a_2 rfl o_4 (c_3 e7) (hS.rk 2 rfl) rfl) hS rfl)
   refine ⟨fun a w hA hS hd => ?_, ?_⟩
   ·skip
    have A := e_4 (hd 5 (by decide)) rfl (fun _ h => h)
    exact f_8 rfl rfl A (dv (a_1 rfl hA.e) hS rfl)
   refine ⟨fun a w hA hS hd => ?_, ?_⟩
   ·skip
    have A := e_4 (hd 5 (by decide)) rfl (fun _ h => h)
    have e8 := e_4 (hd 8 (by decide)) rfl (fun _ h => h)
    have e9 := e_4 (hd 9 (by decide)) rfl (fun _ h => h)
    exact f_8 rfl rfl A (dv (b_0 rfl k_4 i_7 (c_3 e8) (i := k) (c_3 e9) (hS.sk 3 rfl) (by decide) (by omega)) hS rfl)
   refine ⟨fun a w hA hS hd => ?_, ?_⟩
   ·skip
    have A := e_4 (hd 5 (by decide)) rfl (fun _ h => h)
    have AS := e_4 (hd 10 (by decide)) rfl (fun _ h => h)
    exact f_8 rfl rfl A (dv (e_8 rfl i_7 (c_3 AS) (hS.sk 3 rfl) (h_7 (by omega)) rfl (by decide)) hS rfl)
   refine ⟨fun a w hA hS hd => ?_, ?_⟩
   ·skip
    have A := e_4 (hd 5 (by decide)) rfl (fun _ h => h)
    exact f_8 rfl rfl A (dv (c_9 rfl i_7 (hA.ev rfl) (hS.bk 0 rfl) (l := [(iv ((t.rows.getD (k + 1) (0, 0)).1)), (iv ((t.rows.getD (k + 1) (0, 0)).2))]) rfl rfl) hS rfl)
   trivial
  intro Ar BC AE AM H; clear AD Q
  have AF := AE.add (hz H 5); clear AE
  have AH := AF.add (hz H 6); clear AF
  have AI := AH.add (hz H 11); clear AH
  have E := AI.add (hz H 12); clear AI
  clear H
  have AP := good_at (t := t) (m := t.rows.length - 1) (k := k) (by omega) (by assumption)
  refine s6 E (op_yield rfl E.e (ev2 E.e E.e) (by have hz := hy (o_3 t k).length AP.1 _ _ (hJ _ _ _ _ _ hj (Sep.keep AM [1] (by decide) _ rfl rfl) rfl); dsimp only at hz; rw [show (d_6 t).getD (o_3 t k).length 0 = k from AP.2] at hz; exact hz)) ?_
  rintro AR A9 BD Ad D; clear E AM Ar
  rcases Ad with ⟨rfl, g⟩ | ⟨rfl, g⟩
  ·skip
   refine s5 D (f_5 rfl D.e) fun As O => ?_; clear D AR
   refine s1 O (b_6 rfl O.e O.e) fun At c => ?_; clear O As
   refine n1 (b_4 c rfl (c_6 (g_3 (a_7 ?_))))
   have d := c.as [(9, (iv (k : Int))), (8, (iv (((t.rows.length - 1) : Nat) : Int))), (7, (slcut vr 1 t.rows.length 2)), (0, (Value.func (.yield l) #[] #[])), (1, (bptr C 0))] rfl; clear c
   refine a_5 (s1 d (e_3 rfl d.e (evc _ _) (by omega) (by omega)) fun Au f => ?_); clear d At
   refine s1 f (a_1 rfl f.e) fun A7 Aa => ?_; clear f Au
   refine e_6 ?_
   exact a_7 ⟨k + 1, ⟨Aa.as _ rfl, trivial, by omega, (by rw [good_yes (by assumption), List.length_append, List.length_singleton]; exact g)⟩, by omega⟩
  skip
  refine s5 D (f_5 rfl D.e) fun Av P => ?_; clear D AR
  refine s1 P (b_6 rfl P.e P.e) fun A8 AJ => ?_; clear P Av
  exact n1 (c_0 AJ rfl (c_2 (c_8 (a_6 (a_6 (c_8 (a_8 AJ (.inl rfl) (run_results0 rfl _) (.inr ⟨_, g⟩))))))))
 skip
 rw [decide_eq_false AN] at B
 refine b_4 B rfl (g_6 (b_2 (b_2 (f_2 (a_8 B (.inr rfl) (run_results0 rfl _) ?_)))))
 exact .inl (by have hz := (hJ _ _ _ _ _ hj (Sep.keep I [0] (by decide) _ rfl rfl) rfl); rw [show k = t.rows.length - 1 by omega] at hz; exact hz)
theorem pieces_ok (t : TabD) (vr vb : Value) (w : World) (h1_ : vr.oneCell' = true) (h2_ : vb.oneCell' = true) :
  Calls Try.prog 116 #[(Value.agg #[(iv t.frm), (iv t.dst), vr, vb, (iv t.err)])] w (Ret fun v w' => ∃ H, v = .func (.func 121) #[] #[bptr H 0] ∧ Sep NoB w w' [blk H 106 [.int .i64 t.frm, .int .i64 t.dst, vr, vb, .int .i64 t.err]]) := by
 refine a_9 Try.func116 rfl fun G A => ?_
 replace A : Fr 4 [] [(0, (Value.agg #[(iv t.frm), (iv t.dst), vr, vb, (iv t.err)]))] G := A
 have F : Sep NoB w w [] := Sep.start _ _
 refine m2 (s2 A (f_4 F rfl A.e (cs := [(iv t.frm), (iv t.dst), vr, vb, (iv t.err)]) rfl) ?_)
 rintro J _ O ⟨N, rfl, I⟩ E; clear A F G
 refine s1 E (a_0 rfl (evc _ _)) fun K C => ?_; clear E J
 refine n4 (s1 C (h_6 rfl ev0 (ev1 C.e)) fun L D => ?_); clear C K
 refine s1 D (a_0 rfl D.e) fun M B => ?_; clear D L
 exact n1 (c_2 (a_8 B (.inl rfl) (a_3 B rfl (.tmp rfl)) (⟨_, rfl, I⟩)))
end Go.Proofs.Ytohgladndklciaa

namespace Go.Proofs.Ytohgladndklciaa
open Go.RowKit Go.Shelf Go.Eng Go.Hard
theorem ze_4 : (Try.prog.info? 4).bind (·.zero) = some (Value.bool false) := by kernel_rfl
theorem ty_4 : tyK Try.prog 4 = some (false, 1) := by kernel_rfl
theorem en_116 : ∀ args w, (callFunc 116 args).run Try.prog w = .ok (.enter 116 args) w := enters_of Try.func116 (by kernel_rfl) rfl
theorem en_121 : ∀ args w, (callFunc 121 args).run Try.prog w = .ok (.enter 121 args) w := enters_of Try.func121 (by kernel_rfl) rfl
theorem fd_159_0 : fldK Try.prog 159 0 = some 0 := by kernel_rfl
theorem ty_154 : tyK Try.prog 154 = some (false, 1) := by kernel_rfl
theorem en_103 : ∀ args w, (callFunc 103 args).run Try.prog w = .ok (.enter 103 args) w := enters_of Try.func103 (by kernel_rfl) rfl
theorem bd_159_0f (x0_0 : Fn) (x0_0a x0_0b : Array Value) (w : World) : (Instr.build 159 #[(0, (.func x0_0 x0_0a x0_0b))]).run Try.prog w = .ok (.agg #[(.func x0_0 x0_0a x0_0b)]) w := by kernel_rfl
theorem en_101 : ∀ args w, (callFunc 101 args).run Try.prog w = .ok (.enter 101 args) w := enters_of Try.func101 (by kernel_rfl) rfl
theorem en_72 : ∀ args w, (callFunc 72 args).run Try.prog w = .ok (.enter 72 args) w := enters_of Try.func72 (by kernel_rfl) rfl
theorem z_1 : fldK Try.prog 106 4 = some 4 := by kernel_rfl
theorem makes_dn (t : TabD) (vr vb : Value) (w : World) (hr : SlAt w vr 2 t.rows.length (pairs t.rows)) (hb : SlAt w vb 1 t.brk.length (ints t.brk)) (hrl : t.rows.length ≤ 1000000) (hbl : t.brk.length ≤ 1000000) (n : Int) (hV : TabV n t) (x : Int) :
  Calls Try.prog 101 #[(Value.agg #[(iv t.frm), (iv t.dst), vr, vb, (iv t.err)]), (iv x), (Value.agg #[(Value.func (.func 102) #[] #[])])] w (Ret fun v w' => v = .tuple #[.int .i64 (b_9 t x).1, .bool (i_8 t x).isSome] ∧ Ext NoB w w') := by
 refine calls_enterM Try.func101 rfl fun a0 AF => ?_
 replace AF : Fr 62 (marks []) [(0, (Value.agg #[(iv t.frm), (iv t.dst), vr, vb, (iv t.err)])), (1, (iv x)), (2, (Value.agg #[(Value.func (.func 102) #[] #[])]))] a0 := AF
 have Ba : Sep NoB w w [(h_5 []), (sl vr 2 t.rows.length (pairs t.rows)), (sl vb 1 t.brk.length (ints t.brk))] := sep_marks (f_1 ⟨rfl, hr, rfl, hb, trivial⟩)
 refine m2 (s2 AF (f_4 Ba rfl AF.e (cs := [(iv t.frm), (iv t.dst), vr, vb, (iv t.err)]) rfl) ?_)
 rintro a1 _ w3 ⟨M, rfl, Bb⟩ A4; clear AF Ba a0
 refine s2 A4 (f_4 Bb rfl A4.e (cs := [(iv x)]) rfl) ?_
 rintro a6 _ w8 ⟨H, rfl, BC⟩ A9; clear A4 Bb a1
 refine s2 A9 (f_4 BC rfl A9.e (cs := [(Value.func (.func 102) #[] #[])]) rfl) ?_
 rintro B1 _ Cx ⟨A, rfl, BD⟩ A2; clear A9 BC a6
 refine s2 A2 (d_9 BD rfl ze_3 (cs := [(iv 0)]) rfl) ?_
 rintro B2 _ Cy ⟨B, rfl, BE⟩ A3; clear A2 BD B1
 refine s2 A3 (d_9 BE rfl ze_4 (cs := [(Value.bool false)]) rfl) ?_
 rintro B3 _ Cz ⟨C, rfl, AC⟩ AG; clear A3 BE B2
 refine n2 (m2 (s1 AG (a_4 rfl j_3 AG.e) fun B4 AH => ?_)); clear AG B3
 refine s1 AH (a_2 rfl o_4 AH.e (AC.bk 4 rfl) rfl) fun B5 AI => ?_; clear AH B4
 refine s1 AI (d_1 rfl k_4 AI.e (AC.sk 6 rfl)) fun B6 A5 => ?_; clear AI B5
 refine s1 A5 (a_1 rfl (evc _ _)) fun B7 A6 => ?_; clear A5 B6
 refine n1 (c_4 ?_)
 have A7 := A6.as [(15, (iv 0)), (14, (iv (t.rows.length : Int))), (13, vr), (7, (bptr C 0)), (6, (bptr B 0)), (5, (bptr A 0)), (4, (bptr H 0)), (3, (bptr M 0))] rfl; clear A6
 refine h_3 (G := Nat) (fun (k : Nat) a_ w_ => Fr 62 (marks []) [(15, (iv (k : Int))), (14, (iv (t.rows.length : Int))), (13, vr), (7, (bptr C 0)), (6, (bptr B 0)), (5, (bptr A 0)), (4, (bptr H 0)), (3, (bptr M 0))] a_ ∧ Sep NoB w w_ [(blk C 4 [(Value.bool false)]), (blk B 3 [(iv 0)]), (blk A 159 [(Value.func (.func 102) #[] #[])]), (blk H 3 [(iv x)]), (blk M 106 [(iv t.frm), (iv t.dst), vr, vb, (iv t.err)]), (h_5 []), (sl vr 2 t.rows.length (pairs t.rows)), (sl vb 1 t.brk.length (ints t.brk))] ∧ (k ≤ t.rows.length) ∧ (∀ i, i < k → ¬ tx t i = x)) (fun k => t.rows.length - k) 0 ⟨A7.as _ rfl, AC, by omega, (fun _ h => absurd h (Nat.not_lt_zero _))⟩ ?_
 clear A7 AC B7
 rintro k B8 C0 ⟨p, N, hkk, hrw⟩
 refine m2 (s1 p (f_7 rfl p.e p.e) fun BX F => ?_); clear p B8
 refine n2 ?_
 by_cases BQ : (k : Int) < (t.rows.length : Int)
 ·skip
  rw [decide_eq_true BQ] at F
  refine c_0 F rfl (c_6 (a_7 (b_5 (c_4 (m2 (s1 F (b_0 rfl k_4 i_7 F.e (i := k) F.e (N.sk 6 rfl) (by decide) (by omega)) fun B9 AJ => ?_)))))); clear F BX
  refine s1 AJ (e_8 rfl i_7 AJ.e (N.sk 6 rfl) (h_7 (by omega)) rfl (by decide)) fun CA A8 => ?_; clear AJ B9
  refine s2 A8 (d_9 N rfl aa_6 (cs := [(iv 0), (iv 0)]) rfl) ?_
  rintro CB _ C1 ⟨AU, rfl, BF⟩ s; clear A8 N CA
  refine s7 s (b_7 BF rfl i_7 s.e s.e (i := 0) rfl (vs := [(iv ((t.rows.getD k (0, 0)).1)), (iv ((t.rows.getD k (0, 0)).2))]) rfl rfl rfl (Nat.le_of_ble_eq_true rfl)) ?_
  intro _ CS BG AK; clear s
  have O : Sep NoB w CS [(blk AU 107 [(iv ((t.rows.getD k (0, 0)).1)), (iv ((t.rows.getD k (0, 0)).2))]), (blk C 4 [(Value.bool false)]), (blk B 3 [(iv 0)]), (blk A 159 [(Value.func (.func 102) #[] #[])]), (blk H 3 [(iv x)]), (blk M 106 [(iv t.frm), (iv t.dst), vr, vb, (iv t.err)]), (h_5 []), (sl vr 2 t.rows.length (pairs t.rows)), (sl vb 1 t.brk.length (ints t.brk))] := BG; clear BG BF
  refine n4 (s1 AK (a_4 rfl j_4 AK.e) fun CC AL => ?_); clear AK CB
  refine s1 AL (a_2 rfl ty_3 AL.e (O.bk 0 rfl) rfl) fun CD AM => ?_; clear AL CC
  refine s1 AM (a_2 rfl ty_3 AM.e (O.bk 4 rfl) rfl) fun CE u => ?_; clear AM CD
  refine s1 u (q_0 rfl u.e u.e) fun BY K => ?_; clear u CE
  refine n1 ?_
  by_cases BR : ((t.rows.getD k (0, 0)).1) = x
  ·skip
   rw [decide_eq_true BR] at K
   refine c_0 K rfl (b_5 ?_)
   have AN := K.as [(9, (bptr AU 0)), (7, (bptr C 0)), (6, (bptr B 0))] rfl; clear K
   refine a_5 (s1 AN (a_4 rfl l_9 AN.e) fun CF AO => ?_); clear AN BY
   refine s1 AO (a_2 rfl ty_3 AO.e (O.bk 0 rfl) rfl) fun Cu y => ?_; clear AO CF
   refine s7 y (b_7 O rfl ty_3 y.e y.e (i := 2) rfl (vs := [(iv ((t.rows.getD k (0, 0)).2))]) rfl rfl rfl (Nat.le_of_ble_eq_true rfl)) ?_
   intro _ CT BH AP; clear y
   have BI : Sep NoB w CT [(blk AU 107 [(iv ((t.rows.getD k (0, 0)).1)), (iv ((t.rows.getD k (0, 0)).2))]), (blk C 4 [(Value.bool false)]), (blk B 3 [(iv ((t.rows.getD k (0, 0)).2))]), (blk A 159 [(Value.func (.func 102) #[] #[])]), (blk H 3 [(iv x)]), (blk M 106 [(iv t.frm), (iv t.dst), vr, vb, (iv t.err)]), (h_5 []), (sl vr 2 t.rows.length (pairs t.rows)), (sl vb 1 t.brk.length (ints t.brk))] := BH; clear BH O
   refine s7 AP (b_7 BI rfl ty_4 AP.e (evc _ _) (i := 1) rfl (vs := [(Value.bool true)]) rfl rfl rfl (Nat.le_of_ble_eq_true rfl)) ?_
   intro _ CU BJ BA; clear AP
   have BK : Sep NoB w CU [(blk AU 107 [(iv ((t.rows.getD k (0, 0)).1)), (iv ((t.rows.getD k (0, 0)).2))]), (blk C 4 [(Value.bool true)]), (blk B 3 [(iv ((t.rows.getD k (0, 0)).2))]), (blk A 159 [(Value.func (.func 102) #[] #[])]), (blk H 3 [(iv x)]), (blk M 106 [(iv t.frm), (iv t.dst), vr, vb, (iv t.err)]), (h_5 []), (sl vr 2 t.rows.length (pairs t.rows)), (sl vb 1 t.brk.length (ints t.brk))] := BJ; clear BJ BI
   refine n1 (c_2 (c_8 (a_6 (a_6 (c_8 (a_6 ?_))))))
   have BL := BK.gkp (gpc 6 (gpc 0 (gpc 1 (gpc 2 (gpc 3 (gpc 4 (gpc 5 (gpc 7 (gpc 8 gpn))))))))); clear BK
   refine fin_runM BA (.inl rfl) BL ?_
   intro C2 AT; clear BL
   refine ⟨_, (d_7 BA rfl (.cell1 rfl ty_3 (AT.bk 2 rfl) rfl) (.cell1 rfl ty_4 (AT.bk 1 rfl) rfl)), ?_⟩
   have hz := (made_row (k := k) (by omega) (fun i hi => hrw i (by omega)) (by assumption))
   exact ⟨by unfold b_9; rw [hz]; rfl, AT.ext⟩
  skip
  rw [decide_eq_false BR] at K
  refine b_4 K rfl (c_6 (g_3 (a_7 ?_)))
  have AQ := K.as [(15, (iv (k : Int))), (14, (iv (t.rows.length : Int))), (13, vr), (7, (bptr C 0)), (6, (bptr B 0)), (5, (bptr A 0)), (4, (bptr H 0)), (3, (bptr M 0))] rfl; clear K
  refine a_5 (s1 AQ (e_3 rfl AQ.e (evc _ _) (by omega) (by omega)) fun CG AR => ?_); clear AQ BY
  refine s1 AR (a_1 rfl AR.e) fun Cv Bs => ?_; clear AR CG
  refine e_6 ?_
  have Bt := O.gkp (gpc 1 (gpc 2 (gpc 3 (gpc 4 (gpc 5 (gpc 6 (gpc 7 (gpc 8 gpn)))))))); clear O
  exact a_7 ⟨k + 1, ⟨Bs.as _ rfl, Bt, by omega, (fun i hi => by rcases Nat.lt_succ_iff_lt_or_eq.1 hi with h | h; exact hrw i h; subst h; assumption)⟩, by omega⟩
 skip
 rw [decide_eq_false BQ] at F
 refine b_4 F rfl (g_6 (b_2 (b_2 (f_2 (a_7 (b_5 (m2 (s1 F (c_9 rfl k_9 (F.ev rfl) (N.bk 4 rfl) (l := [(iv t.frm), (iv t.dst), vr, vb, (iv t.err)]) rfl rfl) fun CH AS => ?_)))))))); clear F BX
 refine s2 AS (b_3 rfl en_116 (ev1 AS.e) (pieces_ok t vr vb _ hr.one hb.one)) ?_
 rintro Cw _ C3 ⟨bl93, rfl, BP⟩ BB; have BM := N.w_4 BP rfl; clear BP AS N CH
 refine n1 (c_4 ?_)
 have W := BB.as [(27, (Value.func (.func 121) #[] #[(bptr bl93 0)])), (7, (bptr C 0)), (6, (bptr B 0)), (5, (bptr A 0)), (4, (bptr H 0))] rfl; clear BB
 have BN := BM.nilR; clear BM
 have AD := BN.gkp (gpc 7 (gpc 0 (gpc 1 (gpc 2 (gpc 3 (gpc 4 (gpc 5 (gpc 6 (gpc 8 (gpc 9 gpn)))))))))); clear BN
 refine c_rangeG W nilR rfl AD W.e en_121 ((d_6 t).length) (fun q => #[.agg #[.int .i64 (t.rows.getD ((d_6 t).getD q 0) (0, 0)).1, .int .i64 (t.rows.getD ((d_6 t).getD q 0) (0, 0)).2], .agg #[.int .i64 (t.rows.getD ((d_6 t).getD q 0 + 1) (0, 0)).1, .int .i64 (t.rows.getD ((d_6 t).getD q 0 + 1) (0, 0)).2]]) (fun _ => rfl) [rob bl93 106 [.int .i64 t.frm, .int .i64 t.dst, vr, vb, .int .i64 t.err], sl vr 2 t.rows.length (pairs t.rows), sl vb 1 t.brk.length (ints t.brk)] (fun r hr => by simp only [List.mem_cons, List.not_mem_nil, or_false] at hr; rcases hr with rfl | rfl | rfl <;> rfl) (pieces_it bl93 t vr vb hV.len hrl hbl) (fun q L_ => L_ = [(blk bl93 106 [(iv t.frm), (iv t.dst), vr, vb, (iv t.err)]), (blk C 4 [(Value.bool false)]), (blk B 3 [(iv 0)]), (blk A 159 [(Value.func (.func 102) #[] #[])]), (blk H 3 [(iv x)]), (blk M 106 [(iv t.frm), (iv t.dst), vr, vb, (iv t.err)]), (sl vr 2 t.rows.length (pairs t.rows)), (sl vb 1 t.brk.length (ints t.brk))] ∧ (∀ j, j < q → m_0 t x ((d_6 t).getD j 0) = false)) (fun L_ => L_ = [(blk bl93 106 [(iv t.frm), (iv t.dst), vr, vb, (iv t.err)]), (blk C 4 [(Value.bool true)]), (blk B 3 [(iv ((b_9 t x).1))]), (blk A 159 [(Value.func (.func 102) #[] #[])]), (blk H 3 [(iv x)]), (blk M 106 [(iv t.frm), (iv t.dst), vr, vb, (iv t.err)]), (sl vr 2 t.rows.length (pairs t.rows)), (sl vb 1 t.brk.length (ints t.brk))] ∧ ((i_8 t x).isSome = true)) (some .ret) ⟨rfl, (fun _ h => absurd h (Nat.not_lt_zero _))⟩ (fun q L_ hI_ G_ W_ r1_ r2_ hW_ => by obtain ⟨rfl, hpc⟩ := hI_; exact (Sep.keep (hW_.to_ro (i := 3) rfl) [2, 3, 9, 10] (by decide) _ rfl rfl)) (fun L_ hI_ G_ W_ r1_ r2_ hW_ => by obtain ⟨rfl, hsm⟩ := hI_; exact (Sep.keep (hW_.to_ro (i := 3) rfl) [2, 3, 9, 10] (by decide) _ rfl rfl)) ?_ ?_ ?_
 ·skip
  intro q hq L_ hL_ G105 CW AE D103 rc104 BZ C4 Ay BO; obtain ⟨rfl, hpc⟩ := hL_
  have AV : Fr 62 [] [(29, (Value.agg #[(iv ((t.rows.getD (((d_6 t).getD q 0) + 1) (0, 0)).1)), (iv ((t.rows.getD (((d_6 t).getD q 0) + 1) (0, 0)).2))])), (28, (Value.agg #[(iv ((t.rows.getD (((d_6 t).getD q 0)) (0, 0)).1)), (iv ((t.rows.getD (((d_6 t).getD q 0)) (0, 0)).2))])), (27, (Value.func (.func 121) #[] #[(bptr bl93 0)])), (7, (bptr C 0)), (6, (bptr B 0)), (5, (bptr A 0)), (4, (bptr H 0))] BZ := by rw [Ay]; exact Fr.round2 W (by decide) (by decide)
  clear Ay AD
  have hgq : ((d_6 t).getD q 0) < t.rows.length - 1 := (good_mem hq).1; have hbn := hV.bnd _ (show ((d_6 t).getD q 0) < t.rows.length by omega); have hbn1 := hV.bnd (((d_6 t).getD q 0) + 1) (by omega); unfold tx ty at hbn hbn1
  refine m2 (s2 AV (d_9 BO rfl aa_6 (cs := [(iv 0), (iv 0)]) rfl) ?_)
  rintro Bc _ Cm ⟨E, rfl, Ag⟩ P; clear AV BO BZ
  refine s7 P (b_7 Ag rfl i_7 P.e P.e (i := 0) rfl (vs := [(iv ((t.rows.getD (((d_6 t).getD q 0)) (0, 0)).1)), (iv ((t.rows.getD (((d_6 t).getD q 0)) (0, 0)).2))]) rfl rfl rfl (Nat.le_of_ble_eq_true rfl)) ?_
  intro _ Bu Ah AW; clear P
  have Ai : Sep NoB w Bu [(blk E 107 [(iv ((t.rows.getD (((d_6 t).getD q 0)) (0, 0)).1)), (iv ((t.rows.getD (((d_6 t).getD q 0)) (0, 0)).2))]), (obR AE (.loop (rc104 .ready none))), (h_5 (D103 :: [])), G105, (blk bl93 106 [(iv t.frm), (iv t.dst), vr, vb, (iv t.err)]), (blk C 4 [(Value.bool false)]), (blk B 3 [(iv 0)]), (blk A 159 [(Value.func (.func 102) #[] #[])]), (blk H 3 [(iv x)]), (blk M 106 [(iv t.frm), (iv t.dst), vr, vb, (iv t.err)]), (sl vr 2 t.rows.length (pairs t.rows)), (sl vb 1 t.brk.length (ints t.brk))] := Ah; clear Ah Ag
  refine n3 (s2 AW (d_9 Ai rfl aa_6 (cs := [(iv 0), (iv 0)]) rfl) ?_)
  rintro Bd _ Cn ⟨J, rfl, Aj⟩ Q; clear AW Ai Bc
  refine s7 Q (b_7 Aj rfl i_7 Q.e Q.e (i := 0) rfl (vs := [(iv ((t.rows.getD (((d_6 t).getD q 0) + 1) (0, 0)).1)), (iv ((t.rows.getD (((d_6 t).getD q 0) + 1) (0, 0)).2))]) rfl rfl rfl (Nat.le_of_ble_eq_true rfl)) ?_
  intro _ Bv Ak X; clear Q
  have Al : Sep NoB w Bv [(blk J 107 [(iv ((t.rows.getD (((d_6 t).getD q 0) + 1) (0, 0)).1)), (iv ((t.rows.getD (((d_6 t).getD q 0) + 1) (0, 0)).2))]), (blk E 107 [(iv ((t.rows.getD (((d_6 t).getD q 0)) (0, 0)).1)), (iv ((t.rows.getD (((d_6 t).getD q 0)) (0, 0)).2))]), (obR AE (.loop (rc104 .ready none))), (h_5 (D103 :: [])), G105, (blk bl93 106 [(iv t.frm), (iv t.dst), vr, vb, (iv t.err)]), (blk C 4 [(Value.bool false)]), (blk B 3 [(iv 0)]), (blk A 159 [(Value.func (.func 102) #[] #[])]), (blk H 3 [(iv x)]), (blk M 106 [(iv t.frm), (iv t.dst), vr, vb, (iv t.err)]), (sl vr 2 t.rows.length (pairs t.rows)), (sl vb 1 t.brk.length (ints t.brk))] := Ak; clear Ak Aj
  refine e_6 ?_
  have Am := Al.gkp (gpc 2 (gpc 3 (gpc 4 (gpc 0 (gpc 1 (gpc 5 (gpc 6 (gpc 7 (gpc 8 (gpc 9 (gpc 10 (gpc 11 (gpc 12 gpn))))))))))))); clear Al
  refine ⟨rfl, _, Am, ?_⟩; intro Co D; clear Am
  refine c_4 (m2 (s1 X (a_4 rfl j_4 X.e) fun Be Y => ?_)); clear X Bd
  refine s1 Y (a_2 rfl ty_3 Y.e (D.bk 4 rfl) rfl) fun Bf Z => ?_; clear Y Be
  refine s1 Z (a_2 rfl ty_3 Z.e (D.bk 9 rfl) rfl) fun Bg R => ?_; clear Z Bf
  refine s1 R (f_7 rfl R.e R.e) fun Bh b => ?_; clear R Bg
  refine s1 b (a_1 rfl b.e) fun A1 I => ?_; clear b Bh
  by_cases Az : ((t.rows.getD (((d_6 t).getD q 0)) (0, 0)).1) < x
  ·skip
   rw [decide_eq_true Az] at I
   refine s5 I (a_2 rfl ty_3 I.e (D.bk 9 rfl) rfl) fun Bi c => ?_; clear I A1
   refine s5 c (a_4 rfl j_4 c.e) fun Bj d => ?_; clear c Bi
   refine s5 d (a_2 rfl ty_3 d.e (D.bk 3 rfl) rfl) fun Bk S => ?_; clear d Bj
   refine s5 S (f_7 rfl S.e S.e) fun Bl T => ?_; clear S Bk
   refine s1 T (b_6 rfl T.e T.e) fun CY L => ?_; clear T Bl
   refine n1 ?_
   by_cases A0 : x < ((t.rows.getD (((d_6 t).getD q 0) + 1) (0, 0)).1)
   ·skip
    rw [decide_eq_true A0] at L
    have hpb := piece_bds (v := x) (k := ((d_6 t).getD q 0)) hV (by omega) (by unfold tx; omega) (by unfold tx; omega); unfold pieceN pieceD tx ty at hpb; have hdb := downF_bd hpb.1 hpb.2; have hub := upF_bd hpb.1 hpb.2
    refine c_0 L rfl (b_5 ?_)
    have AX := L.as [(11, (bptr J 0)), (10, (bptr E 0)), (7, (bptr C 0)), (6, (bptr B 0)), (5, (bptr A 0)), (4, (bptr H 0))] rfl; clear L
    have AY := AX.as [(11, (bptr J 0)), (10, (bptr E 0)), (7, (bptr C 0)), (6, (bptr B 0)), (5, (bptr A 0)), (4, (bptr H 0))] rfl; clear AX
    refine g_0 mixed AY D 21 [[], [0], [], [2], [], [], [5], [4, 6], [], [8], [], [10], [9, 11], [7, 12], [], [14], [], [16], [15, 17], [13, 18], [3, 19]] [(Yd.val (bptr E 1)), (Yd.val (iv ((t.rows.getD (((d_6 t).getD q 0)) (0, 0)).2))), (Yd.val (bptr A 0)), (Yd.val (Value.func (.func 102) #[] #[])), (Yd.val (iv x)), (Yd.val (bptr E 0)), (Yd.val (iv ((t.rows.getD (((d_6 t).getD q 0)) (0, 0)).1))), (Yd.val (iv (x - ((t.rows.getD (((d_6 t).getD q 0)) (0, 0)).1)))), (Yd.val (bptr J 1)), (Yd.val (iv ((t.rows.getD (((d_6 t).getD q 0) + 1) (0, 0)).2))), (Yd.val (bptr E 1)), (Yd.val (iv ((t.rows.getD (((d_6 t).getD q 0)) (0, 0)).2))), (Yd.val (iv (((t.rows.getD (((d_6 t).getD q 0) + 1) (0, 0)).2) - ((t.rows.getD (((d_6 t).getD q 0)) (0, 0)).2)))), (Yd.val (iv ((x - ((t.rows.getD (((d_6 t).getD q 0)) (0, 0)).1)) * (((t.rows.getD (((d_6 t).getD q 0) + 1) (0, 0)).2) - ((t.rows.getD (((d_6 t).getD q 0)) (0, 0)).2))))), (Yd.val (bptr J 0)), (Yd.val (iv ((t.rows.getD (((d_6 t).getD q 0) + 1) (0, 0)).1))), (Yd.val (bptr E 0)), (Yd.val (iv ((t.rows.getD (((d_6 t).getD q 0)) (0, 0)).1))), (Yd.val (iv (((t.rows.getD (((d_6 t).getD q 0) + 1) (0, 0)).1) - ((t.rows.getD (((d_6 t).getD q 0)) (0, 0)).1)))), (Yd.val (Value.agg #[(iv ((x - ((t.rows.getD (((d_6 t).getD q 0)) (0, 0)).1)) * (((t.rows.getD (((d_6 t).getD q 0) + 1) (0, 0)).2) - ((t.rows.getD (((d_6 t).getD q 0)) (0, 0)).2)))), (iv (((t.rows.getD (((d_6 t).getD q 0) + 1) (0, 0)).1) - ((t.rows.getD (((d_6 t).getD q 0)) (0, 0)).1)))])), (Yd.val (iv (z_0 ((x - ((t.rows.getD (((d_6 t).getD q 0)) (0, 0)).1)) * (((t.rows.getD (((d_6 t).getD q 0) + 1) (0, 0)).2) - ((t.rows.getD (((d_6 t).getD q 0)) (0, 0)).2))) (((t.rows.getD (((d_6 t).getD q 0) + 1) (0, 0)).1) - ((t.rows.getD (((d_6 t).getD q 0)) (0, 0)).1)))))] (by decide +kernel) rfl rfl ?_ ?_
    ·skip
     refine ⟨fun a w hA hS hd => ?_, ?_⟩
     ·skip
      exact d_5 rfl (dv (a_4 rfl l_9 hA.e) hS rfl)
     refine ⟨fun a w hA hS hd => ?_, ?_⟩
     ·skip
      have e0 := e_4 (hd 0 (by decide)) rfl (fun _ h => h)
      exact d_5 rfl (dv (a_2 rfl ty_3 (c_3 e0) (hS.bk 4 rfl) rfl) hS rfl)
     refine ⟨fun a w hA hS hd => ?_, ?_⟩
     ·skip
      exact d_5 rfl (dv (a_4 rfl fd_159_0 hA.e) hS rfl)
     refine ⟨fun a w hA hS hd => ?_, ?_⟩
     ·skip
      have e2 := e_4 (hd 2 (by decide)) rfl (fun _ h => h)
      exact d_5 rfl (dv (a_2 rfl ty_154 (c_3 e2) (hS.bk 8 rfl) rfl) hS rfl)
     refine ⟨fun a w hA hS hd => ?_, ?_⟩
     ·skip
      exact d_5 rfl (dv (a_2 rfl ty_3 hA.e (hS.bk 9 rfl) rfl) hS rfl)
     refine ⟨fun a w hA hS hd => ?_, ?_⟩
     ·skip
      exact d_5 rfl (dv (a_4 rfl j_4 hA.e) hS rfl)
     refine ⟨fun a w hA hS hd => ?_, ?_⟩
     ·skip
      have e5 := e_4 (hd 5 (by decide)) rfl (fun _ h => h)
      exact d_5 rfl (dv (a_2 rfl ty_3 (c_3 e5) (hS.bk 4 rfl) rfl) hS rfl)
     refine ⟨fun a w hA hS hd => ?_, ?_⟩
     ·skip
      have e4 := e_4 (hd 4 (by decide)) rfl (fun _ h => h)
      have e6 := e_4 (hd 6 (by decide)) rfl (fun _ h => h)
      exact d_5 rfl (dv (h_2 rfl (c_3 e4) (c_3 e6) (by omega) (by omega)) hS rfl)
     refine ⟨fun a w hA hS hd => ?_, ?_⟩
     ·skip
      exact d_5 rfl (dv (a_4 rfl l_9 hA.e) hS rfl)
     refine ⟨fun a w hA hS hd => ?_, ?_⟩
     ·skip
      have e8 := e_4 (hd 8 (by decide)) rfl (fun _ h => h)
      exact d_5 rfl (dv (a_2 rfl ty_3 (c_3 e8) (hS.bk 3 rfl) rfl) hS rfl)
     refine ⟨fun a w hA hS hd => ?_, ?_⟩
     ·skip
      exact d_5 rfl (dv (a_4 rfl l_9 hA.e) hS rfl)
     refine ⟨fun a w hA hS hd => ?_, ?_⟩
     ·skip
      have CI := e_4 (hd 10 (by decide)) rfl (fun _ h => h)
      exact d_5 rfl (dv (a_2 rfl ty_3 (c_3 CI) (hS.bk 4 rfl) rfl) hS rfl)
     refine ⟨fun a w hA hS hd => ?_, ?_⟩
     ·skip
      have e9 := e_4 (hd 9 (by decide)) rfl (fun _ h => h)
      have CJ := e_4 (hd 11 (by decide)) rfl (fun _ h => h)
      exact d_5 rfl (dv (h_2 rfl (c_3 e9) (c_3 CJ) (by omega) (by omega)) hS rfl)
     refine ⟨fun a w hA hS hd => ?_, ?_⟩
     ·skip
      have e7 := e_4 (hd 7 (by decide)) rfl (fun _ h => h)
      have CK := e_4 (hd 12 (by decide)) rfl (fun _ h => h)
      exact d_5 rfl (dv (op_mul rfl (c_3 e7) (c_3 CK) (by omega) (by omega)) hS rfl)
     refine ⟨fun a w hA hS hd => ?_, ?_⟩
     ·skip
      exact d_5 rfl (dv (a_4 rfl j_4 hA.e) hS rfl)
     refine ⟨fun a w hA hS hd => ?_, ?_⟩
     ·skip
      have CM := e_4 (hd 14 (by decide)) rfl (fun _ h => h)
      exact d_5 rfl (dv (a_2 rfl ty_3 (c_3 CM) (hS.bk 3 rfl) rfl) hS rfl)
     refine ⟨fun a w hA hS hd => ?_, ?_⟩
     ·skip
      exact d_5 rfl (dv (a_4 rfl j_4 hA.e) hS rfl)
     refine ⟨fun a w hA hS hd => ?_, ?_⟩
     ·skip
      have CO := e_4 (hd 16 (by decide)) rfl (fun _ h => h)
      exact d_5 rfl (dv (a_2 rfl ty_3 (c_3 CO) (hS.bk 4 rfl) rfl) hS rfl)
     refine ⟨fun a w hA hS hd => ?_, ?_⟩
     ·skip
      have CN := e_4 (hd 15 (by decide)) rfl (fun _ h => h)
      have CP := e_4 (hd 17 (by decide)) rfl (fun _ h => h)
      exact d_5 rfl (dv (h_2 rfl (c_3 CN) (c_3 CP) (by omega) (by omega)) hS rfl)
     refine ⟨fun a w hA hS hd => ?_, ?_⟩
     ·skip
      have CL := e_4 (hd 13 (by decide)) rfl (fun _ h => h)
      have CQ := e_4 (hd 18 (by decide)) rfl (fun _ h => h)
      exact d_5 rfl (dv (e_7 rfl (pv2 (c_3 CL) (c_3 CQ)) (bd_157_0i_1i _ _)) hS rfl)
     refine ⟨fun a w hA hS hd => ?_, ?_⟩
     ·skip
      have e3 := e_4 (hd 3 (by decide)) rfl (fun _ h => h)
      have CR := e_4 (hd 19 (by decide)) rfl (fun _ h => h)
      exact d_5 rfl (dx (i_5 rfl (c_3 e3) en_102 (ev1 (c_3 CR)) (down_ok _ _ _ (by omega) (by omega))) hS (fun _ => rfl))
     trivial
    intro Bm Cp AZ An z; clear AY D
    have Aa := AZ.add (hz z 1); clear AZ
    have U := Aa.add (hz z 20); clear Aa
    clear z
    refine s1 U (e_3 rfl U.e U.e (by omega) (by omega)) fun Bn BS => ?_; clear U Bm
    have hvl : ((t.rows.getD (((d_6 t).getD q 0)) (0, 0)).2) + (z_0 ((x - ((t.rows.getD (((d_6 t).getD q 0)) (0, 0)).1)) * (((t.rows.getD (((d_6 t).getD q 0) + 1) (0, 0)).2) - ((t.rows.getD (((d_6 t).getD q 0)) (0, 0)).2))) (((t.rows.getD (((d_6 t).getD q 0) + 1) (0, 0)).1) - ((t.rows.getD (((d_6 t).getD q 0)) (0, 0)).1))) = (b_9 t x).1 := by unfold b_9; rw [made_good (fun i hi => hrw i (by omega)) hq hpc (good_piece hq (by assumption) (by assumption))]; rfl
    have V : Fr 62 [] [(61, (iv ((b_9 t x).1))), (60, (iv (z_0 ((x - ((t.rows.getD (((d_6 t).getD q 0)) (0, 0)).1)) * (((t.rows.getD (((d_6 t).getD q 0) + 1) (0, 0)).2) - ((t.rows.getD (((d_6 t).getD q 0)) (0, 0)).2))) (((t.rows.getD (((d_6 t).getD q 0) + 1) (0, 0)).1) - ((t.rows.getD (((d_6 t).getD q 0)) (0, 0)).1))))), (41, (iv ((t.rows.getD (((d_6 t).getD q 0)) (0, 0)).2))), (11, (bptr J 0)), (10, (bptr E 0)), (7, (bptr C 0)), (6, (bptr B 0)), (5, (bptr A 0)), (4, (bptr H 0))] Bn := by rw [← hvl]; exact BS
    refine s7 V (b_7 An rfl ty_3 V.e V.e (i := 7) rfl (vs := [(iv ((b_9 t x).1))]) rfl rfl rfl (Nat.le_of_ble_eq_true rfl)) ?_
    intro _ Bw Ao f; clear V
    have Ap : Sep NoB w Bw [(obR AE (.loop (rc104 .busy none))), (h_5 (D103 :: [])), G105, (blk J 107 [(iv ((t.rows.getD (((d_6 t).getD q 0) + 1) (0, 0)).1)), (iv ((t.rows.getD (((d_6 t).getD q 0) + 1) (0, 0)).2))]), (blk E 107 [(iv ((t.rows.getD (((d_6 t).getD q 0)) (0, 0)).1)), (iv ((t.rows.getD (((d_6 t).getD q 0)) (0, 0)).2))]), (blk bl93 106 [(iv t.frm), (iv t.dst), vr, vb, (iv t.err)]), (blk C 4 [(Value.bool false)]), (blk B 3 [(iv ((b_9 t x).1))]), (blk A 159 [(Value.func (.func 102) #[] #[])]), (blk H 3 [(iv x)]), (blk M 106 [(iv t.frm), (iv t.dst), vr, vb, (iv t.err)]), (sl vr 2 t.rows.length (pairs t.rows)), (sl vb 1 t.brk.length (ints t.brk))] := Ao; clear Ao An
    refine s7 f (b_7 Ap rfl ty_4 f.e (evc _ _) (i := 6) rfl (vs := [(Value.bool true)]) rfl rfl rfl (Nat.le_of_ble_eq_true rfl)) ?_
    intro _ Bx Aq CV; clear f
    have Ar : Sep NoB w Bx [(obR AE (.loop (rc104 .busy none))), (h_5 (D103 :: [])), G105, (blk J 107 [(iv ((t.rows.getD (((d_6 t).getD q 0) + 1) (0, 0)).1)), (iv ((t.rows.getD (((d_6 t).getD q 0) + 1) (0, 0)).2))]), (blk E 107 [(iv ((t.rows.getD (((d_6 t).getD q 0)) (0, 0)).1)), (iv ((t.rows.getD (((d_6 t).getD q 0)) (0, 0)).2))]), (blk bl93 106 [(iv t.frm), (iv t.dst), vr, vb, (iv t.err)]), (blk C 4 [(Value.bool true)]), (blk B 3 [(iv ((b_9 t x).1))]), (blk A 159 [(Value.func (.func 102) #[] #[])]), (blk H 3 [(iv x)]), (blk M 106 [(iv t.frm), (iv t.dst), vr, vb, (iv t.err)]), (sl vr 2 t.rows.length (pairs t.rows)), (sl vb 1 t.brk.length (ints t.brk))] := Aq; clear Aq Ap
    refine n1 (c_2 (c_8 ?_))
    have BU := Ar.gkp (gpc 0 (gpc 1 (gpc 2 (gpc 5 (gpc 6 (gpc 7 (gpc 8 (gpc 9 (gpc 10 (gpc 11 (gpc 12 gpn))))))))))); clear Ar
    exact re_ret rfl ⟨_, rfl, ⟨rfl, (by rw [made_good (fun i hi => hrw i (by omega)) hq hpc (good_piece hq (by assumption) (by assumption))]; rfl)⟩⟩ BU
   skip
   rw [decide_eq_false A0] at L
   refine b_4 L rfl (c_6 (g_3 ?_))
   have BV := D.gkp (gpc 0 (gpc 1 (gpc 2 (gpc 5 (gpc 6 (gpc 7 (gpc 8 (gpc 9 (gpc 10 (gpc 11 (gpc 12 gpn))))))))))); clear D
   exact re_n ⟨_, rfl, ⟨rfl, (fun j hj => by rcases Nat.lt_succ_iff_lt_or_eq.1 hj with h | h; exact hpc j h; subst h; first | exact m_1 (.inl (by assumption)) | exact m_1 (.inr (.inl (by assumption))))⟩⟩ BV
  skip
  rw [decide_eq_false Az] at I
  refine s3 I fun Bo Ab => ?_; clear I A1
  refine s3 Ab fun Bp Ac => ?_; clear Ab Bo
  refine s3 Ac fun Bq Ad => ?_; clear Ac Bp
  refine s3 Ad fun Br g => ?_; clear Ad Bq
  refine s1 g (c_7 rfl g.e (evc _ _)) fun CZ BT => ?_; clear g Br
  refine n1 (b_4 BT rfl (c_6 (g_3 ?_)))
  have BW := D.gkp (gpc 0 (gpc 1 (gpc 2 (gpc 5 (gpc 6 (gpc 7 (gpc 8 (gpc 9 (gpc 10 (gpc 11 (gpc 12 gpn))))))))))); clear D
  exact re_n ⟨_, rfl, ⟨rfl, (fun j hj => by rcases Nat.lt_succ_iff_lt_or_eq.1 hj with h | h; exact hpc j h; subst h; first | exact m_1 (.inl (by assumption)) | exact m_1 (.inr (.inl (by assumption))))⟩⟩ BW
 ·skip
  intro L_ hL_ D188 Ca Cq m As; obtain ⟨rfl, hpc⟩ := hL_; clear W AD
  refine g_3 (a_7 (m2 (s7 m (b_7 As rfl ty_3 m.e (evc _ _) (i := 4) rfl (vs := [(iv 0)]) rfl rfl rfl (Nat.le_of_ble_eq_true rfl)) ?_)))
  intro _ By At o; clear m
  have Au : Sep NoB w By [(h_5 (D188 :: [])), nilR, (blk bl93 106 [(iv t.frm), (iv t.dst), vr, vb, (iv t.err)]), (blk C 4 [(Value.bool false)]), (blk B 3 [(iv 0)]), (blk A 159 [(Value.func (.func 102) #[] #[])]), (blk H 3 [(iv x)]), (blk M 106 [(iv t.frm), (iv t.dst), vr, vb, (iv t.err)]), (sl vr 2 t.rows.length (pairs t.rows)), (sl vb 1 t.brk.length (ints t.brk))] := At; clear At As
  refine s7 o (b_7 Au rfl ty_4 o.e (evc _ _) (i := 3) rfl (vs := [(Value.bool false)]) rfl rfl rfl (Nat.le_of_ble_eq_true rfl)) ?_
  intro _ Bz Av Ae; clear o
  have Aw : Sep NoB w Bz [(h_5 (D188 :: [])), nilR, (blk bl93 106 [(iv t.frm), (iv t.dst), vr, vb, (iv t.err)]), (blk C 4 [(Value.bool false)]), (blk B 3 [(iv 0)]), (blk A 159 [(Value.func (.func 102) #[] #[])]), (blk H 3 [(iv x)]), (blk M 106 [(iv t.frm), (iv t.dst), vr, vb, (iv t.err)]), (sl vr 2 t.rows.length (pairs t.rows)), (sl vb 1 t.brk.length (ints t.brk))] := Av; clear Av Au
  refine n1 (c_2 (fin_runM Ae (.inl rfl) Aw ?_))
  intro Cr AA; clear Aw
  refine ⟨_, (d_7 Ae rfl (.cell1 rfl ty_3 (AA.bk 3 rfl) rfl) (.cell1 rfl ty_4 (AA.bk 2 rfl) rfl)), ?_⟩
  have hz := (made_goodno (fun i hi => hrw i (by omega)) (fun i hi => hpc i (by omega)))
  exact ⟨by unfold b_9; rw [hz]; rfl, AA.ext⟩
 skip
 intro c_ hc_; cases hc_
 intro L_ hL_ D203 Cb Cs Af Ax; obtain ⟨rfl, hsm⟩ := hL_; clear W AD
 refine c_2 (c_8 (a_6 (fin_runM Af (.inl rfl) Ax ?_)))
 intro Ct AB; clear Ax
 refine ⟨_, (d_7 Af rfl (.cell1 rfl ty_3 (AB.bk 3 rfl) rfl) (.cell1 rfl ty_4 (AB.bk 2 rfl) rfl)), ?_⟩
 exact ⟨by rw [hsm], AB.ext⟩
theorem makes_up (t : TabD) (vr vb : Value) (w : World) (hr : SlAt w vr 2 t.rows.length (pairs t.rows)) (hb : SlAt w vb 1 t.brk.length (ints t.brk)) (hrl : t.rows.length ≤ 1000000) (hbl : t.brk.length ≤ 1000000) (n : Int) (hV : TabV n t) (x : Int) :
  Calls Try.prog 101 #[(Value.agg #[(iv t.frm), (iv t.dst), vr, vb, (iv t.err)]), (iv x), (Value.agg #[(Value.func (.func 103) #[] #[])])] w (Ret fun v w' => v = .tuple #[.int .i64 (b_9 t x).2, .bool (i_8 t x).isSome] ∧ Ext NoB w w') := by
 refine calls_enterM Try.func101 rfl fun a0 AF => ?_
 replace AF : Fr 62 (marks []) [(0, (Value.agg #[(iv t.frm), (iv t.dst), vr, vb, (iv t.err)])), (1, (iv x)), (2, (Value.agg #[(Value.func (.func 103) #[] #[])]))] a0 := AF
 have Ba : Sep NoB w w [(h_5 []), (sl vr 2 t.rows.length (pairs t.rows)), (sl vb 1 t.brk.length (ints t.brk))] := sep_marks (f_1 ⟨rfl, hr, rfl, hb, trivial⟩)
 refine m2 (s2 AF (f_4 Ba rfl AF.e (cs := [(iv t.frm), (iv t.dst), vr, vb, (iv t.err)]) rfl) ?_)
 rintro a1 _ w3 ⟨M, rfl, Bb⟩ A4; clear AF Ba a0
 refine s2 A4 (f_4 Bb rfl A4.e (cs := [(iv x)]) rfl) ?_
 rintro a6 _ w8 ⟨H, rfl, BC⟩ A9; clear A4 Bb a1
 refine s2 A9 (f_4 BC rfl A9.e (cs := [(Value.func (.func 103) #[] #[])]) rfl) ?_
 rintro B1 _ Cx ⟨A, rfl, BD⟩ A2; clear A9 BC a6
 refine s2 A2 (d_9 BD rfl ze_3 (cs := [(iv 0)]) rfl) ?_
 rintro B2 _ Cy ⟨B, rfl, BE⟩ A3; clear A2 BD B1
 refine s2 A3 (d_9 BE rfl ze_4 (cs := [(Value.bool false)]) rfl) ?_
 rintro B3 _ Cz ⟨C, rfl, AC⟩ AG; clear A3 BE B2
 refine n2 (m2 (s1 AG (a_4 rfl j_3 AG.e) fun B4 AH => ?_)); clear AG B3
 refine s1 AH (a_2 rfl o_4 AH.e (AC.bk 4 rfl) rfl) fun B5 AI => ?_; clear AH B4
 refine s1 AI (d_1 rfl k_4 AI.e (AC.sk 6 rfl)) fun B6 A5 => ?_; clear AI B5
 refine s1 A5 (a_1 rfl (evc _ _)) fun B7 A6 => ?_; clear A5 B6
 refine n1 (c_4 ?_)
 have A7 := A6.as [(15, (iv 0)), (14, (iv (t.rows.length : Int))), (13, vr), (7, (bptr C 0)), (6, (bptr B 0)), (5, (bptr A 0)), (4, (bptr H 0)), (3, (bptr M 0))] rfl; clear A6
 refine h_3 (G := Nat) (fun (k : Nat) a_ w_ => Fr 62 (marks []) [(15, (iv (k : Int))), (14, (iv (t.rows.length : Int))), (13, vr), (7, (bptr C 0)), (6, (bptr B 0)), (5, (bptr A 0)), (4, (bptr H 0)), (3, (bptr M 0))] a_ ∧ Sep NoB w w_ [(blk C 4 [(Value.bool false)]), (blk B 3 [(iv 0)]), (blk A 159 [(Value.func (.func 103) #[] #[])]), (blk H 3 [(iv x)]), (blk M 106 [(iv t.frm), (iv t.dst), vr, vb, (iv t.err)]), (h_5 []), (sl vr 2 t.rows.length (pairs t.rows)), (sl vb 1 t.brk.length (ints t.brk))] ∧ (k ≤ t.rows.length) ∧ (∀ i, i < k → ¬ tx t i = x)) (fun k => t.rows.length - k) 0 ⟨A7.as _ rfl, AC, by omega, (fun _ h => absurd h (Nat.not_lt_zero _))⟩ ?_
 clear A7 AC B7
 rintro k B8 C0 ⟨p, N, hkk, hrw⟩
 refine m2 (s1 p (f_7 rfl p.e p.e) fun BX F => ?_); clear p B8
 refine n2 ?_
 by_cases BQ : (k : Int) < (t.rows.length : Int)
 ·skip
  rw [decide_eq_true BQ] at F
  refine c_0 F rfl (c_6 (a_7 (b_5 (c_4 (m2 (s1 F (b_0 rfl k_4 i_7 F.e (i := k) F.e (N.sk 6 rfl) (by decide) (by omega)) fun B9 AJ => ?_)))))); clear F BX
  refine s1 AJ (e_8 rfl i_7 AJ.e (N.sk 6 rfl) (h_7 (by omega)) rfl (by decide)) fun CA A8 => ?_; clear AJ B9
  refine s2 A8 (d_9 N rfl aa_6 (cs := [(iv 0), (iv 0)]) rfl) ?_
  rintro CB _ C1 ⟨AU, rfl, BF⟩ s; clear A8 N CA
  refine s7 s (b_7 BF rfl i_7 s.e s.e (i := 0) rfl (vs := [(iv ((t.rows.getD k (0, 0)).1)), (iv ((t.rows.getD k (0, 0)).2))]) rfl rfl rfl (Nat.le_of_ble_eq_true rfl)) ?_
  intro _ CS BG AK; clear s
  have O : Sep NoB w CS [(blk AU 107 [(iv ((t.rows.getD k (0, 0)).1)), (iv ((t.rows.getD k (0, 0)).2))]), (blk C 4 [(Value.bool false)]), (blk B 3 [(iv 0)]), (blk A 159 [(Value.func (.func 103) #[] #[])]), (blk H 3 [(iv x)]), (blk M 106 [(iv t.frm), (iv t.dst), vr, vb, (iv t.err)]), (h_5 []), (sl vr 2 t.rows.length (pairs t.rows)), (sl vb 1 t.brk.length (ints t.brk))] := BG; clear BG BF
  refine n4 (s1 AK (a_4 rfl j_4 AK.e) fun CC AL => ?_); clear AK CB
  refine s1 AL (a_2 rfl ty_3 AL.e (O.bk 0 rfl) rfl) fun CD AM => ?_; clear AL CC
  refine s1 AM (a_2 rfl ty_3 AM.e (O.bk 4 rfl) rfl) fun CE u => ?_; clear AM CD
  refine s1 u (q_0 rfl u.e u.e) fun BY K => ?_; clear u CE
  refine n1 ?_
  by_cases BR : ((t.rows.getD k (0, 0)).1) = x
  ·skip
   rw [decide_eq_true BR] at K
   refine c_0 K rfl (b_5 ?_)
   have AN := K.as [(9, (bptr AU 0)), (7, (bptr C 0)), (6, (bptr B 0))] rfl; clear K
   refine a_5 (s1 AN (a_4 rfl l_9 AN.e) fun CF AO => ?_); clear AN BY
   refine s1 AO (a_2 rfl ty_3 AO.e (O.bk 0 rfl) rfl) fun Cu y => ?_; clear AO CF
   refine s7 y (b_7 O rfl ty_3 y.e y.e (i := 2) rfl (vs := [(iv ((t.rows.getD k (0, 0)).2))]) rfl rfl rfl (Nat.le_of_ble_eq_true rfl)) ?_
   intro _ CT BH AP; clear y
   have BI : Sep NoB w CT [(blk AU 107 [(iv ((t.rows.getD k (0, 0)).1)), (iv ((t.rows.getD k (0, 0)).2))]), (blk C 4 [(Value.bool false)]), (blk B 3 [(iv ((t.rows.getD k (0, 0)).2))]), (blk A 159 [(Value.func (.func 103) #[] #[])]), (blk H 3 [(iv x)]), (blk M 106 [(iv t.frm), (iv t.dst), vr, vb, (iv t.err)]), (h_5 []), (sl vr 2 t.rows.length (pairs t.rows)), (sl vb 1 t.brk.length (ints t.brk))] := BH; clear BH O
   refine s7 AP (b_7 BI rfl ty_4 AP.e (evc _ _) (i := 1) rfl (vs := [(Value.bool true)]) rfl rfl rfl (Nat.le_of_ble_eq_true rfl)) ?_
   intro _ CU BJ BA; clear AP
   have BK : Sep NoB w CU [(blk AU 107 [(iv ((t.rows.getD k (0, 0)).1)), (iv ((t.rows.getD k (0, 0)).2))]), (blk C 4 [(Value.bool true)]), (blk B 3 [(iv ((t.rows.getD k (0, 0)).2))]), (blk A 159 [(Value.func (.func 103) #[] #[])]), (blk H 3 [(iv x)]), (blk M 106 [(iv t.frm), (iv t.dst), vr, vb, (iv t.err)]), (h_5 []), (sl vr 2 t.rows.length (pairs t.rows)), (sl vb 1 t.brk.length (ints t.brk))] := BJ; clear BJ BI
   refine n1 (c_2 (c_8 (a_6 (a_6 (c_8 (a_6 ?_))))))
   have BL := BK.gkp (gpc 6 (gpc 0 (gpc 1 (gpc 2 (gpc 3 (gpc 4 (gpc 5 (gpc 7 (gpc 8 gpn))))))))); clear BK
   refine fin_runM BA (.inl rfl) BL ?_
   intro C2 AT; clear BL
   refine ⟨_, (d_7 BA rfl (.cell1 rfl ty_3 (AT.bk 2 rfl) rfl) (.cell1 rfl ty_4 (AT.bk 1 rfl) rfl)), ?_⟩
   have hz := (made_row (k := k) (by omega) (fun i hi => hrw i (by omega)) (by assumption))
   exact ⟨by unfold b_9; rw [hz]; rfl, AT.ext⟩
  skip
  rw [decide_eq_false BR] at K
  refine b_4 K rfl (c_6 (g_3 (a_7 ?_)))
  have AQ := K.as [(15, (iv (k : Int))), (14, (iv (t.rows.length : Int))), (13, vr), (7, (bptr C 0)), (6, (bptr B 0)), (5, (bptr A 0)), (4, (bptr H 0)), (3, (bptr M 0))] rfl; clear K
  refine a_5 (s1 AQ (e_3 rfl AQ.e (evc _ _) (by omega) (by omega)) fun CG AR => ?_); clear AQ BY
  refine s1 AR (a_1 rfl AR.e) fun Cv Bs => ?_; clear AR CG
  refine e_6 ?_
  have Bt := O.gkp (gpc 1 (gpc 2 (gpc 3 (gpc 4 (gpc 5 (gpc 6 (gpc 7 (gpc 8 gpn)))))))); clear O
  exact a_7 ⟨k + 1, ⟨Bs.as _ rfl, Bt, by omega, (fun i hi => by rcases Nat.lt_succ_iff_lt_or_eq.1 hi with h | h; exact hrw i h; subst h; assumption)⟩, by omega⟩
 skip
 rw [decide_eq_false BQ] at F
 refine b_4 F rfl (g_6 (b_2 (b_2 (f_2 (a_7 (b_5 (m2 (s1 F (c_9 rfl k_9 (F.ev rfl) (N.bk 4 rfl) (l := [(iv t.frm), (iv t.dst), vr, vb, (iv t.err)]) rfl rfl) fun CH AS => ?_)))))))); clear F BX
 refine s2 AS (b_3 rfl en_116 (ev1 AS.e) (pieces_ok t vr vb _ hr.one hb.one)) ?_
 rintro Cw _ C3 ⟨bl93, rfl, BP⟩ BB; have BM := N.w_4 BP rfl; clear BP AS N CH
 refine n1 (c_4 ?_)
 have W := BB.as [(27, (Value.func (.func 121) #[] #[(bptr bl93 0)])), (7, (bptr C 0)), (6, (bptr B 0)), (5, (bptr A 0)), (4, (bptr H 0))] rfl; clear BB
 have BN := BM.nilR; clear BM
 have AD := BN.gkp (gpc 7 (gpc 0 (gpc 1 (gpc 2 (gpc 3 (gpc 4 (gpc 5 (gpc 6 (gpc 8 (gpc 9 gpn)))))))))); clear BN
 refine c_rangeG W nilR rfl AD W.e en_121 ((d_6 t).length) (fun q => #[.agg #[.int .i64 (t.rows.getD ((d_6 t).getD q 0) (0, 0)).1, .int .i64 (t.rows.getD ((d_6 t).getD q 0) (0, 0)).2], .agg #[.int .i64 (t.rows.getD ((d_6 t).getD q 0 + 1) (0, 0)).1, .int .i64 (t.rows.getD ((d_6 t).getD q 0 + 1) (0, 0)).2]]) (fun _ => rfl) [rob bl93 106 [.int .i64 t.frm, .int .i64 t.dst, vr, vb, .int .i64 t.err], sl vr 2 t.rows.length (pairs t.rows), sl vb 1 t.brk.length (ints t.brk)] (fun r hr => by simp only [List.mem_cons, List.not_mem_nil, or_false] at hr; rcases hr with rfl | rfl | rfl <;> rfl) (pieces_it bl93 t vr vb hV.len hrl hbl) (fun q L_ => L_ = [(blk bl93 106 [(iv t.frm), (iv t.dst), vr, vb, (iv t.err)]), (blk C 4 [(Value.bool false)]), (blk B 3 [(iv 0)]), (blk A 159 [(Value.func (.func 103) #[] #[])]), (blk H 3 [(iv x)]), (blk M 106 [(iv t.frm), (iv t.dst), vr, vb, (iv t.err)]), (sl vr 2 t.rows.length (pairs t.rows)), (sl vb 1 t.brk.length (ints t.brk))] ∧ (∀ j, j < q → m_0 t x ((d_6 t).getD j 0) = false)) (fun L_ => L_ = [(blk bl93 106 [(iv t.frm), (iv t.dst), vr, vb, (iv t.err)]), (blk C 4 [(Value.bool true)]), (blk B 3 [(iv ((b_9 t x).2))]), (blk A 159 [(Value.func (.func 103) #[] #[])]), (blk H 3 [(iv x)]), (blk M 106 [(iv t.frm), (iv t.dst), vr, vb, (iv t.err)]), (sl vr 2 t.rows.length (pairs t.rows)), (sl vb 1 t.brk.length (ints t.brk))] ∧ ((i_8 t x).isSome = true)) (some .ret) ⟨rfl, (fun _ h => absurd h (Nat.not_lt_zero _))⟩ (fun q L_ hI_ G_ W_ r1_ r2_ hW_ => by obtain ⟨rfl, hpc⟩ := hI_; exact (Sep.keep (hW_.to_ro (i := 3) rfl) [2, 3, 9, 10] (by decide) _ rfl rfl)) (fun L_ hI_ G_ W_ r1_ r2_ hW_ => by obtain ⟨rfl, hsm⟩ := hI_; exact (Sep.keep (hW_.to_ro (i := 3) rfl) [2, 3, 9, 10] (by decide) _ rfl rfl)) ?_ ?_ ?_
 ·skip
  intro q hq L_ hL_ G105 CW AE D103 rc104 BZ C4 Ay BO; obtain ⟨rfl, hpc⟩ := hL_
  have AV : Fr 62 [] [(29, (Value.agg #[(iv ((t.rows.getD (((d_6 t).getD q 0) + 1) (0, 0)).1)), (iv ((t.rows.getD (((d_6 t).getD q 0) + 1) (0, 0)).2))])), (28, (Value.agg #[(iv ((t.rows.getD (((d_6 t).getD q 0)) (0, 0)).1)), (iv ((t.rows.getD (((d_6 t).getD q 0)) (0, 0)).2))])), (27, (Value.func (.func 121) #[] #[(bptr bl93 0)])), (7, (bptr C 0)), (6, (bptr B 0)), (5, (bptr A 0)), (4, (bptr H 0))] BZ := by rw [Ay]; exact Fr.round2 W (by decide) (by decide)
  clear Ay AD
  have hgq : ((d_6 t).getD q 0) < t.rows.length - 1 := (good_mem hq).1; have hbn := hV.bnd _ (show ((d_6 t).getD q 0) < t.rows.length by omega); have hbn1 := hV.bnd (((d_6 t).getD q 0) + 1) (by omega); unfold tx ty at hbn hbn1
  refine m2 (s2 AV (d_9 BO rfl aa_6 (cs := [(iv 0), (iv 0)]) rfl) ?_)
  rintro Bc _ Cm ⟨E, rfl, Ag⟩ P; clear AV BO BZ
  refine s7 P (b_7 Ag rfl i_7 P.e P.e (i := 0) rfl (vs := [(iv ((t.rows.getD (((d_6 t).getD q 0)) (0, 0)).1)), (iv ((t.rows.getD (((d_6 t).getD q 0)) (0, 0)).2))]) rfl rfl rfl (Nat.le_of_ble_eq_true rfl)) ?_
  intro _ Bu Ah AW; clear P
  have Ai : Sep NoB w Bu [(blk E 107 [(iv ((t.rows.getD (((d_6 t).getD q 0)) (0, 0)).1)), (iv ((t.rows.getD (((d_6 t).getD q 0)) (0, 0)).2))]), (obR AE (.loop (rc104 .ready none))), (h_5 (D103 :: [])), G105, (blk bl93 106 [(iv t.frm), (iv t.dst), vr, vb, (iv t.err)]), (blk C 4 [(Value.bool false)]), (blk B 3 [(iv 0)]), (blk A 159 [(Value.func (.func 103) #[] #[])]), (blk H 3 [(iv x)]), (blk M 106 [(iv t.frm), (iv t.dst), vr, vb, (iv t.err)]), (sl vr 2 t.rows.length (pairs t.rows)), (sl vb 1 t.brk.length (ints t.brk))] := Ah; clear Ah Ag
  refine n3 (s2 AW (d_9 Ai rfl aa_6 (cs := [(iv 0), (iv 0)]) rfl) ?_)
  rintro Bd _ Cn ⟨J, rfl, Aj⟩ Q; clear AW Ai Bc
  refine s7 Q (b_7 Aj rfl i_7 Q.e Q.e (i := 0) rfl (vs := [(iv ((t.rows.getD (((d_6 t).getD q 0) + 1) (0, 0)).1)), (iv ((t.rows.getD (((d_6 t).getD q 0) + 1) (0, 0)).2))]) rfl rfl rfl (Nat.le_of_ble_eq_true rfl)) ?_
  intro _ Bv Ak X; clear Q
  have Al : Sep NoB w Bv [(blk J 107 [(iv ((t.rows.getD (((d_6 t).getD q 0) + 1) (0, 0)).1)), (iv ((t.rows.getD (((d_6 t).getD q 0) + 1) (0, 0)).2))]), (blk E 107 [(iv ((t.rows.getD (((d_6 t).getD q 0)) (0, 0)).1)), (iv ((t.rows.getD (((d_6 t).getD q 0)) (0, 0)).2))]), (obR AE (.loop (rc104 .ready none))), (h_5 (D103 :: [])), G105, (blk bl93 106 [(iv t.frm), (iv t.dst), vr, vb, (iv t.err)]), (blk C 4 [(Value.bool false)]), (blk B 3 [(iv 0)]), (blk A 159 [(Value.func (.func 103) #[] #[])]), (blk H 3 [(iv x)]), (blk M 106 [(iv t.frm), (iv t.dst), vr, vb, (iv t.err)]), (sl vr 2 t.rows.length (pairs t.rows)), (sl vb 1 t.brk.length (ints t.brk))] := Ak; clear Ak Aj
  refine e_6 ?_
  have Am := Al.gkp (gpc 2 (gpc 3 (gpc 4 (gpc 0 (gpc 1 (gpc 5 (gpc 6 (gpc 7 (gpc 8 (gpc 9 (gpc 10 (gpc 11 (gpc 12 gpn))))))))))))); clear Al
  refine ⟨rfl, _, Am, ?_⟩; intro Co D; clear Am
  refine c_4 (m2 (s1 X (a_4 rfl j_4 X.e) fun Be Y => ?_)); clear X Bd
  refine s1 Y (a_2 rfl ty_3 Y.e (D.bk 4 rfl) rfl) fun Bf Z => ?_; clear Y Be
  refine s1 Z (a_2 rfl ty_3 Z.e (D.bk 9 rfl) rfl) fun Bg R => ?_; clear Z Bf
  refine s1 R (f_7 rfl R.e R.e) fun Bh b => ?_; clear R Bg
  refine s1 b (a_1 rfl b.e) fun A1 I => ?_; clear b Bh
  by_cases Az : ((t.rows.getD (((d_6 t).getD q 0)) (0, 0)).1) < x
  ·skip
   rw [decide_eq_true Az] at I
   refine s5 I (a_2 rfl ty_3 I.e (D.bk 9 rfl) rfl) fun Bi c => ?_; clear I A1
   refine s5 c (a_4 rfl j_4 c.e) fun Bj d => ?_; clear c Bi
   refine s5 d (a_2 rfl ty_3 d.e (D.bk 3 rfl) rfl) fun Bk S => ?_; clear d Bj
   refine s5 S (f_7 rfl S.e S.e) fun Bl T => ?_; clear S Bk
   refine s1 T (b_6 rfl T.e T.e) fun CY L => ?_; clear T Bl
   refine n1 ?_
   by_cases A0 : x < ((t.rows.getD (((d_6 t).getD q 0) + 1) (0, 0)).1)
   ·skip
    rw [decide_eq_true A0] at L
    have hpb := piece_bds (v := x) (k := ((d_6 t).getD q 0)) hV (by omega) (by unfold tx; omega) (by unfold tx; omega); unfold pieceN pieceD tx ty at hpb; have hdb := downF_bd hpb.1 hpb.2; have hub := upF_bd hpb.1 hpb.2
    refine c_0 L rfl (b_5 ?_)
    have AX := L.as [(11, (bptr J 0)), (10, (bptr E 0)), (7, (bptr C 0)), (6, (bptr B 0)), (5, (bptr A 0)), (4, (bptr H 0))] rfl; clear L
    have AY := AX.as [(11, (bptr J 0)), (10, (bptr E 0)), (7, (bptr C 0)), (6, (bptr B 0)), (5, (bptr A 0)), (4, (bptr H 0))] rfl; clear AX
    refine g_0 mixed AY D 21 [[], [0], [], [2], [], [], [5], [4, 6], [], [8], [], [10], [9, 11], [7, 12], [], [14], [], [16], [15, 17], [13, 18], [3, 19]] [(Yd.val (bptr E 1)), (Yd.val (iv ((t.rows.getD (((d_6 t).getD q 0)) (0, 0)).2))), (Yd.val (bptr A 0)), (Yd.val (Value.func (.func 103) #[] #[])), (Yd.val (iv x)), (Yd.val (bptr E 0)), (Yd.val (iv ((t.rows.getD (((d_6 t).getD q 0)) (0, 0)).1))), (Yd.val (iv (x - ((t.rows.getD (((d_6 t).getD q 0)) (0, 0)).1)))), (Yd.val (bptr J 1)), (Yd.val (iv ((t.rows.getD (((d_6 t).getD q 0) + 1) (0, 0)).2))), (Yd.val (bptr E 1)), (Yd.val (iv ((t.rows.getD (((d_6 t).getD q 0)) (0, 0)).2))), (Yd.val (iv (((t.rows.getD (((d_6 t).getD q 0) + 1) (0, 0)).2) - ((t.rows.getD (((d_6 t).getD q 0)) (0, 0)).2)))), (Yd.val (iv ((x - ((t.rows.getD (((d_6 t).getD q 0)) (0, 0)).1)) * (((t.rows.getD (((d_6 t).getD q 0) + 1) (0, 0)).2) - ((t.rows.getD (((d_6 t).getD q 0)) (0, 0)).2))))), (Yd.val (bptr J 0)), (Yd.val (iv ((t.rows.getD (((d_6 t).getD q 0) + 1) (0, 0)).1))), (Yd.val (bptr E 0)), (Yd.val (iv ((t.rows.getD (((d_6 t).getD q 0)) (0, 0)).1))), (Yd.val (iv (((t.rows.getD (((d_6 t).getD q 0) + 1) (0, 0)).1) - ((t.rows.getD (((d_6 t).getD q 0)) (0, 0)).1)))), (Yd.val (Value.agg #[(iv ((x - ((t.rows.getD (((d_6 t).getD q 0)) (0, 0)).1)) * (((t.rows.getD (((d_6 t).getD q 0) + 1) (0, 0)).2) - ((t.rows.getD (((d_6 t).getD q 0)) (0, 0)).2)))), (iv (((t.rows.getD (((d_6 t).getD q 0) + 1) (0, 0)).1) - ((t.rows.getD (((d_6 t).getD q 0)) (0, 0)).1)))])), (Yd.val (iv (upF ((x - ((t.rows.getD (((d_6 t).getD q 0)) (0, 0)).1)) * (((t.rows.getD (((d_6 t).getD q 0) + 1) (0, 0)).2) - ((t.rows.getD (((d_6 t).getD q 0)) (0, 0)).2))) (((t.rows.getD (((d_6 t).getD q 0) + 1) (0, 0)).1) - ((t.rows.getD (((d_6 t).getD q 0)) (0, 0)).1)))))] (by decide +kernel) rfl rfl ?_ ?_
    ·skip
     refine ⟨fun a w hA hS hd => ?_, ?_⟩
     ·skip
      exact d_5 rfl (dv (a_4 rfl l_9 hA.e) hS rfl)
     refine ⟨fun a w hA hS hd => ?_, ?_⟩
     ·skip
      have e0 := e_4 (hd 0 (by decide)) rfl (fun _ h => h)
      exact d_5 rfl (dv (a_2 rfl ty_3 (c_3 e0) (hS.bk 4 rfl) rfl) hS rfl)
     refine ⟨fun a w hA hS hd => ?_, ?_⟩
     ·skip
      exact d_5 rfl (dv (a_4 rfl fd_159_0 hA.e) hS rfl)
     refine ⟨fun a w hA hS hd => ?_, ?_⟩
     ·skip
      have e2 := e_4 (hd 2 (by decide)) rfl (fun _ h => h)
      exact d_5 rfl (dv (a_2 rfl ty_154 (c_3 e2) (hS.bk 8 rfl) rfl) hS rfl)
     refine ⟨fun a w hA hS hd => ?_, ?_⟩
     ·skip
      exact d_5 rfl (dv (a_2 rfl ty_3 hA.e (hS.bk 9 rfl) rfl) hS rfl)
     refine ⟨fun a w hA hS hd => ?_, ?_⟩
     ·skip
      exact d_5 rfl (dv (a_4 rfl j_4 hA.e) hS rfl)
     refine ⟨fun a w hA hS hd => ?_, ?_⟩
     ·skip
      have e5 := e_4 (hd 5 (by decide)) rfl (fun _ h => h)
      exact d_5 rfl (dv (a_2 rfl ty_3 (c_3 e5) (hS.bk 4 rfl) rfl) hS rfl)
     refine ⟨fun a w hA hS hd => ?_, ?_⟩
     ·skip
      have e4 := e_4 (hd 4 (by decide)) rfl (fun _ h => h)
      have e6 := e_4 (hd 6 (by decide)) rfl (fun _ h => h)
      exact d_5 rfl (dv (h_2 rfl (c_3 e4) (c_3 e6) (by omega) (by omega)) hS rfl)
     refine ⟨fun a w hA hS hd => ?_, ?_⟩
     ·skip
      exact d_5 rfl (dv (a_4 rfl l_9 hA.e) hS rfl)
     refine ⟨fun a w hA hS hd => ?_, ?_⟩
     ·skip
      have e8 := e_4 (hd 8 (by decide)) rfl (fun _ h => h)
      exact d_5 rfl (dv (a_2 rfl ty_3 (c_3 e8) (hS.bk 3 rfl) rfl) hS rfl)
     refine ⟨fun a w hA hS hd => ?_, ?_⟩
     ·skip
      exact d_5 rfl (dv (a_4 rfl l_9 hA.e) hS rfl)
     refine ⟨fun a w hA hS hd => ?_, ?_⟩
     ·skip
      have CI := e_4 (hd 10 (by decide)) rfl (fun _ h => h)
      exact d_5 rfl (dv (a_2 rfl ty_3 (c_3 CI) (hS.bk 4 rfl) rfl) hS rfl)
     refine ⟨fun a w hA hS hd => ?_, ?_⟩
     ·skip
      have e9 := e_4 (hd 9 (by decide)) rfl (fun _ h => h)
      have CJ := e_4 (hd 11 (by decide)) rfl (fun _ h => h)
      exact d_5 rfl (dv (h_2 rfl (c_3 e9) (c_3 CJ) (by omega) (by omega)) hS rfl)
     refine ⟨fun a w hA hS hd => ?_, ?_⟩
     ·skip
      have e7 := e_4 (hd 7 (by decide)) rfl (fun _ h => h)
      have CK := e_4 (hd 12 (by decide)) rfl (fun _ h => h)
      exact d_5 rfl (dv (op_mul rfl (c_3 e7) (c_3 CK) (by omega) (by omega)) hS rfl)
     refine ⟨fun a w hA hS hd => ?_, ?_⟩
     ·skip
      exact d_5 rfl (dv (a_4 rfl j_4 hA.e) hS rfl)
     refine ⟨fun a w hA hS hd => ?_, ?_⟩
     ·skip
      have CM := e_4 (hd 14 (by decide)) rfl (fun _ h => h)
      exact d_5 rfl (dv (a_2 rfl ty_3 (c_3 CM) (hS.bk 3 rfl) rfl) hS rfl)
     refine ⟨fun a w hA hS hd => ?_, ?_⟩
     ·skip
      exact d_5 rfl (dv (a_4 rfl j_4 hA.e) hS rfl)
     refine ⟨fun a w hA hS hd => ?_, ?_⟩
     ·skip
      have CO := e_4 (hd 16 (by decide)) rfl (fun _ h => h)
      exact d_5 rfl (dv (a_2 rfl ty_3 (c_3 CO) (hS.bk 4 rfl) rfl) hS rfl)
     refine ⟨fun a w hA hS hd => ?_, ?_⟩
     ·skip
      have CN := e_4 (hd 15 (by decide)) rfl (fun _ h => h)
      have CP := e_4 (hd 17 (by decide)) rfl (fun _ h => h)
      exact d_5 rfl (dv (h_2 rfl (c_3 CN) (c_3 CP) (by omega) (by omega)) hS rfl)
     refine ⟨fun a w hA hS hd => ?_, ?_⟩
     ·skip
      have CL := e_4 (hd 13 (by decide)) rfl (fun _ h => h)
      have CQ := e_4 (hd 18 (by decide)) rfl (fun _ h => h)
      exact d_5 rfl (dv (e_7 rfl (pv2 (c_3 CL) (c_3 CQ)) (bd_157_0i_1i _ _)) hS rfl)
     refine ⟨fun a w hA hS hd => ?_, ?_⟩
     ·skip
      have e3 := e_4 (hd 3 (by decide)) rfl (fun _ h => h)
      have CR := e_4 (hd 19 (by decide)) rfl (fun _ h => h)
      exact d_5 rfl (dx (i_5 rfl (c_3 e3) en_103 (ev1 (c_3 CR)) (up_ok _ _ _ (by omega) (by omega))) hS (fun _ => rfl))
     trivial
    intro Bm Cp AZ An z; clear AY D
    have Aa := AZ.add (hz z 1); clear AZ
    have U := Aa.add (hz z 20); clear Aa
    clear z
    refine s1 U (e_3 rfl U.e U.e (by omega) (by omega)) fun Bn BS => ?_; clear U Bm
    have hvl : ((t.rows.getD (((d_6 t).getD q 0)) (0, 0)).2) + (upF ((x - ((t.rows.getD (((d_6 t).getD q 0)) (0, 0)).1)) * (((t.rows.getD (((d_6 t).getD q 0) + 1) (0, 0)).2) - ((t.rows.getD (((d_6 t).getD q 0)) (0, 0)).2))) (((t.rows.getD (((d_6 t).getD q 0) + 1) (0, 0)).1) - ((t.rows.getD (((d_6 t).getD q 0)) (0, 0)).1))) = (b_9 t x).2 := by unfold b_9; rw [made_good (fun i hi => hrw i (by omega)) hq hpc (good_piece hq (by assumption) (by assumption))]; rfl
    have V : Fr 62 [] [(61, (iv ((b_9 t x).2))), (60, (iv (upF ((x - ((t.rows.getD (((d_6 t).getD q 0)) (0, 0)).1)) * (((t.rows.getD (((d_6 t).getD q 0) + 1) (0, 0)).2) - ((t.rows.getD (((d_6 t).getD q 0)) (0, 0)).2))) (((t.rows.getD (((d_6 t).getD q 0) + 1) (0, 0)).1) - ((t.rows.getD (((d_6 t).getD q 0)) (0, 0)).1))))), (41, (iv ((t.rows.getD (((d_6 t).getD q 0)) (0, 0)).2))), (11, (bptr J 0)), (10, (bptr E 0)), (7, (bptr C 0)), (6, (bptr B 0)), (5, (bptr A 0)), (4, (bptr H 0))] Bn := by rw [← hvl]; exact BS
    refine s7 V (b_7 An rfl ty_3 V.e V.e (i := 7) rfl (vs := [(iv ((b_9 t x).2))]) rfl rfl rfl (Nat.le_of_ble_eq_true rfl)) ?_
    intro _ Bw Ao f; clear V
    have Ap : Sep NoB w Bw [(obR AE (.loop (rc104 .busy none))), (h_5 (D103 :: [])), G105, (blk J 107 [(iv ((t.rows.getD (((d_6 t).getD q 0) + 1) (0, 0)).1)), (iv ((t.rows.getD (((d_6 t).getD q 0) + 1) (0, 0)).2))]), (blk E 107 [(iv ((t.rows.getD (((d_6 t).getD q 0)) (0, 0)).1)), (iv ((t.rows.getD (((d_6 t).getD q 0)) (0, 0)).2))]), (blk bl93 106 [(iv t.frm), (iv t.dst), vr, vb, (iv t.err)]), (blk C 4 [(Value.bool false)]), (blk B 3 [(iv ((b_9 t x).2))]), (blk A 159 [(Value.func (.func 103) #[] #[])]), (blk H 3 [(iv x)]), (blk M 106 [(iv t.frm), (iv t.dst), vr, vb, (iv t.err)]), (sl vr 2 t.rows.length (pairs t.rows)), (sl vb 1 t.brk.length (ints t.brk))] := Ao; clear Ao An
    refine s7 f (b_7 Ap rfl ty_4 f.e (evc _ _) (i := 6) rfl (vs := [(Value.bool true)]) rfl rfl rfl (Nat.le_of_ble_eq_true rfl)) ?_
    intro _ Bx Aq CV; clear f
    have Ar : Sep NoB w Bx [(obR AE (.loop (rc104 .busy none))), (h_5 (D103 :: [])), G105, (blk J 107 [(iv ((t.rows.getD (((d_6 t).getD q 0) + 1) (0, 0)).1)), (iv ((t.rows.getD (((d_6 t).getD q 0) + 1) (0, 0)).2))]), (blk E 107 [(iv ((t.rows.getD (((d_6 t).getD q 0)) (0, 0)).1)), (iv ((t.rows.getD (((d_6 t).getD q 0)) (0, 0)).2))]), (blk bl93 106 [(iv t.frm), (iv t.dst), vr, vb, (iv t.err)]), (blk C 4 [(Value.bool true)]), (blk B 3 [(iv ((b_9 t x).2))]), (blk A 159 [(Value.func (.func 103) #[] #[])]), (blk H 3 [(iv x)]), (blk M 106 [(iv t.frm), (iv t.dst), vr, vb, (iv t.err)]), (sl vr 2 t.rows.length (pairs t.rows)), (sl vb 1 t.brk.length (ints t.brk))] := Aq; clear Aq Ap
    refine n1 (c_2 (c_8 ?_))
    have BU := Ar.gkp (gpc 0 (gpc 1 (gpc 2 (gpc 5 (gpc 6 (gpc 7 (gpc 8 (gpc 9 (gpc 10 (gpc 11 (gpc 12 gpn))))))))))); clear Ar
    exact re_ret rfl ⟨_, rfl, ⟨rfl, (by rw [made_good (fun i hi => hrw i (by omega)) hq hpc (good_piece hq (by assumption) (by assumption))]; rfl)⟩⟩ BU
   skip
   rw [decide_eq_false A0] at L
   refine b_4 L rfl (c_6 (g_3 ?_))
   have BV := D.gkp (gpc 0 (gpc 1 (gpc 2 (gpc 5 (gpc 6 (gpc 7 (gpc 8 (gpc 9 (gpc 10 (gpc 11 (gpc 12 gpn))))))))))); clear D
   exact re_n ⟨_, rfl, ⟨rfl, (fun j hj => by rcases Nat.lt_succ_iff_lt_or_eq.1 hj with h | h; exact hpc j h; subst h; first | exact m_1 (.inl (by assumption)) | exact m_1 (.inr (.inl (by assumption))))⟩⟩ BV
  skip
  rw [decide_eq_false Az] at I
  refine s3 I fun Bo Ab => ?_; clear I A1
  refine s3 Ab fun Bp Ac => ?_; clear Ab Bo
  refine s3 Ac fun Bq Ad => ?_; clear Ac Bp
  refine s3 Ad fun Br g => ?_; clear Ad Bq
  refine s1 g (c_7 rfl g.e (evc _ _)) fun CZ BT => ?_; clear g Br
  refine n1 (b_4 BT rfl (c_6 (g_3 ?_)))
  have BW := D.gkp (gpc 0 (gpc 1 (gpc 2 (gpc 5 (gpc 6 (gpc 7 (gpc 8 (gpc 9 (gpc 10 (gpc 11 (gpc 12 gpn))))))))))); clear D
  exact re_n ⟨_, rfl, ⟨rfl, (fun j hj => by rcases Nat.lt_succ_iff_lt_or_eq.1 hj with h | h; exact hpc j h; subst h; first | exact m_1 (.inl (by assumption)) | exact m_1 (.inr (.inl (by assumption))))⟩⟩ BW
 ·skip
  intro L_ hL_ D188 Ca Cq m As; obtain ⟨rfl, hpc⟩ := hL_; clear W AD
  refine g_3 (a_7 (m2 (s7 m (b_7 As rfl ty_3 m.e (evc _ _) (i := 4) rfl (vs := [(iv 0)]) rfl rfl rfl (Nat.le_of_ble_eq_true rfl)) ?_)))
  intro _ By At o; clear m
  have Au : Sep NoB w By [(h_5 (D188 :: [])), nilR, (blk bl93 106 [(iv t.frm), (iv t.dst), vr, vb, (iv t.err)]), (blk C 4 [(Value.bool false)]), (blk B 3 [(iv 0)]), (blk A 159 [(Value.func (.func 103) #[] #[])]), (blk H 3 [(iv x)]), (blk M 106 [(iv t.frm), (iv t.dst), vr, vb, (iv t.err)]), (sl vr 2 t.rows.length (pairs t.rows)), (sl vb 1 t.brk.length (ints t.brk))] := At; clear At As
  refine s7 o (b_7 Au rfl ty_4 o.e (evc _ _) (i := 3) rfl (vs := [(Value.bool false)]) rfl rfl rfl (Nat.le_of_ble_eq_true rfl)) ?_
  intro _ Bz Av Ae; clear o
  have Aw : Sep NoB w Bz [(h_5 (D188 :: [])), nilR, (blk bl93 106 [(iv t.frm), (iv t.dst), vr, vb, (iv t.err)]), (blk C 4 [(Value.bool false)]), (blk B 3 [(iv 0)]), (blk A 159 [(Value.func (.func 103) #[] #[])]), (blk H 3 [(iv x)]), (blk M 106 [(iv t.frm), (iv t.dst), vr, vb, (iv t.err)]), (sl vr 2 t.rows.length (pairs t.rows)), (sl vb 1 t.brk.length (ints t.brk))] := Av; clear Av Au
  refine n1 (c_2 (fin_runM Ae (.inl rfl) Aw ?_))
  intro Cr AA; clear Aw
  refine ⟨_, (d_7 Ae rfl (.cell1 rfl ty_3 (AA.bk 3 rfl) rfl) (.cell1 rfl ty_4 (AA.bk 2 rfl) rfl)), ?_⟩
  have hz := (made_goodno (fun i hi => hrw i (by omega)) (fun i hi => hpc i (by omega)))
  exact ⟨by unfold b_9; rw [hz]; rfl, AA.ext⟩
 skip
 intro c_ hc_; cases hc_
 intro L_ hL_ D203 Cb Cs Af Ax; obtain ⟨rfl, hsm⟩ := hL_; clear W AD
 refine c_2 (c_8 (a_6 (fin_runM Af (.inl rfl) Ax ?_)))
 intro Ct AB; clear Ax
 refine ⟨_, (d_7 Af rfl (.cell1 rfl ty_3 (AB.bk 3 rfl) rfl) (.cell1 rfl ty_4 (AB.bk 2 rfl) rfl)), ?_⟩
 exact ⟨by rw [hsm], AB.ext⟩
theorem around_ok (t : TabD) (vr vb : Value) (w : World) (hr : SlAt w vr 2 t.rows.length (pairs t.rows)) (hb : SlAt w vb 1 t.brk.length (ints t.brk)) (hrl : t.rows.length ≤ 1000000) (hbl : t.brk.length ≤ 1000000) (n : Int) (hV : TabV n t) (x : Int) :
  Calls Try.prog 72 #[(Value.agg #[(iv t.frm), (iv t.dst), vr, vb, (iv t.err)]), (iv x)] w (Ret fun v w' => v = .tuple #[.agg #[.int .i64 (b_9 t x).1, .int .i64 (b_9 t x).2], .bool (i_8 t x).isSome] ∧ Ext NoB w w') := by
 refine a_9 Try.func72 rfl fun s G => ?_
 replace G : Fr 28 [] [(0, (Value.agg #[(iv t.frm), (iv t.dst), vr, vb, (iv t.err)])), (1, (iv x))] s := G
 have p : Sep NoB w w [(sl vr 2 t.rows.length (pairs t.rows)), (sl vb 1 t.brk.length (ints t.brk))] := f_1 ⟨rfl, hr, rfl, hb, trivial⟩
 refine m2 (s2 G (f_4 p rfl G.e (cs := [(iv t.frm), (iv t.dst), vr, vb, (iv t.err)]) rfl) ?_)
 rintro a1 _ w3 ⟨b4, rfl, q⟩ m; clear G p s
 refine s2 m (d_9 q rfl ab_1 (cs := [(iv 0), (iv 0)]) rfl) ?_
 rintro a6 _ w8 ⟨r, rfl, C⟩ o; clear m q a1
 refine s1 o (a_0 rfl (evc _ _)) fun u H => ?_; clear o a6
 refine n4 (s1 H (c_9 rfl k_9 (H.ev rfl) (C.bk 1 rfl) (l := [(iv t.frm), (iv t.dst), vr, vb, (iv t.err)]) rfl rfl) fun y I => ?_); clear H u
 refine s1 I (a_1 rfl I.e) fun z Z => ?_; clear I y
 refine s1 Z (e_7 rfl (pv1 (evf _ _)) (bd_159_0f _ _ _)) fun AA A => ?_; clear Z z
 refine s2 A (b_3 rfl en_101 (ev3 A.e A.e A.e) (makes_dn t _ _ _ (C.sk 2 rfl) (C.sk 3 rfl) (by omega) (by omega) _ hV x)) ?_
 rintro AB _ AZ ⟨rfl, f⟩ J; have D := C.step f; clear f A C AA
 refine s1 J (a_1 rfl J.e) fun AC K => ?_; clear J AB
 refine s1 K (e_0 rfl K.e rfl) fun AD L => ?_; clear K AC
 refine s1 L (e_0 rfl L.e rfl) fun AE M => ?_; clear L AD
 refine s1 M (a_0 rfl M.e) fun AF N => ?_; clear M AE
 refine s1 N (a_0 rfl N.e) fun AG a => ?_; clear N AF
 refine n2 ?_
 have O := a.as [(7, (Value.bool ((i_8 t x).isSome))), (6, (iv ((b_9 t x).1))), (4, (bptr r 0)), (2, (bptr b4 0)), (1, (iv x))] rfl; clear a
 refine a_5 (s1 O (c_9 rfl k_9 (O.ev rfl) (D.bk 1 rfl) (l := [(iv t.frm), (iv t.dst), vr, vb, (iv t.err)]) rfl rfl) fun AH P => ?_); clear O AG
 refine s1 P (a_1 rfl P.e) fun AI b => ?_; clear P AH
 refine s1 b (e_7 rfl (pv1 (evf _ _)) (bd_159_0f _ _ _)) fun AJ B => ?_; clear b AI
 refine s2 B (b_3 rfl en_101 (ev3 B.e B.e B.e) (makes_up t _ _ _ (D.sk 2 rfl) (D.sk 3 rfl) (by omega) (by omega) _ hV x)) ?_
 rintro AK _ Aa ⟨rfl, g⟩ Q; have h := D.step g; clear g B D AJ
 refine s1 Q (a_1 rfl Q.e) fun AL R => ?_; clear Q AK
 refine s1 R (e_0 rfl R.e rfl) fun AM S => ?_; clear R AL
 refine s1 S (e_0 rfl S.e rfl) fun AN T => ?_; clear S AM
 refine s1 T (a_0 rfl T.e) fun AO U => ?_; clear T AN
 refine s1 U (a_0 rfl U.e) fun AP c => ?_; clear U AO
 refine n2 ?_
 have V := c.as [(8, (iv ((b_9 t x).2))), (7, (Value.bool ((i_8 t x).isSome))), (6, (iv ((b_9 t x).1))), (4, (bptr r 0))] rfl; clear c
 refine a_5 (s1 V (a_1 rfl V.e) fun AQ W => ?_); clear V AP
 refine s1 W (a_1 rfl W.e) fun AR E => ?_; clear W AQ
 refine s1 E (e_7 rfl (pv2 E.e E.e) (l_7 _ _)) fun AS X => ?_; clear E AR
 refine s1 X (a_1 rfl X.e) fun AT F => ?_; clear X AS
 refine s7 F (b_7 h rfl h_1 F.e F.e (i := 0) rfl (vs := [(iv ((b_9 t x).1)), (iv ((b_9 t x).2))]) rfl rfl rfl (Nat.le_of_ble_eq_true rfl)) ?_
 intro _ AV j Y; clear F
 have k : Sep NoB w AV [(blk r 30 [(iv ((b_9 t x).1)), (iv ((b_9 t x).2))]), (blk b4 106 [(iv t.frm), (iv t.dst), vr, vb, (iv t.err)]), (sl vr 2 t.rows.length (pairs t.rows)), (sl vb 1 t.brk.length (ints t.brk))] := j; clear j h
 refine s1 Y (a_0 rfl Y.e) fun AY d => ?_; clear Y AT
 refine n1 (c_2 (a_8 d (.inl rfl) (d_7 d rfl (.cellA rfl h_1 (k.bk 0 rfl) (l := [(iv ((b_9 t x).1)), (iv ((b_9 t x).2))]) rfl rfl) (.tmp rfl)) ?_))
 exact ⟨rfl, k.ext⟩
theorem convert_ok (B C : Int) (t : TabD) (vr vb : Value) (w : World) (hr : SlAt w vr 2 t.rows.length (pairs t.rows)) (hb : SlAt w vb 1 t.brk.length (ints t.brk)) (hrl : t.rows.length ≤ 1000000) (hbl : t.brk.length ≤ 1000000) (n : Int) (hV : TabV n t) :
  Calls Try.prog 50 #[(Value.agg #[(iv t.frm), (iv t.dst), vr, vb, (iv t.err)]), (Value.agg #[(iv B), (iv C)])] w (Ret fun v w' => v = .agg #[.int .i64 (l_0 t (B, C)).1, .int .i64 (l_0 t (B, C)).2] ∧ Ext NoB w w') := by
 refine a_9 Try.func50 rfl fun a0 Q => ?_
 replace Q : Fr 42 [] [(0, (Value.agg #[(iv t.frm), (iv t.dst), vr, vb, (iv t.err)])), (1, (Value.agg #[(iv B), (iv C)]))] a0 := Q
 have A9 := madeV_bd hV B; have BA := madeV_bd hV C; have her := hV.err
 have AS : Sep NoB w w [(sl vr 2 t.rows.length (pairs t.rows)), (sl vb 1 t.brk.length (ints t.brk))] := f_1 ⟨rfl, hr, rfl, hb, trivial⟩
 refine m2 (s2 Q (f_4 AS rfl Q.e (cs := [(iv t.frm), (iv t.dst), vr, vb, (iv t.err)]) rfl) ?_)
 rintro a1 _ w3 ⟨J, rfl, AT⟩ m; clear Q AS a0
 refine s2 m (f_4 AT rfl m.e (cs := [(iv B), (iv C)]) rfl) ?_
 rintro a6 _ w8 ⟨k, rfl, AC⟩ AR; clear m AT a1
 refine s2 AR (d_9 AC rfl ab_1 (cs := [(iv 0), (iv 0)]) rfl) ?_
 rintro Ab _ BD ⟨H, rfl, F⟩ R; clear AR AC a6
 refine n4 (s1 R (c_9 rfl k_9 (R.ev rfl) (F.bk 2 rfl) (l := [(iv t.frm), (iv t.dst), vr, vb, (iv t.err)]) rfl rfl) fun Ac S => ?_); clear R Ab
 refine s1 S (a_4 rfl m_7 S.e) fun Ad T => ?_; clear S Ac
 refine s1 T (a_2 rfl ty_3 T.e (F.bk 1 rfl) rfl) fun Ae K => ?_; clear T Ad
 refine s2 K (b_3 rfl en_72 (ev2 K.e K.e) (around_ok t _ _ _ (F.sk 3 rfl) (F.sk 4 rfl) (by omega) (by omega) _ hV B)) ?_
 rintro Af _ BE ⟨rfl, AA⟩ U; have AD := F.step AA; clear AA K F Ae
 refine s1 U (a_1 rfl U.e) fun Ag V => ?_; clear U Af
 refine s1 V (e_0 rfl V.e rfl) fun Ah W => ?_; clear V Ag
 refine s1 W (e_0 rfl W.e rfl) fun Ai o => ?_; clear W Ah
 refine s2 o (d_9 AD rfl ab_1 (cs := [(iv 0), (iv 0)]) rfl) ?_
 rintro Aj _ BF ⟨E, rfl, AE⟩ L; clear o AD Ai
 refine s7 L (b_7 AE rfl h_1 L.e L.e (i := 0) rfl (vs := [(iv ((b_9 t B).1)), (iv ((b_9 t B).2))]) rfl rfl rfl (Nat.le_of_ble_eq_true rfl)) ?_
 intro _ Ay AF X; clear L
 have G : Sep NoB w Ay [(blk E 30 [(iv ((b_9 t B).1)), (iv ((b_9 t B).2))]), (blk H 30 [(iv 0), (iv 0)]), (blk k 30 [(iv B), (iv C)]), (blk J 106 [(iv t.frm), (iv t.dst), vr, vb, (iv t.err)]), (sl vr 2 t.rows.length (pairs t.rows)), (sl vb 1 t.brk.length (ints t.brk))] := AF; clear AF AE
 refine s1 X (a_0 rfl X.e) fun Ak p => ?_; clear X Aj
 refine n2 ?_
 have Y := p.as [(5, (bptr E 0)), (4, (bptr H 0)), (3, (bptr k 0)), (2, (bptr J 0))] rfl; clear p
 refine a_5 (s1 Y (c_9 rfl k_9 (Y.ev rfl) (G.bk 3 rfl) (l := [(iv t.frm), (iv t.dst), vr, vb, (iv t.err)]) rfl rfl) fun Al Z => ?_); clear Y Ak
 refine s1 Z (a_4 rfl m_8 Z.e) fun Am b => ?_; clear Z Al
 refine s1 b (a_2 rfl ty_3 b.e (G.bk 2 rfl) rfl) fun An M => ?_; clear b Am
 refine s2 M (b_3 rfl en_72 (ev2 M.e M.e) (around_ok t _ _ _ (G.sk 4 rfl) (G.sk 5 rfl) (by omega) (by omega) _ hV C)) ?_
 rintro Ao _ BG ⟨rfl, AB⟩ c; have AG := G.step AB; clear AB M G An
 refine s1 c (a_1 rfl c.e) fun Ap d => ?_; clear c Ao
 refine s1 d (e_0 rfl d.e rfl) fun Aq f => ?_; clear d Ap
 refine s1 f (e_0 rfl f.e rfl) fun Ar q => ?_; clear f Aq
 refine s2 q (d_9 AG rfl ab_1 (cs := [(iv 0), (iv 0)]) rfl) ?_
 rintro As _ BH ⟨I, rfl, AH⟩ N; clear q AG Ar
 refine s7 N (b_7 AH rfl h_1 N.e N.e (i := 0) rfl (vs := [(iv ((b_9 t C).1)), (iv ((b_9 t C).2))]) rfl rfl rfl (Nat.le_of_ble_eq_true rfl)) ?_
 intro _ Az AI g; clear N
 have AJ : Sep NoB w Az [(blk I 30 [(iv ((b_9 t C).1)), (iv ((b_9 t C).2))]), (blk E 30 [(iv ((b_9 t B).1)), (iv ((b_9 t B).2))]), (blk H 30 [(iv 0), (iv 0)]), (blk k 30 [(iv B), (iv C)]), (blk J 106 [(iv t.frm), (iv t.dst), vr, vb, (iv t.err)]), (sl vr 2 t.rows.length (pairs t.rows)), (sl vb 1 t.brk.length (ints t.brk))] := AI; clear AI AH
 refine s1 g (a_0 rfl g.e) fun A7 r => ?_; clear g As
 refine n2 ?_
 have s := r.as [(7, (bptr I 0)), (5, (bptr E 0)), (4, (bptr H 0)), (2, (bptr J 0))] rfl; clear r
 have u := s.as [(7, (bptr I 0)), (5, (bptr E 0)), (4, (bptr H 0)), (2, (bptr J 0))] rfl; clear s
 refine ab_4 mixed u AJ 18 [[], [0], [], [2], [1, 3], [4], [], [6], [5, 7], [], [9], [], [11], [10, 12], [13], [], [15], [14, 16]] [(yw (bptr E 0)), (yw (iv ((b_9 t B).1))), (yw (bptr I 0)), (yw (iv ((b_9 t C).1))), (fun (A : Nat → Value) (v_ : Value) (rs_ : List Res) => True ∧ rs_ = [(row v_ 3 1 2 [(iv ((b_9 t B).1)), (iv ((b_9 t C).1))])]), (yw (iv (min ((b_9 t B).1) ((b_9 t C).1)))), (yw (bptr J 4)), (yw (iv t.err)), (yw (iv ((min ((b_9 t B).1) ((b_9 t C).1)) - t.err))), (yw (bptr E 1)), (yw (iv ((b_9 t B).2))), (yw (bptr I 1)), (yw (iv ((b_9 t C).2))), (fun (A : Nat → Value) (v_ : Value) (rs_ : List Res) => True ∧ rs_ = [(row v_ 3 1 2 [(iv ((b_9 t B).2)), (iv ((b_9 t C).2))])]), (yw (iv (max ((b_9 t B).2) ((b_9 t C).2)))), (yw (bptr J 4)), (yw (iv t.err)), (yw (iv ((max ((b_9 t B).2) ((b_9 t C).2)) + t.err)))] (by decide +kernel) (by decide +kernel) rfl rfl ⟨dw, dw, dw, dw, (fun _ _ _ _ _ h_ => h_), dw, dw, dw, dw, dw, dw, dw, dw, (fun _ _ _ _ _ h_ => h_), dw, dw, dw, dw, trivial⟩ ?_ ?_
 ·skip
  refine ⟨fun a w A hA hS hd => gv1 (a_4 rfl m_7 hA.e), ?_⟩
  refine ⟨fun a w A hA hS hd => gv1 (a_2 rfl ty_3 (gu hd 0) (hS.bk 1 rfl) rfl), ?_⟩
  refine ⟨fun a w A hA hS hd => gv1 (a_4 rfl m_7 hA.e), ?_⟩
  refine ⟨fun a w A hA hS hd => gv1 (a_2 rfl ty_3 (gu hd 2) (hS.bk 0 rfl) rfl), ?_⟩
  refine ⟨fun a w A hA hS hd => d_5 rfl (vblt rfl (pv2 (gu hd 1) (gu hd 3)) j_1 ty_3 ze_3 (by decide) (cs := [(iv ((b_9 t B).1)), (iv ((b_9 t C).1))]) (w_6 _ _) rfl (by decide) (fun _ => And.intro trivial rfl)), ?_⟩
  refine ⟨fun a w A hA hS hd => ?_, ?_⟩
  ·skip
   obtain ⟨e4, BC, Ax, Av⟩ := hd 4 (by decide)
   obtain ⟨BB, Aw⟩ := Ax; subst Aw
   have hp4_0 := Av _ (List.mem_of_getElem? (i := 0) rfl)
   exact gx1 (b_3 rfl en_79 (ev1 (c_3 (f_6 e4 rfl))) (callsI (least_ok [(b_9 t B).1, (b_9 t C).1] _ _ (SlAt.e_9 hp4_0) (by simp) (by simp)) (min ((b_9 t B).1) ((b_9 t C).1)) rfl))
  refine ⟨fun a w A hA hS hd => gv1 (a_4 rfl z_1 hA.e), ?_⟩
  refine ⟨fun a w A hA hS hd => gv1 (a_2 rfl ty_3 (gu hd 6) (hS.bk 4 rfl) rfl), ?_⟩
  refine ⟨fun a w A hA hS hd => gv1 (h_2 rfl (gu hd 5) (gu hd 7) (by omega) (by omega)), ?_⟩
  refine ⟨fun a w A hA hS hd => gv1 (a_4 rfl m_8 hA.e), ?_⟩
  refine ⟨fun a w A hA hS hd => gv1 (a_2 rfl ty_3 (gu hd 9) (hS.bk 1 rfl) rfl), ?_⟩
  refine ⟨fun a w A hA hS hd => gv1 (a_4 rfl m_8 hA.e), ?_⟩
  refine ⟨fun a w A hA hS hd => gv1 (a_2 rfl ty_3 (gu hd 11) (hS.bk 0 rfl) rfl), ?_⟩
  refine ⟨fun a w A hA hS hd => d_5 rfl (vblt rfl (pv2 (gu hd 10) (gu hd 12)) j_1 ty_3 ze_3 (by decide) (cs := [(iv ((b_9 t B).2)), (iv ((b_9 t C).2))]) (w_6 _ _) rfl (by decide) (fun _ => And.intro trivial rfl)), ?_⟩
  refine ⟨fun a w A hA hS hd => ?_, ?_⟩
  ·skip
   obtain ⟨Au, A6, AY, AU⟩ := hd 13 (by decide)
   obtain ⟨A5, AV⟩ := AY; subst AV
   have hp13_0 := AU _ (List.mem_of_getElem? (i := 0) rfl)
   exact gx1 (b_3 rfl en_80 (ev1 (c_3 (f_6 Au rfl))) (callsI (greatest_ok [(b_9 t B).2, (b_9 t C).2] _ _ (SlAt.e_9 hp13_0) (by simp) (by simp)) (max ((b_9 t B).2) ((b_9 t C).2)) rfl))
  refine ⟨fun a w A hA hS hd => gv1 (a_4 rfl z_1 hA.e), ?_⟩
  refine ⟨fun a w A hA hS hd => gv1 (a_2 rfl ty_3 (gu hd 15) (hS.bk 4 rfl) rfl), ?_⟩
  refine ⟨fun a w A hA hS hd => gv1 (e_3 rfl (gu hd 14) (gu hd 16) (by omega) (by omega)), ?_⟩
  trivial
 intro At A0 A rsf81 x D h; clear u AJ
 obtain ⟨AW, AZ⟩ := D 4 (by decide)
 obtain ⟨AX, AN⟩ := AZ
 obtain ⟨AO, AQ⟩ := D 13 (by decide)
 obtain ⟨AP, j⟩ := AQ
 have AK : Sep NoB w A0 [(row (A 4) 3 1 2 [(iv ((b_9 t B).1)), (iv ((b_9 t C).1))]), (row (A 13) 3 1 2 [(iv ((b_9 t B).2)), (iv ((b_9 t C).2))]), (blk I 30 [(iv ((b_9 t C).1)), (iv ((b_9 t C).2))]), (blk E 30 [(iv ((b_9 t B).1)), (iv ((b_9 t B).2))]), (blk H 30 [(iv 0), (iv 0)]), (blk k 30 [(iv B), (iv C)]), (blk J 106 [(iv t.frm), (iv t.dst), vr, vb, (iv t.err)]), (sl vr 2 t.rows.length (pairs t.rows)), (sl vb 1 t.brk.length (ints t.brk))] := by rw [show catR rsf81 0 18 = ([(row (A 4) 3 1 2 [(iv ((b_9 t B).1)), (iv ((b_9 t C).1))]), (row (A 13) 3 1 2 [(iv ((b_9 t B).2)), (iv ((b_9 t C).2))])] : List Res) by (try simp only [catR, gr (D 0 (by decide)), gr (D 1 (by decide)), gr (D 2 (by decide)), gr (D 3 (by decide)), AN, gr (D 5 (by decide)), gr (D 6 (by decide)), gr (D 7 (by decide)), gr (D 8 (by decide)), gr (D 9 (by decide)), gr (D 10 (by decide)), gr (D 11 (by decide)), gr (D 12 (by decide)), j, gr (D 14 (by decide)), gr (D 15 (by decide)), gr (D 16 (by decide)), gr (D 17 (by decide))]); (try rfl)] at h; exact h
 have y := x.add (gs (D 8 (by decide))); clear x
 have O := y.add (gs (D 17 (by decide))); clear y
 clear D h AW AO
 clear AN
 clear AX
 clear j
 clear AP
 refine s1 O (e_7 rfl (pv2 O.e O.e) (l_7 _ _)) fun A8 P => ?_; clear O At
 refine s7 P (b_7 AK rfl h_1 P.e P.e (i := 4) rfl (vs := [(iv ((min ((b_9 t B).1) ((b_9 t C).1)) - t.err)), (iv ((max ((b_9 t B).2) ((b_9 t C).2)) + t.err))]) rfl rfl rfl (Nat.le_of_ble_eq_true rfl)) ?_
 intro _ A1 AL z; clear P
 have AM : Sep NoB w A1 [(row (A 4) 3 1 2 [(iv ((b_9 t B).1)), (iv ((b_9 t C).1))]), (row (A 13) 3 1 2 [(iv ((b_9 t B).2)), (iv ((b_9 t C).2))]), (blk I 30 [(iv ((b_9 t C).1)), (iv ((b_9 t C).2))]), (blk E 30 [(iv ((b_9 t B).1)), (iv ((b_9 t B).2))]), (blk H 30 [(iv ((min ((b_9 t B).1) ((b_9 t C).1)) - t.err)), (iv ((max ((b_9 t B).2) ((b_9 t C).2)) + t.err))]), (blk k 30 [(iv B), (iv C)]), (blk J 106 [(iv t.frm), (iv t.dst), vr, vb, (iv t.err)]), (sl vr 2 t.rows.length (pairs t.rows)), (sl vb 1 t.brk.length (ints t.brk))] := AL; clear AL AK
 refine n1 (c_2 (a_8 z (.inl rfl) (a_3 z rfl (.cellA rfl h_1 (AM.bk 4 rfl) (l := [(iv ((min ((b_9 t B).1) ((b_9 t C).1)) - t.err)), (iv ((max ((b_9 t B).2) ((b_9 t C).2)) + t.err))]) rfl rfl)) ?_))
 exact ⟨rfl, AM.ext⟩
end Go.Proofs.Ytohgladndklciaa

namespace Go.Proofs.Ytohgladndklciaa
open Go.RowKit Go.Shelf Go.Eng Go.Hard
theorem indexB_int (xs : List Int) (lf : Nat → Int) (bm : Nat) (v : Value) (fid : Nat) (fs cs : Array Value) (p : Nat → Bool) (w : World) (hJ : Sep (fun b => b = bm) w w [blk bm 3 [.int .i64 (lf 0)], sl v 1 xs.length (ints xs)]) (hlen : xs.length ≤ 1000000) (hf : AsksB Try.prog w fid fs cs xs.length (fun i => .int .i64 (xs.getD i 0)) p false bm 3 (fun i => [.int .i64 (lf i)])) :
  Calls Try.prog 115 #[v, (Value.func (.func fid) fs cs)] w (Ret fun v w' => v = .int .i64 (fidx p xs.length) ∧ Ext (fun b => b = bm) w w' ∧ ∃ x, (blk bm 3 [.int .i64 x]).p w') := by
 refine a_9 Try.func115 rfl fun m S => ?_
 replace S : Fr 19 [] [(0, v), (1, (Value.func (.func fid) fs cs))] m := S
 have Z : Sep (fun b => b = bm) w w [(blk bm 3 [(iv (lf 0))]), (sl v 1 xs.length (ints xs))] := hJ
 refine m2 (s1 S (a_0 rfl (evc _ _)) fun a1 T => ?_); clear S m
 refine n2 (m2 (s1 T (a_1 rfl T.e) fun a3 U => ?_)); clear T a1
 refine s1 U (d_1 rfl j_1 U.e (Z.sk 1 rfl)) fun a5 f => ?_; clear U a3
 refine s1 f (a_1 rfl (evc _ _)) fun a7 g => ?_; clear f a5
 refine n1 (c_4 ?_)
 have j := g.as [(8, (iv 0)), (7, (iv (xs.length : Int))), (0, v), (1, (Value.func (.func fid) fs cs))] rfl; clear g
 refine h_3 (G := Nat) (fun (k : Nat) a_ w_ => Fr 19 [] [(8, (iv (k : Int))), (7, (iv (xs.length : Int))), (0, v), (1, (Value.func (.func fid) fs cs))] a_ ∧ Sep (fun b => b = bm) w w_ [(blk bm 3 [(iv (lf k))]), (sl v 1 xs.length (ints xs))] ∧ (k ≤ xs.length) ∧ (∀ i, i < k → p i = false)) (fun k => xs.length - k) 0 ⟨j.as _ rfl, Z, by omega, by omega⟩ ?_
 clear j Z a7
 rintro k n AI ⟨D, C, hk, hn⟩
 refine m2 (s1 D (f_7 rfl D.e D.e) fun c A => ?_); clear D n
 refine n2 ?_
 by_cases a : (k : Int) < (xs.length : Int)
 ·skip
  rw [decide_eq_true a] at A
  refine c_0 A rfl (c_6 (a_7 (b_5 (c_4 (m2 (s1 A (a_1 rfl A.e) fun o H => ?_)))))); clear A c
  refine s1 H (a_0 rfl H.e) fun q I => ?_; clear H o
  refine n4 (s1 I (a_1 rfl I.e) fun r J => ?_); clear I q
  refine s1 J (a_1 rfl J.e) fun s K => ?_; clear J r
  refine s1 K (a_1 rfl K.e) fun t E => ?_; clear K s
  refine s1 E (b_0 rfl j_1 ty_3 E.e (i := k) E.e (C.sk 1 rfl) (by decide) (by omega)) fun u L => ?_; clear E t
  refine s1 L (c_1 rfl ty_3 L.e (C.sk 1 rfl) (ints_at (by omega))) fun y F => ?_; clear L u
  refine s2 F (i_5 rfl (F.ev rfl) hf.1 (ev1 F.e) (hf.2 k (by omega) hn _ C.ext (C.bk 0 rfl))) ?_
  rintro d _ AJ ⟨rfl, X, Y⟩ B; have Q := C.updB (i := 0) rfl X Y; clear X Y F C y
  refine n1 ?_
  rcases Bool.eq_false_or_eq_true (p k) with R | R
  ·skip
   rw [R] at B
   refine c_0 B rfl (b_5 ?_)
   have M := B.as [(5, (iv (k : Int)))] rfl; clear B
   refine a_5 (s1 M (a_1 rfl M.e) fun z N => ?_); clear M d
   refine s1 N (a_0 rfl N.e) fun AF V => ?_; clear N z
   exact n1 (c_2 (c_8 (a_6 (a_6 (c_8 (a_6 (a_8 V (.inl rfl) (a_3 V rfl (.tmp rfl)) (⟨by first | rw [k_3 (by omega) hn (by assumption)] | rw [i_9 (fun i hi => hn i (by omega))], Q.ext, _, Q.bk 0 rfl⟩))))))))
  skip
  rw [R] at B
  refine b_4 B rfl (c_6 (g_3 (a_7 ?_)))
  have O := B.as [(8, (iv (k : Int))), (7, (iv (xs.length : Int))), (0, v), (1, (Value.func (.func fid) fs cs))] rfl; clear B
  refine a_5 (s1 O (e_3 rfl O.e (evc _ _) (by omega) (by omega)) fun AA P => ?_); clear O d
  refine s1 P (a_1 rfl P.e) fun AG l => ?_; clear P AA
  refine e_6 ?_
  exact a_7 ⟨k + 1, ⟨l.as _ rfl, Q, by omega, (fun i hi => by rcases Nat.lt_succ_iff_lt_or_eq.1 hi with h | h; exact hn i h; subst h; assumption)⟩, by omega⟩
 skip
 rw [decide_eq_false a] at A
 refine b_4 A rfl (g_6 (b_2 (b_2 (f_2 (a_7 (m2 (s1 A (a_0 rfl (evc _ _)) fun AH W => ?_))))))); clear A c
 exact n1 (c_2 (a_8 W (.inl rfl) (a_3 W rfl (.tmp rfl)) (⟨by first | rw [k_3 (by omega) hn (by assumption)] | rw [i_9 (fun i hi => hn i (by omega))], C.ext, _, C.bk 0 rfl⟩)))
theorem contB_int (xs : List Int) (lf : Nat → Int) (bm : Nat) (v : Value) (fid : Nat) (fs cs : Array Value) (p : Nat → Bool) (w : World) (hJ : Sep (fun b => b = bm) w w [blk bm 3 [.int .i64 (lf 0)], sl v 1 xs.length (ints xs)]) (hlen : xs.length ≤ 1000000) (hf : AsksB Try.prog w fid fs cs xs.length (fun i => .int .i64 (xs.getD i 0)) p false bm 3 (fun i => [.int .i64 (lf i)])) :
  Calls Try.prog 99 #[v, (Value.func (.func fid) fs cs)] w (Ret fun v w' => v = .bool ((List.range xs.length).any p) ∧ Ext (fun b => b = bm) w w' ∧ ∃ x, (blk bm 3 [.int .i64 x]).p w') := by
 refine a_9 Try.func99 rfl fun L B => ?_
 replace B : Fr 9 [] [(0, v), (1, (Value.func (.func fid) fs cs))] L := B
 have K : Sep (fun b => b = bm) w w [(blk bm 3 [(iv (lf 0))]), (sl v 1 xs.length (ints xs))] := hJ
 refine m2 (s1 B (a_0 rfl (evc _ _)) fun N E => ?_); clear B L
 refine n4 (s1 E (a_1 rfl E.e) fun O F => ?_); clear E N
 refine s1 F (a_1 rfl F.e) fun P C => ?_; clear F O
 refine s2 C (b_3 rfl en_115 (ev2 C.e C.e) (indexB_int xs lf bm _ _ _ _ p _ hJ hlen hf)) ?_
 rintro Q _ S ⟨rfl, H, lx13, I⟩ G; have J := K.updB (i := 0) rfl H I; clear H I C K P
 refine s1 G (aa_4 rfl G.e (evc _ _)) fun M A => ?_; clear G Q
 refine s1 A (a_0 rfl A.e) fun R D => ?_; clear A M
 exact n1 (c_2 (a_8 D (.inl rfl) (a_3 D rfl (.tmp rfl)) (⟨congrArg Value.bool (t_5 p xs.length), J.ext, _, J.bk 0 rfl⟩)))
theorem cloB_int (x : Int) (b bm fid : Nat) (L O : Int) (fs cs : Array Value) (q : Bool) (w : World) (hJ : Sep (fun k => k = bm) w w [blk bm 3 [.int .i64 L], rob b 112 [.func (.func fid) fs cs]]) (hen : ∀ args W, (callFunc fid args).run Try.prog W = .ok (.enter fid args) W) (hf : ∀ W, Ext (fun k => k = bm) w W → (blk bm 3 [.int .i64 L]).p W → Calls Try.prog fid (fs ++ #[.int .i64 x] ++ cs) W (Ret fun v w' => v = .bool q ∧ Ext (fun k => k = bm) W w' ∧ (blk bm 3 [.int .i64 O]).p w')) :
  Calls Try.prog 100 #[(iv x), (bptr b 0)] w (Ret fun v w' => v = .bool (!q) ∧ Ext (fun k => k = bm) w w' ∧ (blk bm 3 [.int .i64 O]).p w') := by
 refine a_9 Try.func100 rfl fun M C => ?_
 replace C : Fr 8 [] [(0, (iv x)), (1, (bptr b 0))] M := C
 have A : Sep (fun k => k = bm) w w [(blk bm 3 [(iv L)]), (rob b 112 [(Value.func (.func fid) fs cs)])] := hJ
 refine m2 (s1 C (a_0 rfl (evc _ _)) fun P F => ?_); clear C M
 refine n4 (s1 F (a_2 rfl ty_112 F.e (A.rk 1 rfl) rfl) fun Q G => ?_); clear F P
 refine s1 G (a_1 rfl G.e) fun R D => ?_; clear G Q
 refine s2 D (i_5 rfl (D.ev rfl) hen (ev1 D.e) (hf _ A.ext (A.bk 0 rfl))) ?_
 rintro S _ U ⟨rfl, I, J⟩ H; have K := A.updB (i := 0) rfl I J; clear I J D A R
 refine s1 H (f_5 rfl H.e) fun N B => ?_; clear H S
 refine s1 B (a_0 rfl B.e) fun T E => ?_; clear B N
 exact n1 (c_2 (a_8 E (.inl rfl) (a_3 E rfl (.tmp rfl)) (⟨rfl, K.ext, K.bk 0 rfl⟩)))
theorem allB_int (xs : List Int) (lf : Nat → Int) (bm : Nat) (v : Value) (fid : Nat) (fs cs : Array Value) (p : Nat → Bool) (w : World) (hJ : Sep (fun b => b = bm) w w [blk bm 3 [.int .i64 (lf 0)], sl v 1 xs.length (ints xs)]) (hlen : xs.length ≤ 1000000) (hf : AsksB Try.prog w fid fs cs xs.length (fun i => .int .i64 (xs.getD i 0)) p true bm 3 (fun i => [.int .i64 (lf i)])) :
  Calls Try.prog 69 #[v, (Value.func (.func fid) fs cs)] w (Ret fun v w' => v = .bool ((List.range xs.length).all p) ∧ Ext (fun b => b = bm) w w' ∧ ∃ x, (blk bm 3 [.int .i64 x]).p w') := by
 refine a_9 Try.func69 rfl fun N C => ?_
 replace C : Fr 9 [] [(0, v), (1, (Value.func (.func fid) fs cs))] N := C
 have M : Sep (fun b => b = bm) w w [(blk bm 3 [(iv (lf 0))]), (sl v 1 xs.length (ints xs))] := hJ
 refine m2 (s2 C (f_4 M rfl C.e (cs := [(Value.func (.func fid) fs cs)]) rfl) ?_)
 rintro S _ Y ⟨R, rfl, A⟩ L; clear C M N
 refine s1 L (a_0 rfl (evc _ _)) fun T G => ?_; clear L S
 refine n4 (s1 G (a_1 rfl G.e) fun U H => ?_); clear G T
 refine s1 H (h_6 rfl ev0 (ev1 H.e)) fun O B => ?_; clear H U
 refine s2 B (b_3 rfl en_99 (ev2 B.e B.e) (contB_int xs lf bm _ 100 #[] #[(bptr R 0)] (fun i => !p i) _ (A.lend (i := 1) rfl rfl (L' := [(sl v 1 xs.length (ints xs))]) (js := [2]) ⟨rfl, by decide, A.sk 2 rfl, ⟨_, rfl, fun _ hz => hz⟩, trivial⟩) hlen ⟨en_100, fun i hi hz W hW hb => cloB_int _ _ _ _ _ _ _ _ (p i) W ((A.updB (i := 1) rfl hW hb).lend (i := 1) rfl rfl (L' := [rob R 112 [(Value.func (.func fid) fs cs)]]) (js := [0]) ⟨rfl, by decide, (A.updB (i := 1) rfl hW hb).bk 0 rfl, ⟨_, rfl, fun _ hz => hz⟩, trivial⟩) hf.1 (fun W' hW' hb' => hf.2 i hi (fun j hj => (Bool.not_eq_false' (p j)).mp (hz j hj)) W' (A.ext.trans (hW.trans hW')) hb')⟩)) ?_
 rintro P _ X ⟨rfl, I, lx18, J⟩ D; have K := A.updB (i := 1) rfl I J; clear I J B A O
 refine s1 D (f_5 rfl D.e) fun Q E => ?_; clear D P
 refine s1 E (a_0 rfl E.e) fun V F => ?_; clear E Q
 exact n1 (c_2 (a_8 F (.inl rfl) (a_3 F rfl (.tmp rfl)) (⟨congrArg Value.bool (any_not p xs.length), K.ext, _, K.bk 1 rfl⟩)))
end Go.Proofs.Ytohgladndklciaa

namespace Go.Hard
section
variable {n : Int} {t : TabD}
theorem tab_rows (h : (List.range t.rows.length).all (fun i => rowB (t.rows.getD i (0, 0))) = false) : tabB n t = false := by
  cases hb : tabB n t with
  | false => rfl
  | true =>
    have g := (tabB_iff.1 hb).2.2.2.2.2.1
    have : (List.range t.rows.length).all (fun i => rowB (t.rows.getD i (0, 0))) = true := List.all_eq_true.2 fun i hi => g i (List.mem_range.1 hi)
    rw [this] at h; cases h
theorem tab_rest (h1 : inB t.frm 0 (n - 1) = true) (h2 : inB t.dst 0 (n - 1) = true) (h3 : ¬ t.frm = t.dst) (h4 : inB t.err 0 1000 = true) (h5 : 2 ≤ t.rows.length) (h6 : (List.range t.rows.length).all (fun i => rowB (t.rows.getD i (0, 0))) = true) (h7 : ∀ i, i < t.rows.length - 1 → ac_6 (ad_6 t) (t.rows.getD i (0, 0)) (t.rows.getD (i + 1) (0, 0)) = true) : tabB n t = (List.range t.brk.length).all (brkB t) := by
  have h7' : allI (t.rows.length - 1) (fun i => ac_6 (ad_6 t) (t.rows.getD i (0, 0)) (t.rows.getD (i + 1) (0, 0))) = true := i_3.2 h7
  have h6' : allI t.rows.length (fun i => rowB (t.rows.getD i (0, 0))) = true := h6
  unfold tabB headB
  rw [h1, h2, h4, h6', h7', decide_eq_true (show 2 ≤ (t.rows.length : Int) by omega), decide_eq_false h3]
  rfl
theorem last_bd (i : Nat) (h : ∀ j, j < i → brkB t j = true) : -1 ≤ ae_6 t i ∧ ae_6 t i ≤ (t.rows.length : Int) := by
  induction i with
  | zero => exact ⟨Int.le_refl _, by show (-1 : Int) ≤ _; omega⟩
  | succ i ih =>
    have a := ih fun j hj => h j (by omega)
    have b := i_4.1 (h i (by omega))
    show -1 ≤ t.brk.getD i 0 ∧ t.brk.getD i 0 ≤ _
    omega
end
end Go.Hard

namespace Go.Proofs.Ytohgladndklciaa
open Go.RowKit Go.Shelf Go.Eng Go.Hard
theorem fd_106_0 : fldK Try.prog 106 0 = some 0 := by kernel_rfl
theorem fd_106_1 : fldK Try.prog 106 1 = some 1 := by kernel_rfl
theorem en_95 : ∀ args w, (callFunc 95 args).run Try.prog w = .ok (.enter 95 args) w := enters_of Try.func95 (by kernel_rfl) rfl
theorem en_94 : ∀ args w, (callFunc 94 args).run Try.prog w = .ok (.enter 94 args) w := enters_of Try.func94 (by kernel_rfl) rfl
theorem en_96 : ∀ args w, (callFunc 96 args).run Try.prog w = .ok (.enter 96 args) w := enters_of Try.func96 (by kernel_rfl) rfl
theorem lastclo_ok (x L : Int) (t : TabD) (vr vb : Value) (bm M : Nat) (w : World) (hJ : Sep (fun b => b = bm) w w [blk bm 3 [.int .i64 L], rob M 106 [.int .i64 t.frm, .int .i64 t.dst, vr, vb, .int .i64 t.err], sl vr 2 t.rows.length (pairs t.rows), sl vb 1 t.brk.length (ints t.brk)]) (n : -1 ≤ L ∧ L ≤ 1000000) (hrl : t.rows.length ≤ 1000000) :
  Calls Try.prog 96 #[(iv x), (bptr bm 0), (bptr M 0)] w (Ret fun v w' => v = .bool (inB x (L + 1) ((t.rows.length : Int) - 2)) ∧ Ext (fun b => b = bm) w w' ∧ (blk bm 3 [.int .i64 x]).p w') := by
 refine a_9 Try.func96 rfl fun V K => ?_
 replace K : Fr 16 [] [(0, (iv x)), (1, (bptr bm 0)), (2, (bptr M 0))] V := K
 have C : Sep (fun b => b = bm) w w [(blk bm 3 [(iv L)]), (rob M 106 [(iv t.frm), (iv t.dst), vr, vb, (iv t.err)]), (sl vr 2 t.rows.length (pairs t.rows)), (sl vb 1 t.brk.length (ints t.brk))] := hJ
 refine m2 (s1 K (a_0 rfl (evc _ _)) fun g N => ?_); clear K V
 refine n4 (s1 N (a_1 rfl N.e) fun h Q => ?_); clear N g
 refine s1 Q (a_2 rfl ty_3 Q.e (C.bk 0 rfl) rfl) fun j R => ?_; clear Q h
 refine s1 R (e_3 rfl R.e (evc _ _) (by omega) (by omega)) fun k S => ?_; clear R j
 refine s1 S (a_4 rfl j_3 S.e) fun l D => ?_; clear S k
 refine s1 D (a_2 rfl o_4 D.e (C.rk 1 rfl) rfl) fun W E => ?_; clear D l
 refine s1 E (d_1 rfl k_4 E.e (C.sk 2 rfl)) fun X F => ?_; clear E W
 refine s1 F (h_2 rfl F.e (evc _ _) (by omega) (by omega)) fun Y A => ?_; clear F X
 refine s2 A (b_3 rfl ad_9 (ev3 A.e A.e A.e) (l_6 _ _ _ _)) ?_
 rintro Z _ W_ ⟨rfl, hW_⟩ G; have hW2_ := hW_.symm; subst hW2_; clear hW_ A Y
 refine s1 G (a_0 rfl G.e) fun a O => ?_; clear G Z
 refine n2 ?_
 have H := O.as [(5, (Value.bool (inB x (L + 1) ((t.rows.length : Int) - 2)))), (0, (iv x)), (1, (bptr bm 0))] rfl; clear O
 refine a_5 (s1 H (a_1 rfl H.e) fun c B => ?_); clear H a
 refine s7 B (b_7 C rfl ty_3 B.e B.e (i := 0) rfl (vs := [(iv x)]) rfl rfl rfl (Nat.le_of_ble_eq_true rfl)) ?_
 intro _ f T I; clear B
 have U : Sep (fun b => b = bm) w f [(blk bm 3 [(iv x)]), (rob M 106 [(iv t.frm), (iv t.dst), vr, vb, (iv t.err)]), (sl vr 2 t.rows.length (pairs t.rows)), (sl vb 1 t.brk.length (ints t.brk))] := T; clear T C
 refine n4 (s1 I (a_1 rfl I.e) fun d J => ?_); clear I c
 refine s1 J (a_0 rfl J.e) fun m P => ?_; clear J d
 exact n1 (c_2 (a_8 P (.inl rfl) (a_3 P rfl (.tmp rfl)) (⟨rfl, U.ext, U.bk 0 rfl⟩)))
set_option maxHeartbeats 4000000 in
theorem table_ok (sc : Int) (vt vm : Value) (h1_ : vt.oneCell' = true) (h2_ : vm.oneCell' = true) (hsc : 1 ≤ sc ∧ sc ≤ 4) (t : TabD) (vr vb : Value) (w : World) (hr : SlAt w vr 2 t.rows.length (pairs t.rows)) (hb : SlAt w vb 1 t.brk.length (ints t.brk)) (hrl : t.rows.length ≤ 1000000) (hbl : t.brk.length ≤ 1000000) :
  Calls Try.prog 65 #[(Value.agg #[(iv sc), vt, vm]), (Value.agg #[(iv t.frm), (iv t.dst), vr, vb, (iv t.err)])] w (Ret fun v w' => v = .bool (tabB sc t) ∧ Ext NoB w w') := by
 refine a_9 Try.func65 rfl fun a0 BO => ?_
 replace BO : Fr 98 [] [(0, (Value.agg #[(iv sc), vt, vm])), (1, (Value.agg #[(iv t.frm), (iv t.dst), vr, vb, (iv t.err)]))] a0 := BO
 have Dy : Sep NoB w w [(sl vr 2 t.rows.length (pairs t.rows)), (sl vb 1 t.brk.length (ints t.brk))] := f_1 ⟨rfl, hr, rfl, hb, trivial⟩
 refine m2 (s2 BO (f_4 Dy rfl BO.e (cs := [(iv sc), vt, vm]) rfl) ?_)
 rintro a1 _ w3 ⟨b4, rfl, Dz⟩ DZ; clear BO Dy a0
 refine s2 DZ (f_4 Dz rfl DZ.e (cs := [(iv t.frm), (iv t.dst), vr, vb, (iv t.err)]) rfl) ?_
 rintro a6 _ w8 ⟨P, rfl, BJ⟩ Dx; clear DZ Dz a1
 refine s1 Dx (a_0 rfl (evc _ _)) fun GZ BR => ?_; clear Dx a6
 refine n2 (m2 (s1 BR (c_9 rfl aa_0 (BR.ev rfl) (BJ.bk 1 rfl) (l := [(iv sc), vt, vm]) rfl rfl) fun Ga BS => ?_)); clear BR GZ
 refine s1 BS (a_4 rfl fd_106_0 BS.e) fun Gb BT => ?_; clear BS Ga
 refine s1 BT (a_2 rfl ty_3 BT.e (BJ.bk 0 rfl) rfl) fun Gc AM => ?_; clear BT Gb
 refine s2 AM (b_3 rfl en_93 (ev2 AM.e AM.e) (scale_ok t.frm sc _ _ _ h1_ h2_ hsc)) ?_
 rintro Gd _ HT ⟨rfl, Dn⟩ BU; have q := BJ.step Dn; clear Dn AM BJ Gc
 refine s1 BU (f_5 rfl BU.e) fun Ge BV => ?_; clear BU Gd
 refine s1 BV (a_1 rfl BV.e) fun Du M => ?_; clear BV Ge
 rcases Bool.eq_false_or_eq_true ((inB t.frm 0 (sc - 1))) with Bk | Bk
 ·skip
  rw [Bk] at M
  refine s5 M (c_9 rfl aa_0 (M.ev rfl) (q.bk 1 rfl) (l := [(iv sc), vt, vm]) rfl rfl) fun Gf BW => ?_; clear M Du
  refine s5 BW (a_4 rfl fd_106_1 BW.e) fun Gg BX => ?_; clear BW Gf
  refine s5 BX (a_2 rfl ty_3 BX.e (q.bk 0 rfl) rfl) fun Gh Ar => ?_; clear BX Gg
  refine s6 Ar (b_3 rfl en_93 (ev2 Ar.e Ar.e) (scale_ok t.dst sc _ _ _ h1_ h2_ hsc)) ?_
  rintro Gi _ HU ⟨rfl, Do⟩ BY; have B := q.step Do; clear Do Ar q Gh
  refine s5 BY (f_5 rfl BY.e) fun Gj A1 => ?_; clear BY Gi
  refine s1 A1 (c_7 rfl A1.e A1.e) fun Gk BZ => ?_; clear A1 Gj
  refine s1 BZ (a_1 rfl BZ.e) fun Dv N => ?_; clear BZ Gk
  rcases Bool.eq_false_or_eq_true ((inB t.dst 0 (sc - 1))) with Bl | Bl
  ·skip
   rw [Bl] at N
   refine s5 N (a_4 rfl fd_106_0 N.e) fun Gl Ba => ?_; clear N Dv
   refine s5 Ba (a_2 rfl ty_3 Ba.e (B.bk 0 rfl) rfl) fun Gm Bb => ?_; clear Ba Gl
   refine s5 Bb (a_4 rfl fd_106_1 Bb.e) fun Gn Bc => ?_; clear Bb Gm
   refine s5 Bc (a_2 rfl ty_3 Bc.e (B.bk 0 rfl) rfl) fun Go BG => ?_; clear Bc Gn
   refine s5 BG (q_0 rfl BG.e BG.e) fun Gp BH => ?_; clear BG Go
   refine s1 BH (c_7 rfl BH.e BH.e) fun Gq Bd => ?_; clear BH Gp
   refine s1 Bd (a_1 rfl Bd.e) fun Dw O => ?_; clear Bd Gq
   by_cases Dp : t.frm = t.dst
   ·skip
    rw [decide_eq_true Dp] at O
    refine s3 O fun Gr Da => ?_; clear O Dw
    refine s3 Da fun Gs Db => ?_; clear Da Gr
    refine s3 Db fun Gt Dc => ?_; clear Db Gs
    refine s3 Dc fun Gu Be => ?_; clear Dc Gt
    refine s1 Be (b_6 rfl Be.e (evc _ _)) fun Gv Bf => ?_; clear Be Gu
    refine s1 Bf (a_1 rfl Bf.e) fun Gw Dd => ?_; clear Bf Gv
    refine s3 Dd fun Gx De => ?_; clear Dd Gw
    refine s3 De fun Gy Df => ?_; clear De Gx
    refine s3 Df fun Gz Dg => ?_; clear Df Gy
    refine s3 Dg fun G0 Bg => ?_; clear Dg Gz
    refine s1 Bg (b_6 rfl Bg.e (evc _ _)) fun G1 Bh => ?_; clear Bg G0
    refine s1 Bh (a_1 rfl Bh.e) fun G2 Dh => ?_; clear Bh G1
    refine s3 Dh fun G3 Di => ?_; clear Dh G2
    refine s3 Di fun G4 Dj => ?_; clear Di G3
    refine s3 Dj fun G5 Dk => ?_; clear Dj G4
    refine s3 Dk fun G6 Bi => ?_; clear Dk G5
    refine s1 Bi (b_6 rfl Bi.e (evc _ _)) fun G7 Bj => ?_; clear Bi G6
    refine n1 (c_0 Bj rfl (b_5 ?_))
    have Dl := Bj.as [] rfl; clear Bj
    refine a_5 (s1 Dl (a_0 rfl (evc _ _)) fun HS Dm => ?_); clear Dl G7
    exact n1 (c_2 (a_6 (a_8 Dm (.inl rfl) (a_3 Dm rfl (.tmp rfl)) (⟨congrArg Value.bool (Eq.symm (by first | exact tab_rows (by assumption) | exact q_2 (by first | exact .inl (by assumption) | exact .inr (.inl (by assumption)) | exact .inr (.inr (.inl (by assumption))) | exact .inr (.inr (.inr (.inl (by assumption)))) | exact .inr (.inr (.inr (.inr (by omega))))))), B.ext⟩))))
   skip
   rw [decide_eq_false Dp] at O
   refine s5 O (a_4 rfl z_1 O.e) fun G8 r => ?_; clear O Dw
   refine s5 r (a_2 rfl ty_3 r.e (B.bk 0 rfl) rfl) fun D0 s => ?_; clear r G8
   refine s6 s (b_3 rfl ad_9 (ev3 s.e (evc _ _) (evc _ _)) (l_6 _ _ _ _)) ?_
   rintro D1 _ W_ ⟨rfl, hW_⟩ u; have hW2_ := hW_.symm; subst hW2_; clear hW_ s D0
   refine s5 u (f_5 rfl u.e) fun D2 S => ?_; clear u D1
   refine s1 S (c_7 rfl S.e S.e) fun D3 x => ?_; clear S D2
   refine s1 x (a_1 rfl x.e) fun DS H => ?_; clear x D3
   rcases Bool.eq_false_or_eq_true ((inB t.err 0 1000)) with BL | BL
   ·skip
    rw [BL] at H
    refine s5 H (a_4 rfl j_3 H.e) fun D4 y => ?_; clear H DS
    refine s5 y (a_2 rfl o_4 y.e (B.bk 0 rfl) rfl) fun D5 z => ?_; clear y D4
    refine s5 z (d_1 rfl k_4 z.e (B.sk 2 rfl)) fun D6 AA => ?_; clear z D5
    refine s5 AA (f_7 rfl AA.e (evc _ _)) fun D7 T => ?_; clear AA D6
    refine s1 T (c_7 rfl T.e T.e) fun D8 AB => ?_; clear T D7
    refine s1 AB (a_1 rfl AB.e) fun DT I => ?_; clear AB D8
    by_cases DO : (t.rows.length : Int) < 2
    ·skip
     rw [decide_eq_true DO] at I
     refine s3 I fun D9 Bm => ?_; clear I DT
     refine s3 Bm fun EA Bn => ?_; clear Bm D9
     refine s3 Bn fun EB Bo => ?_; clear Bn EA
     refine s3 Bo fun EC AC => ?_; clear Bo EB
     refine s1 AC (b_6 rfl AC.e (evc _ _)) fun ED AD => ?_; clear AC EC
     refine n1 (c_0 AD rfl (b_5 ?_))
     have Bp := AD.as [] rfl; clear AD
     refine a_5 (s1 Bp (a_0 rfl (evc _ _)) fun HA Bq => ?_); clear Bp ED
     exact n1 (c_2 (a_6 (a_8 Bq (.inl rfl) (a_3 Bq rfl (.tmp rfl)) (⟨congrArg Value.bool (Eq.symm (by first | exact tab_rows (by assumption) | exact q_2 (by first | exact .inl (by assumption) | exact .inr (.inl (by assumption)) | exact .inr (.inr (.inl (by assumption))) | exact .inr (.inr (.inr (.inl (by assumption)))) | exact .inr (.inr (.inr (.inr (by omega))))))), B.ext⟩))))
    skip
    rw [decide_eq_false DO] at I
    refine s5 I (a_4 rfl j_3 I.e) fun EE AE => ?_; clear I DT
    refine s5 AE (a_2 rfl o_4 AE.e (B.bk 0 rfl) rfl) fun EF AF => ?_; clear AE EE
    refine s6 AF (b_3 rfl en_94 (ev2 AF.e (evf _ _)) (all_row t.rows _ 95 #[] #[] (fun i => rowB (t.rows.getD i (0, 0))) _ (B.sk 2 rfl) (by omega) ⟨en_95, fun i hi W hW => row_ok _ _ W⟩)) ?_
    rintro EG _ HL ⟨rfl, DF⟩ AG; have BK := B.step DF; clear DF AF B EF
    refine s5 AG (f_5 rfl AG.e) fun EH U => ?_; clear AG EG
    refine s1 U (c_7 rfl U.e U.e) fun EI E => ?_; clear U EH
    refine n1 ?_
    rcases Bool.eq_false_or_eq_true (((List.range t.rows.length).all (fun i => rowB (t.rows.getD i (0, 0))))) with BM | BM
    ·skip
     rw [BM] at E
     refine b_4 E rfl (c_6 (a_7 (b_5 ?_)))
     have Br := E.as [(3, (bptr P 0))] rfl; clear E
     have Bs := Br.as [(3, (bptr P 0))] rfl; clear Br
     refine g_0 mixed Bs BK 10 [[], [0], [1], [2], [3], [], [5], [6], [7], [8]] [(Yd.val (bptr P 2)), (Yd.val vr), (Yd.val (eptr vr (0 * 2))), (Yd.val (eptr vr (0 * 2 + 1))), (Yd.val (iv ((t.rows.getD 0 (0, 0)).2))), (Yd.val (bptr P 2)), (Yd.val vr), (Yd.val (eptr vr (1 * 2))), (Yd.val (eptr vr (1 * 2 + 1))), (Yd.val (iv ((t.rows.getD 1 (0, 0)).2)))] (by decide +kernel) rfl rfl ?_ ?_
     ·skip
      refine dq (fun a w hA hS hd => a_4 rfl j_3 hA.e) ?_
      refine dq (fun a w hA hS hd => a_2 rfl o_4 (hq hd 0) (hS.bk 0 rfl) rfl) ?_
      refine dq (fun a w hA hS hd => b_0 rfl k_4 i_7 (hq hd 1) (i := 0) (show _ = Value.int .i64 ((0 : Nat) : Int) from (evc _ _)) (hS.sk 2 rfl) (by decide) (by omega)) ?_
      refine dq (fun a w hA hS hd => e_5 rfl l_9 (hq hd 2) (hS.sk 2 rfl) (by rw [((hS.sk 2 rfl)).1]; omega)) ?_
      refine dq (fun a w hA hS hd => c_1 rfl ty_3 (hq hd 3) (hS.sk 2 rfl) (j_0 (by omega))) ?_
      refine dq (fun a w hA hS hd => a_4 rfl j_3 hA.e) ?_
      refine dq (fun a w hA hS hd => a_2 rfl o_4 (hq hd 5) (hS.bk 0 rfl) rfl) ?_
      refine dq (fun a w hA hS hd => b_0 rfl k_4 i_7 (hq hd 6) (i := 1) (show _ = Value.int .i64 ((1 : Nat) : Int) from (evc _ _)) (hS.sk 2 rfl) (by decide) (by omega)) ?_
      refine dq (fun a w hA hS hd => e_5 rfl l_9 (hq hd 7) (hS.sk 2 rfl) (by rw [((hS.sk 2 rfl)).1]; omega)) ?_
      refine dq (fun a w hA hS hd => c_1 rfl ty_3 (hq hd 8) (hS.sk 2 rfl) (j_0 (by omega))) ?_
      trivial
     intro EJ HM Bt Q BI; clear Bs BK
     have Bu := Bt.add (hz BI 4); clear Bt
     have V := Bu.add (hz BI 9); clear Bu
     clear BI
     refine s1 V (f_7 rfl V.e V.e) fun EK AH => ?_; clear V EJ
     refine s1 AH (a_0 rfl AH.e) fun EL AI => ?_; clear AH EK
     refine n2 (m2 (s1 AI (a_4 rfl j_3 AI.e) fun EM AJ => ?_)); clear AI EL
     refine s1 AJ (a_2 rfl o_4 AJ.e (Q.bk 0 rfl) rfl) fun EN AK => ?_; clear AJ EM
     refine s1 AK (op_sliceLo rfl k_4 i_7 AK.e (l := 1) (show _ = Value.int .i64 ((1 : Nat) : Int) from (evc _ _)) (Q.sk 2 rfl) (by omega)) fun EO AL => ?_; clear AK EN
     refine s1 AL (d_1 rfl k_4 AL.e (SlAt.say (n' := (t.rows.length - 1)) (cs' := (pairs (t.rows.drop 1))) (SlAt.cut (Q.sk 2 rfl) (by omega) (Nat.le_refl _)) rfl (r_0 _))) fun EP Bv => ?_; clear AL EO
     refine s1 Bv (a_1 rfl (evc _ _)) fun EQ Bw => ?_; clear Bv EP
     refine n1 (c_4 ?_)
     have Bx := Bw.as [(62, (iv 0)), (61, (iv (((t.rows.length - 1) : Nat) : Int))), (60, (slcut vr 1 t.rows.length 2)), (5, (Value.bool (decide (((t.rows.getD 0 (0, 0)).2) < ((t.rows.getD 1 (0, 0)).2))))), (3, (bptr P 0))] rfl; clear Bw
     refine h_3 (G := Nat) (fun (k : Nat) a_ w_ => Fr 98 [] [(62, (iv (k : Int))), (61, (iv (((t.rows.length - 1) : Nat) : Int))), (60, (slcut vr 1 t.rows.length 2)), (5, (Value.bool (decide (((t.rows.getD 0 (0, 0)).2) < ((t.rows.getD 1 (0, 0)).2))))), (3, (bptr P 0))] a_ ∧ Sep NoB w w_ [(blk P 106 [(iv t.frm), (iv t.dst), vr, vb, (iv t.err)]), (blk b4 37 [(iv sc), vt, vm]), (sl vr 2 t.rows.length (pairs t.rows)), (sl vb 1 t.brk.length (ints t.brk))] ∧ (k ≤ t.rows.length - 1) ∧ (∀ i, i < k → ac_6 (ad_6 t) (t.rows.getD i (0, 0)) (t.rows.getD (i + 1) (0, 0)) = true)) (fun k => t.rows.length - 1 - k) 0 ⟨Bx.as _ rfl, Q, by omega, (fun _ h => absurd h (Nat.not_lt_zero _))⟩ ?_
     clear Bx Q EQ
     rintro k ER HN ⟨X, L, hkk, hst⟩
     refine m2 (s1 X (f_7 rfl X.e X.e) fun DU C => ?_); clear X ER
     refine n2 ?_
     by_cases DP : (k : Int) < (((t.rows.length - 1) : Nat) : Int)
     ·skip
      rw [decide_eq_true DP] at C
      refine c_0 C rfl (c_6 (a_7 (b_5 (c_4 (m2 (s1 C (a_1 rfl C.e) fun ES Y => ?_)))))); clear C DU
      refine s1 Y (b_0 rfl k_4 i_7 Y.e (i := k) Y.e (SlAt.say (n' := (t.rows.length - 1)) (cs' := (pairs (t.rows.drop 1))) (SlAt.cut (L.sk 2 rfl) (by omega) (Nat.le_refl _)) rfl (r_0 _)) (by decide) (by omega)) fun ET AN => ?_; clear Y ES
      refine s1 AN (e_8 rfl i_7 AN.e (SlAt.say (n' := (t.rows.length - 1)) (cs' := (pairs (t.rows.drop 1))) (SlAt.cut (L.sk 2 rfl) (by omega) (Nat.le_refl _)) rfl (r_0 _)) (dropP_all (by omega)) rfl (by decide)) fun EU By => ?_; clear AN ET
      refine s2 By (d_9 L rfl aa_6 (cs := [(iv 0), (iv 0)]) rfl) ?_
      rintro EV _ HO ⟨BP, rfl, DI⟩ AO; clear By L EU
      refine s1 AO (a_0 rfl AO.e) fun EW Z => ?_; clear AO EV
      refine s7 Z (b_7 DI rfl i_7 Z.e Z.e (i := 0) rfl (vs := [(iv ((t.rows.getD (k + 1) (0, 0)).1)), (iv ((t.rows.getD (k + 1) (0, 0)).2))]) rfl rfl rfl (Nat.le_of_ble_eq_true rfl)) ?_
      intro _ GV DJ AP; clear Z
      have R : Sep NoB w GV [(blk BP 107 [(iv ((t.rows.getD (k + 1) (0, 0)).1)), (iv ((t.rows.getD (k + 1) (0, 0)).2))]), (blk P 106 [(iv t.frm), (iv t.dst), vr, vb, (iv t.err)]), (blk b4 37 [(iv sc), vt, vm]), (sl vr 2 t.rows.length (pairs t.rows)), (sl vb 1 t.brk.length (ints t.brk))] := DJ; clear DJ DI
      refine n4 (s1 AP (a_4 rfl j_3 AP.e) fun EX AQ => ?_); clear AP EW
      refine s1 AQ (a_2 rfl o_4 AQ.e (R.bk 1 rfl) rfl) fun EY AR => ?_; clear AQ EX
      refine s1 AR (a_1 rfl AR.e) fun EZ b => ?_; clear AR EY
      refine s1 b (b_0 rfl k_4 i_7 b.e (i := k) b.e (R.sk 3 rfl) (by decide) (by omega)) fun Ea AS => ?_; clear b EZ
      refine s1 AS (e_8 rfl i_7 AS.e (R.sk 3 rfl) (h_7 (by omega)) rfl (by decide)) fun Eb Bz => ?_; clear AS Ea
      refine s2 Bz (d_9 R rfl aa_6 (cs := [(iv 0), (iv 0)]) rfl) ?_
      rintro Ec _ HP ⟨DY, rfl, DK⟩ c; clear Bz R Eb
      refine s7 c (b_7 DK rfl i_7 c.e c.e (i := 0) rfl (vs := [(iv ((t.rows.getD k (0, 0)).1)), (iv ((t.rows.getD k (0, 0)).2))]) rfl rfl rfl (Nat.le_of_ble_eq_true rfl)) ?_
      intro _ GW DL B0; clear c
      have A : Sep NoB w GW [(blk DY 107 [(iv ((t.rows.getD k (0, 0)).1)), (iv ((t.rows.getD k (0, 0)).2))]), (blk BP 107 [(iv ((t.rows.getD (k + 1) (0, 0)).1)), (iv ((t.rows.getD (k + 1) (0, 0)).2))]), (blk P 106 [(iv t.frm), (iv t.dst), vr, vb, (iv t.err)]), (blk b4 37 [(iv sc), vt, vm]), (sl vr 2 t.rows.length (pairs t.rows)), (sl vb 1 t.brk.length (ints t.brk))] := DL; clear DL DK
      refine n2 ?_
      have AT := B0.as [(8, (bptr DY 0)), (7, (bptr BP 0)), (62, (iv (k : Int))), (61, (iv (((t.rows.length - 1) : Nat) : Int))), (60, (slcut vr 1 t.rows.length 2)), (5, (Value.bool (decide (((t.rows.getD 0 (0, 0)).2) < ((t.rows.getD 1 (0, 0)).2))))), (3, (bptr P 0))] rfl; clear B0
      refine a_5 (s1 AT (a_4 rfl j_4 AT.e) fun Ed AU => ?_); clear AT Ec
      refine s1 AU (a_2 rfl ty_3 AU.e (A.bk 1 rfl) rfl) fun Ee AV => ?_; clear AU Ed
      refine s1 AV (a_4 rfl j_4 AV.e) fun Ef AW => ?_; clear AV Ee
      refine s1 AW (a_2 rfl ty_3 AW.e (A.bk 0 rfl) rfl) fun Eg d => ?_; clear AW Ef
      refine s1 d (v_6 rfl d.e d.e) fun Eh AX => ?_; clear d Eg
      refine s1 AX (a_1 rfl AX.e) fun DV J => ?_; clear AX Eh
      by_cases DQ : ((t.rows.getD (k + 1) (0, 0)).1) ≤ ((t.rows.getD k (0, 0)).1)
      ·skip
       rw [decide_eq_true DQ] at J
       refine s3 J fun Ei B1 => ?_; clear J DV
       refine s3 B1 fun Ej B2 => ?_; clear B1 Ei
       refine s3 B2 fun Ek B3 => ?_; clear B2 Ej
       refine s3 B3 fun El B4 => ?_; clear B3 Ek
       refine s3 B4 fun Em AY => ?_; clear B4 El
       refine s1 AY (b_6 rfl AY.e (evc _ _)) fun En AZ => ?_; clear AY Em
       refine s1 AZ (a_1 rfl AZ.e) fun Eo B5 => ?_; clear AZ En
       refine s3 B5 fun Ep B6 => ?_; clear B5 Eo
       refine s3 B6 fun Er B7 => ?_; clear B6 Ep
       refine s3 B7 fun Es B8 => ?_; clear B7 Er
       refine s3 B8 fun Et B9 => ?_; clear B8 Es
       refine s3 B9 fun Eu CA => ?_; clear B9 Et
       refine s3 CA fun Ev CB => ?_; clear CA Eu
       refine s3 CB fun Ew Aa => ?_; clear CB Ev
       refine s1 Aa (b_6 rfl Aa.e (evc _ _)) fun Ex Ab => ?_; clear Aa Ew
       refine n1 (c_0 Ab rfl (b_5 ?_))
       have CC := Ab.as [] rfl; clear Ab
       refine a_5 (s1 CC (a_0 rfl (evc _ _)) fun HB CD => ?_); clear CC Ex
       exact n1 (c_2 (c_8 (a_6 (a_6 (c_8 (a_6 (a_8 CD (.inl rfl) (a_3 CD rfl (.tmp rfl)) (⟨congrArg Value.bool (Eq.symm (w_8 (k := k) (by omega) (by first | exact neq_n (by assumption) | exact s_5 (.inl (by omega)) | exact s_5 (.inr (.inl (by omega)))))), A.ext⟩))))))))
      skip
      rw [decide_eq_false DQ] at J
      refine s5 J (a_4 rfl l_9 J.e) fun Ey Ac => ?_; clear J DV
      refine s5 Ac (a_2 rfl ty_3 Ac.e (A.bk 1 rfl) rfl) fun Ez Ad => ?_; clear Ac Ey
      refine s5 Ad (a_4 rfl l_9 Ad.e) fun E0 Ae => ?_; clear Ad Ez
      refine s5 Ae (a_2 rfl ty_3 Ae.e (A.bk 0 rfl) rfl) fun E1 f => ?_; clear Ae E0
      refine s5 f (q_0 rfl f.e f.e) fun E2 g => ?_; clear f E1
      refine s1 g (c_7 rfl g.e g.e) fun E3 Af => ?_; clear g E2
      refine s1 Af (a_1 rfl Af.e) fun DW K => ?_; clear Af E3
      by_cases DR : ((t.rows.getD (k + 1) (0, 0)).2) = ((t.rows.getD k (0, 0)).2)
      ·skip
       rw [decide_eq_true DR] at K
       refine s3 K fun E4 CE => ?_; clear K DW
       refine s3 CE fun E5 CF => ?_; clear CE E4
       refine s3 CF fun E6 CG => ?_; clear CF E5
       refine s3 CG fun E7 CH => ?_; clear CG E6
       refine s3 CH fun E8 CI => ?_; clear CH E7
       refine s3 CI fun E9 CJ => ?_; clear CI E8
       refine s3 CJ fun FA Ag => ?_; clear CJ E9
       refine s1 Ag (b_6 rfl Ag.e (evc _ _)) fun FB Ah => ?_; clear Ag FA
       refine n1 (c_0 Ah rfl (b_5 ?_))
       have CK := Ah.as [] rfl; clear Ah
       refine a_5 (s1 CK (a_0 rfl (evc _ _)) fun HC CL => ?_); clear CK FB
       exact n1 (c_2 (c_8 (a_6 (a_6 (c_8 (a_6 (a_8 CL (.inl rfl) (a_3 CL rfl (.tmp rfl)) (⟨congrArg Value.bool (Eq.symm (w_8 (k := k) (by omega) (by first | exact neq_n (by assumption) | exact s_5 (.inl (by omega)) | exact s_5 (.inr (.inl (by omega)))))), A.ext⟩))))))))
      skip
      rw [decide_eq_false DR] at K
      refine s5 K (a_4 rfl l_9 K.e) fun FC Ai => ?_; clear K DW
      refine s5 Ai (a_2 rfl ty_3 Ai.e (A.bk 1 rfl) rfl) fun FD Aj => ?_; clear Ai FC
      refine s5 Aj (a_4 rfl l_9 Aj.e) fun FE Ak => ?_; clear Aj FD
      refine s5 Ak (a_2 rfl ty_3 Ak.e (A.bk 0 rfl) rfl) fun FF j => ?_; clear Ak FE
      refine s5 j (j_5 rfl j.e j.e) fun FG Al => ?_; clear j FF
      refine s5 Al (a_1 rfl Al.e) fun FH m => ?_; clear Al FG
      refine s5 m (op_neqB un_4 rfl m.e m.e) fun FI n => ?_; clear m FH
      refine s1 n (c_7 rfl n.e n.e) fun DX F => ?_; clear n FI
      refine n1 ?_
      rcases Bool.eq_false_or_eq_true ((decide (((t.rows.getD k (0, 0)).2) < ((t.rows.getD (k + 1) (0, 0)).2))) == (decide (((t.rows.getD 0 (0, 0)).2) < ((t.rows.getD 1 (0, 0)).2)))) with BN | BN
      ·skip
       rw [BN] at F
       refine b_4 F rfl (c_6 (g_3 (a_7 ?_)))
       have Am := F.as [(62, (iv (k : Int))), (61, (iv (((t.rows.length - 1) : Nat) : Int))), (60, (slcut vr 1 t.rows.length 2)), (5, (Value.bool (decide (((t.rows.getD 0 (0, 0)).2) < ((t.rows.getD 1 (0, 0)).2))))), (3, (bptr P 0))] rfl; clear F
       refine a_5 (s1 Am (e_3 rfl Am.e (evc _ _) (by omega) (by omega)) fun FJ An => ?_); clear Am DX
       refine s1 An (a_1 rfl An.e) fun HD Dr => ?_; clear An FJ
       refine e_6 ?_
       have Ds := A.gkp (gpc 2 (gpc 3 (gpc 4 (gpc 5 gpn)))); clear A
       exact a_7 ⟨k + 1, ⟨Dr.as _ rfl, Ds, by omega, (fun i hi => by rcases Nat.lt_succ_iff_lt_or_eq.1 hi with h | h; exact hst i h; subst h; exact neq_y (by omega) (by omega) (by assumption))⟩, by omega⟩
      skip
      rw [BN] at F
      refine c_0 F rfl (b_5 ?_)
      have CM := F.as [] rfl; clear F
      refine a_5 (s1 CM (a_0 rfl (evc _ _)) fun HE CN => ?_); clear CM DX
      exact n1 (c_2 (c_8 (a_6 (a_6 (c_8 (a_6 (a_8 CN (.inl rfl) (a_3 CN rfl (.tmp rfl)) (⟨congrArg Value.bool (Eq.symm (w_8 (k := k) (by omega) (by first | exact neq_n (by assumption) | exact s_5 (.inl (by omega)) | exact s_5 (.inr (.inl (by omega)))))), A.ext⟩))))))))
     skip
     rw [decide_eq_false DP] at C
     refine b_4 C rfl (g_6 (b_2 (b_2 (f_2 (a_7 (m2 (s2 C (d_9 L rfl ze_3 (cs := [(iv 0)]) rfl) ?_)))))))
     rintro FK _ HQ ⟨BQ, rfl, DM⟩ Ao; clear C L DU
     refine s7 Ao (b_7 DM rfl ty_3 Ao.e (evc _ _) (i := 0) rfl (vs := [(iv (-1))]) rfl rfl rfl (Nat.le_of_ble_eq_true rfl)) ?_
     intro _ GX DN Ap; clear Ao
     have D : Sep NoB w GX [(blk BQ 3 [(iv (-1))]), (blk P 106 [(iv t.frm), (iv t.dst), vr, vb, (iv t.err)]), (blk b4 37 [(iv sc), vt, vm]), (sl vr 2 t.rows.length (pairs t.rows)), (sl vb 1 t.brk.length (ints t.brk))] := DN; clear DN DM
     refine n4 (s1 Ap (a_4 rfl fd_106_3 Ap.e) fun FL Aq => ?_); clear Ap FK
     refine s1 Aq (a_2 rfl w_2 Aq.e (D.bk 1 rfl) rfl) fun FM o => ?_; clear Aq FL
     refine s1 o (h_6 rfl ev0 (ev2 o.e o.e)) fun FN p => ?_; clear o FM
     refine s2 p (b_3 rfl en_69 (ev2 p.e p.e) (allB_int t.brk (ae_6 t) BQ _ 96 #[] #[(bptr BQ 0), (bptr P 0)] (brkB t) _ (D.lend (i := 0) rfl rfl (L' := [(sl vb 1 t.brk.length (ints t.brk))]) (js := [4]) ⟨rfl, by decide, D.sk 4 rfl, ⟨_, rfl, fun _ hz => hz⟩, trivial⟩) hbl ⟨en_96, fun i hi hz W hW hb => lastclo_ok _ _ t vr vb _ _ W ((D.updB (i := 0) rfl hW hb).lend (i := 0) rfl rfl (L' := [rob P 106 [.int .i64 t.frm, .int .i64 t.dst, vr, vb, .int .i64 t.err], (sl vr 2 t.rows.length (pairs t.rows)), (sl vb 1 t.brk.length (ints t.brk))]) (js := [1, 3, 4]) ⟨rfl, by decide, (D.updB (i := 0) rfl hW hb).bk 1 rfl, ⟨_, rfl, fun _ hz => hz⟩, rfl, by decide, (D.updB (i := 0) rfl hW hb).sk 3 rfl, ⟨_, rfl, fun _ hz => hz⟩, rfl, by decide, (D.updB (i := 0) rfl hW hb).sk 4 rfl, ⟨_, rfl, fun _ hz => hz⟩, trivial⟩) (by have := last_bd (t := t) i hz; omega) hrl⟩)) ?_
     rintro FO _ HR ⟨rfl, DG, lx349, DH⟩ As; have Dt := D.updB (i := 0) rfl DG DH; clear DG DH p D FN
     refine s1 As (a_0 rfl As.e) fun HF CO => ?_; clear As FO
     exact n1 (c_2 (a_8 CO (.inl rfl) (a_3 CO rfl (.tmp rfl)) (⟨congrArg Value.bool (Eq.symm (tab_rest (by assumption) (by assumption) (by assumption) (by assumption) (by omega) (by assumption) (fun i hi => hst i (by omega)))), Dt.ext⟩)))
    skip
    rw [BM] at E
    refine c_0 E rfl (b_5 ?_)
    have CP := E.as [] rfl; clear E
    refine a_5 (s1 CP (a_0 rfl (evc _ _)) fun HG CQ => ?_); clear CP EI
    exact n1 (c_2 (a_6 (a_8 CQ (.inl rfl) (a_3 CQ rfl (.tmp rfl)) (⟨congrArg Value.bool (Eq.symm (by first | exact tab_rows (by assumption) | exact q_2 (by first | exact .inl (by assumption) | exact .inr (.inl (by assumption)) | exact .inr (.inr (.inl (by assumption))) | exact .inr (.inr (.inr (.inl (by assumption)))) | exact .inr (.inr (.inr (.inr (by omega))))))), BK.ext⟩))))
   skip
   rw [BL] at H
   refine s3 H fun FP CR => ?_; clear H DS
   refine s3 CR fun FQ CS => ?_; clear CR FP
   refine s3 CS fun FSa CT => ?_; clear CS FQ
   refine s3 CT fun FT At => ?_; clear CT FSa
   refine s1 At (b_6 rfl At.e (evc _ _)) fun FU Au => ?_; clear At FT
   refine s1 Au (a_1 rfl Au.e) fun FV CU => ?_; clear Au FU
   refine s3 CU fun FW CV => ?_; clear CU FV
   refine s3 CV fun FX CW => ?_; clear CV FW
   refine s3 CW fun FY CX => ?_; clear CW FX
   refine s3 CX fun FZ Av => ?_; clear CX FY
   refine s1 Av (b_6 rfl Av.e (evc _ _)) fun Fa Aw => ?_; clear Av FZ
   refine n1 (c_0 Aw rfl (b_5 ?_))
   have CY := Aw.as [] rfl; clear Aw
   refine a_5 (s1 CY (a_0 rfl (evc _ _)) fun HH CZ => ?_); clear CY Fa
   exact n1 (c_2 (a_6 (a_8 CZ (.inl rfl) (a_3 CZ rfl (.tmp rfl)) (⟨congrArg Value.bool (Eq.symm (by first | exact tab_rows (by assumption) | exact q_2 (by first | exact .inl (by assumption) | exact .inr (.inl (by assumption)) | exact .inr (.inr (.inl (by assumption))) | exact .inr (.inr (.inr (.inl (by assumption)))) | exact .inr (.inr (.inr (.inr (by omega))))))), B.ext⟩))))
  skip
  rw [Bl] at N
  refine s3 N fun Fb Ca => ?_; clear N Dv
  refine s3 Ca fun Fc Cb => ?_; clear Ca Fb
  refine s3 Cb fun Fd Cc => ?_; clear Cb Fc
  refine s3 Cc fun Fe Cd => ?_; clear Cc Fd
  refine s3 Cd fun Ff Ax => ?_; clear Cd Fe
  refine s1 Ax (b_6 rfl Ax.e (evc _ _)) fun Fg Ay => ?_; clear Ax Ff
  refine s1 Ay (a_1 rfl Ay.e) fun Fh Ce => ?_; clear Ay Fg
  refine s3 Ce fun Fi Cf => ?_; clear Ce Fh
  refine s3 Cf fun Fj Cg => ?_; clear Cf Fi
  refine s3 Cg fun Fk Ch => ?_; clear Cg Fj
  refine s3 Ch fun Fl Az => ?_; clear Ch Fk
  refine s1 Az (b_6 rfl Az.e (evc _ _)) fun Fm A0 => ?_; clear Az Fl
  refine s1 A0 (a_1 rfl A0.e) fun Fn Ci => ?_; clear A0 Fm
  refine s3 Ci fun Fo Cj => ?_; clear Ci Fn
  refine s3 Cj fun Fp Ck => ?_; clear Cj Fo
  refine s3 Ck fun Fq Cl => ?_; clear Ck Fp
  refine s3 Cl fun Fs A2 => ?_; clear Cl Fq
  refine s1 A2 (b_6 rfl A2.e (evc _ _)) fun Ft A3 => ?_; clear A2 Fs
  refine s1 A3 (a_1 rfl A3.e) fun Fu Cm => ?_; clear A3 Ft
  refine s3 Cm fun Fv Cn => ?_; clear Cm Fu
  refine s3 Cn fun Fw Co => ?_; clear Cn Fv
  refine s3 Co fun Fx Cp => ?_; clear Co Fw
  refine s3 Cp fun Fy A4 => ?_; clear Cp Fx
  refine s1 A4 (b_6 rfl A4.e (evc _ _)) fun Fz A5 => ?_; clear A4 Fy
  refine n1 (c_0 A5 rfl (b_5 ?_))
  have Cq := A5.as [] rfl; clear A5
  refine a_5 (s1 Cq (a_0 rfl (evc _ _)) fun HI Cr => ?_); clear Cq Fz
  exact n1 (c_2 (a_6 (a_8 Cr (.inl rfl) (a_3 Cr rfl (.tmp rfl)) (⟨congrArg Value.bool (Eq.symm (by first | exact tab_rows (by assumption) | exact q_2 (by first | exact .inl (by assumption) | exact .inr (.inl (by assumption)) | exact .inr (.inr (.inl (by assumption))) | exact .inr (.inr (.inr (.inl (by assumption)))) | exact .inr (.inr (.inr (.inr (by omega))))))), B.ext⟩))))
 skip
 rw [Bk] at M
 refine s3 M fun F0 Cs => ?_; clear M Du
 refine s3 Cs fun F1 Ct => ?_; clear Cs F0
 refine s3 Ct fun F2 Cu => ?_; clear Ct F1
 refine s3 Cu fun F3 Cv => ?_; clear Cu F2
 refine s3 Cv fun F4 A6 => ?_; clear Cv F3
 refine s1 A6 (b_6 rfl A6.e (evc _ _)) fun F5 A7 => ?_; clear A6 F4
 refine s1 A7 (a_1 rfl A7.e) fun F6 Cw => ?_; clear A7 F5
 refine s3 Cw fun F7 Cx => ?_; clear Cw F6
 refine s3 Cx fun F8 Cy => ?_; clear Cx F7
 refine s3 Cy fun F9 Cz => ?_; clear Cy F8
 refine s3 Cz fun GA C0 => ?_; clear Cz F9
 refine s3 C0 fun GB A8 => ?_; clear C0 GA
 refine s1 A8 (b_6 rfl A8.e (evc _ _)) fun GC A9 => ?_; clear A8 GB
 refine s1 A9 (a_1 rfl A9.e) fun GD C1 => ?_; clear A9 GC
 refine s3 C1 fun GE C2 => ?_; clear C1 GD
 refine s3 C2 fun GF C3 => ?_; clear C2 GE
 refine s3 C3 fun GG C4 => ?_; clear C3 GF
 refine s3 C4 fun GH BA => ?_; clear C4 GG
 refine s1 BA (b_6 rfl BA.e (evc _ _)) fun GI BB => ?_; clear BA GH
 refine s1 BB (a_1 rfl BB.e) fun GJ C5 => ?_; clear BB GI
 refine s3 C5 fun GK C6 => ?_; clear C5 GJ
 refine s3 C6 fun GL C7 => ?_; clear C6 GK
 refine s3 C7 fun GM C8 => ?_; clear C7 GL
 refine s3 C8 fun GN BC => ?_; clear C8 GM
 refine s1 BC (b_6 rfl BC.e (evc _ _)) fun GO BD => ?_; clear BC GN
 refine s1 BD (a_1 rfl BD.e) fun GP C9 => ?_; clear BD GO
 refine s3 C9 fun GQ DA => ?_; clear C9 GP
 refine s3 DA fun GR DB => ?_; clear DA GQ
 refine s3 DB fun GS DC => ?_; clear DB GR
 refine s3 DC fun GT BE => ?_; clear DC GS
 refine s1 BE (b_6 rfl BE.e (evc _ _)) fun GU BF => ?_; clear BE GT
 refine n1 (c_0 BF rfl (b_5 ?_))
 have DD := BF.as [] rfl; clear BF
 refine a_5 (s1 DD (a_0 rfl (evc _ _)) fun HJ DE => ?_); clear DD GU
 exact n1 (c_2 (a_6 (a_8 DE (.inl rfl) (a_3 DE rfl (.tmp rfl)) (⟨congrArg Value.bool (Eq.symm (by first | exact tab_rows (by assumption) | exact q_2 (by first | exact .inl (by assumption) | exact .inr (.inl (by assumption)) | exact .inr (.inr (.inl (by assumption))) | exact .inr (.inr (.inr (.inl (by assumption)))) | exact .inr (.inr (.inr (.inr (by omega))))))), q.ext⟩))))
end Go.Proofs.Ytohgladndklciaa

namespace Go.Hard
structure o_6 (b : h_4) : Prop where
  tl : b.tabs.length ≤ 9
  ml : b.macs.length ≤ 9
  tab : ∀ i, (b.tabs.getD i tab0).rows.length ≤ 12 ∧ (b.tabs.getD i tab0).brk.length ≤ 12
  mac : ∀ i, (b.macs.getD i mac0).blocks.length ≤ 8
def ab_0 (b : h_4) (n : Nat) : Bool := decide (b.tabs.length ≤ 9) && decide (b.macs.length ≤ 9) && decide (n ≤ 12) && allI b.tabs.length (fun i => decide ((b.tabs.getD i tab0).rows.length ≤ 12) && decide ((b.tabs.getD i tab0).brk.length ≤ 12)) && allI b.macs.length (fun i => decide ((b.macs.getD i mac0).blocks.length ≤ 8))
theorem getD_out {α : Type} {l : List α} {d : α} {i : Nat} (h : l.length ≤ i) : l.getD i d = d := by simp [List.getD, List.getElem?_eq_none h]
theorem thin_iff {b : h_4} {n : Nat} : ab_0 b n = true ↔ o_6 b ∧ n ≤ 12 := by
  unfold ab_0
  simp only [Bool.and_eq_true, decide_eq_true_eq, i_3]
  constructor
  · rintro ⟨⟨⟨⟨h1, h2⟩, h3⟩, h4⟩, h5⟩
    refine ⟨⟨h1, h2, fun i => ?_, fun i => ?_⟩, h3⟩
    · rcases Nat.lt_or_ge i b.tabs.length with h | h
      · exact h4 i h
      · rw [getD_out h]; exact ⟨Nat.zero_le _, Nat.zero_le _⟩
    · rcases Nat.lt_or_ge i b.macs.length with h | h
      · exact h5 i h
      · rw [getD_out h]; exact Nat.zero_le _
  · rintro ⟨h, h3⟩
    exact ⟨⟨⟨⟨h.tl, h.ml⟩, h3⟩, fun i _ => h.tab i⟩, fun i _ => h.mac i⟩
section
variable {b : h_4} {n : Nat} {k : Nat}
theorem o_6.rl (h : o_6 b) (i : Nat) : (b.tabs.getD i tab0).rows.length ≤ 1000000 := by have := (h.tab i).1; omega
theorem o_6.bl (h : o_6 b) (i : Nat) : (b.tabs.getD i tab0).brk.length ≤ 1000000 := by have := (h.tab i).2; omega
theorem o_6.kl (h : o_6 b) (i : Nat) : (b.macs.getD i mac0).blocks.length ≤ 1000000 := by have := h.mac i; omega
theorem thin_not (h : ¬ (o_6 b ∧ n ≤ 12)) : ab_0 b n = false := by
  cases hb : ab_0 b n with
  | false => rfl
  | true => exact absurd (thin_iff.1 hb) h
theorem thin_n1 (h : 9 < b.tabs.length ∨ 9 < b.macs.length ∨ 12 < n) : ab_0 b n = false := thin_not fun g => by have := g.1.tl; have := g.1.ml; omega
theorem thin_n2 (h : 12 < (b.tabs.getD k tab0).rows.length ∨ 12 < (b.tabs.getD k tab0).brk.length) : ab_0 b n = false := thin_not fun g => by have := g.1.tab k; omega
theorem thin_n3 (h : 8 < (b.macs.getD k mac0).blocks.length) : ab_0 b n = false := thin_not fun g => by have := g.1.mac k; omega
theorem thin_y (h1 : b.tabs.length ≤ 9) (h2 : b.macs.length ≤ 9) (h3 : n ≤ 12) (h4 : ∀ i, i < b.tabs.length → (b.tabs.getD i tab0).rows.length ≤ 12 ∧ (b.tabs.getD i tab0).brk.length ≤ 12) (h5 : ∀ i, i < b.macs.length → (b.macs.getD i mac0).blocks.length ≤ 8) : ab_0 b n = true := by
  unfold ab_0
  simp only [Bool.and_eq_true, decide_eq_true_eq, i_3]
  exact ⟨⟨⟨⟨h1, h2⟩, h3⟩, h4⟩, h5⟩
structure f_9 (b : h_4) : Prop where
  tl : b.tabs.length ≤ 6
  ml : b.macs.length ≤ 6
  tab : ∀ i, i < b.tabs.length → (b.tabs.getD i tab0).rows.length ≤ 8
  mac : ∀ i, i < b.macs.length → (b.macs.getD i mac0).blocks.length ≤ 5
theorem x_7 (h : ¬ f_9 b) : g_7 b = 3 := by
  unfold g_7
  split
  · rfl
  · rename_i h1
    split
    · rfl
    · rename_i h2
      split
      · rfl
      · rename_i h3
        rw [Bool.not_eq_false, i_3] at h2 h3
        exact absurd ⟨by omega, by omega, fun i hi => of_decide_eq_true (h2 i hi), fun i hi => of_decide_eq_true (h3 i hi)⟩ h
theorem q_8 (h : f_9 b) : g_7 b = if inB b.scales 1 4 = false ∨ allI b.tabs.length (fun i => tabB b.scales (b.tabs.getD i tab0)) = false ∨ allI b.macs.length (fun i => macB b.scales (b.macs.getD i mac0)) = false then 1 else 0 := by
  unfold g_7
  have a := h.tl; have c := h.ml
  rw [if_neg (by omega), if_neg (by rw [Bool.not_eq_false, i_3]; exact fun i hi => decide_eq_true (h.tab i hi)), if_neg (by rw [Bool.not_eq_false, i_3]; exact fun i hi => decide_eq_true (h.mac i hi))]
theorem m_5 (h : 6 < b.tabs.length ∨ 6 < b.macs.length) : g_7 b = 3 := x_7 fun g => by have := g.tl; have := g.ml; omega
theorem r_7 (hk : k < b.tabs.length) (h : 8 < (b.tabs.getD k tab0).rows.length) : g_7 b = 3 := x_7 fun g => by have := g.tab k hk; omega
theorem r_8 (hk : k < b.macs.length) (h : 5 < (b.macs.getD k mac0).blocks.length) : g_7 b = 3 := x_7 fun g => by have := g.mac k hk; omega
theorem n_5 (g : f_9 b) (h : inB b.scales 1 4 = false) : g_7 b = 1 := by rw [q_8 g, if_pos (.inl h)]
theorem r_6 (g : f_9 b) (hk : k < b.tabs.length) (h : tabB b.scales (b.tabs.getD k tab0) = false) : g_7 b = 1 := by rw [q_8 g, if_pos (.inr (.inl (allI_no hk h)))]
theorem j_6 (g : f_9 b) (hk : k < b.macs.length) (h : macB b.scales (b.macs.getD k mac0) = false) : g_7 b = 1 := by rw [q_8 g, if_pos (.inr (.inr (allI_no hk h)))]
theorem v_1 (g : f_9 b) (h1 : inB b.scales 1 4 = true) (h2 : ∀ i, i < b.tabs.length → tabB b.scales (b.tabs.getD i tab0) = true) (h3 : ∀ i, i < b.macs.length → macB b.scales (b.macs.getD i mac0) = true) : g_7 b = 0 := by
  rw [q_8 g, if_neg]
  rw [h1, i_3.2 h2, i_3.2 h3]; decide
theorem check_3b' (h : (List.range b.tabs.length).all (fun i => decide (((b.tabs.getD i tab0).rows.length : Int) ≤ 8)) = false) : g_7 b = 3 := by
  refine x_7 fun g => ?_
  have : (List.range b.tabs.length).all (fun i => decide (((b.tabs.getD i tab0).rows.length : Int) ≤ 8)) = true := List.all_eq_true.2 fun i hi => decide_eq_true (by have := g.tab i (List.mem_range.1 hi); omega)
  rw [this] at h; cases h
theorem check_3c' (h : (List.range b.macs.length).all (fun i => decide (((b.macs.getD i mac0).blocks.length : Int) ≤ 5)) = false) : g_7 b = 3 := by
  refine x_7 fun g => ?_
  have : (List.range b.macs.length).all (fun i => decide (((b.macs.getD i mac0).blocks.length : Int) ≤ 5)) = true := List.all_eq_true.2 fun i hi => decide_eq_true (by have := g.mac i (List.mem_range.1 hi); omega)
  rw [this] at h; cases h
theorem s_0 (h1 : ¬ 6 < b.tabs.length) (h2 : ¬ 6 < b.macs.length) (h3 : (List.range b.tabs.length).all (fun i => decide (((b.tabs.getD i tab0).rows.length : Int) ≤ 8)) = true) (h4 : (List.range b.macs.length).all (fun i => decide (((b.macs.getD i mac0).blocks.length : Int) ≤ 5)) = true) : f_9 b :=
  ⟨by omega, by omega, fun i hi => by have := of_decide_eq_true (List.all_eq_true.1 h3 i (List.mem_range.2 hi)); omega, fun i hi => by have := of_decide_eq_true (List.all_eq_true.1 h4 i (List.mem_range.2 hi)); omega⟩
theorem check_1b' (g : f_9 b) (h : (List.range b.tabs.length).all (fun i => tabB b.scales (b.tabs.getD i tab0)) = false) : g_7 b = 1 := by rw [q_8 g, if_pos (.inr (.inl h))]
theorem check_1c' (g : f_9 b) (h : (List.range b.macs.length).all (fun i => macB b.scales (b.macs.getD i mac0)) = false) : g_7 b = 1 := by rw [q_8 g, if_pos (.inr (.inr h))]
theorem check_0' (g : f_9 b) (h1 : inB b.scales 1 4 = true) (h2 : (List.range b.tabs.length).all (fun i => tabB b.scales (b.tabs.getD i tab0)) = true) (h3 : (List.range b.macs.length).all (fun i => macB b.scales (b.macs.getD i mac0)) = true) : g_7 b = 0 :=
  v_1 g h1 (i_3.1 h2) (i_3.1 h3)
theorem ac_3 {m : MacD} {n : Int} (h : inB m.scale 0 (n - 1) = false) : macB n m = false := by unfold macB; rw [h]; rfl
theorem ac_4 {m : MacD} {n : Int} {k : Nat} (hk : k < m.blocks.length) (h : blkB (m.blocks.getD k (0, 0, 0)) = false) : macB n m = false := by unfold macB; rw [allI_no hk h, Bool.and_false]
theorem mac_y {m : MacD} {n : Int} (h1 : inB m.scale 0 (n - 1) = true) (h : ∀ k, k < m.blocks.length → blkB (m.blocks.getD k (0, 0, 0)) = true) : macB n m = true := by unfold macB; rw [h1, i_3.2 h]; rfl
theorem g_3 {x : Int × Int × Int} (h : z_8 (x.1, x.2.1) = false ∨ inB x.2.2 0 100000 = false) : blkB x = false := by unfold blkB; rcases h with h | h <;> rw [h] <;> simp
theorem blk_y {x : Int × Int × Int} (h1 : z_8 (x.1, x.2.1) = true) (h2 : inB x.2.2 0 100000 = true) : blkB x = true := by unfold blkB; rw [h1, h2]; rfl
end
end Go.Hard
