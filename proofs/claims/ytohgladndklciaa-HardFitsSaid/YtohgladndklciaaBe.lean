/-
  Walks through the functions of the seat, printed by a program of ours (gowalk), a theorem a function: what the call returns and what it leaves in memory.
-/
import Derived.Test.YtohgladndklciaaBd
set_option linter.unusedSimpArgs false
set_option linter.unusedVariables false
namespace Go.Proofs.Ytohgladndklciaa
open Go.RowKit Go.Shelf Go.Eng Go.Hard
set_option maxHeartbeats 4000000 in
theorem rfits_ok (b : g_9) (vt vm : Value) (lr lb lk : Nat → Value) (w : World) (hT : i_6 w vt lr lb b.tabs) (hM : j_2 w vm lk b.macs) (hth : n_6 b) (hb : p_9 b) (l : List (Int × Int)) (xl : Value) (hxl : SlAt w xl 2 l.length (pairs l)) (hl : aa_0 b l) (z : List Int) (xz : Value) (hxz : SlAt w xz 1 z.length (ints z)) (Ep : z.length ≤ 1000000) :
  Calls Try.prog 38 #[(Value.agg #[(Value.int .i64 b.scales), vt, vm]), xl, xz] w (Ret fun v w' => v = .bool (z_5 b l z) ∧ Ext NoB w w') := by
 refine a_8 Try.func38 rfl fun a0 A2 => ?_
 replace A2 : Fr 108 [] [(0, (Value.agg #[(Value.int .i64 b.scales), vt, vm])), (1, xl), (2, xz)] a0 := A2
 have hsc := hb.scales; have htl9 := hth.tl; have hml9 := hth.ml; have hll := hl.len
 have DB : Sep NoB w w [(e_1 false vt lr lb b.tabs), (f_0 false vm lk b.macs), (sl xl 2 l.length (pairs l)), (sl xz 1 z.length (ints z))] := e_3 ⟨rfl, hT, rfl, hM, rfl, hxl, rfl, hxz, trivial⟩
 refine m2 ?_
 refine s2 A2 (e_7 DB rfl (A2.ev rfl) (cs := [(Value.int .i64 b.scales), vt, vm]) rfl) ?_
 rintro a1 _ w3 ⟨D, rfl, A3⟩ DA; clear A2 DB a0
 refine s1 DA (a_0 rfl (evc _ _)) fun a6 Cf => ?_; clear DA a1
 refine n2 ?_
 refine m2 ?_
 refine s1 Cf (a_1 rfl (Cf.ev rfl)) fun a8 Cj => ?_; clear Cf a6
 refine s1 Cj (d_2 rfl k_2 (Cj.ev rfl) (A3.sk 4 rfl)) fun Dy A5 => ?_; clear Cj a8
 refine s1 A5 (a_4 rfl fd_25_0 (A5.ev rfl)) fun Dz A6 => ?_; clear A5 Dy
 refine s1 A6 (a_3 rfl ty_3 (A6.ev rfl) (A3.bk 0 rfl) rfl) fun D0 AL => ?_; clear A6 Dz
 refine s1 AL (w_8 rfl (AL.ev rfl) (AL.ev rfl)) fun C6 R => ?_; clear AL D0
 refine n1 ?_
 by_cases Cq : (z.length : Int) = b.scales
 ·skip
  rw [decide_eq_true Cq] at R
  refine b_5 R rfl ?_
  refine c_6 ?_
  refine a_9 ?_
  refine b_6 ?_
  refine b_6 ?_
  have CY := R.as [(3, (bptr D 0)), (1, xl), (2, xz)] rfl; clear R
  refine a_5 ?_
  refine s1 CY (a_0 rfl (evc _ _)) fun D1 CZ => ?_; clear CY C6
  refine n1 ?_
  refine c_3 ?_
  have Ca := CZ.as [(7, (Value.int .i64 0)), (3, (bptr D 0)), (1, xl), (2, xz)] rfl; clear CZ
  refine g_4 (G := Nat) (fun (k : Nat) a_ w_ => Fr 108 [] [(7, (Value.int .i64 (k : Int))), (3, (bptr D 0)), (1, xl), (2, xz)] a_ ∧ Sep NoB w w_ [(blk D 25 [(Value.int .i64 b.scales), vt, vm]), (e_1 false vt lr lb b.tabs), (f_0 false vm lk b.macs), (sl xl 2 l.length (pairs l)), (sl xz 1 z.length (ints z))] ∧ (k ≤ z.length) ∧ ((z.length : Int) = b.scales) ∧ (∀ i, i < k → inB (z.getD i 0) 0 100000 = true)) (fun k => z.length - k) 0 ⟨Ca.as _ rfl, A3, by omega, by omega, (fun _ h => absurd h (Nat.not_lt_zero _))⟩ ?_
  clear Ca A3 D1
  rintro k D2 Er ⟨A7, W, hkk, hzn, Ct⟩
  refine b_6 ?_
  refine m2 ?_
  refine s1 A7 (a_1 rfl (A7.ev rfl)) fun D3 A8 => ?_; clear A7 D2
  refine s1 A8 (a_1 rfl (A8.ev rfl)) fun D4 A9 => ?_; clear A8 D3
  refine s1 A9 (d_2 rfl k_2 (A9.ev rfl) (W.sk 4 rfl)) fun D5 Aj => ?_; clear A9 D4
  refine s1 Aj (f_5 rfl (Aj.ev rfl) (Aj.ev rfl)) fun C7 P => ?_; clear Aj D5
  refine n1 ?_
  by_cases Cr : (k : Int) < (z.length : Int)
  ·skip
   rw [decide_eq_true Cr] at P
   refine c_0 P rfl ?_
   refine c_6 ?_
   refine a_9 ?_
   refine b_6 ?_
   refine c_3 ?_
   refine m2 ?_
   refine s1 P (a_1 rfl (P.ev rfl)) fun D6 BA => ?_; clear P C7
   refine s1 BA (a_1 rfl (BA.ev rfl)) fun D7 Am => ?_; clear BA D6
   refine s1 Am (b_2 rfl k_2 ty_3 (Am.ev rfl) (i := k) (Am.ev rfl) (W.sk 4 rfl) (by decide) (by omega)) fun D8 BB => ?_; clear Am D7
   refine s1 BB (c_5 rfl ty_3 (BB.ev rfl) (W.sk 4 rfl) (ints_at (by omega))) fun D9 BC => ?_; clear BB D8
   refine s2 BC (b_1 rfl en_53 (ev1 (BC.ev rfl)) (rvalue_ok _ _)) ?_
   rintro EA _ Es ⟨rfl, Cl⟩ BD; have Cn := W.step Cl; clear Cl BC W D9
   refine s1 BD (e_9 rfl (BD.ev rfl)) fun C8 S => ?_; clear BD EA
   refine n1 ?_
   rcases Bool.eq_false_or_eq_true ((inB (z.getD k 0) 0 100000)) with BO | BO
   ·skip
    rw [BO] at S
    refine b_5 S rfl ?_
    refine c_6 ?_
    refine g_0 ?_
    refine a_9 ?_
    have BE := S.as [(7, (Value.int .i64 (k : Int))), (3, (bptr D 0)), (1, xl), (2, xz)] rfl; clear S
    refine a_5 ?_
    refine s1 BE (a_1 rfl (BE.ev rfl)) fun EB BF => ?_; clear BE C8
    refine s1 BF (f_1 rfl (BF.ev rfl) (evc _ _) (by omega) (by omega)) fun EC BG => ?_; clear BF EB
    refine s1 BG (a_0 rfl (BG.ev rfl)) fun Em Dp => ?_; clear BG EC
    refine e_8 ?_
    exact a_9 ⟨k + 1, ⟨Dp.as _ rfl, Cn, by omega, hzn, (fun i hi => by rcases Nat.lt_succ_iff_lt_or_eq.1 hi with h | h; exact Ct i h; subst h; assumption)⟩, by omega⟩
   skip
   rw [BO] at S
   refine c_0 S rfl ?_
   refine b_6 ?_
   have Cb := S.as [] rfl; clear S
   refine a_5 ?_
   refine s1 Cb (a_0 rfl (evc _ _)) fun En Cc => ?_; clear Cb C8
   refine n1 ?_
   refine c_1 ?_
   refine b_9 ?_
   refine a_6 ?_
   refine a_6 ?_
   refine b_9 ?_
   refine a_6 ?_
   refine a_7 Cc (.inl rfl) (a_2 Cc rfl (.tmp rfl)) ?_
   exact ⟨congrArg Value.bool (Eq.symm (by first | exact y_2 (by omega) | exact fits_n1 (k := k) (by omega) (by assumption) | exact y_3 (k := B) (by omega) (by assumption) | exact fits_n3 (k := A) (by omega) ((l_9 (by assumption)).trans (by assumption)))), Cn.ext⟩
  skip
  rw [decide_eq_false Cr] at P
  refine b_5 P rfl ?_
  refine g_3 ?_
  refine b_3 ?_
  refine b_3 ?_
  refine f_2 ?_
  refine a_9 ?_
  refine b_6 ?_
  refine m2 ?_
  refine s1 P (a_0 rfl (evc _ _)) fun ED Cd => ?_; clear P C7
  refine n1 ?_
  refine c_3 ?_
  have Ce := Cd.as [(8, (Value.int .i64 0)), (3, (bptr D 0)), (1, xl), (2, xz)] rfl; clear Cd
  refine g_4 (G := Nat) (fun (B : Nat) a_ w_ => Fr 108 [] [(8, (Value.int .i64 (B : Int))), (3, (bptr D 0)), (1, xl), (2, xz)] a_ ∧ Sep NoB w w_ [(blk D 25 [(Value.int .i64 b.scales), vt, vm]), (e_1 false vt lr lb b.tabs), (f_0 false vm lk b.macs), (sl xl 2 l.length (pairs l)), (sl xz 1 z.length (ints z))] ∧ (B ≤ l.length) ∧ (∀ i, i < B → y_1 b l z i = true)) (fun B => l.length - B) 0 ⟨Ce.as _ rfl, W, by omega, (fun _ h => absurd h (Nat.not_lt_zero _))⟩ ?_
  clear Ce W ED
  rintro B EE Et ⟨BH, AB, hkk1, DC⟩
  refine b_6 ?_
  refine m2 ?_
  refine s1 BH (a_1 rfl (BH.ev rfl)) fun EF BI => ?_; clear BH EE
  refine s1 BI (a_1 rfl (BI.ev rfl)) fun EG BJ => ?_; clear BI EF
  refine s1 BJ (d_2 rfl aa_7 (BJ.ev rfl) (AB.sk 3 rfl)) fun EH An => ?_; clear BJ EG
  refine s1 An (f_5 rfl (An.ev rfl) (An.ev rfl)) fun EI T => ?_; clear An EH
  refine n1 ?_
  by_cases Cs : (B : Int) < (l.length : Int)
  ·skip
   rw [decide_eq_true Cs] at T
   have hmv := hl.macV hb (k := B) (by omega); have hsv := hmv.scale; have hbb := biasF_bd hmv; have hlm := hl.mac B (by omega); have hlr := hl.read B (by omega); have Eo := i_4.1 (Ct (b.macs.getD (l.getD B (0, 0)).1.toNat mac0).scale.toNat (by omega))
   refine c_0 T rfl ?_
   refine c_6 ?_
   refine a_9 ?_
   refine b_6 ?_
   refine c_3 ?_
   refine b_6 ?_
   have Cg := T.as [(8, (Value.int .i64 (B : Int))), (3, (bptr D 0)), (1, xl), (2, xz)] rfl; clear T
   refine x_6 mixed Cg AB 10 [[], [0], [], [], [2, 3], [4], [5], [1, 6], [7], []] [(yw (bptr D 2)), (yw vm), (yw xl), (yw (Value.int .i64 (B : Int))), (yw (eptr xl (B * 2))), (yw (eptr xl (B * 2 + 0))), (yw (Value.int .i64 ((l.getD B (0, 0)).1))), (yw (eptr vm (((l.getD B (0, 0)).1).toNat * 2))), (yw (Value.agg #[(Value.int .i64 ((b.macs.getD (((l.getD B (0, 0)).1).toNat) mac0).scale)), (lk (((l.getD B (0, 0)).1).toNat))])), (fun (K : Nat → Value) (v_ : Value) (rs_ : List Res) => ∃ (b9_ : Nat), v_ = (bptr b9_ 0) ∧ rs_ = [(blk b9_ 61 [(Value.int .i64 0), (Value.slice none 0 0)])])] (by decide +kernel) (by decide +kernel) rfl rfl ⟨dw, dw, dw, dw, dw, dw, dw, dw, dw, (fun _ _ _ _ _ h_ => h_), trivial⟩ ?_ ?_
   ·skip
    refine ⟨fun a w K hA hS hd => gv1 (a_4 rfl n_8 (hA.ev rfl)), ?_⟩
    refine ⟨fun a w K hA hS hd => gv1 (a_3 rfl aa_4 (gu hd 0) (hS.bk 0 rfl) rfl), ?_⟩
    refine ⟨fun a w K hA hS hd => gv1 (a_1 rfl (hA.ev rfl)), ?_⟩
    refine ⟨fun a w K hA hS hd => gv1 (a_1 rfl (hA.ev rfl)), ?_⟩
    refine ⟨fun a w K hA hS hd => gv1 (b_2 rfl aa_7 ty_67 (gu hd 2) (i := B) (gu hd 3) (hS.sk 3 rfl) (by decide) (by omega)), ?_⟩
    refine ⟨fun a w K hA hS hd => gv1 (d_8 rfl fd_67_0 (gu hd 4) (hS.sk 3 rfl) (by rw [((hS.sk 3 rfl)).1]; omega)), ?_⟩
    refine ⟨fun a w K hA hS hd => gv1 (c_5 rfl ty_3 (gu hd 5) (hS.sk 3 rfl) (h_1 (by omega))), ?_⟩
    refine ⟨fun a w K hA hS hd => gv1 (b_2 rfl aa_6 z_2 (gu hd 1) (i := ((l.getD B (0, 0)).1).toNat) ((gu hd 6).trans (h_6 (by omega))) (c_2 (hS.ok 2 _ rfl)).macs (by decide) (by omega)), ?_⟩
    refine ⟨fun a w K hA hS hd => gv1 (e_2 rfl z_2 (gu hd 7) (c_2 (hS.ok 2 _ rfl)).macs (r_1 (by omega)) rfl (by decide)), ?_⟩
    refine ⟨fun a w K hA hS hd => d_7 rfl (valloc rfl ze_61 (cs := [(Value.int .i64 0), (Value.slice none 0 0)]) rfl (fun b_ => ⟨b_, rfl, rfl⟩)), ?_⟩
    trivial
   intro C9 EL K rsf85 Ch I BM; clear Cg AB
   obtain ⟨BP, Dq⟩ := I 9 (by decide)
   obtain ⟨b9_, Cv, Cu⟩ := Dq
   have BN : Sep NoB w EL [(blk b9_ 61 [(Value.int .i64 0), (Value.slice none 0 0)]), (blk D 25 [(Value.int .i64 b.scales), vt, vm]), (e_1 false vt lr lb b.tabs), (f_0 false vm lk b.macs), (sl xl 2 l.length (pairs l)), (sl xz 1 z.length (ints z))] := by rw [show catR rsf85 0 10 = ([(blk b9_ 61 [(Value.int .i64 0), (Value.slice none 0 0)])] : List Res) by (try simp only [catR, gr (I 0 (by decide)), gr (I 1 (by decide)), gr (I 2 (by decide)), gr (I 3 (by decide)), gr (I 4 (by decide)), gr (I 5 (by decide)), gr (I 6 (by decide)), gr (I 7 (by decide)), gr (I 8 (by decide)), Cu]); (try rfl)] at BM; exact BM
   have Ci := Ch.add (gs (I 8 (by decide))); clear Ch
   rw [Cv] at BP
   have Ao : Fr 108 [] [(9, (bptr b9_ 0)), (46, (Value.agg #[(Value.int .i64 ((b.macs.getD (((l.getD B (0, 0)).1).toNat) mac0).scale)), (lk (((l.getD B (0, 0)).1).toNat))])), (8, (Value.int .i64 (B : Int))), (3, (bptr D 0)), (1, xl), (2, xz)] C9 := Ci.add (h_8 BP rfl); clear Ci
   clear I BM BP
   clear Cu
   clear Cv
   refine s7 Ao (b_8 BN rfl z_2 (Ao.ev rfl) (Ao.ev rfl) (i := 0) rfl (vs := [(Value.int .i64 ((b.macs.getD (((l.getD B (0, 0)).1).toNat) mac0).scale)), (lk (((l.getD B (0, 0)).1).toNat))]) rfl rfl (h_4 rfl (h_4 (SlAt.one ((c_2 (BN.ok 3 _ rfl)).blk (i := ((l.getD B (0, 0)).1).toNat) (by omega))) t_4)) (Nat.le_of_ble_eq_true rfl)) ?_
   intro _ EM Co BK; clear Ao
   have Av : Sep NoB w EM [(blk b9_ 61 [(Value.int .i64 ((b.macs.getD (((l.getD B (0, 0)).1).toNat) mac0).scale)), (lk (((l.getD B (0, 0)).1).toNat))]), (blk D 25 [(Value.int .i64 b.scales), vt, vm]), (e_1 false vt lr lb b.tabs), (f_0 false vm lk b.macs), (sl xl 2 l.length (pairs l)), (sl xz 1 z.length (ints z))] := Co; clear Co BN
   refine n4 ?_
   refine s1 BK (c_4 rfl z_2 (BK.ev rfl) (Av.bk 0 rfl) (l := [(Value.int .i64 ((b.macs.getD (((l.getD B (0, 0)).1).toNat) mac0).scale)), (lk (((l.getD B (0, 0)).1).toNat))]) rfl rfl) fun EJ BL => ?_; clear BK C9
   refine s2 BL (b_1 rfl en_37 (ev1 (BL.ev rfl)) (rbias_ok _ (b.macs.getD (((l.getD B (0, 0)).1).toNat) mac0) _ _ ((c_2 (Av.ok 3 _ rfl)).blk (i := ((l.getD B (0, 0)).1).toNat) (by omega)) hmv (hth.kl _))) ?_
   rintro EK _ Eu ⟨rfl, Cm⟩ Ck; have Cp := Av.step Cm; clear Cm BL Av EJ
   refine s2 Ck (d_9 Cp rfl ze_27 (cs := [(Value.int .i64 0), (Value.int .i64 0)]) rfl) ?_
   rintro EO _ Ee ⟨AC, rfl, CH⟩ m; clear Ck Cp EK
   refine s7 m (b_8 CH rfl z_1 (m.ev rfl) (m.ev rfl) (i := 0) rfl (vs := [(Value.int .i64 ((d_5 (b.macs.getD (((l.getD B (0, 0)).1).toNat) mac0)).1)), (Value.int .i64 ((d_5 (b.macs.getD (((l.getD B (0, 0)).1).toNat) mac0)).2))]) rfl rfl rfl (Nat.le_of_ble_eq_true rfl)) ?_
   intro _ Dr CI BQ; clear m
   have CJ : Sep NoB w Dr [(blk AC 27 [(Value.int .i64 ((d_5 (b.macs.getD (((l.getD B (0, 0)).1).toNat) mac0)).1)), (Value.int .i64 ((d_5 (b.macs.getD (((l.getD B (0, 0)).1).toNat) mac0)).2))]), (blk b9_ 61 [(Value.int .i64 ((b.macs.getD (((l.getD B (0, 0)).1).toNat) mac0).scale)), (lk (((l.getD B (0, 0)).1).toNat))]), (blk D 25 [(Value.int .i64 b.scales), vt, vm]), (e_1 false vt lr lb b.tabs), (f_0 false vm lk b.macs), (sl xl 2 l.length (pairs l)), (sl xz 1 z.length (ints z))] := CI; clear CI CH
   refine n2 ?_
   have BR := BQ.as [(10, (bptr AC 0)), (9, (bptr b9_ 0)), (8, (Value.int .i64 (B : Int))), (3, (bptr D 0)), (1, xl), (2, xz)] rfl; clear BQ
   refine f_9 mixed BR CJ 15 [[], [], [0, 1], [2], [3], [], [], [6], [5, 7], [8], [4, 9], [], [11], [], [13]] [(Yd.val xl), (Yd.val (Value.int .i64 (B : Int))), (Yd.val (eptr xl (B * 2))), (Yd.val (eptr xl (B * 2 + 1))), (Yd.val (Value.int .i64 ((l.getD B (0, 0)).2))), (Yd.val xz), (Yd.val (bptr b9_ 0)), (Yd.val (Value.int .i64 ((b.macs.getD (((l.getD B (0, 0)).1).toNat) mac0).scale))), (Yd.val (eptr xz (((b.macs.getD (((l.getD B (0, 0)).1).toNat) mac0).scale).toNat * 1))), (Yd.val (Value.int .i64 (z.getD (((b.macs.getD (((l.getD B (0, 0)).1).toNat) mac0).scale).toNat) 0))), (Yd.val (Value.int .i64 (((l.getD B (0, 0)).2) - (z.getD (((b.macs.getD (((l.getD B (0, 0)).1).toNat) mac0).scale).toNat) 0)))), (Yd.val (bptr AC 0)), (Yd.val (Value.int .i64 ((d_5 (b.macs.getD (((l.getD B (0, 0)).1).toNat) mac0)).1))), (Yd.val (bptr AC 1)), (Yd.val (Value.int .i64 ((d_5 (b.macs.getD (((l.getD B (0, 0)).1).toNat) mac0)).2)))] (by decide +kernel) rfl rfl ?_ ?_
   ·skip
    refine dq (fun a w hA hS hd => a_1 rfl (hA.ev rfl)) ?_
    refine dq (fun a w hA hS hd => a_1 rfl (hA.ev rfl)) ?_
    refine dq (fun a w hA hS hd => b_2 rfl aa_7 ty_67 (hq hd 0) (i := B) (hq hd 1) (hS.sk 5 rfl) (by decide) (by omega)) ?_
    refine dq (fun a w hA hS hd => d_8 rfl fd_67_1 (hq hd 2) (hS.sk 5 rfl) (by rw [((hS.sk 5 rfl)).1]; omega)) ?_
    refine dq (fun a w hA hS hd => c_5 rfl ty_3 (hq hd 3) (hS.sk 5 rfl) (i_2 (by omega))) ?_
    refine dq (fun a w hA hS hd => a_1 rfl (hA.ev rfl)) ?_
    refine dq (fun a w hA hS hd => a_4 rfl fd_61_0 (hA.ev rfl)) ?_
    refine dq (fun a w hA hS hd => a_3 rfl ty_3 (hq hd 6) (hS.bk 1 rfl) rfl) ?_
    refine dq (fun a w hA hS hd => b_2 rfl k_2 ty_3 (hq hd 5) (i := ((b.macs.getD (((l.getD B (0, 0)).1).toNat) mac0).scale).toNat) ((hq hd 7).trans (h_6 (by omega))) (hS.sk 6 rfl) (by decide) (by omega)) ?_
    refine dq (fun a w hA hS hd => c_5 rfl ty_3 (hq hd 8) (hS.sk 6 rfl) (ints_at (by omega))) ?_
    refine dq (fun a w hA hS hd => g_6 rfl (hq hd 4) (hq hd 9) (by omega) (by omega)) ?_
    refine dq (fun a w hA hS hd => a_4 rfl x_8 (hA.ev rfl)) ?_
    refine dq (fun a w hA hS hd => a_3 rfl ty_3 (hq hd 11) (hS.bk 0 rfl) rfl) ?_
    refine dq (fun a w hA hS hd => a_4 rfl x_9 (hA.ev rfl)) ?_
    refine dq (fun a w hA hS hd => a_3 rfl ty_3 (hq hd 13) (hS.bk 0 rfl) rfl) ?_
    trivial
   intro DD Ef BS Ap u; clear BR CJ
   have BT := BS.add (hz u 10); clear BS
   have BU := BT.add (hz u 12); clear BT
   have X := BU.add (hz u 14); clear BU
   clear u
   refine s2 X (b_1 rfl z_0 (ev3 (X.ev rfl) (X.ev rfl) (X.ev rfl)) (y_7 _ _ _ _)) ?_
   rintro DE _ W_ ⟨rfl, hW_⟩ AD; have hW2_ := hW_.symm; subst hW2_; clear hW_ X DD
   refine s1 AD (e_9 rfl (AD.ev rfl)) fun CS L => ?_; clear AD DE
   refine n1 ?_
   rcases Bool.eq_false_or_eq_true ((inB (((l.getD B (0, 0)).2) - (z.getD (((b.macs.getD (((l.getD B (0, 0)).1).toNat) mac0).scale).toNat) 0)) ((d_5 (b.macs.getD (((l.getD B (0, 0)).1).toNat) mac0)).1) ((d_5 (b.macs.getD (((l.getD B (0, 0)).1).toNat) mac0)).2))) with Aw | Aw
   ·skip
    rw [Aw] at L
    refine b_5 L rfl ?_
    refine c_6 ?_
    refine g_0 ?_
    refine a_9 ?_
    have AE := L.as [(8, (Value.int .i64 (B : Int))), (3, (bptr D 0)), (1, xl), (2, xz)] rfl; clear L
    refine a_5 ?_
    refine s1 AE (a_1 rfl (AE.ev rfl)) fun DF AF => ?_; clear AE CS
    refine s1 AF (f_1 rfl (AF.ev rfl) (evc _ _) (by omega) (by omega)) fun DG AG => ?_; clear AF DF
    refine s1 AG (a_0 rfl (AG.ev rfl)) fun EP Cw => ?_; clear AG DG
    refine e_8 ?_
    have C1 := Ap.gkp (gpc 2 (gpc 3 (gpc 4 (gpc 5 (gpc 6 gpn))))); clear Ap
    exact a_9 ⟨B + 1, ⟨Cw.as _ rfl, C1, by omega, (fun i hi => by rcases Nat.lt_succ_iff_lt_or_eq.1 hi with h | h; exact DC i h; subst h; exact (fitR_is.trans (by assumption)))⟩, by omega⟩
   skip
   rw [Aw] at L
   refine c_0 L rfl ?_
   refine b_6 ?_
   have BV := L.as [] rfl; clear L
   refine a_5 ?_
   refine s1 BV (a_0 rfl (evc _ _)) fun EQ BW => ?_; clear BV CS
   refine n1 ?_
   refine c_1 ?_
   refine b_9 ?_
   refine a_6 ?_
   refine a_6 ?_
   refine b_9 ?_
   refine a_6 ?_
   refine a_7 BW (.inl rfl) (a_2 BW rfl (.tmp rfl)) ?_
   exact ⟨congrArg Value.bool (Eq.symm (by first | exact y_2 (by omega) | exact fits_n1 (k := k) (by omega) (by assumption) | exact y_3 (k := B) (by omega) (by assumption) | exact fits_n3 (k := A) (by omega) ((l_9 (by assumption)).trans (by assumption)))), Ap.ext⟩
  skip
  rw [decide_eq_false Cs] at T
  refine b_5 T rfl ?_
  refine g_3 ?_
  refine b_3 ?_
  refine b_3 ?_
  refine f_2 ?_
  refine a_9 ?_
  refine b_6 ?_
  refine b_6 ?_
  have BX := T.as [(3, (bptr D 0)), (2, xz)] rfl; clear T
  refine a_5 ?_
  refine s1 BX (a_0 rfl (evc _ _)) fun DH BY => ?_; clear BX EI
  refine n1 ?_
  refine c_3 ?_
  have BZ := BY.as [(11, (Value.int .i64 0)), (3, (bptr D 0)), (2, xz)] rfl; clear BY
  refine g_4 (G := Nat) (fun (A : Nat) a_ w_ => Fr 108 [] [(11, (Value.int .i64 (A : Int))), (3, (bptr D 0)), (2, xz)] a_ ∧ Sep NoB w w_ [(blk D 25 [(Value.int .i64 b.scales), vt, vm]), (e_1 false vt lr lb b.tabs), (f_0 false vm lk b.macs), (sl xl 2 l.length (pairs l)), (sl xz 1 z.length (ints z))] ∧ (A ≤ b.tabs.length) ∧ (∀ i, i < A → q_0 z (b.tabs.getD i tab0) = true)) (fun A => b.tabs.length - A) 0 ⟨BZ.as _ rfl, AB, by omega, (fun _ h => absurd h (Nat.not_lt_zero _))⟩ ?_
  clear BZ AB DH
  rintro A DI Eg ⟨AH, O, hkk2, A4⟩
  refine b_6 ?_
  refine m2 ?_
  refine s1 AH (a_1 rfl (AH.ev rfl)) fun DJ AI => ?_; clear AH DI
  refine s1 AI (a_4 rfl o_5 (AI.ev rfl)) fun DK AJ => ?_; clear AI DJ
  refine s1 AJ (a_3 rfl aa_9 (AJ.ev rfl) (O.bk 0 rfl) rfl) fun DL AK => ?_; clear AJ DK
  refine s1 AK (d_2 rfl ab_1 (AK.ev rfl) (b_7 (O.ok 1 _ rfl)).tabs) fun DM n => ?_; clear AK DL
  refine s1 n (f_5 rfl (n.ev rfl) (n.ev rfl)) fun CT J => ?_; clear n DM
  refine n1 ?_
  by_cases CR : (A : Int) < (b.tabs.length : Int)
  ·skip
   rw [decide_eq_true CR] at J
   have htv := hb.tab (k := A) (by omega); have hfd := htv.frm; have hdd := htv.dst; have hed := htv.err; have hmd := madeV_bd htv (z.getD (b.tabs.getD A tab0).frm.toNat 0)
   refine c_0 J rfl ?_
   refine c_6 ?_
   refine a_9 ?_
   refine b_6 ?_
   refine c_3 ?_
   refine m2 ?_
   refine s1 J (a_4 rfl o_5 (J.ev rfl)) fun DN AM => ?_; clear J CT
   refine s1 AM (a_3 rfl aa_9 (AM.ev rfl) (O.bk 0 rfl) rfl) fun DO AN => ?_; clear AM DN
   refine s1 AN (a_1 rfl (AN.ev rfl)) fun DP o => ?_; clear AN DO
   refine s1 o (b_2 rfl ab_1 ab_0 (o.ev rfl) (i := A) (o.ev rfl) (b_7 (O.ok 1 _ rfl)).tabs (by decide) (by omega)) fun DQ AO => ?_; clear o DP
   refine s1 AO (e_2 rfl ab_0 (AO.ev rfl) (b_7 (O.ok 1 _ rfl)).tabs (t_3 (by omega)) rfl (by decide)) fun DR Ba => ?_; clear AO DQ
   refine s2 Ba (d_9 O rfl ze_46 (cs := [(Value.int .i64 0), (Value.int .i64 0), (Value.slice none 0 0), (Value.slice none 0 0), (Value.int .i64 0)]) rfl) ?_
   rintro ER _ Eh ⟨C, rfl, x⟩ p; clear Ba O DR
   refine s7 p (b_8 x rfl ab_0 (p.ev rfl) (p.ev rfl) (i := 0) rfl (vs := [(Value.int .i64 ((b.tabs.getD A tab0).frm)), (Value.int .i64 ((b.tabs.getD A tab0).dst)), (lr A), (lb A), (Value.int .i64 ((b.tabs.getD A tab0).err))]) rfl rfl (h_4 rfl (h_4 rfl (h_4 (SlAt.one ((b_7 (x.ok 2 _ rfl)).row (i := A) (by omega))) (h_4 (SlAt.one ((b_7 (x.ok 2 _ rfl)).brk (i := A) (by omega))) (h_4 rfl t_4))))) (Nat.le_of_ble_eq_true rfl)) ?_
   intro _ Ds CK Bb; clear p
   have Aq : Sep NoB w Ds [(blk C 46 [(Value.int .i64 ((b.tabs.getD A tab0).frm)), (Value.int .i64 ((b.tabs.getD A tab0).dst)), (lr A), (lb A), (Value.int .i64 ((b.tabs.getD A tab0).err))]), (blk D 25 [(Value.int .i64 b.scales), vt, vm]), (e_1 false vt lr lb b.tabs), (f_0 false vm lk b.macs), (sl xl 2 l.length (pairs l)), (sl xz 1 z.length (ints z))] := CK; clear CK x
   refine n2 ?_
   have Bc := Bb.as [(12, (bptr C 0)), (11, (Value.int .i64 (A : Int))), (3, (bptr D 0)), (2, xz)] rfl; clear Bb
   have AP := Bc.as [(12, (bptr C 0)), (11, (Value.int .i64 (A : Int))), (3, (bptr D 0)), (2, xz)] rfl; clear Bc
   refine c_drawF mixed AP Aq 11 9 rfl rfl [[], [], [], [2], [1, 3], [4], [0, 5], [6], [7], [7], []] [(yw (Value.agg #[(Value.int .i64 ((b.tabs.getD A tab0).frm)), (Value.int .i64 ((b.tabs.getD A tab0).dst)), (lr A), (lb A), (Value.int .i64 ((b.tabs.getD A tab0).err))])), (yw xz), (yw (bptr C 0)), (yw (Value.int .i64 ((b.tabs.getD A tab0).frm))), (yw (eptr xz (((b.tabs.getD A tab0).frm).toNat * 1))), (yw (Value.int .i64 (z.getD (((b.tabs.getD A tab0).frm).toNat) 0))), (yw (Value.tuple #[(Value.agg #[(Value.int .i64 ((d_0 (b.tabs.getD A tab0) (z.getD (((b.tabs.getD A tab0).frm).toNat) 0)).1)), (Value.int .i64 ((d_0 (b.tabs.getD A tab0) (z.getD (((b.tabs.getD A tab0).frm).toNat) 0)).2))]), (Value.bool ((j_3 (b.tabs.getD A tab0) (z.getD (((b.tabs.getD A tab0).frm).toNat) 0)).isSome))])), (yw (Value.tuple #[(Value.agg #[(Value.int .i64 ((d_0 (b.tabs.getD A tab0) (z.getD (((b.tabs.getD A tab0).frm).toNat) 0)).1)), (Value.int .i64 ((d_0 (b.tabs.getD A tab0) (z.getD (((b.tabs.getD A tab0).frm).toNat) 0)).2))]), (Value.bool ((j_3 (b.tabs.getD A tab0) (z.getD (((b.tabs.getD A tab0).frm).toNat) 0)).isSome))])), (yw (Value.agg #[(Value.int .i64 ((d_0 (b.tabs.getD A tab0) (z.getD (((b.tabs.getD A tab0).frm).toNat) 0)).1)), (Value.int .i64 ((d_0 (b.tabs.getD A tab0) (z.getD (((b.tabs.getD A tab0).frm).toNat) 0)).2))])), (yw (Value.bool ((j_3 (b.tabs.getD A tab0) (z.getD (((b.tabs.getD A tab0).frm).toNat) 0)).isSome))), (fun (H : Nat → Value) (v_ : Value) (rs_ : List Res) => ∃ (b10_ : Nat), v_ = (bptr b10_ 0) ∧ rs_ = [(blk b10_ 27 [(Value.int .i64 0), (Value.int .i64 0)])])] (by decide +kernel) (by decide +kernel) (by decide +kernel) rfl rfl ⟨dw, dw, dw, dw, dw, dw, dw, dw, dw, dw, (fun _ _ _ _ _ h_ => h_), trivial⟩ ?_ ?_ ?_
   ·skip
    refine ⟨fun a w H hA hS hd => gv1 (c_4 rfl ab_0 (hA.ev rfl) (hS.bk 0 rfl) (l := [(Value.int .i64 ((b.tabs.getD A tab0).frm)), (Value.int .i64 ((b.tabs.getD A tab0).dst)), (lr A), (lb A), (Value.int .i64 ((b.tabs.getD A tab0).err))]) rfl rfl), ?_⟩
    refine ⟨fun a w H hA hS hd => gv1 (a_1 rfl (hA.ev rfl)), ?_⟩
    refine ⟨fun a w H hA hS hd => gv1 (a_4 rfl fd_46_0 (hA.ev rfl)), ?_⟩
    refine ⟨fun a w H hA hS hd => gv1 (a_3 rfl ty_3 (gu hd 2) (hS.bk 0 rfl) rfl), ?_⟩
    refine ⟨fun a w H hA hS hd => gv1 (b_2 rfl k_2 ty_3 (gu hd 1) (i := ((b.tabs.getD A tab0).frm).toNat) ((gu hd 3).trans (h_6 (by omega))) (hS.sk 5 rfl) (by decide) (by omega)), ?_⟩
    refine ⟨fun a w H hA hS hd => gv1 (c_5 rfl ty_3 (gu hd 4) (hS.sk 5 rfl) (ints_at (by omega))), ?_⟩
    refine ⟨fun a w H hA hS hd => gx1 (b_1 rfl en_55 (ev2 (gu hd 0) (gu hd 5)) (rmade_ok (b.tabs.getD A tab0) _ _ _ ((b_7 (hS.ok 2 _ rfl)).row (i := A) (by omega)) ((b_7 (hS.ok 2 _ rfl)).brk (i := A) (by omega)) (hth.rl _) (hth.bl _) _ htv (z.getD (((b.tabs.getD A tab0).frm).toNat) 0))), ?_⟩
    refine ⟨fun a w H hA hS hd => gv1 (a_1 rfl (gu hd 6)), ?_⟩
    refine ⟨fun a w H hA hS hd => gv1 (e_5 rfl (gu hd 7) rfl), ?_⟩
    refine ⟨fun a w H hA hS hd => gv1 (e_5 rfl (gu hd 7) rfl), ?_⟩
    refine ⟨fun a w H hA hS hd => d_7 rfl (valloc rfl ze_27 (cs := [(Value.int .i64 0), (Value.int .i64 0)]) rfl (fun b_ => ⟨b_, rfl, rfl⟩)), ?_⟩
    trivial
   ·skip
    intro CU Dt H rsf182 Bd E Ar; clear AP Aq
    obtain ⟨Q, A1⟩ := E 10 (by decide)
    obtain ⟨b10_, j, g⟩ := A1
    have CL : Sep NoB w Dt [(blk b10_ 27 [(Value.int .i64 0), (Value.int .i64 0)]), (blk C 46 [(Value.int .i64 ((b.tabs.getD A tab0).frm)), (Value.int .i64 ((b.tabs.getD A tab0).dst)), (lr A), (lb A), (Value.int .i64 ((b.tabs.getD A tab0).err))]), (blk D 25 [(Value.int .i64 b.scales), vt, vm]), (e_1 false vt lr lb b.tabs), (f_0 false vm lk b.macs), (sl xl 2 l.length (pairs l)), (sl xz 1 z.length (ints z))] := by rw [show catR rsf182 0 11 = ([(blk b10_ 27 [(Value.int .i64 0), (Value.int .i64 0)])] : List Res) by (try simp only [catR, gr (E 0 (by decide)), gr (E 1 (by decide)), gr (E 2 (by decide)), gr (E 3 (by decide)), gr (E 4 (by decide)), gr (E 5 (by decide)), gr (E 6 (by decide)), gr (E 7 (by decide)), gr (E 8 (by decide)), gr (E 9 (by decide)), g]); (try rfl)] at Ar; exact Ar
    have Be := Bd.add (gs (E 8 (by decide))); clear Bd
    have Bf := Be.add (gs (E 9 (by decide))); clear Be
    rw [j] at Q
    have q : Fr 108 [] [(13, (bptr b10_ 0)), (87, (Value.bool ((j_3 (b.tabs.getD A tab0) (z.getD (((b.tabs.getD A tab0).frm).toNat) 0)).isSome))), (86, (Value.agg #[(Value.int .i64 ((d_0 (b.tabs.getD A tab0) (z.getD (((b.tabs.getD A tab0).frm).toNat) 0)).1)), (Value.int .i64 ((d_0 (b.tabs.getD A tab0) (z.getD (((b.tabs.getD A tab0).frm).toNat) 0)).2))])), (12, (bptr C 0)), (11, (Value.int .i64 (A : Int))), (3, (bptr D 0)), (2, xz)] CU := Bf.add (h_8 Q rfl); clear Bf
    clear E Ar Q
    clear g
    clear j
    refine s7 q (b_8 CL rfl z_1 (q.ev rfl) (q.ev rfl) (i := 0) rfl (vs := [(Value.int .i64 ((d_0 (b.tabs.getD A tab0) (z.getD (((b.tabs.getD A tab0).frm).toNat) 0)).1)), (Value.int .i64 ((d_0 (b.tabs.getD A tab0) (z.getD (((b.tabs.getD A tab0).frm).toNat) 0)).2))]) rfl rfl rfl (Nat.le_of_ble_eq_true rfl)) ?_
    intro _ Du CM AQ; clear q
    have y : Sep NoB w Du [(blk b10_ 27 [(Value.int .i64 ((d_0 (b.tabs.getD A tab0) (z.getD (((b.tabs.getD A tab0).frm).toNat) 0)).1)), (Value.int .i64 ((d_0 (b.tabs.getD A tab0) (z.getD (((b.tabs.getD A tab0).frm).toNat) 0)).2))]), (blk C 46 [(Value.int .i64 ((b.tabs.getD A tab0).frm)), (Value.int .i64 ((b.tabs.getD A tab0).dst)), (lr A), (lb A), (Value.int .i64 ((b.tabs.getD A tab0).err))]), (blk D 25 [(Value.int .i64 b.scales), vt, vm]), (e_1 false vt lr lb b.tabs), (f_0 false vm lk b.macs), (sl xl 2 l.length (pairs l)), (sl xz 1 z.length (ints z))] := CM; clear CM CL
    refine s1 AQ (a_0 rfl (AQ.ev rfl)) fun ES Bg => ?_; clear AQ CU
    refine n2 ?_
    have U := Bg.as [(14, (Value.bool ((j_3 (b.tabs.getD A tab0) (z.getD (((b.tabs.getD A tab0).frm).toNat) 0)).isSome))), (13, (bptr b10_ 0)), (12, (bptr C 0)), (11, (Value.int .i64 (A : Int))), (3, (bptr D 0)), (2, xz)] rfl; clear Bg
    rcases Bool.eq_false_or_eq_true (((j_3 (b.tabs.getD A tab0) (z.getD (((b.tabs.getD A tab0).frm).toNat) 0)).isSome)) with Ax | Ax
    ·skip
     rw [Ax] at U
     have Bh := U.as [(14, (Value.bool true)), (13, (bptr b10_ 0)), (12, (bptr C 0)), (11, (Value.int .i64 (A : Int))), (3, (bptr D 0)), (2, xz)] rfl; clear U
     refine f_9 mixed Bh y 17 [[], [0], [1], [1], [1, 3], [1, 2, 4], [1, 5], [1], [1, 7], [1], [1, 9], [1, 8, 10], [1], [1, 12], [1], [1, 14], [1, 13, 15]] [(Yd.val (Value.bool true)), (Yd.val (Value.bool true)), (Yd.val xz), (Yd.val (bptr C 1)), (Yd.val (Value.int .i64 ((b.tabs.getD A tab0).dst))), (Yd.val (eptr xz (((b.tabs.getD A tab0).dst).toNat * 1))), (Yd.val (Value.int .i64 (z.getD (((b.tabs.getD A tab0).dst).toNat) 0))), (Yd.val (bptr b10_ 0)), (Yd.val (Value.int .i64 ((d_0 (b.tabs.getD A tab0) (z.getD (((b.tabs.getD A tab0).frm).toNat) 0)).1))), (Yd.val (bptr C 4)), (Yd.val (Value.int .i64 ((b.tabs.getD A tab0).err))), (Yd.val (Value.int .i64 (((d_0 (b.tabs.getD A tab0) (z.getD (((b.tabs.getD A tab0).frm).toNat) 0)).1) - ((b.tabs.getD A tab0).err)))), (Yd.val (bptr b10_ 1)), (Yd.val (Value.int .i64 ((d_0 (b.tabs.getD A tab0) (z.getD (((b.tabs.getD A tab0).frm).toNat) 0)).2))), (Yd.val (bptr C 4)), (Yd.val (Value.int .i64 ((b.tabs.getD A tab0).err))), (Yd.val (Value.int .i64 (((d_0 (b.tabs.getD A tab0) (z.getD (((b.tabs.getD A tab0).frm).toNat) 0)).2) + ((b.tabs.getD A tab0).err))))] (by decide +kernel) rfl rfl ?_ ?_
     ·skip
      refine dq (fun a w hA hS hd => a_1 rfl (hA.ev rfl)) ?_
      refine dq (fun a w hA hS hd => a_1 rfl (hq hd 0)) ?_
      refine dy 1 (fun a w hA hS hd => a_1 rfl (hA.ev rfl)) ?_
      refine dy 1 (fun a w hA hS hd => a_4 rfl fd_46_1 (hA.ev rfl)) ?_
      refine dy 1 (fun a w hA hS hd => a_3 rfl ty_3 (hq hd 3) (hS.bk 1 rfl) rfl) ?_
      refine dy 1 (fun a w hA hS hd => b_2 rfl k_2 ty_3 (hq hd 2) (i := ((b.tabs.getD A tab0).dst).toNat) ((hq hd 4).trans (h_6 (by omega))) (hS.sk 6 rfl) (by decide) (by omega)) ?_
      refine dy 1 (fun a w hA hS hd => c_5 rfl ty_3 (hq hd 5) (hS.sk 6 rfl) (ints_at (by omega))) ?_
      refine dy 1 (fun a w hA hS hd => a_4 rfl x_8 (hA.ev rfl)) ?_
      refine dy 1 (fun a w hA hS hd => a_3 rfl ty_3 (hq hd 7) (hS.bk 0 rfl) rfl) ?_
      refine dy 1 (fun a w hA hS hd => a_4 rfl fd_46_4 (hA.ev rfl)) ?_
      refine dy 1 (fun a w hA hS hd => a_3 rfl ty_3 (hq hd 9) (hS.bk 1 rfl) rfl) ?_
      refine dy 1 (fun a w hA hS hd => g_6 rfl (hq hd 8) (hq hd 10) (by omega) (by omega)) ?_
      refine dy 1 (fun a w hA hS hd => a_4 rfl x_9 (hA.ev rfl)) ?_
      refine dy 1 (fun a w hA hS hd => a_3 rfl ty_3 (hq hd 12) (hS.bk 0 rfl) rfl) ?_
      refine dy 1 (fun a w hA hS hd => a_4 rfl fd_46_4 (hA.ev rfl)) ?_
      refine dy 1 (fun a w hA hS hd => a_3 rfl ty_3 (hq hd 14) (hS.bk 1 rfl) rfl) ?_
      refine dy 1 (fun a w hA hS hd => f_1 rfl (hq hd 13) (hq hd 15) (by omega) (by omega)) ?_
      trivial
     intro DS Ei Bi As c; clear Bh y
     have Bj := Bi.add (hz c 1); clear Bi
     have Bk := Bj.add (hz c 6); clear Bj
     have Bl := Bk.add (hz c 11); clear Bk
     have Y := Bl.add (hz c 16); clear Bl
     clear c
     refine s6 Y (b_1 rfl z_0 (ev3 (Y.ev rfl) (Y.ev rfl) (Y.ev rfl)) (y_7 _ _ _ _)) ?_
     rintro DT _ W_ ⟨rfl, hW_⟩ AR; have hW2_ := hW_.symm; subst hW2_; clear hW_ Y DS
     refine s5 AR (e_9 rfl (AR.ev rfl)) fun DU r => ?_; clear AR DT
     refine s1 r (b_4 rfl (r.ev rfl) (r.ev rfl)) fun CV M => ?_; clear r DU
     refine n1 ?_
     rcases Bool.eq_false_or_eq_true ((inB (z.getD (((b.tabs.getD A tab0).dst).toNat) 0) (((d_0 (b.tabs.getD A tab0) (z.getD (((b.tabs.getD A tab0).frm).toNat) 0)).1) - ((b.tabs.getD A tab0).err)) (((d_0 (b.tabs.getD A tab0) (z.getD (((b.tabs.getD A tab0).frm).toNat) 0)).2) + ((b.tabs.getD A tab0).err)))) with Ay | Ay
     ·skip
      rw [Ay] at M
      refine b_5 M rfl ?_
      refine c_6 ?_
      refine g_0 ?_
      refine a_9 ?_
      have AS := M.as [(11, (Value.int .i64 (A : Int))), (3, (bptr D 0)), (2, xz)] rfl; clear M
      refine a_5 ?_
      refine s1 AS (a_1 rfl (AS.ev rfl)) fun DV AT => ?_; clear AS CV
      refine s1 AT (f_1 rfl (AT.ev rfl) (evc _ _) (by omega) (by omega)) fun DW AU => ?_; clear AT DV
      refine s1 AU (a_0 rfl (AU.ev rfl)) fun ET Cx => ?_; clear AU DW
      refine e_8 ?_
      have C2 := As.gkp (gpc 2 (gpc 3 (gpc 4 (gpc 5 (gpc 6 gpn))))); clear As
      exact a_9 ⟨A + 1, ⟨Cx.as _ rfl, C2, by omega, (fun i hi => by rcases Nat.lt_succ_iff_lt_or_eq.1 hi with h | h; exact A4 i h; subst h; first | exact u_3 (by assumption) | exact ((l_9 (by assumption)).trans (by assumption)))⟩, by omega⟩
     skip
     rw [Ay] at M
     refine c_0 M rfl ?_
     refine b_6 ?_
     have Bm := M.as [] rfl; clear M
     refine a_5 ?_
     refine s1 Bm (a_0 rfl (evc _ _)) fun EU Bn => ?_; clear Bm CV
     refine n1 ?_
     refine c_1 ?_
     refine b_9 ?_
     refine a_6 ?_
     refine a_6 ?_
     refine b_9 ?_
     refine a_6 ?_
     refine a_7 Bn (.inl rfl) (a_2 Bn rfl (.tmp rfl)) ?_
     exact ⟨congrArg Value.bool (Eq.symm (by first | exact y_2 (by omega) | exact fits_n1 (k := k) (by omega) (by assumption) | exact y_3 (k := B) (by omega) (by assumption) | exact fits_n3 (k := A) (by omega) ((l_9 (by assumption)).trans (by assumption)))), As.ext⟩
    skip
    rw [Ax] at U
    have Bo := U.as [(14, (Value.bool false)), (13, (bptr b10_ 0)), (12, (bptr C 0)), (11, (Value.int .i64 (A : Int))), (3, (bptr D 0)), (2, xz)] rfl; clear U
    refine f_9 mixed Bo y 17 [[], [0], [1], [1], [1, 3], [1, 2, 4], [1, 5], [1], [1, 7], [1], [1, 9], [1, 8, 10], [1], [1, 12], [1], [1, 14], [1, 13, 15]] [(Yd.val (Value.bool false)), (Yd.val (Value.bool false)), (Yd.val undef), (Yd.val undef), (Yd.val undef), (Yd.val undef), (Yd.val undef), (Yd.val undef), (Yd.val undef), (Yd.val undef), (Yd.val undef), (Yd.val undef), (Yd.val undef), (Yd.val undef), (Yd.val undef), (Yd.val undef), (Yd.val undef)] (by decide +kernel) rfl rfl ?_ ?_
    ·skip
     refine dq (fun a w hA hS hd => a_1 rfl (hA.ev rfl)) ?_
     refine dq (fun a w hA hS hd => a_1 rfl (hq hd 0)) ?_
     refine dn 1 ?_
     refine dn 1 ?_
     refine dn 1 ?_
     refine dn 1 ?_
     refine dn 1 ?_
     refine dn 1 ?_
     refine dn 1 ?_
     refine dn 1 ?_
     refine dn 1 ?_
     refine dn 1 ?_
     refine dn 1 ?_
     refine dn 1 ?_
     refine dn 1 ?_
     refine dn 1 ?_
     refine dn 1 ?_
     trivial
    intro DX Ej Bp CN d; clear Bo y
    have Bq := Bp.add (hz d 1); clear Bp
    have Br := Bq.add (hz d 6); clear Bq
    have Bs := Br.add (hz d 11); clear Br
    have Bt := Bs.add (hz d 16); clear Bs
    clear d
    refine s3 Bt fun DY Bu => ?_; clear Bt DX
    refine s3 Bu fun DZ AV => ?_; clear Bu DY
    refine s1 AV (c_8 rfl (AV.ev rfl) (evc _ _)) fun Da AW => ?_; clear AV DZ
    refine n1 ?_
    refine b_5 AW rfl ?_
    refine c_6 ?_
    refine g_0 ?_
    refine a_9 ?_
    have AX := AW.as [(11, (Value.int .i64 (A : Int))), (3, (bptr D 0)), (2, xz)] rfl; clear AW
    refine a_5 ?_
    refine s1 AX (a_1 rfl (AX.ev rfl)) fun Db AY => ?_; clear AX Da
    refine s1 AY (f_1 rfl (AY.ev rfl) (evc _ _) (by omega) (by omega)) fun Dc AZ => ?_; clear AY Db
    refine s1 AZ (a_0 rfl (AZ.ev rfl)) fun EV Cy => ?_; clear AZ Dc
    refine e_8 ?_
    have C3 := CN.gkp (gpc 2 (gpc 3 (gpc 4 (gpc 5 (gpc 6 gpn))))); clear CN
    exact a_9 ⟨A + 1, ⟨Cy.as _ rfl, C3, by omega, (fun i hi => by rcases Nat.lt_succ_iff_lt_or_eq.1 hi with h | h; exact A4 i h; subst h; first | exact u_3 (by assumption) | exact ((l_9 (by assumption)).trans (by assumption)))⟩, by omega⟩
   skip
   intro CW Dv H rsf256 Bv F hrq At; clear AP Aq
   obtain ⟨Q, A1⟩ := F 10 (by decide) (by decide)
   obtain ⟨b10_, j, g⟩ := A1
   have CO : Sep NoB w Dv [(blk b10_ 27 [(Value.int .i64 0), (Value.int .i64 0)]), (blk C 46 [(Value.int .i64 ((b.tabs.getD A tab0).frm)), (Value.int .i64 ((b.tabs.getD A tab0).dst)), (lr A), (lb A), (Value.int .i64 ((b.tabs.getD A tab0).err))]), (blk D 25 [(Value.int .i64 b.scales), vt, vm]), (e_1 false vt lr lb b.tabs), (f_0 false vm lk b.macs), (sl xl 2 l.length (pairs l)), (sl xz 1 z.length (ints z))] := by rw [show catR rsf256 0 11 = ([(blk b10_ 27 [(Value.int .i64 0), (Value.int .i64 0)])] : List Res) by (try simp only [catR, gr (F 0 (by decide) (by decide)), gr (F 1 (by decide) (by decide)), gr (F 2 (by decide) (by decide)), gr (F 3 (by decide) (by decide)), gr (F 4 (by decide) (by decide)), gr (F 5 (by decide) (by decide)), gr (F 6 (by decide) (by decide)), gr (F 7 (by decide) (by decide)), gr (F 8 (by decide) (by decide)), g, hrq]); (try rfl)] at At; exact At
   have Bw := Bv.add (gs (F 7 (by decide) (by decide))); clear Bv
   have Bx := Bw.add (gs (F 8 (by decide) (by decide))); clear Bw
   rw [j] at Q
   have s : Fr 108 [] [(13, (bptr b10_ 0)), (86, (Value.agg #[(Value.int .i64 ((d_0 (b.tabs.getD A tab0) (z.getD (((b.tabs.getD A tab0).frm).toNat) 0)).1)), (Value.int .i64 ((d_0 (b.tabs.getD A tab0) (z.getD (((b.tabs.getD A tab0).frm).toNat) 0)).2))])), (78, (Value.tuple #[(Value.agg #[(Value.int .i64 ((d_0 (b.tabs.getD A tab0) (z.getD (((b.tabs.getD A tab0).frm).toNat) 0)).1)), (Value.int .i64 ((d_0 (b.tabs.getD A tab0) (z.getD (((b.tabs.getD A tab0).frm).toNat) 0)).2))]), (Value.bool ((j_3 (b.tabs.getD A tab0) (z.getD (((b.tabs.getD A tab0).frm).toNat) 0)).isSome))])), (12, (bptr C 0)), (11, (Value.int .i64 (A : Int))), (3, (bptr D 0)), (2, xz)] CW := Bx.add (h_8 Q rfl); clear Bx
   clear F At Q hrq
   clear g
   clear j
   refine s7 s (b_8 CO rfl z_1 (s.ev rfl) (s.ev rfl) (i := 0) rfl (vs := [(Value.int .i64 ((d_0 (b.tabs.getD A tab0) (z.getD (((b.tabs.getD A tab0).frm).toNat) 0)).1)), (Value.int .i64 ((d_0 (b.tabs.getD A tab0) (z.getD (((b.tabs.getD A tab0).frm).toNat) 0)).2))]) rfl rfl rfl (Nat.le_of_ble_eq_true rfl)) ?_
   intro _ Dw CP Aa; clear s
   have AA : Sep NoB w Dw [(blk b10_ 27 [(Value.int .i64 ((d_0 (b.tabs.getD A tab0) (z.getD (((b.tabs.getD A tab0).frm).toNat) 0)).1)), (Value.int .i64 ((d_0 (b.tabs.getD A tab0) (z.getD (((b.tabs.getD A tab0).frm).toNat) 0)).2))]), (blk C 46 [(Value.int .i64 ((b.tabs.getD A tab0).frm)), (Value.int .i64 ((b.tabs.getD A tab0).dst)), (lr A), (lb A), (Value.int .i64 ((b.tabs.getD A tab0).err))]), (blk D 25 [(Value.int .i64 b.scales), vt, vm]), (e_1 false vt lr lb b.tabs), (f_0 false vm lk b.macs), (sl xl 2 l.length (pairs l)), (sl xz 1 z.length (ints z))] := CP; clear CP CO
   refine s1 Aa (e_5 rfl (Aa.ev rfl) rfl) fun Dd Ab => ?_; clear Aa CW
   refine s1 Ab (a_0 rfl (Ab.ev rfl)) fun EW By => ?_; clear Ab Dd
   refine n2 ?_
   have V := By.as [(14, (Value.bool ((j_3 (b.tabs.getD A tab0) (z.getD (((b.tabs.getD A tab0).frm).toNat) 0)).isSome))), (13, (bptr b10_ 0)), (12, (bptr C 0)), (11, (Value.int .i64 (A : Int))), (3, (bptr D 0)), (2, xz)] rfl; clear By
   rcases Bool.eq_false_or_eq_true (((j_3 (b.tabs.getD A tab0) (z.getD (((b.tabs.getD A tab0).frm).toNat) 0)).isSome)) with Az | Az
   ·skip
    rw [Az] at V
    have Bz := V.as [(14, (Value.bool true)), (13, (bptr b10_ 0)), (12, (bptr C 0)), (11, (Value.int .i64 (A : Int))), (3, (bptr D 0)), (2, xz)] rfl; clear V
    refine f_9 mixed Bz AA 17 [[], [0], [1], [1], [1, 3], [1, 2, 4], [1, 5], [1], [1, 7], [1], [1, 9], [1, 8, 10], [1], [1, 12], [1], [1, 14], [1, 13, 15]] [(Yd.val (Value.bool true)), (Yd.val (Value.bool true)), (Yd.val xz), (Yd.val (bptr C 1)), (Yd.val (Value.int .i64 ((b.tabs.getD A tab0).dst))), (Yd.val (eptr xz (((b.tabs.getD A tab0).dst).toNat * 1))), (Yd.val (Value.int .i64 (z.getD (((b.tabs.getD A tab0).dst).toNat) 0))), (Yd.val (bptr b10_ 0)), (Yd.val (Value.int .i64 ((d_0 (b.tabs.getD A tab0) (z.getD (((b.tabs.getD A tab0).frm).toNat) 0)).1))), (Yd.val (bptr C 4)), (Yd.val (Value.int .i64 ((b.tabs.getD A tab0).err))), (Yd.val (Value.int .i64 (((d_0 (b.tabs.getD A tab0) (z.getD (((b.tabs.getD A tab0).frm).toNat) 0)).1) - ((b.tabs.getD A tab0).err)))), (Yd.val (bptr b10_ 1)), (Yd.val (Value.int .i64 ((d_0 (b.tabs.getD A tab0) (z.getD (((b.tabs.getD A tab0).frm).toNat) 0)).2))), (Yd.val (bptr C 4)), (Yd.val (Value.int .i64 ((b.tabs.getD A tab0).err))), (Yd.val (Value.int .i64 (((d_0 (b.tabs.getD A tab0) (z.getD (((b.tabs.getD A tab0).frm).toNat) 0)).2) + ((b.tabs.getD A tab0).err))))] (by decide +kernel) rfl rfl ?_ ?_
    ·skip
     refine dq (fun a w hA hS hd => a_1 rfl (hA.ev rfl)) ?_
     refine dq (fun a w hA hS hd => a_1 rfl (hq hd 0)) ?_
     refine dy 1 (fun a w hA hS hd => a_1 rfl (hA.ev rfl)) ?_
     refine dy 1 (fun a w hA hS hd => a_4 rfl fd_46_1 (hA.ev rfl)) ?_
     refine dy 1 (fun a w hA hS hd => a_3 rfl ty_3 (hq hd 3) (hS.bk 1 rfl) rfl) ?_
     refine dy 1 (fun a w hA hS hd => b_2 rfl k_2 ty_3 (hq hd 2) (i := ((b.tabs.getD A tab0).dst).toNat) ((hq hd 4).trans (h_6 (by omega))) (hS.sk 6 rfl) (by decide) (by omega)) ?_
     refine dy 1 (fun a w hA hS hd => c_5 rfl ty_3 (hq hd 5) (hS.sk 6 rfl) (ints_at (by omega))) ?_
     refine dy 1 (fun a w hA hS hd => a_4 rfl x_8 (hA.ev rfl)) ?_
     refine dy 1 (fun a w hA hS hd => a_3 rfl ty_3 (hq hd 7) (hS.bk 0 rfl) rfl) ?_
     refine dy 1 (fun a w hA hS hd => a_4 rfl fd_46_4 (hA.ev rfl)) ?_
     refine dy 1 (fun a w hA hS hd => a_3 rfl ty_3 (hq hd 9) (hS.bk 1 rfl) rfl) ?_
     refine dy 1 (fun a w hA hS hd => g_6 rfl (hq hd 8) (hq hd 10) (by omega) (by omega)) ?_
     refine dy 1 (fun a w hA hS hd => a_4 rfl x_9 (hA.ev rfl)) ?_
     refine dy 1 (fun a w hA hS hd => a_3 rfl ty_3 (hq hd 12) (hS.bk 0 rfl) rfl) ?_
     refine dy 1 (fun a w hA hS hd => a_4 rfl fd_46_4 (hA.ev rfl)) ?_
     refine dy 1 (fun a w hA hS hd => a_3 rfl ty_3 (hq hd 14) (hS.bk 1 rfl) rfl) ?_
     refine dy 1 (fun a w hA hS hd => f_1 rfl (hq hd 13) (hq hd 15) (by omega) (by omega)) ?_
     trivial
    intro De Ek B0 Au e; clear Bz AA
    have B1 := B0.add (hz e 1); clear B0
    have B2 := B1.add (hz e 6); clear B1
    have B3 := B2.add (hz e 11); clear B2
    have Z := B3.add (hz e 16); clear B3
    clear e
    refine s6 Z (b_1 rfl z_0 (ev3 (Z.ev rfl) (Z.ev rfl) (Z.ev rfl)) (y_7 _ _ _ _)) ?_
    rintro Df _ W_ ⟨rfl, hW_⟩ Ac; have hW2_ := hW_.symm; subst hW2_; clear hW_ Z De
    refine s5 Ac (e_9 rfl (Ac.ev rfl)) fun Dg t => ?_; clear Ac Df
    refine s1 t (b_4 rfl (t.ev rfl) (t.ev rfl)) fun CX N => ?_; clear t Dg
    refine n1 ?_
    rcases Bool.eq_false_or_eq_true ((inB (z.getD (((b.tabs.getD A tab0).dst).toNat) 0) (((d_0 (b.tabs.getD A tab0) (z.getD (((b.tabs.getD A tab0).frm).toNat) 0)).1) - ((b.tabs.getD A tab0).err)) (((d_0 (b.tabs.getD A tab0) (z.getD (((b.tabs.getD A tab0).frm).toNat) 0)).2) + ((b.tabs.getD A tab0).err)))) with A0 | A0
    ·skip
     rw [A0] at N
     refine b_5 N rfl ?_
     refine c_6 ?_
     refine g_0 ?_
     refine a_9 ?_
     have Ad := N.as [(11, (Value.int .i64 (A : Int))), (3, (bptr D 0)), (2, xz)] rfl; clear N
     refine a_5 ?_
     refine s1 Ad (a_1 rfl (Ad.ev rfl)) fun Dh Ae => ?_; clear Ad CX
     refine s1 Ae (f_1 rfl (Ae.ev rfl) (evc _ _) (by omega) (by omega)) fun Di Af => ?_; clear Ae Dh
     refine s1 Af (a_0 rfl (Af.ev rfl)) fun EX Cz => ?_; clear Af Di
     refine e_8 ?_
     have C4 := Au.gkp (gpc 2 (gpc 3 (gpc 4 (gpc 5 (gpc 6 gpn))))); clear Au
     exact a_9 ⟨A + 1, ⟨Cz.as _ rfl, C4, by omega, (fun i hi => by rcases Nat.lt_succ_iff_lt_or_eq.1 hi with h | h; exact A4 i h; subst h; first | exact u_3 (by assumption) | exact ((l_9 (by assumption)).trans (by assumption)))⟩, by omega⟩
    skip
    rw [A0] at N
    refine c_0 N rfl ?_
    refine b_6 ?_
    have B4 := N.as [] rfl; clear N
    refine a_5 ?_
    refine s1 B4 (a_0 rfl (evc _ _)) fun EY B5 => ?_; clear B4 CX
    refine n1 ?_
    refine c_1 ?_
    refine b_9 ?_
    refine a_6 ?_
    refine a_6 ?_
    refine b_9 ?_
    refine a_6 ?_
    refine a_7 B5 (.inl rfl) (a_2 B5 rfl (.tmp rfl)) ?_
    exact ⟨congrArg Value.bool (Eq.symm (by first | exact y_2 (by omega) | exact fits_n1 (k := k) (by omega) (by assumption) | exact y_3 (k := B) (by omega) (by assumption) | exact fits_n3 (k := A) (by omega) ((l_9 (by assumption)).trans (by assumption)))), Au.ext⟩
   skip
   rw [Az] at V
   have B6 := V.as [(14, (Value.bool false)), (13, (bptr b10_ 0)), (12, (bptr C 0)), (11, (Value.int .i64 (A : Int))), (3, (bptr D 0)), (2, xz)] rfl; clear V
   refine f_9 mixed B6 AA 17 [[], [0], [1], [1], [1, 3], [1, 2, 4], [1, 5], [1], [1, 7], [1], [1, 9], [1, 8, 10], [1], [1, 12], [1], [1, 14], [1, 13, 15]] [(Yd.val (Value.bool false)), (Yd.val (Value.bool false)), (Yd.val undef), (Yd.val undef), (Yd.val undef), (Yd.val undef), (Yd.val undef), (Yd.val undef), (Yd.val undef), (Yd.val undef), (Yd.val undef), (Yd.val undef), (Yd.val undef), (Yd.val undef), (Yd.val undef), (Yd.val undef), (Yd.val undef)] (by decide +kernel) rfl rfl ?_ ?_
   ·skip
    refine dq (fun a w hA hS hd => a_1 rfl (hA.ev rfl)) ?_
    refine dq (fun a w hA hS hd => a_1 rfl (hq hd 0)) ?_
    refine dn 1 ?_
    refine dn 1 ?_
    refine dn 1 ?_
    refine dn 1 ?_
    refine dn 1 ?_
    refine dn 1 ?_
    refine dn 1 ?_
    refine dn 1 ?_
    refine dn 1 ?_
    refine dn 1 ?_
    refine dn 1 ?_
    refine dn 1 ?_
    refine dn 1 ?_
    refine dn 1 ?_
    refine dn 1 ?_
    trivial
   intro Dj El B7 CQ f; clear B6 AA
   have B8 := B7.add (hz f 1); clear B7
   have B9 := B8.add (hz f 6); clear B8
   have CA := B9.add (hz f 11); clear B9
   have CB := CA.add (hz f 16); clear CA
   clear f
   refine s3 CB fun Dk CC => ?_; clear CB Dj
   refine s3 CC fun Dl Ag => ?_; clear CC Dk
   refine s1 Ag (c_8 rfl (Ag.ev rfl) (evc _ _)) fun Dm Ah => ?_; clear Ag Dl
   refine n1 ?_
   refine b_5 Ah rfl ?_
   refine c_6 ?_
   refine g_0 ?_
   refine a_9 ?_
   have Ai := Ah.as [(11, (Value.int .i64 (A : Int))), (3, (bptr D 0)), (2, xz)] rfl; clear Ah
   refine a_5 ?_
   refine s1 Ai (a_1 rfl (Ai.ev rfl)) fun Dn Ak => ?_; clear Ai Dm
   refine s1 Ak (f_1 rfl (Ak.ev rfl) (evc _ _) (by omega) (by omega)) fun Do Al => ?_; clear Ak Dn
   refine s1 Al (a_0 rfl (Al.ev rfl)) fun EZ C0 => ?_; clear Al Do
   refine e_8 ?_
   have C5 := CQ.gkp (gpc 2 (gpc 3 (gpc 4 (gpc 5 (gpc 6 gpn))))); clear CQ
   exact a_9 ⟨A + 1, ⟨C0.as _ rfl, C5, by omega, (fun i hi => by rcases Nat.lt_succ_iff_lt_or_eq.1 hi with h | h; exact A4 i h; subst h; first | exact u_3 (by assumption) | exact ((l_9 (by assumption)).trans (by assumption)))⟩, by omega⟩
  skip
  rw [decide_eq_false CR] at J
  refine b_5 J rfl ?_
  refine g_3 ?_
  refine b_3 ?_
  refine b_3 ?_
  refine f_2 ?_
  refine a_9 ?_
  refine b_6 ?_
  have CD := J.as [] rfl; clear J
  refine a_5 ?_
  refine s1 CD (a_0 rfl (evc _ _)) fun Ea CE => ?_; clear CD CT
  refine n1 ?_
  refine c_1 ?_
  refine a_7 CE (.inl rfl) (a_2 CE rfl (.tmp rfl)) ?_
  exact ⟨congrArg Value.bool (Eq.symm (fits_y (by omega) (fun i hi => Ct i (by omega)) (fun i hi => DC i (by omega)) (fun i hi => A4 i (by omega)))), O.ext⟩
 skip
 rw [decide_eq_false Cq] at R
 refine c_0 R rfl ?_
 refine b_6 ?_
 have CF := R.as [] rfl; clear R
 refine a_5 ?_
 refine s1 CF (a_0 rfl (evc _ _)) fun Eb CG => ?_; clear CF C6
 refine n1 ?_
 refine c_1 ?_
 refine a_6 ?_
 refine a_7 CG (.inl rfl) (a_2 CG rfl (.tmp rfl)) ?_
 exact ⟨congrArg Value.bool (Eq.symm (by first | exact y_2 (by omega) | exact fits_n1 (k := k) (by omega) (by assumption) | exact y_3 (k := B) (by omega) (by assumption) | exact fits_n3 (k := A) (by omega) ((l_9 (by assumption)).trans (by assumption)))), A3.ext⟩
theorem fitclo_ok (t : TabD) (vr vb : Value) (w : World) (hr : SlAt w vr 2 t.rows.length (pairs t.rows)) (hb : SlAt w vb 1 t.brk.length (ints t.brk)) (hrl : t.rows.length ≤ 1000000) (hbl : t.brk.length ≤ 1000000) (n : Int) (hV : TabV n t) (bz : Nat) (z : List Int) (xz : Value) (gz : (blk bz 44 [xz]).p w) (hxz : SlAt w xz 1 z.length (ints z)) (hzn : (z.length : Int) = n) :
  Calls Try.prog 71 #[(Value.agg #[(Value.int .i64 t.frm), (Value.int .i64 t.dst), vr, vb, (Value.int .i64 t.err)]), (bptr bz 0)] w (Ret fun v w' => v = .bool (q_0 z t) ∧ Ext NoB w w') := by
 refine a_8 Try.func71 rfl fun a0 Z => ?_
 replace Z : Fr 36 [] [(0, (Value.agg #[(Value.int .i64 t.frm), (Value.int .i64 t.dst), vr, vb, (Value.int .i64 t.err)])), (1, (bptr bz 0))] a0 := Z
 have hfd := hV.frm; have hdd := hV.dst; have hed := hV.err; have hmd := madeV_bd hV (z.getD t.frm.toNat 0)
 have Am : Sep NoB w w [(rob bz 44 [xz]), (sl vr 2 t.rows.length (pairs t.rows)), (sl vb 1 t.brk.length (ints t.brk)), (sl xz 1 z.length (ints z))] := e_3 ⟨rfl, gz, rfl, hr, rfl, hb, rfl, hxz, trivial⟩
 refine m2 ?_
 refine s2 Z (e_7 Am rfl (Z.ev rfl) (cs := [(Value.int .i64 t.frm), (Value.int .i64 t.dst), vr, vb, (Value.int .i64 t.err)]) rfl) ?_
 rintro a1 _ w3 ⟨C, rfl, Ae⟩ Ak; clear Z Am a0
 refine s1 Ak (a_0 rfl (evc _ _)) fun a6 Al => ?_; clear Ak a1
 refine n2 ?_
 have AV := Al.as [(2, (bptr C 0)), (1, (bptr bz 0))] rfl; clear Al
 refine c_drawF mixed AV Ae 11 9 rfl rfl [[], [], [], [2], [1, 3], [4], [0, 5], [6], [7], [7], []] [(yw (Value.agg #[(Value.int .i64 t.frm), (Value.int .i64 t.dst), vr, vb, (Value.int .i64 t.err)])), (yw xz), (yw (bptr C 0)), (yw (Value.int .i64 t.frm)), (yw (eptr xz (t.frm.toNat * 1))), (yw (Value.int .i64 (z.getD t.frm.toNat 0))), (yw (Value.tuple #[(Value.agg #[(Value.int .i64 ((d_0 t (z.getD t.frm.toNat 0)).1)), (Value.int .i64 ((d_0 t (z.getD t.frm.toNat 0)).2))]), (Value.bool ((j_3 t (z.getD t.frm.toNat 0)).isSome))])), (yw (Value.tuple #[(Value.agg #[(Value.int .i64 ((d_0 t (z.getD t.frm.toNat 0)).1)), (Value.int .i64 ((d_0 t (z.getD t.frm.toNat 0)).2))]), (Value.bool ((j_3 t (z.getD t.frm.toNat 0)).isSome))])), (yw (Value.agg #[(Value.int .i64 ((d_0 t (z.getD t.frm.toNat 0)).1)), (Value.int .i64 ((d_0 t (z.getD t.frm.toNat 0)).2))])), (yw (Value.bool ((j_3 t (z.getD t.frm.toNat 0)).isSome))), (fun (D : Nat → Value) (v_ : Value) (rs_ : List Res) => ∃ (b10_ : Nat), v_ = (bptr b10_ 0) ∧ rs_ = [(blk b10_ 30 [(Value.int .i64 0), (Value.int .i64 0)])])] (by decide +kernel) (by decide +kernel) (by decide +kernel) rfl rfl ⟨dw, dw, dw, dw, dw, dw, dw, dw, dw, dw, (fun _ _ _ _ _ h_ => h_), trivial⟩ ?_ ?_ ?_
 ·skip
  refine ⟨fun a w D hA hS hd => gv1 (c_4 rfl k_4 (hA.ev rfl) (hS.bk 0 rfl) (l := [(Value.int .i64 t.frm), (Value.int .i64 t.dst), vr, vb, (Value.int .i64 t.err)]) rfl rfl), ?_⟩
  refine ⟨fun a w D hA hS hd => gv1 (a_3 rfl v_2 (hA.ev rfl) (hS.rk 1 rfl) rfl), ?_⟩
  refine ⟨fun a w D hA hS hd => gv1 (a_4 rfl fd_106_0 (hA.ev rfl)), ?_⟩
  refine ⟨fun a w D hA hS hd => gv1 (a_3 rfl ty_3 (gu hd 2) (hS.bk 0 rfl) rfl), ?_⟩
  refine ⟨fun a w D hA hS hd => gv1 (b_2 rfl k_2 ty_3 (gu hd 1) (i := t.frm.toNat) ((gu hd 3).trans (h_6 (by omega))) (hS.sk 4 rfl) (by decide) (by omega)), ?_⟩
  refine ⟨fun a w D hA hS hd => gv1 (c_5 rfl ty_3 (gu hd 4) (hS.sk 4 rfl) (ints_at (by omega))), ?_⟩
  refine ⟨fun a w D hA hS hd => gx1 (b_1 rfl en_72 (ev2 (gu hd 0) (gu hd 5)) (around_ok t _ _ _ (hS.sk 2 rfl) (hS.sk 3 rfl) (by omega) (by omega) _ hV (z.getD t.frm.toNat 0))), ?_⟩
  refine ⟨fun a w D hA hS hd => gv1 (a_1 rfl (gu hd 6)), ?_⟩
  refine ⟨fun a w D hA hS hd => gv1 (e_5 rfl (gu hd 7) rfl), ?_⟩
  refine ⟨fun a w D hA hS hd => gv1 (e_5 rfl (gu hd 7) rfl), ?_⟩
  refine ⟨fun a w D hA hS hd => d_7 rfl (valloc rfl x_5 (cs := [(Value.int .i64 0), (Value.int .i64 0)]) rfl (fun b_ => ⟨b_, rfl, rfl⟩)), ?_⟩
  trivial
 ·skip
  intro Ai A4 D rsf15 AB A h; clear AV Ae
  obtain ⟨E, Y⟩ := A 10 (by decide)
  obtain ⟨b10_, H, G⟩ := Y
  have Ac : Sep NoB w A4 [(blk b10_ 30 [(Value.int .i64 0), (Value.int .i64 0)]), (blk C 106 [(Value.int .i64 t.frm), (Value.int .i64 t.dst), vr, vb, (Value.int .i64 t.err)]), (rob bz 44 [xz]), (sl vr 2 t.rows.length (pairs t.rows)), (sl vb 1 t.brk.length (ints t.brk)), (sl xz 1 z.length (ints z))] := by rw [show catR rsf15 0 11 = ([(blk b10_ 30 [(Value.int .i64 0), (Value.int .i64 0)])] : List Res) by (try simp only [catR, gr (A 0 (by decide)), gr (A 1 (by decide)), gr (A 2 (by decide)), gr (A 3 (by decide)), gr (A 4 (by decide)), gr (A 5 (by decide)), gr (A 6 (by decide)), gr (A 7 (by decide)), gr (A 8 (by decide)), gr (A 9 (by decide)), G]); (try rfl)] at h; exact h
  have AC := AB.add (gs (A 8 (by decide))); clear AB
  have AD := AC.add (gs (A 9 (by decide))); clear AC
  rw [H] at E
  have S : Fr 36 [] [(4, (bptr b10_ 0)), (15, (Value.bool ((j_3 t (z.getD t.frm.toNat 0)).isSome))), (14, (Value.agg #[(Value.int .i64 ((d_0 t (z.getD t.frm.toNat 0)).1)), (Value.int .i64 ((d_0 t (z.getD t.frm.toNat 0)).2))])), (2, (bptr C 0)), (1, (bptr bz 0))] Ai := AD.add (h_8 E rfl); clear AD
  clear A h E
  clear G
  clear H
  refine s7 S (b_8 Ac rfl f_7 (S.ev rfl) (S.ev rfl) (i := 0) rfl (vs := [(Value.int .i64 ((d_0 t (z.getD t.frm.toNat 0)).1)), (Value.int .i64 ((d_0 t (z.getD t.frm.toNat 0)).2))]) rfl rfl rfl (Nat.le_of_ble_eq_true rfl)) ?_
  intro _ A5 Ad b; clear S
  have W : Sep NoB w A5 [(blk b10_ 30 [(Value.int .i64 ((d_0 t (z.getD t.frm.toNat 0)).1)), (Value.int .i64 ((d_0 t (z.getD t.frm.toNat 0)).2))]), (blk C 106 [(Value.int .i64 t.frm), (Value.int .i64 t.dst), vr, vb, (Value.int .i64 t.err)]), (rob bz 44 [xz]), (sl vr 2 t.rows.length (pairs t.rows)), (sl vb 1 t.brk.length (ints t.brk)), (sl xz 1 z.length (ints z))] := Ad; clear Ad Ac
  refine s1 b (a_0 rfl (b.ev rfl)) fun BC AE => ?_; clear b Ai
  refine n2 ?_
  have I := AE.as [(5, (Value.bool ((j_3 t (z.getD t.frm.toNat 0)).isSome))), (4, (bptr b10_ 0)), (2, (bptr C 0)), (1, (bptr bz 0))] rfl; clear AE
  rcases Bool.eq_false_or_eq_true (((j_3 t (z.getD t.frm.toNat 0)).isSome)) with k | k
  ·skip
   rw [k] at I
   have AF := I.as [(5, (Value.bool true)), (4, (bptr b10_ 0)), (2, (bptr C 0)), (1, (bptr bz 0))] rfl; clear I
   refine f_9 mixed AF W 18 [[], [0], [1], [2], [2], [2, 4], [2, 3, 5], [2, 6], [2], [2, 8], [2], [2, 10], [2, 9, 11], [2], [2, 13], [2], [2, 15], [2, 14, 16]] [(Yd.val (Value.bool true)), (Yd.val (Value.bool (!true))), (Yd.val (Value.bool (!true))), (Yd.val xz), (Yd.val (bptr C 1)), (Yd.val (Value.int .i64 t.dst)), (Yd.val (eptr xz (t.dst.toNat * 1))), (Yd.val (Value.int .i64 (z.getD t.dst.toNat 0))), (Yd.val (bptr b10_ 0)), (Yd.val (Value.int .i64 ((d_0 t (z.getD t.frm.toNat 0)).1))), (Yd.val (bptr C 4)), (Yd.val (Value.int .i64 t.err)), (Yd.val (Value.int .i64 (((d_0 t (z.getD t.frm.toNat 0)).1) - t.err))), (Yd.val (bptr b10_ 1)), (Yd.val (Value.int .i64 ((d_0 t (z.getD t.frm.toNat 0)).2))), (Yd.val (bptr C 4)), (Yd.val (Value.int .i64 t.err)), (Yd.val (Value.int .i64 (((d_0 t (z.getD t.frm.toNat 0)).2) + t.err)))] (by decide +kernel) rfl rfl ?_ ?_
   ·skip
    refine dq (fun a w hA hS hd => a_1 rfl (hA.ev rfl)) ?_
    refine dq (fun a w hA hS hd => e_9 rfl (hq hd 0)) ?_
    refine dq (fun a w hA hS hd => a_1 rfl (hq hd 1)) ?_
    refine dy 2 (fun a w hA hS hd => a_3 rfl v_2 (hA.ev rfl) (hS.rk 2 rfl) rfl) ?_
    refine dy 2 (fun a w hA hS hd => a_4 rfl fd_106_1 (hA.ev rfl)) ?_
    refine dy 2 (fun a w hA hS hd => a_3 rfl ty_3 (hq hd 4) (hS.bk 1 rfl) rfl) ?_
    refine dy 2 (fun a w hA hS hd => b_2 rfl k_2 ty_3 (hq hd 3) (i := t.dst.toNat) ((hq hd 5).trans (h_6 (by omega))) (hS.sk 5 rfl) (by decide) (by omega)) ?_
    refine dy 2 (fun a w hA hS hd => c_5 rfl ty_3 (hq hd 6) (hS.sk 5 rfl) (ints_at (by omega))) ?_
    refine dy 2 (fun a w hA hS hd => a_4 rfl m_4 (hA.ev rfl)) ?_
    refine dy 2 (fun a w hA hS hd => a_3 rfl ty_3 (hq hd 8) (hS.bk 0 rfl) rfl) ?_
    refine dy 2 (fun a w hA hS hd => a_4 rfl v_7 (hA.ev rfl)) ?_
    refine dy 2 (fun a w hA hS hd => a_3 rfl ty_3 (hq hd 10) (hS.bk 1 rfl) rfl) ?_
    refine dy 2 (fun a w hA hS hd => g_6 rfl (hq hd 9) (hq hd 11) (by omega) (by omega)) ?_
    refine dy 2 (fun a w hA hS hd => a_4 rfl m_5 (hA.ev rfl)) ?_
    refine dy 2 (fun a w hA hS hd => a_3 rfl ty_3 (hq hd 13) (hS.bk 0 rfl) rfl) ?_
    refine dy 2 (fun a w hA hS hd => a_4 rfl v_7 (hA.ev rfl)) ?_
    refine dy 2 (fun a w hA hS hd => a_3 rfl ty_3 (hq hd 15) (hS.bk 1 rfl) rfl) ?_
    refine dy 2 (fun a w hA hS hd => f_1 rfl (hq hd 14) (hq hd 16) (by omega) (by omega)) ?_
    trivial
   intro Au BG AG Aq M; clear AF W
   have AH := AG.add (hz M 2); clear AG
   have AI := AH.add (hz M 7); clear AH
   have AJ := AI.add (hz M 12); clear AI
   have K := AJ.add (hz M 17); clear AJ
   clear M
   refine s6 K (b_1 rfl aa_8 (ev3 (K.ev rfl) (K.ev rfl) (K.ev rfl)) (k_6 _ _ _ _)) ?_
   rintro Av _ W_ ⟨rfl, hW_⟩ T; have hW2_ := hW_.symm; subst hW2_; clear hW_ K Au
   refine s1 T (c_8 rfl (T.ev rfl) (T.ev rfl)) fun Aw c => ?_; clear T Av
   refine s1 c (a_0 rfl (c.ev rfl)) fun BD AK => ?_; clear c Aw
   refine n1 ?_
   refine c_1 ?_
   refine a_7 AK (.inl rfl) (a_2 AK rfl (.tmp rfl)) ?_
   exact ⟨congrArg Value.bool (Eq.symm (l_9 (by assumption))), Aq.ext⟩
  skip
  rw [k] at I
  have AL := I.as [(5, (Value.bool false)), (4, (bptr b10_ 0)), (2, (bptr C 0)), (1, (bptr bz 0))] rfl; clear I
  refine f_9 mixed AL W 18 [[], [0], [1], [2], [2], [2, 4], [2, 3, 5], [2, 6], [2], [2, 8], [2], [2, 10], [2, 9, 11], [2], [2, 13], [2], [2, 15], [2, 14, 16]] [(Yd.val (Value.bool false)), (Yd.val (Value.bool (!false))), (Yd.val (Value.bool (!false))), (Yd.val undef), (Yd.val undef), (Yd.val undef), (Yd.val undef), (Yd.val undef), (Yd.val undef), (Yd.val undef), (Yd.val undef), (Yd.val undef), (Yd.val undef), (Yd.val undef), (Yd.val undef), (Yd.val undef), (Yd.val undef), (Yd.val undef)] (by decide +kernel) rfl rfl ?_ ?_
  ·skip
   refine dq (fun a w hA hS hd => a_1 rfl (hA.ev rfl)) ?_
   refine dq (fun a w hA hS hd => e_9 rfl (hq hd 0)) ?_
   refine dq (fun a w hA hS hd => a_1 rfl (hq hd 1)) ?_
   refine dn 2 ?_
   refine dn 2 ?_
   refine dn 2 ?_
   refine dn 2 ?_
   refine dn 2 ?_
   refine dn 2 ?_
   refine dn 2 ?_
   refine dn 2 ?_
   refine dn 2 ?_
   refine dn 2 ?_
   refine dn 2 ?_
   refine dn 2 ?_
   refine dn 2 ?_
   refine dn 2 ?_
   refine dn 2 ?_
   trivial
  intro Ax BH AM Ar N; clear AL W
  have AN := AM.add (hz N 2); clear AM
  have AO := AN.add (hz N 7); clear AN
  have AP := AO.add (hz N 12); clear AO
  have AQ := AP.add (hz N 17); clear AP
  clear N
  refine s3 AQ fun Ay d => ?_; clear AQ Ax
  refine s1 d (b_4 rfl (d.ev rfl) (evc _ _)) fun Az e => ?_; clear d Ay
  refine s1 e (a_0 rfl (e.ev rfl)) fun BE AR => ?_; clear e Az
  refine n1 ?_
  refine c_1 ?_
  refine a_7 AR (.inl rfl) (a_2 AR rfl (.tmp rfl)) ?_
  exact ⟨congrArg Value.bool (Eq.symm (u_3 (by assumption))), Ar.ext⟩
 skip
 intro Aj A6 D rsf69 AS B hrq j; clear AV Ae
 obtain ⟨E, Y⟩ := B 10 (by decide) (by decide)
 obtain ⟨b10_, H, G⟩ := Y
 have Af : Sep NoB w A6 [(blk b10_ 30 [(Value.int .i64 0), (Value.int .i64 0)]), (blk C 106 [(Value.int .i64 t.frm), (Value.int .i64 t.dst), vr, vb, (Value.int .i64 t.err)]), (rob bz 44 [xz]), (sl vr 2 t.rows.length (pairs t.rows)), (sl vb 1 t.brk.length (ints t.brk)), (sl xz 1 z.length (ints z))] := by rw [show catR rsf69 0 11 = ([(blk b10_ 30 [(Value.int .i64 0), (Value.int .i64 0)])] : List Res) by (try simp only [catR, gr (B 0 (by decide) (by decide)), gr (B 1 (by decide) (by decide)), gr (B 2 (by decide) (by decide)), gr (B 3 (by decide) (by decide)), gr (B 4 (by decide) (by decide)), gr (B 5 (by decide) (by decide)), gr (B 6 (by decide) (by decide)), gr (B 7 (by decide) (by decide)), gr (B 8 (by decide) (by decide)), G, hrq]); (try rfl)] at j; exact j
 have AT := AS.add (gs (B 7 (by decide) (by decide))); clear AS
 have AU := AT.add (gs (B 8 (by decide) (by decide))); clear AT
 rw [H] at E
 have U : Fr 36 [] [(4, (bptr b10_ 0)), (14, (Value.agg #[(Value.int .i64 ((d_0 t (z.getD t.frm.toNat 0)).1)), (Value.int .i64 ((d_0 t (z.getD t.frm.toNat 0)).2))])), (6, (Value.tuple #[(Value.agg #[(Value.int .i64 ((d_0 t (z.getD t.frm.toNat 0)).1)), (Value.int .i64 ((d_0 t (z.getD t.frm.toNat 0)).2))]), (Value.bool ((j_3 t (z.getD t.frm.toNat 0)).isSome))])), (2, (bptr C 0)), (1, (bptr bz 0))] Aj := AU.add (h_8 E rfl); clear AU
 clear B j E hrq
 clear G
 clear H
 refine s7 U (b_8 Af rfl f_7 (U.ev rfl) (U.ev rfl) (i := 0) rfl (vs := [(Value.int .i64 ((d_0 t (z.getD t.frm.toNat 0)).1)), (Value.int .i64 ((d_0 t (z.getD t.frm.toNat 0)).2))]) rfl rfl rfl (Nat.le_of_ble_eq_true rfl)) ?_
 intro _ A7 Ag f; clear U
 have X : Sep NoB w A7 [(blk b10_ 30 [(Value.int .i64 ((d_0 t (z.getD t.frm.toNat 0)).1)), (Value.int .i64 ((d_0 t (z.getD t.frm.toNat 0)).2))]), (blk C 106 [(Value.int .i64 t.frm), (Value.int .i64 t.dst), vr, vb, (Value.int .i64 t.err)]), (rob bz 44 [xz]), (sl vr 2 t.rows.length (pairs t.rows)), (sl vb 1 t.brk.length (ints t.brk)), (sl xz 1 z.length (ints z))] := Ag; clear Ag Af
 refine s1 f (e_5 rfl (f.ev rfl) rfl) fun A0 g => ?_; clear f Aj
 refine s1 g (a_0 rfl (g.ev rfl)) fun BF AW => ?_; clear g A0
 refine n2 ?_
 have J := AW.as [(5, (Value.bool ((j_3 t (z.getD t.frm.toNat 0)).isSome))), (4, (bptr b10_ 0)), (2, (bptr C 0)), (1, (bptr bz 0))] rfl; clear AW
 rcases Bool.eq_false_or_eq_true (((j_3 t (z.getD t.frm.toNat 0)).isSome)) with m | m
 ·skip
  rw [m] at J
  have AX := J.as [(5, (Value.bool true)), (4, (bptr b10_ 0)), (2, (bptr C 0)), (1, (bptr bz 0))] rfl; clear J
  refine f_9 mixed AX X 18 [[], [0], [1], [2], [2], [2, 4], [2, 3, 5], [2, 6], [2], [2, 8], [2], [2, 10], [2, 9, 11], [2], [2, 13], [2], [2, 15], [2, 14, 16]] [(Yd.val (Value.bool true)), (Yd.val (Value.bool (!true))), (Yd.val (Value.bool (!true))), (Yd.val xz), (Yd.val (bptr C 1)), (Yd.val (Value.int .i64 t.dst)), (Yd.val (eptr xz (t.dst.toNat * 1))), (Yd.val (Value.int .i64 (z.getD t.dst.toNat 0))), (Yd.val (bptr b10_ 0)), (Yd.val (Value.int .i64 ((d_0 t (z.getD t.frm.toNat 0)).1))), (Yd.val (bptr C 4)), (Yd.val (Value.int .i64 t.err)), (Yd.val (Value.int .i64 (((d_0 t (z.getD t.frm.toNat 0)).1) - t.err))), (Yd.val (bptr b10_ 1)), (Yd.val (Value.int .i64 ((d_0 t (z.getD t.frm.toNat 0)).2))), (Yd.val (bptr C 4)), (Yd.val (Value.int .i64 t.err)), (Yd.val (Value.int .i64 (((d_0 t (z.getD t.frm.toNat 0)).2) + t.err)))] (by decide +kernel) rfl rfl ?_ ?_
  ·skip
   refine dq (fun a w hA hS hd => a_1 rfl (hA.ev rfl)) ?_
   refine dq (fun a w hA hS hd => e_9 rfl (hq hd 0)) ?_
   refine dq (fun a w hA hS hd => a_1 rfl (hq hd 1)) ?_
   refine dy 2 (fun a w hA hS hd => a_3 rfl v_2 (hA.ev rfl) (hS.rk 2 rfl) rfl) ?_
   refine dy 2 (fun a w hA hS hd => a_4 rfl fd_106_1 (hA.ev rfl)) ?_
   refine dy 2 (fun a w hA hS hd => a_3 rfl ty_3 (hq hd 4) (hS.bk 1 rfl) rfl) ?_
   refine dy 2 (fun a w hA hS hd => b_2 rfl k_2 ty_3 (hq hd 3) (i := t.dst.toNat) ((hq hd 5).trans (h_6 (by omega))) (hS.sk 5 rfl) (by decide) (by omega)) ?_
   refine dy 2 (fun a w hA hS hd => c_5 rfl ty_3 (hq hd 6) (hS.sk 5 rfl) (ints_at (by omega))) ?_
   refine dy 2 (fun a w hA hS hd => a_4 rfl m_4 (hA.ev rfl)) ?_
   refine dy 2 (fun a w hA hS hd => a_3 rfl ty_3 (hq hd 8) (hS.bk 0 rfl) rfl) ?_
   refine dy 2 (fun a w hA hS hd => a_4 rfl v_7 (hA.ev rfl)) ?_
   refine dy 2 (fun a w hA hS hd => a_3 rfl ty_3 (hq hd 10) (hS.bk 1 rfl) rfl) ?_
   refine dy 2 (fun a w hA hS hd => g_6 rfl (hq hd 9) (hq hd 11) (by omega) (by omega)) ?_
   refine dy 2 (fun a w hA hS hd => a_4 rfl m_5 (hA.ev rfl)) ?_
   refine dy 2 (fun a w hA hS hd => a_3 rfl ty_3 (hq hd 13) (hS.bk 0 rfl) rfl) ?_
   refine dy 2 (fun a w hA hS hd => a_4 rfl v_7 (hA.ev rfl)) ?_
   refine dy 2 (fun a w hA hS hd => a_3 rfl ty_3 (hq hd 15) (hS.bk 1 rfl) rfl) ?_
   refine dy 2 (fun a w hA hS hd => f_1 rfl (hq hd 14) (hq hd 16) (by omega) (by omega)) ?_
   trivial
  intro A1 BI AY As O; clear AX X
  have AZ := AY.add (hz O 2); clear AY
  have Aa := AZ.add (hz O 7); clear AZ
  have Ab := Aa.add (hz O 12); clear Aa
  have L := Ab.add (hz O 17); clear Ab
  clear O
  refine s6 L (b_1 rfl aa_8 (ev3 (L.ev rfl) (L.ev rfl) (L.ev rfl)) (k_6 _ _ _ _)) ?_
  rintro A2 _ W_ ⟨rfl, hW_⟩ V; have hW2_ := hW_.symm; subst hW2_; clear hW_ L A1
  refine s1 V (c_8 rfl (V.ev rfl) (V.ev rfl)) fun A3 P => ?_; clear V A2
  refine s1 P (a_0 rfl (P.ev rfl)) fun A9 o => ?_; clear P A3
  refine n1 ?_
  refine c_1 ?_
  refine a_7 o (.inl rfl) (a_2 o rfl (.tmp rfl)) ?_
  exact ⟨congrArg Value.bool (Eq.symm (l_9 (by assumption))), As.ext⟩
 skip
 rw [m] at J
 have q := J.as [(5, (Value.bool false)), (4, (bptr b10_ 0)), (2, (bptr C 0)), (1, (bptr bz 0))] rfl; clear J
 refine f_9 mixed q X 18 [[], [0], [1], [2], [2], [2, 4], [2, 3, 5], [2, 6], [2], [2, 8], [2], [2, 10], [2, 9, 11], [2], [2, 13], [2], [2, 15], [2, 14, 16]] [(Yd.val (Value.bool false)), (Yd.val (Value.bool (!false))), (Yd.val (Value.bool (!false))), (Yd.val undef), (Yd.val undef), (Yd.val undef), (Yd.val undef), (Yd.val undef), (Yd.val undef), (Yd.val undef), (Yd.val undef), (Yd.val undef), (Yd.val undef), (Yd.val undef), (Yd.val undef), (Yd.val undef), (Yd.val undef), (Yd.val undef)] (by decide +kernel) rfl rfl ?_ ?_
 ·skip
  refine dq (fun a w hA hS hd => a_1 rfl (hA.ev rfl)) ?_
  refine dq (fun a w hA hS hd => e_9 rfl (hq hd 0)) ?_
  refine dq (fun a w hA hS hd => a_1 rfl (hq hd 1)) ?_
  refine dn 2 ?_
  refine dn 2 ?_
  refine dn 2 ?_
  refine dn 2 ?_
  refine dn 2 ?_
  refine dn 2 ?_
  refine dn 2 ?_
  refine dn 2 ?_
  refine dn 2 ?_
  refine dn 2 ?_
  refine dn 2 ?_
  refine dn 2 ?_
  refine dn 2 ?_
  refine dn 2 ?_
  refine dn 2 ?_
  trivial
 intro An BB r Ah F; clear q X
 have s := r.add (hz F 2); clear r
 have u := s.add (hz F 7); clear s
 have x := u.add (hz F 12); clear u
 have y := x.add (hz F 17); clear x
 clear F
 refine s3 y fun Ao Q => ?_; clear y An
 refine s1 Q (b_4 rfl (Q.ev rfl) (evc _ _)) fun Ap R => ?_; clear Q Ao
 refine s1 R (a_0 rfl (R.ev rfl)) fun BA AA => ?_; clear R Ap
 refine n1 ?_
 refine c_1 ?_
 refine a_7 AA (.inl rfl) (a_2 AA rfl (.tmp rfl)) ?_
 exact ⟨congrArg Value.bool (Eq.symm (u_3 (by assumption))), Ah.ext⟩
theorem Prove_bad (b : g_9) (vt vm : Value) (lr lb lk : Nat → Value) (w : World) (hT : i_6 w vt lr lb b.tabs) (hM : j_2 w vm lk b.macs) (hth : n_6 b) (l : List (Int × Int)) (xl : Value) (hxl : SlAt w xl 2 l.length (pairs l)) (hlb : l.length ≤ 1000000) (z : List Int) (xz : Value) (hxz : SlAt w xz 1 z.length (ints z)) (AR : z.length ≤ 1000000) (hr : l_6 b l ≠ 0) :
  Calls Try.prog 39 #[(Value.agg #[(Value.int .i64 b.scales), vt, vm]), xl, xz] w (Ret fun v w' => v = .bool false ∧ Ext NoB w w') := by
 refine a_8 Try.func39 rfl fun k D => ?_
 replace D : Fr 66 [] [(0, (Value.agg #[(Value.int .i64 b.scales), vt, vm])), (1, xl), (2, xz)] k := D
 have h : Sep NoB w w [(e_1 false vt lr lb b.tabs), (f_0 false vm lk b.macs), (sl xl 2 l.length (pairs l)), (sl xz 1 z.length (ints z))] := e_3 ⟨rfl, hT, rfl, hM, rfl, hxl, rfl, hxz, trivial⟩
 refine m2 ?_
 refine s2 D (e_7 h rfl (D.ev rfl) (cs := [(Value.int .i64 b.scales), vt, vm]) rfl) ?_
 rintro a1 _ w3 ⟨b4, rfl, f⟩ R; clear D h k
 refine s2 R (e_7 f rfl (R.ev rfl) (cs := [xz]) (r_5 (SlAt.isSl (f.sk 4 rfl)))) ?_
 rintro a6 _ w8 ⟨b9, rfl, A⟩ g; clear R f a1
 refine s1 g (a_0 rfl (evc _ _)) fun m E => ?_; clear g a6
 refine n2 ?_
 refine m2 ?_
 refine s1 E (c_4 rfl s_7 (E.ev rfl) (A.bk 1 rfl) (l := [(Value.int .i64 b.scales), vt, vm]) rfl rfl) fun n F => ?_; clear E m
 refine s1 F (a_1 rfl (F.ev rfl)) fun o B => ?_; clear F n
 refine s2 B (b_1 rfl en_56 (ev2 (B.ev rfl) (B.ev rfl)) (read_bad b vt vm lr lb lk _ (b_7 (A.ok 2 _ rfl)) (c_2 (A.ok 3 _ rfl)) hth l _ (A.sk 4 rfl) (by omega) hr)) ?_
 rintro p _ AS ⟨rfl, e⟩ G; have i := A.step e; clear e B A o
 refine s1 G (a_1 rfl (G.ev rfl)) fun q H => ?_; clear G p
 refine s1 H (e_5 rfl (H.ev rfl) rfl) fun r I => ?_; clear H q
 refine s1 I (e_5 rfl (I.ev rfl) rfl) fun s J => ?_; clear I r
 refine s1 J (a_0 rfl (J.ev rfl)) fun t K => ?_; clear J s
 refine s1 K (a_0 rfl (K.ev rfl)) fun u S => ?_; clear K t
 refine n2 ?_
 have L := S.as [(8, (Value.int .i64 (l_6 b l))), (5, (bptr b9 0)), (3, (bptr b4 0)), (1, xl)] rfl; clear S
 refine a_5 ?_
 refine s1 L (a_1 rfl (L.ev rfl)) fun x M => ?_; clear L u
 refine s1 M (w_8 rfl (M.ev rfl) (evc _ _)) fun y C => ?_; clear M x
 have j : ¬ ((l_6 b l) = 0) := hr
 rw [decide_eq_false j] at C
 refine s1 C (a_1 rfl (C.ev rfl)) fun AA T => ?_; clear C y
 refine s3 T fun AB U => ?_; clear T AA
 refine s3 U fun AC V => ?_; clear U AB
 refine s3 V fun AD W => ?_; clear V AC
 refine s3 W fun AE X => ?_; clear W AD
 refine s3 X fun AF N => ?_; clear X AE
 refine s1 N (b_4 rfl (N.ev rfl) (evc _ _)) fun AG O => ?_; clear N AF
 refine s1 O (a_1 rfl (O.ev rfl)) fun AH Y => ?_; clear O AG
 refine s3 Y fun AI Z => ?_; clear Y AH
 refine s3 Z fun AJ a => ?_; clear Z AI
 refine s3 a fun AK P => ?_; clear a AJ
 refine s1 P (b_4 rfl (P.ev rfl) (evc _ _)) fun AL Q => ?_; clear P AK
 refine n1 ?_
 refine c_0 Q rfl ?_
 refine b_6 ?_
 have c := Q.as [] rfl; clear Q
 refine a_5 ?_
 refine s1 c (a_0 rfl (evc _ _)) fun AQ d => ?_; clear c AL
 refine n1 ?_
 refine c_1 ?_
 refine a_6 ?_
 refine a_7 d (.inl rfl) (a_2 d rfl (.tmp rfl)) ?_
 exact ⟨rfl, i.ext⟩
set_option maxHeartbeats 4000000 in
theorem Prove_ok (b : g_9) (vt vm : Value) (lr lb lk : Nat → Value) (w : World) (hT : i_6 w vt lr lb b.tabs) (hM : j_2 w vm lk b.macs) (hth : n_6 b) (l : List (Int × Int)) (xl : Value) (hxl : SlAt w xl 2 l.length (pairs l)) (hlb : l.length ≤ 1000000) (z : List Int) (xz : Value) (hxz : SlAt w xz 1 z.length (ints z)) (CP : z.length ≤ 1000000) (hr : l_6 b l = 0) :
  Calls Try.prog 39 #[(Value.agg #[(Value.int .i64 b.scales), vt, vm]), xl, xz] w (Ret fun v w' => v = .bool (z_5 b l z) ∧ Ext NoB w w') := by
 refine a_8 Try.func39 rfl fun a0 AE => ?_
 replace AE : Fr 66 [] [(0, (Value.agg #[(Value.int .i64 b.scales), vt, vm])), (1, xl), (2, xz)] a0 := AE
 have hc : f_3 b = 0 := read_check hr; have hbl := read_ok hr; have hb := hbl.1; have hl := hbl.2; have hll := hl.len; have hsc := hb.scales; have hml9 := hth.ml
 have BJ : Sep NoB w w [(e_1 false vt lr lb b.tabs), (f_0 false vm lk b.macs), (sl xl 2 l.length (pairs l)), (sl xz 1 z.length (ints z))] := e_3 ⟨rfl, hT, rfl, hM, rfl, hxl, rfl, hxz, trivial⟩
 refine m2 ?_
 refine s2 AE (e_7 BJ rfl (AE.ev rfl) (cs := [(Value.int .i64 b.scales), vt, vm]) rfl) ?_
 rintro a1 _ w3 ⟨S, rfl, A6⟩ Az; clear AE BJ a0
 refine s2 Az (e_7 A6 rfl (Az.ev rfl) (cs := [xz]) (r_5 (SlAt.isSl (A6.sk 4 rfl)))) ?_
 rintro a6 _ w8 ⟨K, rfl, I⟩ BI; clear Az A6 a1
 refine s1 BI (a_0 rfl (evc _ _)) fun Bh AF => ?_; clear BI a6
 refine n2 ?_
 refine m2 ?_
 refine s1 AF (c_4 rfl s_7 (AF.ev rfl) (I.bk 1 rfl) (l := [(Value.int .i64 b.scales), vt, vm]) rfl rfl) fun Bi AG => ?_; clear AF Bh
 refine s1 AG (a_1 rfl (AG.ev rfl)) fun Bj j => ?_; clear AG Bi
 refine s2 j (b_1 rfl en_56 (ev2 (j.ev rfl) (j.ev rfl)) (read_yes b vt vm lr lb lk _ (b_7 (I.ok 2 _ rfl)) (c_2 (I.ok 3 _ rfl)) hth l _ (I.sk 4 rfl) (by omega) hc hr)) ?_
 rintro Bk _ CQ ⟨bx22, bm23, es24, ck25, rfl, hMO26, A9⟩ AH; have E := I.y_8 A9 rfl; clear A9 j I Bj
 refine s1 AH (a_1 rfl (AH.ev rfl)) fun Bl AI => ?_; clear AH Bk
 refine s1 AI (e_5 rfl (AI.ev rfl) rfl) fun Bm AJ => ?_; clear AI Bl
 refine s1 AJ (e_5 rfl (AJ.ev rfl) rfl) fun Bn AK => ?_; clear AJ Bm
 refine s1 AK (a_0 rfl (AK.ev rfl)) fun Bo AL => ?_; clear AK Bn
 refine s1 AL (a_0 rfl (AL.ev rfl)) fun Bp A0 => ?_; clear AL Bo
 refine n2 ?_
 have AM := A0.as [(8, (Value.int .i64 0)), (5, (bptr K 0)), (3, (bptr S 0)), (1, xl)] rfl; clear A0
 refine a_5 ?_
 refine s1 AM (a_1 rfl (AM.ev rfl)) fun Bq AN => ?_; clear AM Bp
 refine s1 AN (w_8 rfl (AN.ev rfl) (evc _ _)) fun Br AO => ?_; clear AN Bq
 refine s1 AO (a_1 rfl (AO.ev rfl)) fun Bs AP => ?_; clear AO Br
 refine s5 AP (a_3 rfl v_2 (AP.ev rfl) (E.bk 2 rfl) rfl) fun Bt AQ => ?_; clear AP Bs
 refine s5 AQ (d_2 rfl k_2 (AQ.ev rfl) (E.sk 7 rfl)) fun Bu AR => ?_; clear AQ Bt
 refine s5 AR (a_4 rfl y_0 (AR.ev rfl)) fun Bv AS => ?_; clear AR Bu
 refine s5 AS (a_3 rfl ty_3 (AS.ev rfl) (E.bk 3 rfl) rfl) fun Bw r => ?_; clear AS Bv
 refine s5 r (w_8 rfl (r.ev rfl) (r.ev rfl)) fun Bx s => ?_; clear r Bw
 refine s1 s (c_8 rfl (s.ev rfl) (s.ev rfl)) fun By AT => ?_; clear s Bx
 refine s1 AT (a_1 rfl (AT.ev rfl)) fun BF F => ?_; clear AT By
 by_cases BA : (z.length : Int) = b.scales
 ·skip
  rw [decide_eq_true BA] at F
  refine s5 F (a_3 rfl v_2 (F.ev rfl) (E.bk 2 rfl) rfl) fun Bz AU => ?_; clear F BF
  refine s6 AU (b_1 rfl en_69 (ev2 (AU.ev rfl) (evf _ _)) (all_int z _ 70 #[] #[] (fun i => inB (z.getD i 0) 0 100000) _ (E.sk 7 rfl) (by omega) ⟨en_70, fun i hi W hW => value_ok _ W⟩)) ?_
  rintro B0 _ CR ⟨rfl, A5⟩ AV; have AB := E.step A5; clear A5 AU E Bz
  refine s5 AV (e_9 rfl (AV.ev rfl)) fun B1 t => ?_; clear AV B0
  refine s1 t (c_8 rfl (t.ev rfl) (t.ev rfl)) fun BG D => ?_; clear t B1
  refine n1 ?_
  rcases Bool.eq_false_or_eq_true (((List.range z.length).all (fun i => inB (z.getD i 0) 0 100000))) with AD | AD
  ·skip
   rw [AD] at D
   have hzv := List.all_eq_true.1 AD
   refine b_5 D rfl ?_
   refine c_6 ?_
   refine a_9 ?_
   refine b_6 ?_
   refine b_6 ?_
   have AW := D.as [(5, (bptr K 0)), (3, (bptr S 0)), (1, xl)] rfl; clear D
   refine a_5 ?_
   refine s1 AW (a_1 rfl (AW.ev rfl)) fun B2 AX => ?_; clear AW BG
   refine s1 AX (d_2 rfl ab_9 (AX.ev rfl) (AB.sk 6 rfl)) fun B3 A1 => ?_; clear AX B2
   refine s1 A1 (a_1 rfl (evc _ _)) fun B4 A2 => ?_; clear A1 B3
   refine n1 ?_
   refine c_3 ?_
   have A3 := A2.as [(35, (Value.int .i64 0)), (34, (Value.int .i64 (l.length : Int))), (33, xl), (5, (bptr K 0)), (3, (bptr S 0))] rfl; clear A2
   refine g_4 (G := Nat) (fun (k : Nat) a_ w_ => Fr 66 [] [(35, (Value.int .i64 (k : Int))), (34, (Value.int .i64 (l.length : Int))), (33, xl), (5, (bptr K 0)), (3, (bptr S 0))] a_ ∧ Sep NoB w w_ [(blk bx22 146 [(Value.int .i64 b.scales), vt, vm, (Value.map (some bm23))]), (mapX true bm23 es24 ck25 es24.size 106 5 (bN b.tabs b.tabs.length) (bC lr lb b.tabs b.tabs.length)), (blk K 44 [xz]), (blk S 37 [(Value.int .i64 b.scales), vt, vm]), (e_1 false vt lr lb b.tabs), (f_0 false vm lk b.macs), (sl xl 2 l.length (pairs l)), (sl xz 1 z.length (ints z))] ∧ (k ≤ l.length) ∧ (∀ i, i < k → y_1 b l z i = true)) (fun k => l.length - k) 0 ⟨A3.as _ rfl, AB, by omega, (fun _ h => absurd h (Nat.not_lt_zero _))⟩ ?_
   clear A3 AB B4
   rintro k B5 CS ⟨u, A, hkk, BK⟩
   refine m2 ?_
   refine s1 u (f_5 rfl (u.ev rfl) (u.ev rfl)) fun BH B => ?_; clear u B5
   refine n2 ?_
   by_cases BB : (k : Int) < (l.length : Int)
   ·skip
    rw [decide_eq_true BB] at B
    have hmv := hl.macV hb (k := k) (by omega); have hsv := hmv.scale; have hbb := biasF_bd hmv; have hlm := hl.mac k (by omega); have hlr := hl.read k (by omega); have CO := i_4.1 (hzv (b.macs.getD (l.getD k (0, 0)).1.toNat mac0).scale.toNat (List.mem_range.2 (by omega)))
    refine c_0 B rfl ?_
    refine c_6 ?_
    refine a_9 ?_
    refine b_6 ?_
    refine c_3 ?_
    refine m2 ?_
    refine s1 B (b_2 rfl ab_9 ab_8 (B.ev rfl) (i := k) (B.ev rfl) (A.sk 6 rfl) (by decide) (by omega)) fun B6 AY => ?_; clear B BH
    refine s1 AY (e_2 rfl ab_8 (AY.ev rfl) (A.sk 6 rfl) (h_5 (by omega)) rfl (by decide)) fun B7 A4 => ?_; clear AY B6
    refine s2 A4 (d_9 A rfl ze_98 (cs := [(Value.int .i64 0), (Value.int .i64 0)]) rfl) ?_
    rintro B8 _ CT ⟨T, rfl, A7⟩ x; clear A4 A B7
    refine s7 x (b_8 A7 rfl ab_8 (x.ev rfl) (x.ev rfl) (i := 0) rfl (vs := [(Value.int .i64 ((l.getD k (0, 0)).1)), (Value.int .i64 ((l.getD k (0, 0)).2))]) rfl rfl rfl (Nat.le_of_ble_eq_true rfl)) ?_
    intro _ CA A8 AZ; clear x
    have J : Sep NoB w CA [(blk T 98 [(Value.int .i64 ((l.getD k (0, 0)).1)), (Value.int .i64 ((l.getD k (0, 0)).2))]), (blk bx22 146 [(Value.int .i64 b.scales), vt, vm, (Value.map (some bm23))]), (mapX true bm23 es24 ck25 es24.size 106 5 (bN b.tabs b.tabs.length) (bC lr lb b.tabs b.tabs.length)), (blk K 44 [xz]), (blk S 37 [(Value.int .i64 b.scales), vt, vm]), (e_1 false vt lr lb b.tabs), (f_0 false vm lk b.macs), (sl xl 2 l.length (pairs l)), (sl xz 1 z.length (ints z))] := A8; clear A8 A7
    refine n4 ?_
    refine s1 AZ (a_4 rfl s_1 (AZ.ev rfl)) fun B9 V => ?_; clear AZ B8
    refine s1 V (a_3 rfl ab_7 (V.ev rfl) (J.bk 4 rfl) rfl) fun BL X => ?_; clear V B9
    refine s1 X (a_4 rfl fd_98_0 (X.ev rfl)) fun BM Y => ?_; clear X BL
    refine s1 Y (a_3 rfl ty_3 (Y.ev rfl) (J.bk 0 rfl) rfl) fun BN L => ?_; clear Y BM
    refine s1 L (b_2 rfl ab_2 o_3 (L.ev rfl) (i := ((l.getD k (0, 0)).1).toNat) ((L.ev rfl).trans (h_6 (by omega))) (c_2 (J.ok 6 _ rfl)).macs (by decide) (by omega)) fun BO Z => ?_; clear L BN
    refine s1 Z (e_2 rfl o_3 (Z.ev rfl) (c_2 (J.ok 6 _ rfl)).macs (r_1 (by omega)) rfl (by decide)) fun BP Aa => ?_; clear Z BO
    refine s2 Aa (d_9 J rfl ze_103 (cs := [(Value.int .i64 0), (Value.slice none 0 0)]) rfl) ?_
    rintro BQ _ CJ ⟨R, rfl, y⟩ M; clear Aa J BP
    refine s7 M (b_8 y rfl o_3 (M.ev rfl) (M.ev rfl) (i := 0) rfl (vs := [(Value.int .i64 ((b.macs.getD (((l.getD k (0, 0)).1).toNat) mac0).scale)), (lk (((l.getD k (0, 0)).1).toNat))]) rfl rfl (h_4 rfl (h_4 (SlAt.one ((c_2 (y.ok 7 _ rfl)).blk (i := ((l.getD k (0, 0)).1).toNat) (by omega))) t_4)) (Nat.le_of_ble_eq_true rfl)) ?_
    intro _ Be At Ab; clear M
    have Q : Sep NoB w Be [(blk R 103 [(Value.int .i64 ((b.macs.getD (((l.getD k (0, 0)).1).toNat) mac0).scale)), (lk (((l.getD k (0, 0)).1).toNat))]), (blk T 98 [(Value.int .i64 ((l.getD k (0, 0)).1)), (Value.int .i64 ((l.getD k (0, 0)).2))]), (blk bx22 146 [(Value.int .i64 b.scales), vt, vm, (Value.map (some bm23))]), (mapX true bm23 es24 ck25 es24.size 106 5 (bN b.tabs b.tabs.length) (bC lr lb b.tabs b.tabs.length)), (blk K 44 [xz]), (blk S 37 [(Value.int .i64 b.scales), vt, vm]), (e_1 false vt lr lb b.tabs), (f_0 false vm lk b.macs), (sl xl 2 l.length (pairs l)), (sl xz 1 z.length (ints z))] := At; clear At y
    refine n2 ?_
    have c := Ab.as [(11, (bptr R 0)), (10, (bptr T 0)), (35, (Value.int .i64 (k : Int))), (34, (Value.int .i64 (l.length : Int))), (33, xl), (5, (bptr K 0)), (3, (bptr S 0))] rfl; clear Ab
    refine a_5 ?_
    refine s1 c (c_4 rfl o_3 (c.ev rfl) (Q.bk 0 rfl) (l := [(Value.int .i64 ((b.macs.getD (((l.getD k (0, 0)).1).toNat) mac0).scale)), (lk (((l.getD k (0, 0)).1).toNat))]) rfl rfl) fun BR d => ?_; clear c BQ
    refine s2 d (b_1 rfl en_67 (ev1 (d.ev rfl)) (bias_ok _ (b.macs.getD (((l.getD k (0, 0)).1).toNat) mac0) _ _ ((c_2 (Q.ok 7 _ rfl)).blk (i := ((l.getD k (0, 0)).1).toNat) (by omega)) hmv (hth.kl _))) ?_
    rintro BS _ CK ⟨rfl, Ar⟩ Ac; have Au := Q.step Ar; clear Ar d Q BR
    refine s2 Ac (d_9 Au rfl x_5 (cs := [(Value.int .i64 0), (Value.int .i64 0)]) rfl) ?_
    rintro CC _ CL ⟨U, rfl, Av⟩ N; clear Ac Au BS
    refine s7 N (b_8 Av rfl f_7 (N.ev rfl) (N.ev rfl) (i := 0) rfl (vs := [(Value.int .i64 ((d_5 (b.macs.getD (((l.getD k (0, 0)).1).toNat) mac0)).1)), (Value.int .i64 ((d_5 (b.macs.getD (((l.getD k (0, 0)).1).toNat) mac0)).2))]) rfl rfl rfl (Nat.le_of_ble_eq_true rfl)) ?_
    intro _ Bf Aw Ad; clear N
    have Ax : Sep NoB w Bf [(blk U 30 [(Value.int .i64 ((d_5 (b.macs.getD (((l.getD k (0, 0)).1).toNat) mac0)).1)), (Value.int .i64 ((d_5 (b.macs.getD (((l.getD k (0, 0)).1).toNat) mac0)).2))]), (blk R 103 [(Value.int .i64 ((b.macs.getD (((l.getD k (0, 0)).1).toNat) mac0).scale)), (lk (((l.getD k (0, 0)).1).toNat))]), (blk T 98 [(Value.int .i64 ((l.getD k (0, 0)).1)), (Value.int .i64 ((l.getD k (0, 0)).2))]), (blk bx22 146 [(Value.int .i64 b.scales), vt, vm, (Value.map (some bm23))]), (mapX true bm23 es24 ck25 es24.size 106 5 (bN b.tabs b.tabs.length) (bC lr lb b.tabs b.tabs.length)), (blk K 44 [xz]), (blk S 37 [(Value.int .i64 b.scales), vt, vm]), (e_1 false vt lr lb b.tabs), (f_0 false vm lk b.macs), (sl xl 2 l.length (pairs l)), (sl xz 1 z.length (ints z))] := Aw; clear Aw Av
    refine n2 ?_
    have Ae := Ad.as [(12, (bptr U 0)), (11, (bptr R 0)), (10, (bptr T 0)), (35, (Value.int .i64 (k : Int))), (34, (Value.int .i64 (l.length : Int))), (33, xl), (5, (bptr K 0)), (3, (bptr S 0))] rfl; clear Ad
    refine f_9 mixed Ae Ax 12 [[], [0], [], [], [3], [2, 4], [5], [1, 6], [], [8], [], [10]] [(Yd.val (bptr T 1)), (Yd.val (Value.int .i64 ((l.getD k (0, 0)).2))), (Yd.val xz), (Yd.val (bptr R 0)), (Yd.val (Value.int .i64 ((b.macs.getD (((l.getD k (0, 0)).1).toNat) mac0).scale))), (Yd.val (eptr xz (((b.macs.getD (((l.getD k (0, 0)).1).toNat) mac0).scale).toNat * 1))), (Yd.val (Value.int .i64 (z.getD (((b.macs.getD (((l.getD k (0, 0)).1).toNat) mac0).scale).toNat) 0))), (Yd.val (Value.int .i64 (((l.getD k (0, 0)).2) - (z.getD (((b.macs.getD (((l.getD k (0, 0)).1).toNat) mac0).scale).toNat) 0)))), (Yd.val (bptr U 0)), (Yd.val (Value.int .i64 ((d_5 (b.macs.getD (((l.getD k (0, 0)).1).toNat) mac0)).1))), (Yd.val (bptr U 1)), (Yd.val (Value.int .i64 ((d_5 (b.macs.getD (((l.getD k (0, 0)).1).toNat) mac0)).2)))] (by decide +kernel) rfl rfl ?_ ?_
    ·skip
     refine dq (fun a w hA hS hd => a_4 rfl fd_98_1 (hA.ev rfl)) ?_
     refine dq (fun a w hA hS hd => a_3 rfl ty_3 (hq hd 0) (hS.bk 2 rfl) rfl) ?_
     refine dq (fun a w hA hS hd => a_3 rfl v_2 (hA.ev rfl) (hS.bk 5 rfl) rfl) ?_
     refine dq (fun a w hA hS hd => a_4 rfl fd_103_0 (hA.ev rfl)) ?_
     refine dq (fun a w hA hS hd => a_3 rfl ty_3 (hq hd 3) (hS.bk 1 rfl) rfl) ?_
     refine dq (fun a w hA hS hd => b_2 rfl k_2 ty_3 (hq hd 2) (i := ((b.macs.getD (((l.getD k (0, 0)).1).toNat) mac0).scale).toNat) ((hq hd 4).trans (h_6 (by omega))) (hS.sk 10 rfl) (by decide) (by omega)) ?_
     refine dq (fun a w hA hS hd => c_5 rfl ty_3 (hq hd 5) (hS.sk 10 rfl) (ints_at (by omega))) ?_
     refine dq (fun a w hA hS hd => g_6 rfl (hq hd 1) (hq hd 6) (by omega) (by omega)) ?_
     refine dq (fun a w hA hS hd => a_4 rfl m_4 (hA.ev rfl)) ?_
     refine dq (fun a w hA hS hd => a_3 rfl ty_3 (hq hd 8) (hS.bk 0 rfl) rfl) ?_
     refine dq (fun a w hA hS hd => a_4 rfl m_5 (hA.ev rfl)) ?_
     refine dq (fun a w hA hS hd => a_3 rfl ty_3 (hq hd 10) (hS.bk 0 rfl) rfl) ?_
     trivial
    intro BT CM Af AA P; clear Ae Ax
    have Ag := Af.add (hz P 7); clear Af
    have Ah := Ag.add (hz P 9); clear Ag
    have H := Ah.add (hz P 11); clear Ah
    clear P
    refine s2 H (b_1 rfl aa_8 (ev3 (H.ev rfl) (H.ev rfl) (H.ev rfl)) (k_6 _ _ _ _)) ?_
    rintro BU _ W_ ⟨rfl, hW_⟩ e; have hW2_ := hW_.symm; subst hW2_; clear hW_ H BT
    refine s1 e (e_9 rfl (e.ev rfl)) fun Ay C => ?_; clear e BU
    refine n1 ?_
    rcases Bool.eq_false_or_eq_true ((inB (((l.getD k (0, 0)).2) - (z.getD (((b.macs.getD (((l.getD k (0, 0)).1).toNat) mac0).scale).toNat) 0)) ((d_5 (b.macs.getD (((l.getD k (0, 0)).1).toNat) mac0)).1) ((d_5 (b.macs.getD (((l.getD k (0, 0)).1).toNat) mac0)).2))) with AC | AC
    ·skip
     rw [AC] at C
     refine b_5 C rfl ?_
     refine c_6 ?_
     refine g_0 ?_
     refine a_9 ?_
     have f := C.as [(35, (Value.int .i64 (k : Int))), (34, (Value.int .i64 (l.length : Int))), (33, xl), (5, (bptr K 0)), (3, (bptr S 0))] rfl; clear C
     refine a_5 ?_
     refine s1 f (f_1 rfl (f.ev rfl) (evc _ _) (by omega) (by omega)) fun BV g => ?_; clear f Ay
     refine s1 g (a_1 rfl (g.ev rfl)) fun CD BC => ?_; clear g BV
     refine e_8 ?_
     have BD := AA.gkp (gpc 3 (gpc 4 (gpc 5 (gpc 6 (gpc 7 (gpc 8 (gpc 9 (gpc 10 gpn)))))))); clear AA
     exact a_9 ⟨k + 1, ⟨BC.as _ rfl, BD, by omega, (fun i hi => by rcases Nat.lt_succ_iff_lt_or_eq.1 hi with h | h; exact BK i h; subst h; exact (fitR_is.trans (by assumption)))⟩, by omega⟩
    skip
    rw [AC] at C
    refine c_0 C rfl ?_
    refine b_6 ?_
    have Ai := C.as [] rfl; clear C
    refine a_5 ?_
    refine s1 Ai (a_0 rfl (evc _ _)) fun CE Aj => ?_; clear Ai Ay
    refine n1 ?_
    refine c_1 ?_
    refine b_9 ?_
    refine a_6 ?_
    refine a_6 ?_
    refine b_9 ?_
    refine a_6 ?_
    refine a_7 Aj (.inl rfl) (a_2 Aj rfl (.tmp rfl)) ?_
    exact ⟨congrArg Value.bool (by first | exact (y_2 (by omega)).symm | exact (fits_n1' (by assumption)).symm | exact (y_3 (k := k) (by omega) (by assumption)).symm), AA.ext⟩
   skip
   rw [decide_eq_false BB] at B
   refine b_5 B rfl ?_
   refine g_3 ?_
   refine b_3 ?_
   refine b_3 ?_
   refine f_2 ?_
   refine a_9 ?_
   refine m2 ?_
   refine s1 B (a_4 rfl t_5 (B.ev rfl)) fun BW m => ?_; clear B BH
   refine s1 m (a_3 rfl ty_34 (m.ev rfl) (A.bk 3 rfl) rfl) fun BX n => ?_; clear m BW
   refine s1 n (g_1 rfl ev0 (ev1 (n.ev rfl))) fun BY O => ?_; clear n BX
   refine s2 O (b_1 rfl en_61 (ev2 (O.ev rfl) (O.ev rfl)) (all_tab b.tabs lr lb _ 71 #[] #[(bptr K 0)] (fun i => q_0 z (b.tabs.getD i tab0)) _ (b_7 (A.ok 4 _ rfl)).tabs (by have := hth.tl; omega) ⟨en_71, fun i hi W hW => fitclo_ok (b.tabs.getD i tab0) _ _ W ((b_7 ((A.step hW).ok 4 _ rfl)).row hi) ((b_7 ((A.step hW).ok 4 _ rfl)).brk hi) (hth.rl i) (hth.bl i) _ (hb.tab hi) _ z xz ((A.step hW).bk 2 rfl) ((A.step hW).sk 7 rfl) (by omega)⟩ (fun i hi => ⟨((b_7 (A.ok 4 _ rfl)).row hi).one, ((b_7 (A.ok 4 _ rfl)).brk hi).one⟩))) ?_
   rintro BZ _ CN ⟨rfl, As⟩ o; have BE := A.step As; clear As O A BY
   refine s1 o (a_0 rfl (o.ev rfl)) fun CF Ak => ?_; clear o BZ
   refine n1 ?_
   refine c_1 ?_
   refine a_7 Ak (.inl rfl) (a_2 Ak rfl (.tmp rfl)) ?_
   exact ⟨congrArg Value.bool (fits_rest (by omega) (by assumption) (fun i hi => BK i (by omega))), BE.ext⟩
  skip
  rw [AD] at D
  refine c_0 D rfl ?_
  refine b_6 ?_
  have Al := D.as [] rfl; clear D
  refine a_5 ?_
  refine s1 Al (a_0 rfl (evc _ _)) fun CG Am => ?_; clear Al BG
  refine n1 ?_
  refine c_1 ?_
  refine a_6 ?_
  refine a_7 Am (.inl rfl) (a_2 Am rfl (.tmp rfl)) ?_
  exact ⟨congrArg Value.bool (by first | exact (y_2 (by omega)).symm | exact (fits_n1' (by assumption)).symm | exact (y_3 (k := k) (by omega) (by assumption)).symm), AB.ext⟩
 skip
 rw [decide_eq_false BA] at F
 refine s3 F fun Ba An => ?_; clear F BF
 refine s3 An fun Bb Ao => ?_; clear An Ba
 refine s3 Ao fun Bc p => ?_; clear Ao Bb
 refine s1 p (b_4 rfl (p.ev rfl) (evc _ _)) fun Bd q => ?_; clear p Bc
 refine n1 ?_
 refine c_0 q rfl ?_
 refine b_6 ?_
 have Ap := q.as [] rfl; clear q
 refine a_5 ?_
 refine s1 Ap (a_0 rfl (evc _ _)) fun CH Aq => ?_; clear Ap Bd
 refine n1 ?_
 refine c_1 ?_
 refine a_6 ?_
 refine a_7 Aq (.inl rfl) (a_2 Aq rfl (.tmp rfl)) ?_
 exact ⟨congrArg Value.bool (by first | exact (y_2 (by omega)).symm | exact (fits_n1' (by assumption)).symm | exact (y_3 (k := k) (by omega) (by assumption)).symm), E.ext⟩
end Go.Proofs.Ytohgladndklciaa
