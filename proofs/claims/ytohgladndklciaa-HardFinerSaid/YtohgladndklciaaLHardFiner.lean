/-
  Walks through the functions of the seat, printed by a program of ours (gowalk), a theorem a function: what the call returns and what it leaves in memory.
-/
import Derived.Test.YtohgladndklciaaBd
import Derived.Test.YtohgladndklciaaEngb
import Derived.Test.YtohgladndklciaaEnga
set_option linter.unusedSimpArgs false
set_option linter.unusedVariables false
namespace Go.Proofs.Ytohgladndklciaa
open Go.RowKit Go.Shelf Go.Eng Go.Hard
set_option maxHeartbeats 4000000 in
theorem HardFiner_a (b : g_7) (vt vm : Value) (lr lb lk : Nat → Value) (w : World) (hT : j_9 w vt lr lb b.tabs) (hM : k_7 w vm lk b.macs) (l : List (Int × Int)) (xl : Value) (hxl : SlAt w xl 2 l.length (pairs l)) (wa wb : Int) (hA_ : 0 ≤ wa ∧ wa ≤ 255) (hB_ : 0 ≤ wb ∧ wb ≤ 255) (lw wd : Int) (hL_ : 0 ≤ lw ∧ lw ≤ 65535) (hD_ : 0 ≤ wd ∧ wd ≤ 65535) (hf : aa_5 b l = false) :
  Calls Try.prog 7 #[(Value.agg #[(iv b.scales), vt, vm]), xl, (Value.int .u8 wa), (Value.int .u8 wb), (Value.int .u16 lw), (Value.int .u16 wd)] w (Ret fun v w' => v = .bool true ∧ Ext NoB w w') := by
 refine a_8 Try.func7 rfl fun R D => ?_
 replace D : Fr 245 [] [(0, (Value.agg #[(iv b.scales), vt, vm])), (1, xl), (2, (Value.int .u8 wa)), (3, (Value.int .u8 wb)), (4, (Value.int .u16 lw)), (5, (Value.int .u16 wd))] R := D
 have O : Sep NoB w w [(d_4 false vt lr lb b.tabs), (d_5 false vm lk b.macs), (sl xl 2 l.length (pairs l))] := f_0 ⟨rfl, hT, rfl, hM, rfl, hxl, trivial⟩
 refine m2 (s2 D (f_3 O rfl D.e (cs := [(iv b.scales), vt, vm]) rfl) ?_)
 rintro W _ f ⟨d, rfl, A⟩ N; clear D O R
 refine s1 N (a_1 rfl (evc _ _)) fun X I => ?_; clear N W
 refine n2 (m2 (s1 I (c_5 rfl z_5 (I.ev rfl) (A.bk 0 rfl) (l := [(iv b.scales), vt, vm]) rfl rfl) fun Y J => ?_)); clear I X
 refine s1 J (a_0 rfl J.e) fun S B => ?_; clear J Y
 refine s2 B (b_1 rfl en_29 (ev2 B.e B.e) (ready_ok b vt vm lr lb lk _ (b_8 (A.ok 1 _ rfl)) (c_1 (A.ok 2 _ rfl)) l _ (A.sk 3 rfl))) ?_
 rintro T _ a ⟨rfl, K⟩ C; have M := A.step K; clear K B A S
 have Q : (aa_5 b l) = false := hf
 rw [Q] at C
 refine s1 C (f_7 rfl C.e) fun U E => ?_; clear C T
 refine n1 (c_8 E rfl (c_4 ?_))
 have G := E.as [] rfl; clear E
 refine a_5 (s2 G (b_1 rfl en_17 ev0 (awake_ok _)) ?_)
 rintro V _ c ⟨rfl, L⟩ F; have P := M.step L; clear L G M U
 refine s1 F (a_1 rfl F.e) fun Z H => ?_; clear F V
 exact n1 (c_7 (a_6 (a_7 H (.inl rfl) (a_2 H rfl (.tmp rfl)) (⟨rfl, P.ext⟩))))
set_option maxHeartbeats 4000000 in
theorem HardFiner_b (b : g_7) (vt vm : Value) (lr lb lk : Nat → Value) (w : World) (hT : j_9 w vt lr lb b.tabs) (hM : k_7 w vm lk b.macs) (l : List (Int × Int)) (xl : Value) (hxl : SlAt w xl 2 l.length (pairs l)) (wa wb : Int) (hA_ : 0 ≤ wa ∧ wa ≤ 255) (hB_ : 0 ≤ wb ∧ wb ≤ 255) (lw wd : Int) (hL_ : 0 ≤ lw ∧ lw ≤ 65535) (hD_ : 0 ≤ wd ∧ wd ≤ 65535) (hf : aa_5 b l = true) :
  Calls Try.prog 7 #[(Value.agg #[(iv b.scales), vt, vm]), xl, (Value.int .u8 wa), (Value.int .u8 wb), (Value.int .u16 lw), (Value.int .u16 wd)] w (Ret fun v w' => v = .bool true ∧ Ext NoB w w') := by
 refine a_8 Try.func7 rfl fun a0 KO => ?_
 replace KO : Fr 245 [] [(0, (Value.agg #[(iv b.scales), vt, vm])), (1, xl), (2, (Value.int .u8 wa)), (3, (Value.int .u8 wb)), (4, (Value.int .u16 lw)), (5, (Value.int .u16 wd))] a0 := KO
 have hrd := ready_is hf; have hth := hrd.1; have ACo := hrd.2.1; have hr := hrd.2.2; have htl9 := hth.tl; have hml9 := hth.ml; have hc := read_check hr; have hbl := t_2 hr; have hb := hbl.1; have hl := hbl.2; have hn4 := hb.scales; have hll := hl.len; have hcm := check_tabs hc; have hq1 := rem_bd (y := lw) (d := 500) hL_.1 (by decide); have hq2 := rem_bd (y := wd) (d := 100) hD_.1 (by decide); have hq3 := rem_bd (y := wb) (d := 16) hB_.1 (by decide); have hq4 : wb.tdiv 16 = wb / 16 := Int.tdiv_eq_ediv_of_nonneg hB_.1; have hq5 := rem_bd (y := wb) (d := 8) hB_.1 (by decide); have hq6 : wb.tdiv 8 = wb / 8 := Int.tdiv_eq_ediv_of_nonneg hB_.1
 have U4 : Sep NoB w w [(d_4 false vt lr lb b.tabs), (d_5 false vm lk b.macs), (sl xl 2 l.length (pairs l))] := f_0 ⟨rfl, hT, rfl, hM, rfl, hxl, trivial⟩
 refine m2 (s2 KO (f_3 U4 rfl KO.e (cs := [(iv b.scales), vt, vm]) rfl) ?_)
 rintro a1 _ w3 ⟨G, rfl, GE⟩ U3; clear KO U4 a0
 refine s1 U3 (a_1 rfl (evc _ _)) fun a6 PX => ?_; clear U3 a1
 refine n2 (m2 (s1 PX (c_5 rfl z_5 (PX.ev rfl) (GE.bk 0 rfl) (l := [(iv b.scales), vt, vm]) rfl rfl) fun a8 Pa => ?_)); clear PX a6
 refine s1 Pa (a_0 rfl Pa.e) fun a10 GG => ?_; clear Pa a8
 refine s2 GG (b_1 rfl en_29 (ev2 GG.e GG.e) (ready_ok b vt vm lr lb lk _ (b_8 (GE.ok 1 _ rfl)) (c_1 (GE.ok 2 _ rfl)) l _ (GE.sk 3 rfl))) ?_
 rintro a12 _ w14 ⟨rfl, Pb⟩ GO; have Mt := GE.step Pb; clear Pb GG GE a10
 have AAj : (aa_5 b l) = true := hf
 rw [AAj] at GO
 refine s1 GO (f_7 rfl GO.e) fun a18 Ma => ?_; clear GO a12
 refine n1 (b_9 Ma rfl (d_0 (b_0 (c_4 ?_))))
 have Mb := Ma.as [(6, (bptr G 0)), (1, xl), (2, (Value.int .u8 wa)), (3, (Value.int .u8 wb)), (4, (Value.int .u16 lw)), (5, (Value.int .u16 wd))] rfl; clear Ma
 refine a_5 (s1 Mb (c_5 rfl z_5 (Mb.ev rfl) (Mt.bk 0 rfl) (l := [(iv b.scales), vt, vm]) rfl rfl) fun a21 PP => ?_); clear Mb a18
 refine s2 PP (e_4 Mt rfl ze_25 (cs := [(iv 0), (Value.slice none 0 0), (Value.slice none 0 0)]) rfl) ?_
 rintro a23 _ w25 ⟨C, rfl, KE⟩ Go; clear PP Mt a21
 refine s7 Go (c_3 KE rfl z_5 Go.e Go.e (i := 0) rfl (vs := [(iv b.scales), vt, vm]) rfl rfl (i_7 rfl (i_7 (SlAt.one (b_8 (KE.ok 2 _ rfl)).tabs) (i_7 (SlAt.one (c_1 (KE.ok 3 _ rfl)).macs) v_3))) (Nat.le_of_ble_eq_true rfl)) ?_
 intro _ w28 Pt PQ; clear Go
 have Pu : Sep NoB w w28 [(blk C 25 [(iv b.scales), vt, vm]), (blk G 25 [(iv b.scales), vt, vm]), (d_4 false vt lr lb b.tabs), (d_5 false vm lk b.macs), (sl xl 2 l.length (pairs l))] := Pt; clear Pt KE
 refine n2 ?_
 have PR := PQ.as [(13, (bptr C 0)), (6, (bptr G 0)), (1, xl), (2, (Value.int .u8 wa)), (3, (Value.int .u8 wb)), (4, (Value.int .u16 lw)), (5, (Value.int .u16 wd))] rfl; clear PQ
 refine c_drawCC mixed PR Pu 9 [(3, 0), (7, 4)] [[], [], [1], [0, 2], [], [], [5], [4, 6], []] [(fun (A : Nat → Value) (v_ : Value) (rs_ : List Res) => ∃ (b0_ : Nat), v_ = (Value.slice (some ⟨b0_, 0, none⟩) 0 0) ∧ rs_ = [(blk b0_ 46 [])]), (yw (bptr G 1)), (yw vt), (fun (A : Nat → Value) (v_ : Value) (rs_ : List Res) => True ∧ rs_ = [(row v_ 46 5 b.tabs.length (g_4 lr lb b.tabs))]), (fun (A : Nat → Value) (v_ : Value) (rs_ : List Res) => ∃ (b4_ : Nat), v_ = (Value.slice (some ⟨b4_, 0, none⟩) 0 0) ∧ rs_ = [(blk b4_ 61 [])]), (yw (bptr G 2)), (yw vm), (fun (A : Nat → Value) (v_ : Value) (rs_ : List Res) => True ∧ rs_ = [(row v_ 61 2 b.macs.length (h_8 lk b.macs))]), (yw (bptr C 1))] (by decide +kernel) (by decide +kernel) (by decide +kernel) (by decide +kernel) rfl rfl ⟨(fun _ _ _ _ _ h_ => h_), dw, dw, (fun _ _ _ _ _ h_ => h_), (fun _ _ _ _ _ h_ => h_), dw, dw, (fun _ _ _ _ _ h_ => h_), dw, trivial⟩ (by decide +kernel) ?_ ?_ ?_
 ·skip
  refine ⟨fun hj_ a w A hA hS hd => d_8 rfl (vblz rfl pv0 aa_9 ty_46 ze_46 bs_46_0_ (fun b_ => ⟨b_, rfl, rfl⟩)), ?_⟩
  refine ⟨fun hj_ a w A hA hS hd => gv1 (a_3 rfl p_6 hA.e), ?_⟩
  refine ⟨fun hj_ a w A hA hS hd => gv1 (a_4 rfl aa_7 (gu hd 1) (hS.bk 1 rfl) rfl), ?_⟩
  refine ⟨fun hj_ => absurd hj_ (by decide), ?_⟩
  refine ⟨fun hj_ a w A hA hS hd => d_8 rfl (vblz rfl pv0 z_7 aa_8 ze_61 bs_61_0_ (fun b_ => ⟨b_, rfl, rfl⟩)), ?_⟩
  refine ⟨fun hj_ a w A hA hS hd => gv1 (a_3 rfl n_1 hA.e), ?_⟩
  refine ⟨fun hj_ a w A hA hS hd => gv1 (a_4 rfl z_4 (gu hd 5) (hS.bk 1 rfl) rfl), ?_⟩
  refine ⟨fun hj_ => absurd hj_ (by decide), ?_⟩
  refine ⟨fun hj_ a w A hA hS hd => gv1 (a_3 rfl p_6 hA.e), ?_⟩
  trivial
 ·skip
  refine ⟨fun o_ ho_ => ?_, ?_⟩
  ·skip
   obtain rfl := Option.some.inj ho_; clear ho_
   intro a w A rs0 Lr hA MX QB hd hL hS
   obtain ⟨b0_, hv0, AF⟩ := QB; subst AF
   rw [hv0] at MX
   replace hS := hS.s_9 (i := 0) (sz := 5) (n := 0) rfl rfl (by decide)
   obtain ⟨e2, rs2, hy2, hp2⟩ := hd 2 (by decide) (by decide)
   obtain ⟨hv2, AB⟩ := hy2; subst AB
   rw [hv2] at e2
   exact d_8 rfl (q_3 (n_9 hS rfl aa_9 el_46 (c_6 (h_5 MX rfl)) (c_6 (h_5 e2 rfl)) (i := 0) rfl (b_8 (hL.ok 2 _ rfl)).tabs (tabs_one (b_8 (hL.ok 2 _ rfl))) (by simp only [maxLen]; omega) (by omega)) fun v_ w_ h_ => ⟨_, And.intro trivial rfl, h_.g_3 (i := 0) rfl (n' := b.tabs.length) (xs' := (g_4 lr lb b.tabs)) (by simp only [Nat.zero_add]) (List.nil_append _)⟩)
  refine ⟨fun o_ ho_ => ?_, ?_⟩
  ·skip
   obtain rfl := Option.some.inj ho_; clear ho_
   intro a w A rs0 Lr hA MX QB hd hL hS
   obtain ⟨b4_, hv4, AG⟩ := QB; subst AG
   rw [hv4] at MX
   replace hS := hS.s_9 (i := 0) (sz := 2) (n := 0) rfl rfl (by decide)
   obtain ⟨e6, rs6, hy6, hp6⟩ := hd 6 (by decide) (by decide)
   obtain ⟨hv6, hr6⟩ := hy6; subst hr6
   rw [hv6] at e6
   exact d_8 rfl (q_3 (n_9 hS rfl z_7 el_61 (c_6 (h_5 MX rfl)) (c_6 (h_5 e6 rfl)) (i := 0) rfl (c_1 (hL.ok 3 _ rfl)).macs (macs_one (c_1 (hL.ok 3 _ rfl))) (by simp only [maxLen]; omega) (by omega)) fun v_ w_ h_ => ⟨_, And.intro trivial rfl, h_.g_3 (i := 0) rfl (n' := b.macs.length) (xs' := (h_8 lk b.macs)) (by simp only [Nat.zero_add]) (List.nil_append _)⟩)
  trivial
 skip
 intro PA w35 A rsf39 PS AV hrq Mu; clear PR Pu
 have hrq_0 := hrq (3, 0) (by decide)
 have hrq_4 := hrq (7, 4) (by decide)
 obtain ⟨P9, AAm⟩ := AV 3 (by decide) (by decide)
 obtain ⟨AAk, P7⟩ := AAm
 obtain ⟨QA, AAn⟩ := AV 7 (by decide) (by decide)
 obtain ⟨AAl, P8⟩ := AAn
 have KF : Sep NoB w w35 [(row (A 3) 46 5 b.tabs.length (g_4 lr lb b.tabs)), (row (A 7) 61 2 b.macs.length (h_8 lk b.macs)), (blk C 25 [(iv b.scales), vt, vm]), (blk G 25 [(iv b.scales), vt, vm]), (d_4 false vt lr lb b.tabs), (d_5 false vm lk b.macs), (sl xl 2 l.length (pairs l))] := by rw [show catR rsf39 0 9 = ([(row (A 3) 46 5 b.tabs.length (g_4 lr lb b.tabs)), (row (A 7) 61 2 b.macs.length (h_8 lk b.macs))] : List Res) by (try simp only [catR, gr (AV 1 (by decide) (by decide)), gr (AV 2 (by decide) (by decide)), P7, gr (AV 5 (by decide) (by decide)), gr (AV 6 (by decide) (by decide)), P8, gr (AV 8 (by decide) (by decide)), hrq_0, hrq_4]); (try rfl)] at Mu; exact Mu
 have PT : Fr 245 [] [(38, (A 3)), (13, (bptr C 0)), (6, (bptr G 0)), (1, xl), (2, (Value.int .u8 wa)), (3, (Value.int .u8 wb)), (4, (Value.int .u16 lw)), (5, (Value.int .u16 wd))] PA := PS.add (h_5 P9 rfl); clear PS
 have PU : Fr 245 [] [(42, (A 7)), (38, (A 3)), (13, (bptr C 0)), (6, (bptr G 0)), (1, xl), (2, (Value.int .u8 wa)), (3, (Value.int .u8 wb)), (4, (Value.int .u16 lw)), (5, (Value.int .u16 wd))] PA := PT.add (h_5 QA rfl); clear PT
 have He := PU.add (gs (AV 8 (by decide) (by decide))); clear PU
 clear AV Mu P9 QA hrq hrq_0 hrq_4
 clear P7
 clear AAk
 clear P8
 clear AAl
 refine s7 He (c_3 KF rfl aa_7 He.e He.e (i := 2) rfl (vs := [(A 3)]) (q_7 (SlAt.isSl (SlAt.b_5 (KF.b_6 0 rfl)))) rfl (i_7 (SlAt.one (SlAt.b_5 (KF.b_6 0 rfl))) v_3) (Nat.le_of_ble_eq_true rfl)) ?_
 intro _ w44 Pv Mc; clear He
 have KH : Sep NoB w w44 [(row (A 3) 46 5 b.tabs.length (g_4 lr lb b.tabs)), (row (A 7) 61 2 b.macs.length (h_8 lk b.macs)), (blk C 25 [(iv b.scales), (A 3), vm]), (blk G 25 [(iv b.scales), vt, vm]), (d_4 false vt lr lb b.tabs), (d_5 false vm lk b.macs), (sl xl 2 l.length (pairs l))] := Pv; clear Pv KF
 refine s1 Mc (a_3 rfl n_1 Mc.e) fun U2 Hw => ?_; clear Mc PA
 refine s7 Hw (c_3 KH rfl z_4 Hw.e Hw.e (i := 2) rfl (vs := [(A 7)]) (q_7 (SlAt.isSl (SlAt.b_5 (KH.b_6 1 rfl)))) rfl (i_7 (SlAt.one (SlAt.b_5 (KH.b_6 1 rfl))) v_3) (Nat.le_of_ble_eq_true rfl)) ?_
 intro _ w50 Pw PV; clear Hw
 have Bk : Sep NoB w w50 [(row (A 3) 46 5 b.tabs.length (g_4 lr lb b.tabs)), (row (A 7) 61 2 b.macs.length (h_8 lk b.macs)), (blk C 25 [(iv b.scales), (A 3), (A 7)]), (blk G 25 [(iv b.scales), vt, vm]), (d_4 false vt lr lb b.tabs), (d_5 false vm lk b.macs), (sl xl 2 l.length (pairs l))] := Pw; clear Pw KH
 refine n1 ?_
 have H9 := PV.as [(13, (bptr C 0)), (6, (bptr G 0)), (1, xl), (2, (Value.int .u8 wa)), (3, (Value.int .u8 wb)), (4, (Value.int .u16 lw)), (5, (Value.int .u16 wd))] rfl; clear PV
 refine c_seqI (fun a_ w_ => ∃ ts1 : List TabD, Fr 245 [] [(13, (bptr C 0)), (6, (bptr G 0)), (1, xl), (2, (Value.int .u8 wa)), (3, (Value.int .u8 wb))] a_ ∧ Sep NoB w w_ [(row (A 3) 46 5 ts1.length (g_4 lr lb ts1)), (row (A 7) 61 2 b.macs.length (h_8 lk b.macs)), (blk C 25 [(iv b.scales), (A 3), (A 7)]), (blk G 25 [(iv b.scales), vt, vm]), (d_4 false vt lr lb b.tabs), (d_5 false vm lk b.macs), (sl xl 2 l.length (pairs l))] ∧ (FinT b.tabs ts1)) ?_ ?_
 ·skip
  refine m2 (s1 H9 (a_3 rfl p_6 H9.e) fun a55 Md => ?_); clear H9 U2
  refine s1 Md (a_4 rfl aa_7 Md.e (Bk.bk 3 rfl) rfl) fun a57 Me => ?_; clear Md a55
  refine s1 Me (e_0 rfl aa_9 Me.e (b_8 (Bk.ok 4 _ rfl)).tabs) fun a59 Mf => ?_; clear Me a57
  refine s1 Mf (a_1 rfl Mf.e) fun a61 Mg => ?_; clear Mf a59
  refine n4 (s1 Mg (a_0 rfl Mg.e) fun a63 Mh => ?_); clear Mg a61
  refine s1 Mh (j_1 rfl Mh.e (evc _ _)) fun a65 Aj => ?_; clear Mh a63
  refine n1 ?_
  by_cases Px : 0 < (b.tabs.length : Int)
  ·skip
   rw [decide_eq_true Px] at Aj
   refine c_8 Aj rfl (c_4 ?_)
   obtain ⟨kk, hz_kk, hb_kk⟩ := rem_nat (n := wa) (m := b.tabs.length) hA_.1 (by omega); have htv := hb.tab hb_kk; have her := htv.err
   have PW := Aj.as [(14, (iv (b.tabs.length : Int))), (13, (bptr C 0)), (6, (bptr G 0)), (1, xl), (2, (Value.int .u8 wa)), (3, (Value.int .u8 wb)), (4, (Value.int .u16 lw)), (5, (Value.int .u16 wd))] rfl; clear Aj
   refine h_1 mixed PW Bk 6 [[], [0], [], [2], [], [3, 4]] [(Yd.val (bptr C 1)), (Yd.val (A 3)), (Yd.val (Value.int .u8 wa)), (Yd.val (iv wa)), (Yd.val (iv (b.tabs.length : Int))), (Yd.val (iv (kk : Int)))] (by decide +kernel) rfl rfl ?_ ?_
   ·skip
    refine dq (fun a w hA hS hd => a_3 rfl p_6 hA.e) ?_
    refine dq (fun a w hA hS hd => a_4 rfl aa_7 (hq hd 0) (hS.bk 2 rfl) rfl) ?_
    refine dq (fun a w hA hS hd => a_0 rfl hA.e) ?_
    refine dq (fun a w hA hS hd => k_6 un_5 un_3 rfl (hq hd 2) (v := wa) (wrap_i64 (by omega) (by omega))) ?_
    refine dq (fun a w hA hS hd => a_0 rfl hA.e) ?_
    refine dq (fun a w hA hS hd => opY_int (n_5 rfl (hq hd 3) (hq hd 4) (by omega)) hz_kk) ?_
    trivial
   intro a70 w71 PY Mv Ms; clear PW Bk
   have PZ := PY.add (hz Ms 1); clear PY
   have I5 := PZ.add (hz Ms 5); clear PZ
   clear Ms
   refine s1 I5 (b_4 rfl aa_9 ty_46 I5.e (i := kk) I5.e (SlAt.b_5 (Mv.b_6 0 rfl)) (by decide) (by first | omega | (simp only [List.length_set]; omega))) fun a77 Mi => ?_; clear I5 a70
   refine s1 Mi (a_1 rfl Mi.e) fun a79 Mj => ?_; clear Mi a77
   refine n4 (s1 Mj (a_0 rfl Mj.e) fun a81 Mk => ?_); clear Mj a79
   refine s1 Mk (k_6 un_69 un_3 rfl Mk.e (v := lw) (wrap_i64 (by omega) (by omega))) fun a83 Ml => ?_; clear Mk a81
   refine s1 Ml (n_5 rfl Ml.e (evc _ _) (by omega)) fun a85 Mm => ?_; clear Ml a83
   refine s1 Mm (a_0 rfl Mm.e) fun a87 Mn => ?_; clear Mm a85
   refine s1 Mn (k_6 un_69 un_3 rfl Mn.e (v := lw) (wrap_i64 (by omega) (by omega))) fun a89 Mo => ?_; clear Mn a87
   refine s1 Mo (n_5 rfl Mo.e (evc _ _) (by omega)) fun a91 Mp => ?_; clear Mo a89
   refine s1 Mp (a_0 rfl Mp.e) fun a93 Mq => ?_; clear Mp a91
   refine s1 Mq (k_6 un_69 un_3 rfl Mq.e (v := wd) (wrap_i64 (by omega) (by omega))) fun a95 Mr => ?_; clear Mq a93
   refine s1 Mr (n_5 rfl Mr.e (evc _ _) (by omega)) fun a97 J6 => ?_; clear Mr a95
   refine s1 J6 (g_6 rfl J6.e J6.e (by omega) (by omega)) fun a99 Bm => ?_; clear J6 a97
   refine s1 Bm (e_5 rfl (pv2 Bm.e Bm.e) (k_8 _ _)) fun U7 M2 => ?_; clear Bm a99
   refine s2 M2 (e_4 Mv rfl w_6 (cs := [(iv 0), (iv 0)]) rfl) ?_
   rintro U8 _ ACp ⟨K, rfl, OP⟩ Bn; clear M2 Mv U7
   refine s7 Bn (c_3 OP rfl f_4 Bn.e Bn.e (i := 0) rfl (vs := [(iv ((lw).tmod 500)), (iv (((lw).tmod 500) + ((wd).tmod 100)))]) rfl rfl rfl (Nat.le_of_ble_eq_true rfl)) ?_
   intro _ AAo OQ M3; clear Bn
   have Bh : Sep NoB w AAo [(blk K 30 [(iv ((lw).tmod 500)), (iv (((lw).tmod 500) + ((wd).tmod 100)))]), (row (A 3) 46 5 b.tabs.length (g_4 lr lb b.tabs)), (row (A 7) 61 2 b.macs.length (h_8 lk b.macs)), (blk C 25 [(iv b.scales), (A 3), (A 7)]), (blk G 25 [(iv b.scales), vt, vm]), (d_4 false vt lr lb b.tabs), (d_5 false vm lk b.macs), (sl xl 2 l.length (pairs l))] := OQ; clear OQ OP
   refine n2 ?_
   have GH := M3.as [(16, (bptr K 0)), (15, (eptr (A 3) (kk * 5))), (14, (iv (b.tabs.length : Int))), (13, (bptr C 0)), (6, (bptr G 0)), (1, xl), (2, (Value.int .u8 wa)), (3, (Value.int .u8 wb))] rfl; clear M3
   refine a_5 (s1 GH (a_3 rfl i_5 GH.e) fun U9 GI => ?_); clear GH U8
   refine s1 GI (a_4 rfl ty_3 GI.e (Bh.bk 0 rfl) rfl) fun VA GJ => ?_; clear GI U9
   refine s1 GJ (a_3 rfl i_4 GJ.e) fun VB GK => ?_; clear GJ VA
   refine s1 GK (a_4 rfl ty_3 GK.e (Bh.bk 0 rfl) rfl) fun VC GL => ?_; clear GK VB
   refine s1 GL (a_0 rfl GL.e) fun VD GM => ?_; clear GL VC
   refine s1 GM (k_6 un_5 un_3 rfl GM.e (v := wb) (wrap_i64 (by omega) (by omega))) fun VE GN => ?_; clear GM VD
   refine s1 GN (n_5 rfl GN.e (evc _ _) (by omega)) fun VF Bo => ?_; clear GN VE
   refine s1 Bo (g_6 rfl Bo.e Bo.e (by omega) (by omega)) fun VH Bp => ?_; clear Bo VF
   refine s1 Bp (op_min rfl Bp.e Bp.e) fun VI GP => ?_; clear Bp VH
   refine s1 GP (a_3 rfl i_5 GP.e) fun VJ GQ => ?_; clear GP VI
   refine s1 GQ (a_4 rfl ty_3 GQ.e (Bh.bk 0 rfl) rfl) fun VK Bq => ?_; clear GQ VJ
   refine s1 Bq (e_5 rfl (pv2 Bq.e Bq.e) (k_8 _ _)) fun VL M4 => ?_; clear Bq VK
   refine s2 M4 (e_4 Bh rfl w_6 (cs := [(iv 0), (iv 0)]) rfl) ?_
   rintro VM _ ACq ⟨I, rfl, OR⟩ Br; clear M4 Bh VL
   refine s7 Br (c_3 OR rfl f_4 Br.e Br.e (i := 0) rfl (vs := [(iv (min (((lw).tmod 500) + ((wd).tmod 100)) (((lw).tmod 500) + ((wb).tmod 16)))), (iv (((lw).tmod 500) + ((wd).tmod 100)))]) rfl rfl rfl (Nat.le_of_ble_eq_true rfl)) ?_
   intro _ AAp OS M5; clear Br
   have Cs : Sep NoB w AAp [(blk I 30 [(iv (min (((lw).tmod 500) + ((wd).tmod 100)) (((lw).tmod 500) + ((wb).tmod 16)))), (iv (((lw).tmod 500) + ((wd).tmod 100)))]), (blk K 30 [(iv ((lw).tmod 500)), (iv (((lw).tmod 500) + ((wd).tmod 100)))]), (row (A 3) 46 5 b.tabs.length (g_4 lr lb b.tabs)), (row (A 7) 61 2 b.macs.length (h_8 lk b.macs)), (blk C 25 [(iv b.scales), (A 3), (A 7)]), (blk G 25 [(iv b.scales), vt, vm]), (d_4 false vt lr lb b.tabs), (d_5 false vm lk b.macs), (sl xl 2 l.length (pairs l))] := OS; clear OS OR
   refine n2 ?_
   have GR := M5.as [(17, (bptr I 0)), (16, (bptr K 0)), (15, (eptr (A 3) (kk * 5))), (14, (iv (b.tabs.length : Int))), (13, (bptr C 0)), (6, (bptr G 0)), (1, xl), (2, (Value.int .u8 wa)), (3, (Value.int .u8 wb))] rfl; clear M5
   refine a_5 (s1 GR (a_3 rfl i_4 GR.e) fun VN GS => ?_); clear GR VM
   refine s1 GS (a_4 rfl ty_3 GS.e (Cs.bk 0 rfl) rfl) fun VO GT => ?_; clear GS VN
   refine s1 GT (a_3 rfl i_5 GT.e) fun VP GU => ?_; clear GT VO
   refine s1 GU (a_4 rfl ty_3 GU.e (Cs.bk 0 rfl) rfl) fun VQ GV => ?_; clear GU VP
   refine s1 GV (a_0 rfl GV.e) fun VR GW => ?_; clear GV VQ
   refine s1 GW (k_6 un_5 un_3 rfl GW.e (v := wb) (wrap_i64 (by omega) (by omega))) fun VS GX => ?_; clear GW VR
   refine s1 GX (op_quo rfl GX.e (evc _ _) (by omega) (by omega) (by omega)) fun VT Bs => ?_; clear GX VS
   refine s1 Bs (g_9 rfl Bs.e Bs.e (by omega) (by omega)) fun VU Bt => ?_; clear Bs VT
   refine s1 Bt (u_7 rfl Bt.e Bt.e) fun VV GY => ?_; clear Bt VU
   refine s1 GY (a_3 rfl i_5 GY.e) fun ACa Bu => ?_; clear GY VV
   refine s7 Bu (c_3 Cs rfl ty_3 Bu.e Bu.e (i := 0) rfl (vs := [(iv (max (min (((lw).tmod 500) + ((wd).tmod 100)) (((lw).tmod 500) + ((wb).tmod 16))) ((((lw).tmod 500) + ((wd).tmod 100)) - ((wb).tdiv 16))))]) rfl rfl rfl (Nat.le_of_ble_eq_true rfl)) ?_
   intro _ QC OT M6; clear Bu
   have OU : Sep NoB w QC [(blk I 30 [(iv (min (((lw).tmod 500) + ((wd).tmod 100)) (((lw).tmod 500) + ((wb).tmod 16)))), (iv (max (min (((lw).tmod 500) + ((wd).tmod 100)) (((lw).tmod 500) + ((wb).tmod 16))) ((((lw).tmod 500) + ((wd).tmod 100)) - ((wb).tdiv 16))))]), (blk K 30 [(iv ((lw).tmod 500)), (iv (((lw).tmod 500) + ((wd).tmod 100)))]), (row (A 3) 46 5 b.tabs.length (g_4 lr lb b.tabs)), (row (A 7) 61 2 b.macs.length (h_8 lk b.macs)), (blk C 25 [(iv b.scales), (A 3), (A 7)]), (blk G 25 [(iv b.scales), vt, vm]), (d_4 false vt lr lb b.tabs), (d_5 false vm lk b.macs), (sl xl 2 l.length (pairs l))] := OT; clear OT Cs
   refine n2 ?_
   have M7 := M6.as [(17, (bptr I 0)), (16, (bptr K 0)), (15, (eptr (A 3) (kk * 5))), (14, (iv (b.tabs.length : Int))), (13, (bptr C 0)), (6, (bptr G 0)), (1, xl), (2, (Value.int .u8 wa)), (3, (Value.int .u8 wb))] rfl; clear M6
   obtain ⟨ra, rb, rc, rd, hza, hzb, hzc, hzd, AF, o, hr2_, AW, AG⟩ : ∃ ra rb rc rd : Int, (lw).tmod 500 = ra ∧ ((lw).tmod 500) + ((wd).tmod 100) = rb ∧ min (((lw).tmod 500) + ((wd).tmod 100)) (((lw).tmod 500) + ((wb).tmod 16)) = rc ∧ max (min (((lw).tmod 500) + ((wd).tmod 100)) (((lw).tmod 500) + ((wb).tmod 16))) ((((lw).tmod 500) + ((wd).tmod 100)) - ((wb).tdiv 16)) = rd ∧ 0 ≤ ra ∧ ra ≤ rc ∧ rc ≤ rd ∧ rd ≤ rb ∧ rb ≤ 100000 := ⟨_, _, _, _, rfl, rfl, rfl, rfl, by omega, by omega, by omega, by omega, by omega⟩
   have KA : Sep NoB w QC [(blk I 30 [(iv rc), (iv rd)]), (blk K 30 [(iv ra), (iv rb)]), (row (A 3) 46 5 b.tabs.length (g_4 lr lb b.tabs)), (row (A 7) 61 2 b.macs.length (h_8 lk b.macs)), (blk C 25 [(iv b.scales), (A 3), (A 7)]), (blk G 25 [(iv b.scales), vt, vm]), (d_4 false vt lr lb b.tabs), (d_5 false vm lk b.macs), (sl xl 2 l.length (pairs l))] := by rw [← hza, ← hzb, ← hzc, ← hzd]; exact OU
   clear OU hza hzb hzc hzd
   have GZ := M7.as [(17, (bptr I 0)), (16, (bptr K 0)), (15, (eptr (A 3) (kk * 5))), (14, (iv (b.tabs.length : Int))), (13, (bptr C 0)), (6, (bptr G 0)), (1, xl), (2, (Value.int .u8 wa)), (3, (Value.int .u8 wb))] rfl; clear M7
   refine c_drawF mixed GZ KA 12 10 rfl rfl [[], [0], [], [2], [], [3, 4], [], [1, 5, 6], [7], [8], [8], []] [(yw (Value.agg #[(iv b.scales), vt, vm])), (fun (R : Nat → Value) (v_ : Value) (rs_ : List Res) => ∃ (vt1_ : Value), ∃ (vm1_ : Value), ∃ (lr1_ : Nat → Value), ∃ (lb1_ : Nat → Value), ∃ (lk1_ : Nat → Value), v_ = (Value.agg #[(iv b.scales), vt1_, vm1_]) ∧ rs_ = [(d_4 true vt1_ lr1_ lb1_ b.tabs), (d_5 true vm1_ lk1_ b.macs)]), (yw (Value.int .u8 wa)), (yw (iv wa)), (yw (iv (b.tabs.length : Int))), (yw (iv (kk : Int))), (yw (Value.agg #[(iv ra), (iv rb)])), (yw (Value.tuple #[(Value.agg #[(iv ((e_9 b (kk : Int) (ra, rb)).1)), (iv ((e_9 b (kk : Int) (ra, rb)).2))]), (iv (i_2 b (kk : Int) (ra, rb)))])), (yw (Value.tuple #[(Value.agg #[(iv ((e_9 b (kk : Int) (ra, rb)).1)), (iv ((e_9 b (kk : Int) (ra, rb)).2))]), (iv (i_2 b (kk : Int) (ra, rb)))])), (yw (Value.agg #[(iv ((e_9 b (kk : Int) (ra, rb)).1)), (iv ((e_9 b (kk : Int) (ra, rb)).2))])), (yw (iv (i_2 b (kk : Int) (ra, rb)))), (fun (R : Nat → Value) (v_ : Value) (rs_ : List Res) => ∃ (b11_ : Nat), v_ = (bptr b11_ 0) ∧ rs_ = [(blk b11_ 30 [(iv 0), (iv 0)])])] (by decide +kernel) (by decide +kernel) (by decide +kernel) rfl rfl ⟨dw, (fun _ _ _ _ _ h_ => h_), dw, dw, dw, dw, dw, dw, dw, dw, dw, (fun _ _ _ _ _ h_ => h_), trivial⟩ ?_ ?_ ?_
   ·skip
    refine ⟨fun a w R hA hS hd => gv1 (c_5 rfl z_5 (hA.ev rfl) (hS.bk 5 rfl) (l := [(iv b.scales), vt, vm]) rfl rfl), ?_⟩
    refine ⟨fun a w R hA hS hd => d_8 rfl (vn (b_1 rfl en_19 (ev1 (gu hd 0)) (w_0 b vt vm lr lb lk _ (b_8 (hS.ok 6 _ rfl)) (c_1 (hS.ok 7 _ rfl)) hth)) (fun v w' h => by obtain ⟨vt, vm, lr, lb, lk, rfl, hT⟩ := h; exact ⟨_, ⟨vt, vm, lr, lb, lk, rfl, rfl⟩, hT, rfl⟩)), ?_⟩
    refine ⟨fun a w R hA hS hd => gv1 (a_0 rfl hA.e), ?_⟩
    refine ⟨fun a w R hA hS hd => gv1 (k_6 un_5 un_3 rfl (gu hd 2) (v := wa) (wrap_i64 (by omega) (by omega))), ?_⟩
    refine ⟨fun a w R hA hS hd => gv1 (a_0 rfl hA.e), ?_⟩
    refine ⟨fun a w R hA hS hd => gv1 (opY_int (n_5 rfl (gu hd 3) (gu hd 4) (by omega)) hz_kk), ?_⟩
    refine ⟨fun a w R hA hS hd => gv1 (c_5 rfl f_4 (hA.ev rfl) (hS.bk 1 rfl) (l := [(iv ra), (iv rb)]) rfl rfl), ?_⟩
    refine ⟨fun a w R hA hS hd => ?_, ?_⟩
    ·skip
     obtain ⟨e1, U6, MZ, Bl⟩ := hd 1 (by decide)
     obtain ⟨vt1_, vm1_, lr1_, lb1_, lk1_, MY, o⟩ := MZ; subst o
     rw [MY] at e1
     have hp1_0 := Bl _ (List.mem_of_getElem? (i := 0) rfl)
     have hp1_1 := Bl _ (List.mem_of_getElem? (i := 1) rfl)
     exact gx1 (b_1 rfl en_18 (ev3 (c_6 (h_5 e1 rfl)) (gu hd 5) (gu hd 6)) (Convert_ok b vt1_ vm1_ lr1_ lb1_ lk1_ _ (b_8 hp1_0) (c_1 hp1_1) hth (kk : Int) ra rb))
    refine ⟨fun a w R hA hS hd => gv1 (a_0 rfl (gu hd 7)), ?_⟩
    refine ⟨fun a w R hA hS hd => gv1 (d_1 rfl (gu hd 8) rfl), ?_⟩
    refine ⟨fun a w R hA hS hd => gv1 (d_1 rfl (gu hd 8) rfl), ?_⟩
    refine ⟨fun a w R hA hS hd => d_8 rfl (valloc rfl w_6 (cs := [(iv 0), (iv 0)]) rfl (fun b_ => ⟨b_, rfl, rfl⟩)), ?_⟩
    trivial
   ·skip
    intro O7 AAq R rsf180 M8 N KB; clear GZ KA
    obtain ⟨AC, AE⟩ := N 1 (by decide)
    obtain ⟨vt1_, vm1_, lr1_, lb1_, lk1_, AD, Y⟩ := AE
    obtain ⟨H, k⟩ := N 11 (by decide)
    obtain ⟨b11_, M, L⟩ := k
    have OV : Sep NoB w AAq [(d_4 true vt1_ lr1_ lb1_ b.tabs), (d_5 true vm1_ lk1_ b.macs), (blk b11_ 30 [(iv 0), (iv 0)]), (blk I 30 [(iv rc), (iv rd)]), (blk K 30 [(iv ra), (iv rb)]), (row (A 3) 46 5 b.tabs.length (g_4 lr lb b.tabs)), (row (A 7) 61 2 b.macs.length (h_8 lk b.macs)), (blk C 25 [(iv b.scales), (A 3), (A 7)]), (blk G 25 [(iv b.scales), vt, vm]), (d_4 false vt lr lb b.tabs), (d_5 false vm lk b.macs), (sl xl 2 l.length (pairs l))] := by rw [show catR rsf180 0 12 = ([(d_4 true vt1_ lr1_ lb1_ b.tabs), (d_5 true vm1_ lk1_ b.macs), (blk b11_ 30 [(iv 0), (iv 0)])] : List Res) by (try simp only [catR, gr (N 0 (by decide)), Y, gr (N 2 (by decide)), gr (N 3 (by decide)), gr (N 4 (by decide)), gr (N 5 (by decide)), gr (N 6 (by decide)), gr (N 7 (by decide)), gr (N 8 (by decide)), gr (N 9 (by decide)), gr (N 10 (by decide)), L]); (try rfl)] at KB; exact KB
    have M9 := M8.add (gs (N 9 (by decide))); clear M8
    have NA := M9.add (gs (N 10 (by decide))); clear M9
    rw [M] at H
    have Bv : Fr 245 [] [(18, (bptr b11_ 0)), (100, (iv (i_2 b (kk : Int) (ra, rb)))), (99, (Value.agg #[(iv ((e_9 b (kk : Int) (ra, rb)).1)), (iv ((e_9 b (kk : Int) (ra, rb)).2))])), (17, (bptr I 0)), (16, (bptr K 0)), (15, (eptr (A 3) (kk * 5))), (14, (iv (b.tabs.length : Int))), (13, (bptr C 0)), (6, (bptr G 0)), (1, xl), (2, (Value.int .u8 wa)), (3, (Value.int .u8 wb))] O7 := NA.add (h_5 H rfl); clear NA
    clear N KB AC H
    clear Y
    clear AD
    clear L
    clear M
    refine s7 Bv (c_3 OV rfl f_4 Bv.e Bv.e (i := 2) rfl (vs := [(iv ((e_9 b (kk : Int) (ra, rb)).1)), (iv ((e_9 b (kk : Int) (ra, rb)).2))]) rfl rfl rfl (Nat.le_of_ble_eq_true rfl)) ?_
    intro _ AAr OW Ga; clear Bv
    have KC : Sep NoB w AAr [(d_4 true vt1_ lr1_ lb1_ b.tabs), (d_5 true vm1_ lk1_ b.macs), (blk b11_ 30 [(iv ((e_9 b (kk : Int) (ra, rb)).1)), (iv ((e_9 b (kk : Int) (ra, rb)).2))]), (blk I 30 [(iv rc), (iv rd)]), (blk K 30 [(iv ra), (iv rb)]), (row (A 3) 46 5 b.tabs.length (g_4 lr lb b.tabs)), (row (A 7) 61 2 b.macs.length (h_8 lk b.macs)), (blk C 25 [(iv b.scales), (A 3), (A 7)]), (blk G 25 [(iv b.scales), vt, vm]), (d_4 false vt lr lb b.tabs), (d_5 false vm lk b.macs), (sl xl 2 l.length (pairs l))] := OW; clear OW OV
    refine s1 Ga (a_1 rfl Ga.e) fun ACb NB => ?_; clear Ga O7
    refine n2 ?_
    have Gb := NB.as [(19, (iv (i_2 b (kk : Int) (ra, rb)))), (18, (bptr b11_ 0)), (17, (bptr I 0)), (15, (eptr (A 3) (kk * 5))), (14, (iv (b.tabs.length : Int))), (13, (bptr C 0)), (6, (bptr G 0)), (1, xl), (2, (Value.int .u8 wa)), (3, (Value.int .u8 wb))] rfl; clear NB
    refine c_drawF mixed Gb KC 12 10 rfl rfl [[], [0], [], [2], [], [3, 4], [], [1, 5, 6], [7], [8], [8], []] [(yw (Value.agg #[(iv b.scales), vt, vm])), (fun (S : Nat → Value) (v_ : Value) (rs_ : List Res) => ∃ (vt1_vs192 : Value), ∃ (vm1_vs192 : Value), ∃ (lr1_vs192 : Nat → Value), ∃ (lb1_vs192 : Nat → Value), ∃ (lk1_vs192 : Nat → Value), v_ = (Value.agg #[(iv b.scales), vt1_vs192, vm1_vs192]) ∧ rs_ = [(d_4 true vt1_vs192 lr1_vs192 lb1_vs192 b.tabs), (d_5 true vm1_vs192 lk1_vs192 b.macs)]), (yw (Value.int .u8 wa)), (yw (iv wa)), (yw (iv (b.tabs.length : Int))), (yw (iv (kk : Int))), (yw (Value.agg #[(iv rc), (iv rd)])), (yw (Value.tuple #[(Value.agg #[(iv ((e_9 b (kk : Int) (rc, rd)).1)), (iv ((e_9 b (kk : Int) (rc, rd)).2))]), (iv (i_2 b (kk : Int) (rc, rd)))])), (yw (Value.tuple #[(Value.agg #[(iv ((e_9 b (kk : Int) (rc, rd)).1)), (iv ((e_9 b (kk : Int) (rc, rd)).2))]), (iv (i_2 b (kk : Int) (rc, rd)))])), (yw (Value.agg #[(iv ((e_9 b (kk : Int) (rc, rd)).1)), (iv ((e_9 b (kk : Int) (rc, rd)).2))])), (yw (iv (i_2 b (kk : Int) (rc, rd)))), (fun (S : Nat → Value) (v_ : Value) (rs_ : List Res) => ∃ (b11_vs192 : Nat), v_ = (bptr b11_vs192 0) ∧ rs_ = [(blk b11_vs192 30 [(iv 0), (iv 0)])])] (by decide +kernel) (by decide +kernel) (by decide +kernel) rfl rfl ⟨dw, (fun _ _ _ _ _ h_ => h_), dw, dw, dw, dw, dw, dw, dw, dw, dw, (fun _ _ _ _ _ h_ => h_), trivial⟩ ?_ ?_ ?_
    ·skip
     refine ⟨fun a w S hA hS hd => gv1 (c_5 rfl z_5 (hA.ev rfl) (hS.bk 8 rfl) (l := [(iv b.scales), vt, vm]) rfl rfl), ?_⟩
     refine ⟨fun a w S hA hS hd => d_8 rfl (vn (b_1 rfl en_19 (ev1 (gu hd 0)) (w_0 b vt vm lr lb lk _ (b_8 (hS.ok 9 _ rfl)) (c_1 (hS.ok 10 _ rfl)) hth)) (fun v w' h => by obtain ⟨vt, vm, lr, lb, lk, rfl, hT⟩ := h; exact ⟨_, ⟨vt, vm, lr, lb, lk, rfl, rfl⟩, hT, rfl⟩)), ?_⟩
     refine ⟨fun a w S hA hS hd => gv1 (a_0 rfl hA.e), ?_⟩
     refine ⟨fun a w S hA hS hd => gv1 (k_6 un_5 un_3 rfl (gu hd 2) (v := wa) (wrap_i64 (by omega) (by omega))), ?_⟩
     refine ⟨fun a w S hA hS hd => gv1 (a_0 rfl hA.e), ?_⟩
     refine ⟨fun a w S hA hS hd => gv1 (opY_int (n_5 rfl (gu hd 3) (gu hd 4) (by omega)) hz_kk), ?_⟩
     refine ⟨fun a w S hA hS hd => gv1 (c_5 rfl f_4 (hA.ev rfl) (hS.bk 3 rfl) (l := [(iv rc), (iv rd)]) rfl rfl), ?_⟩
     refine ⟨fun a w S hA hS hd => ?_, ?_⟩
     ·skip
      obtain ⟨e1, U6, MZ, Bl⟩ := hd 1 (by decide)
      obtain ⟨vt1_vs192, vm1_vs192, lr1_vs192, lb1_vs192, lk1_vs192, MY, o⟩ := MZ; subst o
      rw [MY] at e1
      have hp1_0 := Bl _ (List.mem_of_getElem? (i := 0) rfl)
      have hp1_1 := Bl _ (List.mem_of_getElem? (i := 1) rfl)
      exact gx1 (b_1 rfl en_18 (ev3 (c_6 (h_5 e1 rfl)) (gu hd 5) (gu hd 6)) (Convert_ok b vt1_vs192 vm1_vs192 lr1_vs192 lb1_vs192 lk1_vs192 _ (b_8 hp1_0) (c_1 hp1_1) hth (kk : Int) rc rd))
     refine ⟨fun a w S hA hS hd => gv1 (a_0 rfl (gu hd 7)), ?_⟩
     refine ⟨fun a w S hA hS hd => gv1 (d_1 rfl (gu hd 8) rfl), ?_⟩
     refine ⟨fun a w S hA hS hd => gv1 (d_1 rfl (gu hd 8) rfl), ?_⟩
     refine ⟨fun a w S hA hS hd => d_8 rfl (valloc rfl w_6 (cs := [(iv 0), (iv 0)]) rfl (fun b_ => ⟨b_, rfl, rfl⟩)), ?_⟩
     trivial
    ·skip
     intro O8 AAs S rsf198 NC O KD; clear Gb KC
     obtain ⟨AC, AE⟩ := O 1 (by decide)
     obtain ⟨vt1_vs192, vm1_vs192, lr1_vs192, lb1_vs192, lk1_vs192, AD, Y⟩ := AE
     obtain ⟨H, k⟩ := O 11 (by decide)
     obtain ⟨b11_vs192, M, L⟩ := k
     have OX : Sep NoB w AAs [(d_4 true vt1_vs192 lr1_vs192 lb1_vs192 b.tabs), (d_5 true vm1_vs192 lk1_vs192 b.macs), (blk b11_vs192 30 [(iv 0), (iv 0)]), (d_4 true vt1_ lr1_ lb1_ b.tabs), (d_5 true vm1_ lk1_ b.macs), (blk b11_ 30 [(iv ((e_9 b (kk : Int) (ra, rb)).1)), (iv ((e_9 b (kk : Int) (ra, rb)).2))]), (blk I 30 [(iv rc), (iv rd)]), (blk K 30 [(iv ra), (iv rb)]), (row (A 3) 46 5 b.tabs.length (g_4 lr lb b.tabs)), (row (A 7) 61 2 b.macs.length (h_8 lk b.macs)), (blk C 25 [(iv b.scales), (A 3), (A 7)]), (blk G 25 [(iv b.scales), vt, vm]), (d_4 false vt lr lb b.tabs), (d_5 false vm lk b.macs), (sl xl 2 l.length (pairs l))] := by rw [show catR rsf198 0 12 = ([(d_4 true vt1_vs192 lr1_vs192 lb1_vs192 b.tabs), (d_5 true vm1_vs192 lk1_vs192 b.macs), (blk b11_vs192 30 [(iv 0), (iv 0)])] : List Res) by (try simp only [catR, gr (O 0 (by decide)), Y, gr (O 2 (by decide)), gr (O 3 (by decide)), gr (O 4 (by decide)), gr (O 5 (by decide)), gr (O 6 (by decide)), gr (O 7 (by decide)), gr (O 8 (by decide)), gr (O 9 (by decide)), gr (O 10 (by decide)), L]); (try rfl)] at KD; exact KD
     have ND := NC.add (gs (O 9 (by decide))); clear NC
     have NE := ND.add (gs (O 10 (by decide))); clear ND
     rw [M] at H
     have Bw : Fr 245 [] [(20, (bptr b11_vs192 0)), (111, (iv (i_2 b (kk : Int) (rc, rd)))), (110, (Value.agg #[(iv ((e_9 b (kk : Int) (rc, rd)).1)), (iv ((e_9 b (kk : Int) (rc, rd)).2))])), (19, (iv (i_2 b (kk : Int) (ra, rb)))), (18, (bptr b11_ 0)), (17, (bptr I 0)), (15, (eptr (A 3) (kk * 5))), (14, (iv (b.tabs.length : Int))), (13, (bptr C 0)), (6, (bptr G 0)), (1, xl), (2, (Value.int .u8 wa)), (3, (Value.int .u8 wb))] O8 := NE.add (h_5 H rfl); clear NE
     clear O KD AC H
     clear Y
     clear AD
     clear L
     clear M
     refine s7 Bw (c_3 OX rfl f_4 Bw.e Bw.e (i := 2) rfl (vs := [(iv ((e_9 b (kk : Int) (rc, rd)).1)), (iv ((e_9 b (kk : Int) (rc, rd)).2))]) rfl rfl rfl (Nat.le_of_ble_eq_true rfl)) ?_
     intro _ AAt OY Gc; clear Bw
     have D : Sep NoB w AAt [(d_4 true vt1_vs192 lr1_vs192 lb1_vs192 b.tabs), (d_5 true vm1_vs192 lk1_vs192 b.macs), (blk b11_vs192 30 [(iv ((e_9 b (kk : Int) (rc, rd)).1)), (iv ((e_9 b (kk : Int) (rc, rd)).2))]), (d_4 true vt1_ lr1_ lb1_ b.tabs), (d_5 true vm1_ lk1_ b.macs), (blk b11_ 30 [(iv ((e_9 b (kk : Int) (ra, rb)).1)), (iv ((e_9 b (kk : Int) (ra, rb)).2))]), (blk I 30 [(iv rc), (iv rd)]), (blk K 30 [(iv ra), (iv rb)]), (row (A 3) 46 5 b.tabs.length (g_4 lr lb b.tabs)), (row (A 7) 61 2 b.macs.length (h_8 lk b.macs)), (blk C 25 [(iv b.scales), (A 3), (A 7)]), (blk G 25 [(iv b.scales), vt, vm]), (d_4 false vt lr lb b.tabs), (d_5 false vm lk b.macs), (sl xl 2 l.length (pairs l))] := OY; clear OY OX
     refine s1 Gc (a_1 rfl Gc.e) fun VW Gd => ?_; clear Gc O8
     refine n2 (m2 (s1 Gd (a_0 rfl Gd.e) fun VX Ge => ?_)); clear Gd VW
     refine s1 Ge (o_4 rfl Ge.e (evc _ _)) fun VY Gf => ?_; clear Ge VX
     refine s1 Gf (a_0 rfl Gf.e) fun O9 AP => ?_; clear Gf VY
     by_cases Ct : (i_2 b (kk : Int) (ra, rb)) = 0
     ·skip
      rw [decide_eq_true Ct] at AP
      refine s5 AP (a_0 rfl AP.e) fun VZ Gg => ?_; clear AP O9
      refine s5 Gg (i_6 rfl Gg.e (evc _ _)) fun Va Bx => ?_; clear Gg VZ
      have O1 : (i_2 b (kk : Int) (rc, rd)) = 0 := (p_1 (r := (ra, rb)) (r' := (rc, rd)) hc hb_kk AF o hr2_ AW AG (by assumption)).1
      rw [decide_eq_true O1] at Bx
      refine s5 Bx (a_0 rfl Bx.e) fun Vb Gh => ?_; clear Bx Va
      refine s5 Gh (a_3 rfl i_4 Gh.e) fun Vc Gi => ?_; clear Gh Vb
      refine s5 Gi (a_4 rfl ty_3 Gi.e (D.bk 2 rfl) rfl) fun Vd Gj => ?_; clear Gi Vc
      refine s5 Gj (a_3 rfl i_4 Gj.e) fun Ve Gk => ?_; clear Gj Vd
      refine s5 Gk (a_4 rfl ty_3 Gk.e (D.bk 5 rfl) rfl) fun Vf By => ?_; clear Gk Ve
      refine s5 By (f_8 rfl By.e By.e) fun Vg BT => ?_; clear By Vf
      have Uj : ¬ (((e_9 b (kk : Int) (rc, rd)).1) < ((e_9 b (kk : Int) (ra, rb)).1)) := (by have hz_ := (p_1 (r := (ra, rb)) (r' := (rc, rd)) hc hb_kk AF o hr2_ AW AG (by assumption)); omega)
      rw [decide_eq_false Uj] at BT
      refine s5 BT (b_2 rfl BT.e BT.e) fun Vh Gl => ?_; clear BT Vg
      refine s5 Gl (a_0 rfl Gl.e) fun Vi Gm => ?_; clear Gl Vh
      refine s5 Gm (a_3 rfl i_5 Gm.e) fun Vj Gn => ?_; clear Gm Vi
      refine s5 Gn (a_4 rfl ty_3 Gn.e (D.bk 2 rfl) rfl) fun Vk Gp => ?_; clear Gn Vj
      refine s5 Gp (a_3 rfl i_5 Gp.e) fun Vl Gq => ?_; clear Gp Vk
      refine s5 Gq (a_4 rfl ty_3 Gq.e (D.bk 5 rfl) rfl) fun Vm Bz => ?_; clear Gq Vl
      refine s5 Bz (j_1 rfl Bz.e Bz.e) fun Vn BU => ?_; clear Bz Vm
      have Uk : ¬ (((e_9 b (kk : Int) (ra, rb)).2) < ((e_9 b (kk : Int) (rc, rd)).2)) := (by have hz_ := (p_1 (r := (ra, rb)) (r' := (rc, rd)) hc hb_kk AF o hr2_ AW AG (by assumption)); omega)
      rw [decide_eq_false Uk] at BU
      refine s5 BU (b_2 rfl BU.e BU.e) fun Vo B0 => ?_; clear BU Vn
      refine s1 B0 (b_3 rfl B0.e B0.e) fun Vp Gr => ?_; clear B0 Vo
      refine s1 Gr (a_0 rfl Gr.e) fun Vq Gs => ?_; clear Gr Vp
      refine s5 Gs (a_0 rfl Gs.e) fun Vr Gt => ?_; clear Gs Vq
      refine s5 Gt (i_6 rfl Gt.e (evc _ _)) fun Vs B1 => ?_; clear Gt Vr
      rw [decide_eq_true Ct] at B1
      refine s5 B1 (a_0 rfl B1.e) fun Vt NF => ?_; clear B1 Vs
      refine s3 NF fun Vu NG => ?_; clear NF Vt
      refine s3 NG fun Vv Gu => ?_; clear NG Vu
      refine s5 Gu (b_2 rfl Gu.e (evc _ _)) fun Vw B2 => ?_; clear Gu Vv
      refine s1 B2 (b_2 rfl B2.e B2.e) fun Vx Gv => ?_; clear B2 Vw
      refine s1 Gv (a_0 rfl Gv.e) fun Vy Gw => ?_; clear Gv Vx
      refine s5 Gw (a_0 rfl Gw.e) fun Vz Gx => ?_; clear Gw Vy
      refine s5 Gx (i_6 rfl Gx.e (evc _ _)) fun V0 B3 => ?_; clear Gx Vz
      rw [decide_eq_true O1] at B3
      refine s5 B3 (a_0 rfl B3.e) fun V1 NH => ?_; clear B3 V0
      refine s3 NH fun V2 NI => ?_; clear NH V1
      refine s3 NI fun V3 Gy => ?_; clear NI V2
      refine s5 Gy (b_2 rfl Gy.e (evc _ _)) fun V4 B4 => ?_; clear Gy V3
      refine s1 B4 (b_2 rfl B4.e B4.e) fun V5 Gz => ?_; clear B4 V4
      refine n1 (b_9 Gz rfl (d_0 (b_0 ?_)))
      have G0 := Gz.as [(15, (eptr (A 3) (kk * 5))), (13, (bptr C 0)), (6, (bptr G 0)), (1, xl), (2, (Value.int .u8 wa)), (3, (Value.int .u8 wb))] rfl; clear Gz
      refine a_5 (s1 G0 (a_0 rfl G0.e) fun V6 G1 => ?_); clear G0 V5
      refine s1 G1 (a_0 rfl G1.e) fun V7 G2 => ?_; clear G1 V6
      refine s1 G2 (e_3 rfl G2.e (SlAt.b_5 (D.b_6 8 rfl)) (by rw [((SlAt.b_5 (D.b_6 8 rfl))).1]; first | omega | (simp only [List.length_set]; omega))) fun V8 G3 => ?_; clear G2 V7
      refine s1 G3 (c_0 rfl k_1 G3.e (SlAt.b_5 (D.b_6 8 rfl)) (by rw [((SlAt.b_5 (D.b_6 8 rfl))).1]; first | omega | (simp only [List.length_set]; omega))) fun V9 G4 => ?_; clear G3 V8
      refine s1 G4 (c_2 rfl ty_3 G4.e (SlAt.b_5 (D.b_6 8 rfl)) (p_2 (by first | omega | (simp only [List.length_set]; omega)))) fun WA G5 => ?_; clear G4 V9
      refine s1 G5 (a_0 rfl G5.e) fun WB G6 => ?_; clear G5 WA
      refine s1 G6 (k_6 un_5 un_3 rfl G6.e (v := wb) (wrap_i64 (by omega) (by omega))) fun WD G7 => ?_; clear G6 WB
      refine s1 G7 (n_5 rfl G7.e (evc _ _) (by omega)) fun WE B5 => ?_; clear G7 WD
      refine s1 B5 (g_9 rfl B5.e B5.e (by omega) (by omega)) fun WF G8 => ?_; clear B5 WE
      refine s1 G8 (u_7 rfl (evc _ _) G8.e) fun WG G9 => ?_; clear G8 WF
      refine s1 G9 (e_3 rfl G9.e (SlAt.b_5 (D.b_6 8 rfl)) (by rw [((SlAt.b_5 (D.b_6 8 rfl))).1]; first | omega | (simp only [List.length_set]; omega))) fun WH HA => ?_; clear G9 WG
      refine s1 HA (c_0 rfl k_1 HA.e (SlAt.b_5 (D.b_6 8 rfl)) (by rw [((SlAt.b_5 (D.b_6 8 rfl))).1]; first | omega | (simp only [List.length_set]; omega))) fun ACc B6 => ?_; clear HA WH
      refine s7 B6 (l_8 D rfl ty_3 B6.e B6.e (i := 8) rfl (vs := [(iv (max 0 (((b.tabs.getD kk tab0).err) - ((wb).tmod 8))))]) rfl rfl rfl (by first | (rw [n_4]; omega) | (rw [n_6]; omega) | (rw [h_6]; omega)) (by decide)) ?_
      intro _ ACr OZ UQ; have Oa := OZ.g_3 (i := 8) rfl (n' := (b.tabs.set kk { b.tabs.getD kk tab0 with err := max 0 (((b.tabs.getD kk tab0).err) - ((wb).tmod 8)) }).length) (xs' := (g_4 lr lb (b.tabs.set kk { b.tabs.getD kk tab0 with err := max 0 (((b.tabs.getD kk tab0).err) - ((wb).tmod 8)) }))) (by rw [List.length_set]) (m_9 (by omega)); clear OZ B6 D
      refine e_8 ((b_0 ?_))
      have UZ := Oa.gkp (gpc 8 (gpc 9 (gpc 10 (gpc 11 (gpc 12 (gpc 13 (gpc 14 gpn))))))); clear Oa
      exact ⟨(b.tabs.set kk { b.tabs.getD kk tab0 with err := max 0 (((b.tabs.getD kk tab0).err) - ((wb).tmod 8)) }), UQ.as _ rfl, UZ, (FinT.set (fun j hj => (hb.tab hj).err.1) hb_kk (by omega) (by omega))⟩
     skip
     rw [decide_eq_false Ct] at AP
     refine s3 AP fun WI NJ => ?_; clear AP O9
     refine s3 NJ fun WJ NK => ?_; clear NJ WI
     refine s3 NK fun WK NL => ?_; clear NK WJ
     refine s4 NL fun WM NM => ?_; clear NL WK
     refine s4 NM fun WN NN => ?_; clear NM WM
     refine s4 NN fun WO NO => ?_; clear NN WN
     refine s4 NO fun WP NP => ?_; clear NO WO
     refine s4 NP fun WQ NQ => ?_; clear NP WP
     refine s3 NQ fun WR NR => ?_; clear NQ WQ
     refine s3 NR fun WS NS => ?_; clear NR WR
     refine s4 NS fun WT NT => ?_; clear NS WS
     refine s4 NT fun WU NU => ?_; clear NT WT
     refine s4 NU fun WV NV => ?_; clear NU WU
     refine s4 NV fun WW NW => ?_; clear NV WV
     refine s4 NW fun WX NX => ?_; clear NW WW
     refine s3 NX fun WY HB => ?_; clear NX WX
     refine s1 HB (b_2 rfl HB.e (evc _ _)) fun WZ HC => ?_; clear HB WY
     refine s1 HC (a_0 rfl HC.e) fun Wa HD => ?_; clear HC WZ
     refine s5 HD (a_0 rfl HD.e) fun Wb HE => ?_; clear HD Wa
     refine s5 HE (i_6 rfl HE.e (evc _ _)) fun Wc B7 => ?_; clear HE Wb
     rw [decide_eq_false Ct] at B7
     refine s5 B7 (a_0 rfl B7.e) fun Wd HF => ?_; clear B7 Wc
     refine s5 HF (a_0 rfl HF.e) fun We HG => ?_; clear HF Wd
     refine s5 HG (i_6 rfl HG.e (evc _ _)) fun Wf BV => ?_; clear HG We
     have Ul : (i_2 b (kk : Int) (ra, rb)) = 10 := (z_8 (r := (ra, rb)) hc hb_kk (by dsimp only; omega) (by dsimp only; omega) (by dsimp only; omega) (by assumption))
     rw [decide_eq_true Ul] at BV
     refine s5 BV (b_3 rfl BV.e BV.e) fun Wg B8 => ?_; clear BV Wf
     refine s1 B8 (b_2 rfl B8.e B8.e) fun Wh HH => ?_; clear B8 Wg
     refine s1 HH (a_0 rfl HH.e) fun Wi HI => ?_; clear HH Wh
     refine s5 HI (a_0 rfl HI.e) fun Wj HJ => ?_; clear HI Wi
     refine s5 HJ (i_6 rfl HJ.e (evc _ _)) fun Wk HK => ?_; clear HJ Wj
     refine s5 HK (a_0 rfl HK.e) fun PB AQ => ?_; clear HK Wk
     by_cases Oy : (i_2 b (kk : Int) (rc, rd)) = 0
     ·skip
      rw [decide_eq_true Oy] at AQ
      refine s3 AQ fun Wl NY => ?_; clear AQ PB
      refine s3 NY fun Wm HL => ?_; clear NY Wl
      refine s5 HL (b_2 rfl HL.e (evc _ _)) fun Wn B9 => ?_; clear HL Wm
      refine s1 B9 (b_2 rfl B9.e B9.e) fun Wo HM => ?_; clear B9 Wn
      refine n1 (b_9 HM rfl (d_0 (b_0 ?_)))
      have HN := HM.as [(15, (eptr (A 3) (kk * 5))), (13, (bptr C 0)), (6, (bptr G 0)), (1, xl), (2, (Value.int .u8 wa)), (3, (Value.int .u8 wb))] rfl; clear HM
      refine a_5 (s1 HN (a_0 rfl HN.e) fun Wp HO => ?_); clear HN Wo
      refine s1 HO (a_0 rfl HO.e) fun Wq HP => ?_; clear HO Wp
      refine s1 HP (e_3 rfl HP.e (SlAt.b_5 (D.b_6 8 rfl)) (by rw [((SlAt.b_5 (D.b_6 8 rfl))).1]; first | omega | (simp only [List.length_set]; omega))) fun Wr HQ => ?_; clear HP Wq
      refine s1 HQ (c_0 rfl k_1 HQ.e (SlAt.b_5 (D.b_6 8 rfl)) (by rw [((SlAt.b_5 (D.b_6 8 rfl))).1]; first | omega | (simp only [List.length_set]; omega))) fun Ws HR => ?_; clear HQ Wr
      refine s1 HR (c_2 rfl ty_3 HR.e (SlAt.b_5 (D.b_6 8 rfl)) (p_2 (by first | omega | (simp only [List.length_set]; omega)))) fun Wt HS => ?_; clear HR Ws
      refine s1 HS (a_0 rfl HS.e) fun Wu HT => ?_; clear HS Wt
      refine s1 HT (k_6 un_5 un_3 rfl HT.e (v := wb) (wrap_i64 (by omega) (by omega))) fun Wv HU => ?_; clear HT Wu
      refine s1 HU (n_5 rfl HU.e (evc _ _) (by omega)) fun Ww CA => ?_; clear HU Wv
      refine s1 CA (g_9 rfl CA.e CA.e (by omega) (by omega)) fun Wx HV => ?_; clear CA Ww
      refine s1 HV (u_7 rfl (evc _ _) HV.e) fun Wy HW => ?_; clear HV Wx
      refine s1 HW (e_3 rfl HW.e (SlAt.b_5 (D.b_6 8 rfl)) (by rw [((SlAt.b_5 (D.b_6 8 rfl))).1]; first | omega | (simp only [List.length_set]; omega))) fun Wz HX => ?_; clear HW Wy
      refine s1 HX (c_0 rfl k_1 HX.e (SlAt.b_5 (D.b_6 8 rfl)) (by rw [((SlAt.b_5 (D.b_6 8 rfl))).1]; first | omega | (simp only [List.length_set]; omega))) fun ACd CB => ?_; clear HX Wz
      refine s7 CB (l_8 D rfl ty_3 CB.e CB.e (i := 8) rfl (vs := [(iv (max 0 (((b.tabs.getD kk tab0).err) - ((wb).tmod 8))))]) rfl rfl rfl (by first | (rw [n_4]; omega) | (rw [n_6]; omega) | (rw [h_6]; omega)) (by decide)) ?_
      intro _ ACs Ob UR; have Oc := Ob.g_3 (i := 8) rfl (n' := (b.tabs.set kk { b.tabs.getD kk tab0 with err := max 0 (((b.tabs.getD kk tab0).err) - ((wb).tmod 8)) }).length) (xs' := (g_4 lr lb (b.tabs.set kk { b.tabs.getD kk tab0 with err := max 0 (((b.tabs.getD kk tab0).err) - ((wb).tmod 8)) }))) (by rw [List.length_set]) (m_9 (by omega)); clear Ob CB D
      refine e_8 ((b_0 ?_))
      have Ua := Oc.gkp (gpc 8 (gpc 9 (gpc 10 (gpc 11 (gpc 12 (gpc 13 (gpc 14 gpn))))))); clear Oc
      exact ⟨(b.tabs.set kk { b.tabs.getD kk tab0 with err := max 0 (((b.tabs.getD kk tab0).err) - ((wb).tmod 8)) }), UR.as _ rfl, Ua, (FinT.set (fun j hj => (hb.tab hj).err.1) hb_kk (by omega) (by omega))⟩
     skip
     rw [decide_eq_false Oy] at AQ
     refine s5 AQ (a_0 rfl AQ.e) fun W0 HY => ?_; clear AQ PB
     refine s5 HY (i_6 rfl HY.e (evc _ _)) fun W1 BW => ?_; clear HY W0
     have Um : (i_2 b (kk : Int) (rc, rd)) = 10 := (z_8 (r := (rc, rd)) hc hb_kk (by dsimp only; omega) (by dsimp only; omega) (by dsimp only; omega) (by assumption))
     rw [decide_eq_true Um] at BW
     refine s5 BW (b_3 rfl BW.e BW.e) fun W2 CC => ?_; clear BW W1
     refine s1 CC (b_2 rfl CC.e CC.e) fun W3 HZ => ?_; clear CC W2
     refine n1 (b_9 HZ rfl (d_0 (b_0 ?_)))
     have Ha := HZ.as [(15, (eptr (A 3) (kk * 5))), (13, (bptr C 0)), (6, (bptr G 0)), (1, xl), (2, (Value.int .u8 wa)), (3, (Value.int .u8 wb))] rfl; clear HZ
     refine a_5 (s1 Ha (a_0 rfl Ha.e) fun W4 Hb => ?_); clear Ha W3
     refine s1 Hb (a_0 rfl Hb.e) fun W5 Hc => ?_; clear Hb W4
     refine s1 Hc (e_3 rfl Hc.e (SlAt.b_5 (D.b_6 8 rfl)) (by rw [((SlAt.b_5 (D.b_6 8 rfl))).1]; first | omega | (simp only [List.length_set]; omega))) fun W6 Hd => ?_; clear Hc W5
     refine s1 Hd (c_0 rfl k_1 Hd.e (SlAt.b_5 (D.b_6 8 rfl)) (by rw [((SlAt.b_5 (D.b_6 8 rfl))).1]; first | omega | (simp only [List.length_set]; omega))) fun W7 Hf => ?_; clear Hd W6
     refine s1 Hf (c_2 rfl ty_3 Hf.e (SlAt.b_5 (D.b_6 8 rfl)) (p_2 (by first | omega | (simp only [List.length_set]; omega)))) fun W8 Hg => ?_; clear Hf W7
     refine s1 Hg (a_0 rfl Hg.e) fun W9 Hh => ?_; clear Hg W8
     refine s1 Hh (k_6 un_5 un_3 rfl Hh.e (v := wb) (wrap_i64 (by omega) (by omega))) fun XA Hi => ?_; clear Hh W9
     refine s1 Hi (n_5 rfl Hi.e (evc _ _) (by omega)) fun XB CD => ?_; clear Hi XA
     refine s1 CD (g_9 rfl CD.e CD.e (by omega) (by omega)) fun XC Hj => ?_; clear CD XB
     refine s1 Hj (u_7 rfl (evc _ _) Hj.e) fun XD Hk => ?_; clear Hj XC
     refine s1 Hk (e_3 rfl Hk.e (SlAt.b_5 (D.b_6 8 rfl)) (by rw [((SlAt.b_5 (D.b_6 8 rfl))).1]; first | omega | (simp only [List.length_set]; omega))) fun XE Hl => ?_; clear Hk XD
     refine s1 Hl (c_0 rfl k_1 Hl.e (SlAt.b_5 (D.b_6 8 rfl)) (by rw [((SlAt.b_5 (D.b_6 8 rfl))).1]; first | omega | (simp only [List.length_set]; omega))) fun ACe CE => ?_; clear Hl XE
     refine s7 CE (l_8 D rfl ty_3 CE.e CE.e (i := 8) rfl (vs := [(iv (max 0 (((b.tabs.getD kk tab0).err) - ((wb).tmod 8))))]) rfl rfl rfl (by first | (rw [n_4]; omega) | (rw [n_6]; omega) | (rw [h_6]; omega)) (by decide)) ?_
     intro _ ACt Od US; have Oe := Od.g_3 (i := 8) rfl (n' := (b.tabs.set kk { b.tabs.getD kk tab0 with err := max 0 (((b.tabs.getD kk tab0).err) - ((wb).tmod 8)) }).length) (xs' := (g_4 lr lb (b.tabs.set kk { b.tabs.getD kk tab0 with err := max 0 (((b.tabs.getD kk tab0).err) - ((wb).tmod 8)) }))) (by rw [List.length_set]) (m_9 (by omega)); clear Od CE D
     refine e_8 ((b_0 ?_))
     have Uc := Oe.gkp (gpc 8 (gpc 9 (gpc 10 (gpc 11 (gpc 12 (gpc 13 (gpc 14 gpn))))))); clear Oe
     exact ⟨(b.tabs.set kk { b.tabs.getD kk tab0 with err := max 0 (((b.tabs.getD kk tab0).err) - ((wb).tmod 8)) }), US.as _ rfl, Uc, (FinT.set (fun j hj => (hb.tab hj).err.1) hb_kk (by omega) (by omega))⟩
    skip
    intro PC AAu S rsf457 NZ U hrq KG; clear Gb KC
    obtain ⟨AC, AE⟩ := U 1 (by decide) (by decide)
    obtain ⟨vt1_vs192, vm1_vs192, lr1_vs192, lb1_vs192, lk1_vs192, AD, Y⟩ := AE
    obtain ⟨H, k⟩ := U 11 (by decide) (by decide)
    obtain ⟨b11_vs192, M, L⟩ := k
    have Of : Sep NoB w AAu [(d_4 true vt1_vs192 lr1_vs192 lb1_vs192 b.tabs), (d_5 true vm1_vs192 lk1_vs192 b.macs), (blk b11_vs192 30 [(iv 0), (iv 0)]), (d_4 true vt1_ lr1_ lb1_ b.tabs), (d_5 true vm1_ lk1_ b.macs), (blk b11_ 30 [(iv ((e_9 b (kk : Int) (ra, rb)).1)), (iv ((e_9 b (kk : Int) (ra, rb)).2))]), (blk I 30 [(iv rc), (iv rd)]), (blk K 30 [(iv ra), (iv rb)]), (row (A 3) 46 5 b.tabs.length (g_4 lr lb b.tabs)), (row (A 7) 61 2 b.macs.length (h_8 lk b.macs)), (blk C 25 [(iv b.scales), (A 3), (A 7)]), (blk G 25 [(iv b.scales), vt, vm]), (d_4 false vt lr lb b.tabs), (d_5 false vm lk b.macs), (sl xl 2 l.length (pairs l))] := by rw [show catR rsf457 0 12 = ([(d_4 true vt1_vs192 lr1_vs192 lb1_vs192 b.tabs), (d_5 true vm1_vs192 lk1_vs192 b.macs), (blk b11_vs192 30 [(iv 0), (iv 0)])] : List Res) by (try simp only [catR, gr (U 0 (by decide) (by decide)), Y, gr (U 2 (by decide) (by decide)), gr (U 3 (by decide) (by decide)), gr (U 4 (by decide) (by decide)), gr (U 5 (by decide) (by decide)), gr (U 6 (by decide) (by decide)), gr (U 7 (by decide) (by decide)), gr (U 8 (by decide) (by decide)), gr (U 9 (by decide) (by decide)), L, hrq]); (try rfl)] at KG; exact KG
    have Na := NZ.add (gs (U 8 (by decide) (by decide))); clear NZ
    have Nb := Na.add (gs (U 9 (by decide) (by decide))); clear Na
    rw [M] at H
    have CF : Fr 245 [] [(20, (bptr b11_vs192 0)), (110, (Value.agg #[(iv ((e_9 b (kk : Int) (rc, rd)).1)), (iv ((e_9 b (kk : Int) (rc, rd)).2))])), (101, (Value.tuple #[(Value.agg #[(iv ((e_9 b (kk : Int) (rc, rd)).1)), (iv ((e_9 b (kk : Int) (rc, rd)).2))]), (iv (i_2 b (kk : Int) (rc, rd)))])), (19, (iv (i_2 b (kk : Int) (ra, rb)))), (18, (bptr b11_ 0)), (17, (bptr I 0)), (15, (eptr (A 3) (kk * 5))), (14, (iv (b.tabs.length : Int))), (13, (bptr C 0)), (6, (bptr G 0)), (1, xl), (2, (Value.int .u8 wa)), (3, (Value.int .u8 wb))] PC := Nb.add (h_5 H rfl); clear Nb
    clear U KG AC H hrq
    clear Y
    clear AD
    clear L
    clear M
    refine s7 CF (c_3 Of rfl f_4 CF.e CF.e (i := 2) rfl (vs := [(iv ((e_9 b (kk : Int) (rc, rd)).1)), (iv ((e_9 b (kk : Int) (rc, rd)).2))]) rfl rfl rfl (Nat.le_of_ble_eq_true rfl)) ?_
    intro _ AAv Og Hm; clear CF
    have E : Sep NoB w AAv [(d_4 true vt1_vs192 lr1_vs192 lb1_vs192 b.tabs), (d_5 true vm1_vs192 lk1_vs192 b.macs), (blk b11_vs192 30 [(iv ((e_9 b (kk : Int) (rc, rd)).1)), (iv ((e_9 b (kk : Int) (rc, rd)).2))]), (d_4 true vt1_ lr1_ lb1_ b.tabs), (d_5 true vm1_ lk1_ b.macs), (blk b11_ 30 [(iv ((e_9 b (kk : Int) (ra, rb)).1)), (iv ((e_9 b (kk : Int) (ra, rb)).2))]), (blk I 30 [(iv rc), (iv rd)]), (blk K 30 [(iv ra), (iv rb)]), (row (A 3) 46 5 b.tabs.length (g_4 lr lb b.tabs)), (row (A 7) 61 2 b.macs.length (h_8 lk b.macs)), (blk C 25 [(iv b.scales), (A 3), (A 7)]), (blk G 25 [(iv b.scales), vt, vm]), (d_4 false vt lr lb b.tabs), (d_5 false vm lk b.macs), (sl xl 2 l.length (pairs l))] := Og; clear Og Of
    refine s1 Hm (d_1 rfl Hm.e rfl) fun XF Hn => ?_; clear Hm PC
    refine s1 Hn (a_1 rfl Hn.e) fun XG Ho => ?_; clear Hn XF
    refine n2 (m2 (s1 Ho (a_0 rfl Ho.e) fun XH Hp => ?_)); clear Ho XG
    refine s1 Hp (o_4 rfl Hp.e (evc _ _)) fun XI Hq => ?_; clear Hp XH
    refine s1 Hq (a_0 rfl Hq.e) fun PD AR => ?_; clear Hq XI
    by_cases Cu : (i_2 b (kk : Int) (ra, rb)) = 0
    ·skip
     rw [decide_eq_true Cu] at AR
     refine s5 AR (a_0 rfl AR.e) fun XJ Hr => ?_; clear AR PD
     refine s5 Hr (i_6 rfl Hr.e (evc _ _)) fun XK CG => ?_; clear Hr XJ
     have O2 : (i_2 b (kk : Int) (rc, rd)) = 0 := (p_1 (r := (ra, rb)) (r' := (rc, rd)) hc hb_kk AF o hr2_ AW AG (by assumption)).1
     rw [decide_eq_true O2] at CG
     refine s5 CG (a_0 rfl CG.e) fun XL Hs => ?_; clear CG XK
     refine s5 Hs (a_3 rfl i_4 Hs.e) fun XM Ht => ?_; clear Hs XL
     refine s5 Ht (a_4 rfl ty_3 Ht.e (E.bk 2 rfl) rfl) fun XN Hu => ?_; clear Ht XM
     refine s5 Hu (a_3 rfl i_4 Hu.e) fun XO Hv => ?_; clear Hu XN
     refine s5 Hv (a_4 rfl ty_3 Hv.e (E.bk 5 rfl) rfl) fun XP CH => ?_; clear Hv XO
     refine s5 CH (f_8 rfl CH.e CH.e) fun XQ BX => ?_; clear CH XP
     have Un : ¬ (((e_9 b (kk : Int) (rc, rd)).1) < ((e_9 b (kk : Int) (ra, rb)).1)) := (by have hz_ := (p_1 (r := (ra, rb)) (r' := (rc, rd)) hc hb_kk AF o hr2_ AW AG (by assumption)); omega)
     rw [decide_eq_false Un] at BX
     refine s5 BX (b_2 rfl BX.e BX.e) fun XR Hx => ?_; clear BX XQ
     refine s5 Hx (a_0 rfl Hx.e) fun XS Hy => ?_; clear Hx XR
     refine s5 Hy (a_3 rfl i_5 Hy.e) fun XT Hz => ?_; clear Hy XS
     refine s5 Hz (a_4 rfl ty_3 Hz.e (E.bk 2 rfl) rfl) fun XU H0 => ?_; clear Hz XT
     refine s5 H0 (a_3 rfl i_5 H0.e) fun XV H1 => ?_; clear H0 XU
     refine s5 H1 (a_4 rfl ty_3 H1.e (E.bk 5 rfl) rfl) fun XW CI => ?_; clear H1 XV
     refine s5 CI (j_1 rfl CI.e CI.e) fun XX BY => ?_; clear CI XW
     have Uo : ¬ (((e_9 b (kk : Int) (ra, rb)).2) < ((e_9 b (kk : Int) (rc, rd)).2)) := (by have hz_ := (p_1 (r := (ra, rb)) (r' := (rc, rd)) hc hb_kk AF o hr2_ AW AG (by assumption)); omega)
     rw [decide_eq_false Uo] at BY
     refine s5 BY (b_2 rfl BY.e BY.e) fun XY CJ => ?_; clear BY XX
     refine s1 CJ (b_3 rfl CJ.e CJ.e) fun XZ H2 => ?_; clear CJ XY
     refine s1 H2 (a_0 rfl H2.e) fun Xa H3 => ?_; clear H2 XZ
     refine s5 H3 (a_0 rfl H3.e) fun Xb H4 => ?_; clear H3 Xa
     refine s5 H4 (i_6 rfl H4.e (evc _ _)) fun Xc CK => ?_; clear H4 Xb
     rw [decide_eq_true Cu] at CK
     refine s5 CK (a_0 rfl CK.e) fun Xd Nc => ?_; clear CK Xc
     refine s3 Nc fun Xe Nd => ?_; clear Nc Xd
     refine s3 Nd fun Xf H5 => ?_; clear Nd Xe
     refine s5 H5 (b_2 rfl H5.e (evc _ _)) fun Xg CL => ?_; clear H5 Xf
     refine s1 CL (b_2 rfl CL.e CL.e) fun Xh H6 => ?_; clear CL Xg
     refine s1 H6 (a_0 rfl H6.e) fun Xi H7 => ?_; clear H6 Xh
     refine s5 H7 (a_0 rfl H7.e) fun Xj H8 => ?_; clear H7 Xi
     refine s5 H8 (i_6 rfl H8.e (evc _ _)) fun Xk CM => ?_; clear H8 Xj
     rw [decide_eq_true O2] at CM
     refine s5 CM (a_0 rfl CM.e) fun Xl Ne => ?_; clear CM Xk
     refine s3 Ne fun Xm Nf => ?_; clear Ne Xl
     refine s3 Nf fun Xn IA => ?_; clear Nf Xm
     refine s5 IA (b_2 rfl IA.e (evc _ _)) fun Xo CN => ?_; clear IA Xn
     refine s1 CN (b_2 rfl CN.e CN.e) fun Xp IB => ?_; clear CN Xo
     refine n1 (b_9 IB rfl (d_0 (b_0 ?_)))
     have IC := IB.as [(15, (eptr (A 3) (kk * 5))), (13, (bptr C 0)), (6, (bptr G 0)), (1, xl), (2, (Value.int .u8 wa)), (3, (Value.int .u8 wb))] rfl; clear IB
     refine a_5 (s1 IC (a_0 rfl IC.e) fun Xq ID => ?_); clear IC Xp
     refine s1 ID (a_0 rfl ID.e) fun Xr IE => ?_; clear ID Xq
     refine s1 IE (e_3 rfl IE.e (SlAt.b_5 (E.b_6 8 rfl)) (by rw [((SlAt.b_5 (E.b_6 8 rfl))).1]; first | omega | (simp only [List.length_set]; omega))) fun Xs IF => ?_; clear IE Xr
     refine s1 IF (c_0 rfl k_1 IF.e (SlAt.b_5 (E.b_6 8 rfl)) (by rw [((SlAt.b_5 (E.b_6 8 rfl))).1]; first | omega | (simp only [List.length_set]; omega))) fun Xt IG => ?_; clear IF Xs
     refine s1 IG (c_2 rfl ty_3 IG.e (SlAt.b_5 (E.b_6 8 rfl)) (p_2 (by first | omega | (simp only [List.length_set]; omega)))) fun Xu IH => ?_; clear IG Xt
     refine s1 IH (a_0 rfl IH.e) fun Xv II => ?_; clear IH Xu
     refine s1 II (k_6 un_5 un_3 rfl II.e (v := wb) (wrap_i64 (by omega) (by omega))) fun Xw IJ => ?_; clear II Xv
     refine s1 IJ (n_5 rfl IJ.e (evc _ _) (by omega)) fun Xx CO => ?_; clear IJ Xw
     refine s1 CO (g_9 rfl CO.e CO.e (by omega) (by omega)) fun Xy IK => ?_; clear CO Xx
     refine s1 IK (u_7 rfl (evc _ _) IK.e) fun Xz IL => ?_; clear IK Xy
     refine s1 IL (e_3 rfl IL.e (SlAt.b_5 (E.b_6 8 rfl)) (by rw [((SlAt.b_5 (E.b_6 8 rfl))).1]; first | omega | (simp only [List.length_set]; omega))) fun X0 IM => ?_; clear IL Xz
     refine s1 IM (c_0 rfl k_1 IM.e (SlAt.b_5 (E.b_6 8 rfl)) (by rw [((SlAt.b_5 (E.b_6 8 rfl))).1]; first | omega | (simp only [List.length_set]; omega))) fun ACf CP => ?_; clear IM X0
     refine s7 CP (l_8 E rfl ty_3 CP.e CP.e (i := 8) rfl (vs := [(iv (max 0 (((b.tabs.getD kk tab0).err) - ((wb).tmod 8))))]) rfl rfl rfl (by first | (rw [n_4]; omega) | (rw [n_6]; omega) | (rw [h_6]; omega)) (by decide)) ?_
     intro _ ACu Oh UT; have Oi := Oh.g_3 (i := 8) rfl (n' := (b.tabs.set kk { b.tabs.getD kk tab0 with err := max 0 (((b.tabs.getD kk tab0).err) - ((wb).tmod 8)) }).length) (xs' := (g_4 lr lb (b.tabs.set kk { b.tabs.getD kk tab0 with err := max 0 (((b.tabs.getD kk tab0).err) - ((wb).tmod 8)) }))) (by rw [List.length_set]) (m_9 (by omega)); clear Oh CP E
     refine e_8 ((b_0 ?_))
     have Ud := Oi.gkp (gpc 8 (gpc 9 (gpc 10 (gpc 11 (gpc 12 (gpc 13 (gpc 14 gpn))))))); clear Oi
     exact ⟨(b.tabs.set kk { b.tabs.getD kk tab0 with err := max 0 (((b.tabs.getD kk tab0).err) - ((wb).tmod 8)) }), UT.as _ rfl, Ud, (FinT.set (fun j hj => (hb.tab hj).err.1) hb_kk (by omega) (by omega))⟩
    skip
    rw [decide_eq_false Cu] at AR
    refine s3 AR fun X1 Ng => ?_; clear AR PD
    refine s3 Ng fun X2 Nh => ?_; clear Ng X1
    refine s3 Nh fun X3 Ni => ?_; clear Nh X2
    refine s4 Ni fun X4 Nj => ?_; clear Ni X3
    refine s4 Nj fun X5 Nk => ?_; clear Nj X4
    refine s4 Nk fun X6 Nl => ?_; clear Nk X5
    refine s4 Nl fun X7 Nm => ?_; clear Nl X6
    refine s4 Nm fun X8 Nn => ?_; clear Nm X7
    refine s3 Nn fun X9 No => ?_; clear Nn X8
    refine s3 No fun YA Np => ?_; clear No X9
    refine s4 Np fun YB Nq => ?_; clear Np YA
    refine s4 Nq fun YC Nr => ?_; clear Nq YB
    refine s4 Nr fun YD Ns => ?_; clear Nr YC
    refine s4 Ns fun YE Nt => ?_; clear Ns YD
    refine s4 Nt fun YF Nu => ?_; clear Nt YE
    refine s3 Nu fun YG IN => ?_; clear Nu YF
    refine s1 IN (b_2 rfl IN.e (evc _ _)) fun YH IOa => ?_; clear IN YG
    refine s1 IOa (a_0 rfl IOa.e) fun YI IP => ?_; clear IOa YH
    refine s5 IP (a_0 rfl IP.e) fun YJ IQ => ?_; clear IP YI
    refine s5 IQ (i_6 rfl IQ.e (evc _ _)) fun YK CQ => ?_; clear IQ YJ
    rw [decide_eq_false Cu] at CQ
    refine s5 CQ (a_0 rfl CQ.e) fun YL IR => ?_; clear CQ YK
    refine s5 IR (a_0 rfl IR.e) fun YM IS => ?_; clear IR YL
    refine s5 IS (i_6 rfl IS.e (evc _ _)) fun YN BZ => ?_; clear IS YM
    have Up : (i_2 b (kk : Int) (ra, rb)) = 10 := (z_8 (r := (ra, rb)) hc hb_kk (by dsimp only; omega) (by dsimp only; omega) (by dsimp only; omega) (by assumption))
    rw [decide_eq_true Up] at BZ
    refine s5 BZ (b_3 rfl BZ.e BZ.e) fun YO CR => ?_; clear BZ YN
    refine s1 CR (b_2 rfl CR.e CR.e) fun YP IT => ?_; clear CR YO
    refine s1 IT (a_0 rfl IT.e) fun YQ IU => ?_; clear IT YP
    refine s5 IU (a_0 rfl IU.e) fun YR IV => ?_; clear IU YQ
    refine s5 IV (i_6 rfl IV.e (evc _ _)) fun YS IW => ?_; clear IV YR
    refine s5 IW (a_0 rfl IW.e) fun PE AS => ?_; clear IW YS
    by_cases Oz : (i_2 b (kk : Int) (rc, rd)) = 0
    ·skip
     rw [decide_eq_true Oz] at AS
     refine s3 AS fun YU Nv => ?_; clear AS PE
     refine s3 Nv fun YW IX => ?_; clear Nv YU
     refine s5 IX (b_2 rfl IX.e (evc _ _)) fun YX CS => ?_; clear IX YW
     refine s1 CS (b_2 rfl CS.e CS.e) fun YY IY => ?_; clear CS YX
     refine n1 (b_9 IY rfl (d_0 (b_0 ?_)))
     have IZ := IY.as [(15, (eptr (A 3) (kk * 5))), (13, (bptr C 0)), (6, (bptr G 0)), (1, xl), (2, (Value.int .u8 wa)), (3, (Value.int .u8 wb))] rfl; clear IY
     refine a_5 (s1 IZ (a_0 rfl IZ.e) fun YZ Ia => ?_); clear IZ YY
     refine s1 Ia (a_0 rfl Ia.e) fun Ya Ib => ?_; clear Ia YZ
     refine s1 Ib (e_3 rfl Ib.e (SlAt.b_5 (E.b_6 8 rfl)) (by rw [((SlAt.b_5 (E.b_6 8 rfl))).1]; first | omega | (simp only [List.length_set]; omega))) fun Yb Ic => ?_; clear Ib Ya
     refine s1 Ic (c_0 rfl k_1 Ic.e (SlAt.b_5 (E.b_6 8 rfl)) (by rw [((SlAt.b_5 (E.b_6 8 rfl))).1]; first | omega | (simp only [List.length_set]; omega))) fun Yc Id => ?_; clear Ic Yb
     refine s1 Id (c_2 rfl ty_3 Id.e (SlAt.b_5 (E.b_6 8 rfl)) (p_2 (by first | omega | (simp only [List.length_set]; omega)))) fun Ye Ie => ?_; clear Id Yc
     refine s1 Ie (a_0 rfl Ie.e) fun Yf If => ?_; clear Ie Ye
     refine s1 If (k_6 un_5 un_3 rfl If.e (v := wb) (wrap_i64 (by omega) (by omega))) fun Yg Ig => ?_; clear If Yf
     refine s1 Ig (n_5 rfl Ig.e (evc _ _) (by omega)) fun Yh CT => ?_; clear Ig Yg
     refine s1 CT (g_9 rfl CT.e CT.e (by omega) (by omega)) fun Yi Ih => ?_; clear CT Yh
     refine s1 Ih (u_7 rfl (evc _ _) Ih.e) fun Yj Ii => ?_; clear Ih Yi
     refine s1 Ii (e_3 rfl Ii.e (SlAt.b_5 (E.b_6 8 rfl)) (by rw [((SlAt.b_5 (E.b_6 8 rfl))).1]; first | omega | (simp only [List.length_set]; omega))) fun Yk Ij => ?_; clear Ii Yj
     refine s1 Ij (c_0 rfl k_1 Ij.e (SlAt.b_5 (E.b_6 8 rfl)) (by rw [((SlAt.b_5 (E.b_6 8 rfl))).1]; first | omega | (simp only [List.length_set]; omega))) fun ACh CU => ?_; clear Ij Yk
     refine s7 CU (l_8 E rfl ty_3 CU.e CU.e (i := 8) rfl (vs := [(iv (max 0 (((b.tabs.getD kk tab0).err) - ((wb).tmod 8))))]) rfl rfl rfl (by first | (rw [n_4]; omega) | (rw [n_6]; omega) | (rw [h_6]; omega)) (by decide)) ?_
     intro _ ACv Oj UU; have Ok := Oj.g_3 (i := 8) rfl (n' := (b.tabs.set kk { b.tabs.getD kk tab0 with err := max 0 (((b.tabs.getD kk tab0).err) - ((wb).tmod 8)) }).length) (xs' := (g_4 lr lb (b.tabs.set kk { b.tabs.getD kk tab0 with err := max 0 (((b.tabs.getD kk tab0).err) - ((wb).tmod 8)) }))) (by rw [List.length_set]) (m_9 (by omega)); clear Oj CU E
     refine e_8 ((b_0 ?_))
     have Ue := Ok.gkp (gpc 8 (gpc 9 (gpc 10 (gpc 11 (gpc 12 (gpc 13 (gpc 14 gpn))))))); clear Ok
     exact ⟨(b.tabs.set kk { b.tabs.getD kk tab0 with err := max 0 (((b.tabs.getD kk tab0).err) - ((wb).tmod 8)) }), UU.as _ rfl, Ue, (FinT.set (fun j hj => (hb.tab hj).err.1) hb_kk (by omega) (by omega))⟩
    skip
    rw [decide_eq_false Oz] at AS
    refine s5 AS (a_0 rfl AS.e) fun Yl Ik => ?_; clear AS PE
    refine s5 Ik (i_6 rfl Ik.e (evc _ _)) fun Ym Ba => ?_; clear Ik Yl
    have Uq : (i_2 b (kk : Int) (rc, rd)) = 10 := (z_8 (r := (rc, rd)) hc hb_kk (by dsimp only; omega) (by dsimp only; omega) (by dsimp only; omega) (by assumption))
    rw [decide_eq_true Uq] at Ba
    refine s5 Ba (b_3 rfl Ba.e Ba.e) fun Yn CV => ?_; clear Ba Ym
    refine s1 CV (b_2 rfl CV.e CV.e) fun Yo Il => ?_; clear CV Yn
    refine n1 (b_9 Il rfl (d_0 (b_0 ?_)))
    have Im := Il.as [(15, (eptr (A 3) (kk * 5))), (13, (bptr C 0)), (6, (bptr G 0)), (1, xl), (2, (Value.int .u8 wa)), (3, (Value.int .u8 wb))] rfl; clear Il
    refine a_5 (s1 Im (a_0 rfl Im.e) fun Yp In => ?_); clear Im Yo
    refine s1 In (a_0 rfl In.e) fun Yq Io => ?_; clear In Yp
    refine s1 Io (e_3 rfl Io.e (SlAt.b_5 (E.b_6 8 rfl)) (by rw [((SlAt.b_5 (E.b_6 8 rfl))).1]; first | omega | (simp only [List.length_set]; omega))) fun Yr Ip => ?_; clear Io Yq
    refine s1 Ip (c_0 rfl k_1 Ip.e (SlAt.b_5 (E.b_6 8 rfl)) (by rw [((SlAt.b_5 (E.b_6 8 rfl))).1]; first | omega | (simp only [List.length_set]; omega))) fun Ys Iq => ?_; clear Ip Yr
    refine s1 Iq (c_2 rfl ty_3 Iq.e (SlAt.b_5 (E.b_6 8 rfl)) (p_2 (by first | omega | (simp only [List.length_set]; omega)))) fun Yt Ir => ?_; clear Iq Ys
    refine s1 Ir (a_0 rfl Ir.e) fun Yu Is => ?_; clear Ir Yt
    refine s1 Is (k_6 un_5 un_3 rfl Is.e (v := wb) (wrap_i64 (by omega) (by omega))) fun Yv It => ?_; clear Is Yu
    refine s1 It (n_5 rfl It.e (evc _ _) (by omega)) fun Yw CW => ?_; clear It Yv
    refine s1 CW (g_9 rfl CW.e CW.e (by omega) (by omega)) fun Yx Iu => ?_; clear CW Yw
    refine s1 Iu (u_7 rfl (evc _ _) Iu.e) fun Yy Iv => ?_; clear Iu Yx
    refine s1 Iv (e_3 rfl Iv.e (SlAt.b_5 (E.b_6 8 rfl)) (by rw [((SlAt.b_5 (E.b_6 8 rfl))).1]; first | omega | (simp only [List.length_set]; omega))) fun Yz Iw => ?_; clear Iv Yy
    refine s1 Iw (c_0 rfl k_1 Iw.e (SlAt.b_5 (E.b_6 8 rfl)) (by rw [((SlAt.b_5 (E.b_6 8 rfl))).1]; first | omega | (simp only [List.length_set]; omega))) fun ACi CX => ?_; clear Iw Yz
    refine s7 CX (l_8 E rfl ty_3 CX.e CX.e (i := 8) rfl (vs := [(iv (max 0 (((b.tabs.getD kk tab0).err) - ((wb).tmod 8))))]) rfl rfl rfl (by first | (rw [n_4]; omega) | (rw [n_6]; omega) | (rw [h_6]; omega)) (by decide)) ?_
    intro _ ACw Ol UV; have Om := Ol.g_3 (i := 8) rfl (n' := (b.tabs.set kk { b.tabs.getD kk tab0 with err := max 0 (((b.tabs.getD kk tab0).err) - ((wb).tmod 8)) }).length) (xs' := (g_4 lr lb (b.tabs.set kk { b.tabs.getD kk tab0 with err := max 0 (((b.tabs.getD kk tab0).err) - ((wb).tmod 8)) }))) (by rw [List.length_set]) (m_9 (by omega)); clear Ol CX E
    refine e_8 ((b_0 ?_))
    have Uf := Om.gkp (gpc 8 (gpc 9 (gpc 10 (gpc 11 (gpc 12 (gpc 13 (gpc 14 gpn))))))); clear Om
    exact ⟨(b.tabs.set kk { b.tabs.getD kk tab0 with err := max 0 (((b.tabs.getD kk tab0).err) - ((wb).tmod 8)) }), UV.as _ rfl, Uf, (FinT.set (fun j hj => (hb.tab hj).err.1) hb_kk (by omega) (by omega))⟩
   skip
   intro PF AAw R rsf718 Nw V hrq KI; clear GZ KA
   obtain ⟨AC, AE⟩ := V 1 (by decide) (by decide)
   obtain ⟨vt1_, vm1_, lr1_, lb1_, lk1_, AD, Y⟩ := AE
   obtain ⟨H, k⟩ := V 11 (by decide) (by decide)
   obtain ⟨b11_, M, L⟩ := k
   have On : Sep NoB w AAw [(d_4 true vt1_ lr1_ lb1_ b.tabs), (d_5 true vm1_ lk1_ b.macs), (blk b11_ 30 [(iv 0), (iv 0)]), (blk I 30 [(iv rc), (iv rd)]), (blk K 30 [(iv ra), (iv rb)]), (row (A 3) 46 5 b.tabs.length (g_4 lr lb b.tabs)), (row (A 7) 61 2 b.macs.length (h_8 lk b.macs)), (blk C 25 [(iv b.scales), (A 3), (A 7)]), (blk G 25 [(iv b.scales), vt, vm]), (d_4 false vt lr lb b.tabs), (d_5 false vm lk b.macs), (sl xl 2 l.length (pairs l))] := by rw [show catR rsf718 0 12 = ([(d_4 true vt1_ lr1_ lb1_ b.tabs), (d_5 true vm1_ lk1_ b.macs), (blk b11_ 30 [(iv 0), (iv 0)])] : List Res) by (try simp only [catR, gr (V 0 (by decide) (by decide)), Y, gr (V 2 (by decide) (by decide)), gr (V 3 (by decide) (by decide)), gr (V 4 (by decide) (by decide)), gr (V 5 (by decide) (by decide)), gr (V 6 (by decide) (by decide)), gr (V 7 (by decide) (by decide)), gr (V 8 (by decide) (by decide)), gr (V 9 (by decide) (by decide)), L, hrq]); (try rfl)] at KI; exact KI
   have Nx := Nw.add (gs (V 8 (by decide) (by decide))); clear Nw
   have Ny := Nx.add (gs (V 9 (by decide) (by decide))); clear Nx
   rw [M] at H
   have CY : Fr 245 [] [(18, (bptr b11_ 0)), (99, (Value.agg #[(iv ((e_9 b (kk : Int) (ra, rb)).1)), (iv ((e_9 b (kk : Int) (ra, rb)).2))])), (90, (Value.tuple #[(Value.agg #[(iv ((e_9 b (kk : Int) (ra, rb)).1)), (iv ((e_9 b (kk : Int) (ra, rb)).2))]), (iv (i_2 b (kk : Int) (ra, rb)))])), (17, (bptr I 0)), (16, (bptr K 0)), (15, (eptr (A 3) (kk * 5))), (14, (iv (b.tabs.length : Int))), (13, (bptr C 0)), (6, (bptr G 0)), (1, xl), (2, (Value.int .u8 wa)), (3, (Value.int .u8 wb))] PF := Ny.add (h_5 H rfl); clear Ny
   clear V KI AC H hrq
   clear Y
   clear AD
   clear L
   clear M
   refine s7 CY (c_3 On rfl f_4 CY.e CY.e (i := 2) rfl (vs := [(iv ((e_9 b (kk : Int) (ra, rb)).1)), (iv ((e_9 b (kk : Int) (ra, rb)).2))]) rfl rfl rfl (Nat.le_of_ble_eq_true rfl)) ?_
   intro _ AAx Oo Ix; clear CY
   have KJ : Sep NoB w AAx [(d_4 true vt1_ lr1_ lb1_ b.tabs), (d_5 true vm1_ lk1_ b.macs), (blk b11_ 30 [(iv ((e_9 b (kk : Int) (ra, rb)).1)), (iv ((e_9 b (kk : Int) (ra, rb)).2))]), (blk I 30 [(iv rc), (iv rd)]), (blk K 30 [(iv ra), (iv rb)]), (row (A 3) 46 5 b.tabs.length (g_4 lr lb b.tabs)), (row (A 7) 61 2 b.macs.length (h_8 lk b.macs)), (blk C 25 [(iv b.scales), (A 3), (A 7)]), (blk G 25 [(iv b.scales), vt, vm]), (d_4 false vt lr lb b.tabs), (d_5 false vm lk b.macs), (sl xl 2 l.length (pairs l))] := Oo; clear Oo On
   refine s1 Ix (d_1 rfl Ix.e rfl) fun Y0 Iy => ?_; clear Ix PF
   refine s1 Iy (a_1 rfl Iy.e) fun ACj Nz => ?_; clear Iy Y0
   refine n2 ?_
   have Iz := Nz.as [(19, (iv (i_2 b (kk : Int) (ra, rb)))), (18, (bptr b11_ 0)), (17, (bptr I 0)), (15, (eptr (A 3) (kk * 5))), (14, (iv (b.tabs.length : Int))), (13, (bptr C 0)), (6, (bptr G 0)), (1, xl), (2, (Value.int .u8 wa)), (3, (Value.int .u8 wb))] rfl; clear Nz
   refine c_drawF mixed Iz KJ 12 10 rfl rfl [[], [0], [], [2], [], [3, 4], [], [1, 5, 6], [7], [8], [8], []] [(yw (Value.agg #[(iv b.scales), vt, vm])), (fun (T : Nat → Value) (v_ : Value) (rs_ : List Res) => ∃ (vt1_vs732 : Value), ∃ (vm1_vs732 : Value), ∃ (lr1_vs732 : Nat → Value), ∃ (lb1_vs732 : Nat → Value), ∃ (lk1_vs732 : Nat → Value), v_ = (Value.agg #[(iv b.scales), vt1_vs732, vm1_vs732]) ∧ rs_ = [(d_4 true vt1_vs732 lr1_vs732 lb1_vs732 b.tabs), (d_5 true vm1_vs732 lk1_vs732 b.macs)]), (yw (Value.int .u8 wa)), (yw (iv wa)), (yw (iv (b.tabs.length : Int))), (yw (iv (kk : Int))), (yw (Value.agg #[(iv rc), (iv rd)])), (yw (Value.tuple #[(Value.agg #[(iv ((e_9 b (kk : Int) (rc, rd)).1)), (iv ((e_9 b (kk : Int) (rc, rd)).2))]), (iv (i_2 b (kk : Int) (rc, rd)))])), (yw (Value.tuple #[(Value.agg #[(iv ((e_9 b (kk : Int) (rc, rd)).1)), (iv ((e_9 b (kk : Int) (rc, rd)).2))]), (iv (i_2 b (kk : Int) (rc, rd)))])), (yw (Value.agg #[(iv ((e_9 b (kk : Int) (rc, rd)).1)), (iv ((e_9 b (kk : Int) (rc, rd)).2))])), (yw (iv (i_2 b (kk : Int) (rc, rd)))), (fun (T : Nat → Value) (v_ : Value) (rs_ : List Res) => ∃ (b11_vs732 : Nat), v_ = (bptr b11_vs732 0) ∧ rs_ = [(blk b11_vs732 30 [(iv 0), (iv 0)])])] (by decide +kernel) (by decide +kernel) (by decide +kernel) rfl rfl ⟨dw, (fun _ _ _ _ _ h_ => h_), dw, dw, dw, dw, dw, dw, dw, dw, dw, (fun _ _ _ _ _ h_ => h_), trivial⟩ ?_ ?_ ?_
   ·skip
    refine ⟨fun a w T hA hS hd => gv1 (c_5 rfl z_5 (hA.ev rfl) (hS.bk 8 rfl) (l := [(iv b.scales), vt, vm]) rfl rfl), ?_⟩
    refine ⟨fun a w T hA hS hd => d_8 rfl (vn (b_1 rfl en_19 (ev1 (gu hd 0)) (w_0 b vt vm lr lb lk _ (b_8 (hS.ok 9 _ rfl)) (c_1 (hS.ok 10 _ rfl)) hth)) (fun v w' h => by obtain ⟨vt, vm, lr, lb, lk, rfl, hT⟩ := h; exact ⟨_, ⟨vt, vm, lr, lb, lk, rfl, rfl⟩, hT, rfl⟩)), ?_⟩
    refine ⟨fun a w T hA hS hd => gv1 (a_0 rfl hA.e), ?_⟩
    refine ⟨fun a w T hA hS hd => gv1 (k_6 un_5 un_3 rfl (gu hd 2) (v := wa) (wrap_i64 (by omega) (by omega))), ?_⟩
    refine ⟨fun a w T hA hS hd => gv1 (a_0 rfl hA.e), ?_⟩
    refine ⟨fun a w T hA hS hd => gv1 (opY_int (n_5 rfl (gu hd 3) (gu hd 4) (by omega)) hz_kk), ?_⟩
    refine ⟨fun a w T hA hS hd => gv1 (c_5 rfl f_4 (hA.ev rfl) (hS.bk 3 rfl) (l := [(iv rc), (iv rd)]) rfl rfl), ?_⟩
    refine ⟨fun a w T hA hS hd => ?_, ?_⟩
    ·skip
     obtain ⟨e1, U6, MZ, Bl⟩ := hd 1 (by decide)
     obtain ⟨vt1_vs732, vm1_vs732, lr1_vs732, lb1_vs732, lk1_vs732, MY, o⟩ := MZ; subst o
     rw [MY] at e1
     have hp1_0 := Bl _ (List.mem_of_getElem? (i := 0) rfl)
     have hp1_1 := Bl _ (List.mem_of_getElem? (i := 1) rfl)
     exact gx1 (b_1 rfl en_18 (ev3 (c_6 (h_5 e1 rfl)) (gu hd 5) (gu hd 6)) (Convert_ok b vt1_vs732 vm1_vs732 lr1_vs732 lb1_vs732 lk1_vs732 _ (b_8 hp1_0) (c_1 hp1_1) hth (kk : Int) rc rd))
    refine ⟨fun a w T hA hS hd => gv1 (a_0 rfl (gu hd 7)), ?_⟩
    refine ⟨fun a w T hA hS hd => gv1 (d_1 rfl (gu hd 8) rfl), ?_⟩
    refine ⟨fun a w T hA hS hd => gv1 (d_1 rfl (gu hd 8) rfl), ?_⟩
    refine ⟨fun a w T hA hS hd => d_8 rfl (valloc rfl w_6 (cs := [(iv 0), (iv 0)]) rfl (fun b_ => ⟨b_, rfl, rfl⟩)), ?_⟩
    trivial
   ·skip
    intro PG AAy T rsf738 N0 P KK; clear Iz KJ
    obtain ⟨AC, AE⟩ := P 1 (by decide)
    obtain ⟨vt1_vs732, vm1_vs732, lr1_vs732, lb1_vs732, lk1_vs732, AD, Y⟩ := AE
    obtain ⟨H, k⟩ := P 11 (by decide)
    obtain ⟨b11_vs732, M, L⟩ := k
    have Op : Sep NoB w AAy [(d_4 true vt1_vs732 lr1_vs732 lb1_vs732 b.tabs), (d_5 true vm1_vs732 lk1_vs732 b.macs), (blk b11_vs732 30 [(iv 0), (iv 0)]), (d_4 true vt1_ lr1_ lb1_ b.tabs), (d_5 true vm1_ lk1_ b.macs), (blk b11_ 30 [(iv ((e_9 b (kk : Int) (ra, rb)).1)), (iv ((e_9 b (kk : Int) (ra, rb)).2))]), (blk I 30 [(iv rc), (iv rd)]), (blk K 30 [(iv ra), (iv rb)]), (row (A 3) 46 5 b.tabs.length (g_4 lr lb b.tabs)), (row (A 7) 61 2 b.macs.length (h_8 lk b.macs)), (blk C 25 [(iv b.scales), (A 3), (A 7)]), (blk G 25 [(iv b.scales), vt, vm]), (d_4 false vt lr lb b.tabs), (d_5 false vm lk b.macs), (sl xl 2 l.length (pairs l))] := by rw [show catR rsf738 0 12 = ([(d_4 true vt1_vs732 lr1_vs732 lb1_vs732 b.tabs), (d_5 true vm1_vs732 lk1_vs732 b.macs), (blk b11_vs732 30 [(iv 0), (iv 0)])] : List Res) by (try simp only [catR, gr (P 0 (by decide)), Y, gr (P 2 (by decide)), gr (P 3 (by decide)), gr (P 4 (by decide)), gr (P 5 (by decide)), gr (P 6 (by decide)), gr (P 7 (by decide)), gr (P 8 (by decide)), gr (P 9 (by decide)), gr (P 10 (by decide)), L]); (try rfl)] at KK; exact KK
    have N1 := N0.add (gs (P 9 (by decide))); clear N0
    have N2 := N1.add (gs (P 10 (by decide))); clear N1
    rw [M] at H
    have CZ : Fr 245 [] [(20, (bptr b11_vs732 0)), (111, (iv (i_2 b (kk : Int) (rc, rd)))), (110, (Value.agg #[(iv ((e_9 b (kk : Int) (rc, rd)).1)), (iv ((e_9 b (kk : Int) (rc, rd)).2))])), (19, (iv (i_2 b (kk : Int) (ra, rb)))), (18, (bptr b11_ 0)), (17, (bptr I 0)), (15, (eptr (A 3) (kk * 5))), (14, (iv (b.tabs.length : Int))), (13, (bptr C 0)), (6, (bptr G 0)), (1, xl), (2, (Value.int .u8 wa)), (3, (Value.int .u8 wb))] PG := N2.add (h_5 H rfl); clear N2
    clear P KK AC H
    clear Y
    clear AD
    clear L
    clear M
    refine s7 CZ (c_3 Op rfl f_4 CZ.e CZ.e (i := 2) rfl (vs := [(iv ((e_9 b (kk : Int) (rc, rd)).1)), (iv ((e_9 b (kk : Int) (rc, rd)).2))]) rfl rfl rfl (Nat.le_of_ble_eq_true rfl)) ?_
    intro _ AAz Oq I0; clear CZ
    have F : Sep NoB w AAz [(d_4 true vt1_vs732 lr1_vs732 lb1_vs732 b.tabs), (d_5 true vm1_vs732 lk1_vs732 b.macs), (blk b11_vs732 30 [(iv ((e_9 b (kk : Int) (rc, rd)).1)), (iv ((e_9 b (kk : Int) (rc, rd)).2))]), (d_4 true vt1_ lr1_ lb1_ b.tabs), (d_5 true vm1_ lk1_ b.macs), (blk b11_ 30 [(iv ((e_9 b (kk : Int) (ra, rb)).1)), (iv ((e_9 b (kk : Int) (ra, rb)).2))]), (blk I 30 [(iv rc), (iv rd)]), (blk K 30 [(iv ra), (iv rb)]), (row (A 3) 46 5 b.tabs.length (g_4 lr lb b.tabs)), (row (A 7) 61 2 b.macs.length (h_8 lk b.macs)), (blk C 25 [(iv b.scales), (A 3), (A 7)]), (blk G 25 [(iv b.scales), vt, vm]), (d_4 false vt lr lb b.tabs), (d_5 false vm lk b.macs), (sl xl 2 l.length (pairs l))] := Oq; clear Oq Op
    refine s1 I0 (a_1 rfl I0.e) fun Y1 I1 => ?_; clear I0 PG
    refine n2 (m2 (s1 I1 (a_0 rfl I1.e) fun Y2 I2 => ?_)); clear I1 Y1
    refine s1 I2 (o_4 rfl I2.e (evc _ _)) fun Y3 I3 => ?_; clear I2 Y2
    refine s1 I3 (a_0 rfl I3.e) fun PH AT => ?_; clear I3 Y3
    by_cases Cv : (i_2 b (kk : Int) (ra, rb)) = 0
    ·skip
     rw [decide_eq_true Cv] at AT
     refine s5 AT (a_0 rfl AT.e) fun Y4 I4 => ?_; clear AT PH
     refine s5 I4 (i_6 rfl I4.e (evc _ _)) fun Y5 Ca => ?_; clear I4 Y4
     have O3 : (i_2 b (kk : Int) (rc, rd)) = 0 := (p_1 (r := (ra, rb)) (r' := (rc, rd)) hc hb_kk AF o hr2_ AW AG (by assumption)).1
     rw [decide_eq_true O3] at Ca
     refine s5 Ca (a_0 rfl Ca.e) fun Y6 I6 => ?_; clear Ca Y5
     refine s5 I6 (a_3 rfl i_4 I6.e) fun Y7 I7 => ?_; clear I6 Y6
     refine s5 I7 (a_4 rfl ty_3 I7.e (F.bk 2 rfl) rfl) fun Y8 I8 => ?_; clear I7 Y7
     refine s5 I8 (a_3 rfl i_4 I8.e) fun Y9 I9 => ?_; clear I8 Y8
     refine s5 I9 (a_4 rfl ty_3 I9.e (F.bk 5 rfl) rfl) fun ZA Cb => ?_; clear I9 Y9
     refine s5 Cb (f_8 rfl Cb.e Cb.e) fun ZB Bb => ?_; clear Cb ZA
     have Ur : ¬ (((e_9 b (kk : Int) (rc, rd)).1) < ((e_9 b (kk : Int) (ra, rb)).1)) := (by have hz_ := (p_1 (r := (ra, rb)) (r' := (rc, rd)) hc hb_kk AF o hr2_ AW AG (by assumption)); omega)
     rw [decide_eq_false Ur] at Bb
     refine s5 Bb (b_2 rfl Bb.e Bb.e) fun ZC JA => ?_; clear Bb ZB
     refine s5 JA (a_0 rfl JA.e) fun ZD JB => ?_; clear JA ZC
     refine s5 JB (a_3 rfl i_5 JB.e) fun ZE JC => ?_; clear JB ZD
     refine s5 JC (a_4 rfl ty_3 JC.e (F.bk 2 rfl) rfl) fun ZF JD => ?_; clear JC ZE
     refine s5 JD (a_3 rfl i_5 JD.e) fun ZG JE => ?_; clear JD ZF
     refine s5 JE (a_4 rfl ty_3 JE.e (F.bk 5 rfl) rfl) fun ZH Cc => ?_; clear JE ZG
     refine s5 Cc (j_1 rfl Cc.e Cc.e) fun ZI Bc => ?_; clear Cc ZH
     have Us : ¬ (((e_9 b (kk : Int) (ra, rb)).2) < ((e_9 b (kk : Int) (rc, rd)).2)) := (by have hz_ := (p_1 (r := (ra, rb)) (r' := (rc, rd)) hc hb_kk AF o hr2_ AW AG (by assumption)); omega)
     rw [decide_eq_false Us] at Bc
     refine s5 Bc (b_2 rfl Bc.e Bc.e) fun ZJ Cd => ?_; clear Bc ZI
     refine s1 Cd (b_3 rfl Cd.e Cd.e) fun ZK JF => ?_; clear Cd ZJ
     refine s1 JF (a_0 rfl JF.e) fun ZL JG => ?_; clear JF ZK
     refine s5 JG (a_0 rfl JG.e) fun ZM JH => ?_; clear JG ZL
     refine s5 JH (i_6 rfl JH.e (evc _ _)) fun ZN Ce => ?_; clear JH ZM
     rw [decide_eq_true Cv] at Ce
     refine s5 Ce (a_0 rfl Ce.e) fun ZO N3 => ?_; clear Ce ZN
     refine s3 N3 fun ZP N4 => ?_; clear N3 ZO
     refine s3 N4 fun ZQ JI => ?_; clear N4 ZP
     refine s5 JI (b_2 rfl JI.e (evc _ _)) fun ZR Cf => ?_; clear JI ZQ
     refine s1 Cf (b_2 rfl Cf.e Cf.e) fun ZS JJ => ?_; clear Cf ZR
     refine s1 JJ (a_0 rfl JJ.e) fun ZT JK => ?_; clear JJ ZS
     refine s5 JK (a_0 rfl JK.e) fun ZU JL => ?_; clear JK ZT
     refine s5 JL (i_6 rfl JL.e (evc _ _)) fun ZV Cg => ?_; clear JL ZU
     rw [decide_eq_true O3] at Cg
     refine s5 Cg (a_0 rfl Cg.e) fun ZW N5 => ?_; clear Cg ZV
     refine s3 N5 fun ZX N6 => ?_; clear N5 ZW
     refine s3 N6 fun ZY JM => ?_; clear N6 ZX
     refine s5 JM (b_2 rfl JM.e (evc _ _)) fun ZZ Ch => ?_; clear JM ZY
     refine s1 Ch (b_2 rfl Ch.e Ch.e) fun Za JN => ?_; clear Ch ZZ
     refine n1 (b_9 JN rfl (d_0 (b_0 ?_)))
     have JO := JN.as [(15, (eptr (A 3) (kk * 5))), (13, (bptr C 0)), (6, (bptr G 0)), (1, xl), (2, (Value.int .u8 wa)), (3, (Value.int .u8 wb))] rfl; clear JN
     refine a_5 (s1 JO (a_0 rfl JO.e) fun Zb JP => ?_); clear JO Za
     refine s1 JP (a_0 rfl JP.e) fun Zc JQ => ?_; clear JP Zb
     refine s1 JQ (e_3 rfl JQ.e (SlAt.b_5 (F.b_6 8 rfl)) (by rw [((SlAt.b_5 (F.b_6 8 rfl))).1]; first | omega | (simp only [List.length_set]; omega))) fun Zd JR => ?_; clear JQ Zc
     refine s1 JR (c_0 rfl k_1 JR.e (SlAt.b_5 (F.b_6 8 rfl)) (by rw [((SlAt.b_5 (F.b_6 8 rfl))).1]; first | omega | (simp only [List.length_set]; omega))) fun Ze JS => ?_; clear JR Zd
     refine s1 JS (c_2 rfl ty_3 JS.e (SlAt.b_5 (F.b_6 8 rfl)) (p_2 (by first | omega | (simp only [List.length_set]; omega)))) fun Zf JT => ?_; clear JS Ze
     refine s1 JT (a_0 rfl JT.e) fun Zg JU => ?_; clear JT Zf
     refine s1 JU (k_6 un_5 un_3 rfl JU.e (v := wb) (wrap_i64 (by omega) (by omega))) fun Zh JV => ?_; clear JU Zg
     refine s1 JV (n_5 rfl JV.e (evc _ _) (by omega)) fun Zi Ci => ?_; clear JV Zh
     refine s1 Ci (g_9 rfl Ci.e Ci.e (by omega) (by omega)) fun Zj JW => ?_; clear Ci Zi
     refine s1 JW (u_7 rfl (evc _ _) JW.e) fun Zk JX => ?_; clear JW Zj
     refine s1 JX (e_3 rfl JX.e (SlAt.b_5 (F.b_6 8 rfl)) (by rw [((SlAt.b_5 (F.b_6 8 rfl))).1]; first | omega | (simp only [List.length_set]; omega))) fun Zl JY => ?_; clear JX Zk
     refine s1 JY (c_0 rfl k_1 JY.e (SlAt.b_5 (F.b_6 8 rfl)) (by rw [((SlAt.b_5 (F.b_6 8 rfl))).1]; first | omega | (simp only [List.length_set]; omega))) fun ACl Cj => ?_; clear JY Zl
     refine s7 Cj (l_8 F rfl ty_3 Cj.e Cj.e (i := 8) rfl (vs := [(iv (max 0 (((b.tabs.getD kk tab0).err) - ((wb).tmod 8))))]) rfl rfl rfl (by first | (rw [n_4]; omega) | (rw [n_6]; omega) | (rw [h_6]; omega)) (by decide)) ?_
     intro _ ACx Or UW; have Os := Or.g_3 (i := 8) rfl (n' := (b.tabs.set kk { b.tabs.getD kk tab0 with err := max 0 (((b.tabs.getD kk tab0).err) - ((wb).tmod 8)) }).length) (xs' := (g_4 lr lb (b.tabs.set kk { b.tabs.getD kk tab0 with err := max 0 (((b.tabs.getD kk tab0).err) - ((wb).tmod 8)) }))) (by rw [List.length_set]) (m_9 (by omega)); clear Or Cj F
     refine e_8 ((b_0 ?_))
     have Ug := Os.gkp (gpc 8 (gpc 9 (gpc 10 (gpc 11 (gpc 12 (gpc 13 (gpc 14 gpn))))))); clear Os
     exact ⟨(b.tabs.set kk { b.tabs.getD kk tab0 with err := max 0 (((b.tabs.getD kk tab0).err) - ((wb).tmod 8)) }), UW.as _ rfl, Ug, (FinT.set (fun j hj => (hb.tab hj).err.1) hb_kk (by omega) (by omega))⟩
    skip
    rw [decide_eq_false Cv] at AT
    refine s3 AT fun Zm N7 => ?_; clear AT PH
    refine s3 N7 fun Zn N8 => ?_; clear N7 Zm
    refine s3 N8 fun Zo N9 => ?_; clear N8 Zn
    refine s4 N9 fun Zp OA => ?_; clear N9 Zo
    refine s4 OA fun Zq OB => ?_; clear OA Zp
    refine s4 OB fun Zr OC => ?_; clear OB Zq
    refine s4 OC fun Zs OD => ?_; clear OC Zr
    refine s4 OD fun Zt OE => ?_; clear OD Zs
    refine s3 OE fun Zu OF => ?_; clear OE Zt
    refine s3 OF fun Zv OG => ?_; clear OF Zu
    refine s4 OG fun Zw OH => ?_; clear OG Zv
    refine s4 OH fun Zx OI => ?_; clear OH Zw
    refine s4 OI fun Zy OJ => ?_; clear OI Zx
    refine s4 OJ fun Zz OK => ?_; clear OJ Zy
    refine s4 OK fun Z0 OL => ?_; clear OK Zz
    refine s3 OL fun Z1 JZ => ?_; clear OL Z0
    refine s1 JZ (b_2 rfl JZ.e (evc _ _)) fun Z2 Ja => ?_; clear JZ Z1
    refine s1 Ja (a_0 rfl Ja.e) fun Z3 Jb => ?_; clear Ja Z2
    refine s5 Jb (a_0 rfl Jb.e) fun Z4 Jc => ?_; clear Jb Z3
    refine s5 Jc (i_6 rfl Jc.e (evc _ _)) fun Z5 Ck => ?_; clear Jc Z4
    rw [decide_eq_false Cv] at Ck
    refine s5 Ck (a_0 rfl Ck.e) fun Z6 Jd => ?_; clear Ck Z5
    refine s5 Jd (a_0 rfl Jd.e) fun Z7 Je => ?_; clear Jd Z6
    refine s5 Je (i_6 rfl Je.e (evc _ _)) fun Z8 Bd => ?_; clear Je Z7
    have Ut : (i_2 b (kk : Int) (ra, rb)) = 10 := (z_8 (r := (ra, rb)) hc hb_kk (by dsimp only; omega) (by dsimp only; omega) (by dsimp only; omega) (by assumption))
    rw [decide_eq_true Ut] at Bd
    refine s5 Bd (b_3 rfl Bd.e Bd.e) fun Z9 Cl => ?_; clear Bd Z8
    refine s1 Cl (b_2 rfl Cl.e Cl.e) fun AAA Jf => ?_; clear Cl Z9
    refine s1 Jf (a_0 rfl Jf.e) fun AAB Jg => ?_; clear Jf AAA
    refine s5 Jg (a_0 rfl Jg.e) fun AAC Jh => ?_; clear Jg AAB
    refine s5 Jh (i_6 rfl Jh.e (evc _ _)) fun AAD Ji => ?_; clear Jh AAC
    refine s5 Ji (a_0 rfl Ji.e) fun PI AU => ?_; clear Ji AAD
    by_cases O0 : (i_2 b (kk : Int) (rc, rd)) = 0
    ·skip
     rw [decide_eq_true O0] at AU
     refine s3 AU fun AAE OM => ?_; clear AU PI
     refine s3 OM fun AAF Jj => ?_; clear OM AAE
     refine s5 Jj (b_2 rfl Jj.e (evc _ _)) fun AAG Cm => ?_; clear Jj AAF
     refine s1 Cm (b_2 rfl Cm.e Cm.e) fun AAH Jk => ?_; clear Cm AAG
     refine n1 (b_9 Jk rfl (d_0 (b_0 ?_)))
     have Jl := Jk.as [(15, (eptr (A 3) (kk * 5))), (13, (bptr C 0)), (6, (bptr G 0)), (1, xl), (2, (Value.int .u8 wa)), (3, (Value.int .u8 wb))] rfl; clear Jk
     refine a_5 (s1 Jl (a_0 rfl Jl.e) fun AAI Jm => ?_); clear Jl AAH
     refine s1 Jm (a_0 rfl Jm.e) fun AAJ Jn => ?_; clear Jm AAI
     refine s1 Jn (e_3 rfl Jn.e (SlAt.b_5 (F.b_6 8 rfl)) (by rw [((SlAt.b_5 (F.b_6 8 rfl))).1]; first | omega | (simp only [List.length_set]; omega))) fun AAK Jo => ?_; clear Jn AAJ
     refine s1 Jo (c_0 rfl k_1 Jo.e (SlAt.b_5 (F.b_6 8 rfl)) (by rw [((SlAt.b_5 (F.b_6 8 rfl))).1]; first | omega | (simp only [List.length_set]; omega))) fun AAL Jp => ?_; clear Jo AAK
     refine s1 Jp (c_2 rfl ty_3 Jp.e (SlAt.b_5 (F.b_6 8 rfl)) (p_2 (by first | omega | (simp only [List.length_set]; omega)))) fun AAM Jq => ?_; clear Jp AAL
     refine s1 Jq (a_0 rfl Jq.e) fun AAN Jr => ?_; clear Jq AAM
     refine s1 Jr (k_6 un_5 un_3 rfl Jr.e (v := wb) (wrap_i64 (by omega) (by omega))) fun AAO Js => ?_; clear Jr AAN
     refine s1 Js (n_5 rfl Js.e (evc _ _) (by omega)) fun AAP Cn => ?_; clear Js AAO
     refine s1 Cn (g_9 rfl Cn.e Cn.e (by omega) (by omega)) fun AAQ Jt => ?_; clear Cn AAP
     refine s1 Jt (u_7 rfl (evc _ _) Jt.e) fun AAR Ju => ?_; clear Jt AAQ
     refine s1 Ju (e_3 rfl Ju.e (SlAt.b_5 (F.b_6 8 rfl)) (by rw [((SlAt.b_5 (F.b_6 8 rfl))).1]; first | omega | (simp only [List.length_set]; omega))) fun AAS Jv => ?_; clear Ju AAR
     refine s1 Jv (c_0 rfl k_1 Jv.e (SlAt.b_5 (F.b_6 8 rfl)) (by rw [((SlAt.b_5 (F.b_6 8 rfl))).1]; first | omega | (simp only [List.length_set]; omega))) fun ACm Co => ?_; clear Jv AAS
     refine s7 Co (l_8 F rfl ty_3 Co.e Co.e (i := 8) rfl (vs := [(iv (max 0 (((b.tabs.getD kk tab0).err) - ((wb).tmod 8))))]) rfl rfl rfl (by first | (rw [n_4]; omega) | (rw [n_6]; omega) | (rw [h_6]; omega)) (by decide)) ?_
     intro _ ACy Ot UX; have Ou := Ot.g_3 (i := 8) rfl (n' := (b.tabs.set kk { b.tabs.getD kk tab0 with err := max 0 (((b.tabs.getD kk tab0).err) - ((wb).tmod 8)) }).length) (xs' := (g_4 lr lb (b.tabs.set kk { b.tabs.getD kk tab0 with err := max 0 (((b.tabs.getD kk tab0).err) - ((wb).tmod 8)) }))) (by rw [List.length_set]) (m_9 (by omega)); clear Ot Co F
     refine e_8 ((b_0 ?_))
     have Uh := Ou.gkp (gpc 8 (gpc 9 (gpc 10 (gpc 11 (gpc 12 (gpc 13 (gpc 14 gpn))))))); clear Ou
     exact ⟨(b.tabs.set kk { b.tabs.getD kk tab0 with err := max 0 (((b.tabs.getD kk tab0).err) - ((wb).tmod 8)) }), UX.as _ rfl, Uh, (FinT.set (fun j hj => (hb.tab hj).err.1) hb_kk (by omega) (by omega))⟩
    skip
    rw [decide_eq_false O0] at AU
    refine s5 AU (a_0 rfl AU.e) fun AAT Jw => ?_; clear AU PI
    refine s5 Jw (i_6 rfl Jw.e (evc _ _)) fun AAU Be => ?_; clear Jw AAT
    have Uu : (i_2 b (kk : Int) (rc, rd)) = 10 := (z_8 (r := (rc, rd)) hc hb_kk (by dsimp only; omega) (by dsimp only; omega) (by dsimp only; omega) (by assumption))
    rw [decide_eq_true Uu] at Be
    refine s5 Be (b_3 rfl Be.e Be.e) fun AAV Cp => ?_; clear Be AAU
    refine s1 Cp (b_2 rfl Cp.e Cp.e) fun AAW Jx => ?_; clear Cp AAV
    refine n1 (b_9 Jx rfl (d_0 (b_0 ?_)))
    have Jy := Jx.as [(15, (eptr (A 3) (kk * 5))), (13, (bptr C 0)), (6, (bptr G 0)), (1, xl), (2, (Value.int .u8 wa)), (3, (Value.int .u8 wb))] rfl; clear Jx
    refine a_5 (s1 Jy (a_0 rfl Jy.e) fun AAX Jz => ?_); clear Jy AAW
    refine s1 Jz (a_0 rfl Jz.e) fun AAY J0 => ?_; clear Jz AAX
    refine s1 J0 (e_3 rfl J0.e (SlAt.b_5 (F.b_6 8 rfl)) (by rw [((SlAt.b_5 (F.b_6 8 rfl))).1]; first | omega | (simp only [List.length_set]; omega))) fun AAZ J1 => ?_; clear J0 AAY
    refine s1 J1 (c_0 rfl k_1 J1.e (SlAt.b_5 (F.b_6 8 rfl)) (by rw [((SlAt.b_5 (F.b_6 8 rfl))).1]; first | omega | (simp only [List.length_set]; omega))) fun AAa J2 => ?_; clear J1 AAZ
    refine s1 J2 (c_2 rfl ty_3 J2.e (SlAt.b_5 (F.b_6 8 rfl)) (p_2 (by first | omega | (simp only [List.length_set]; omega)))) fun AAb J3 => ?_; clear J2 AAa
    refine s1 J3 (a_0 rfl J3.e) fun AAc J4 => ?_; clear J3 AAb
    refine s1 J4 (k_6 un_5 un_3 rfl J4.e (v := wb) (wrap_i64 (by omega) (by omega))) fun AAd J5 => ?_; clear J4 AAc
    refine s1 J5 (n_5 rfl J5.e (evc _ _) (by omega)) fun AAe Cq => ?_; clear J5 AAd
    refine s1 Cq (g_9 rfl Cq.e Cq.e (by omega) (by omega)) fun AAf J7 => ?_; clear Cq AAe
    refine s1 J7 (u_7 rfl (evc _ _) J7.e) fun AAg J8 => ?_; clear J7 AAf
    refine s1 J8 (e_3 rfl J8.e (SlAt.b_5 (F.b_6 8 rfl)) (by rw [((SlAt.b_5 (F.b_6 8 rfl))).1]; first | omega | (simp only [List.length_set]; omega))) fun AAh J9 => ?_; clear J8 AAg
    refine s1 J9 (c_0 rfl k_1 J9.e (SlAt.b_5 (F.b_6 8 rfl)) (by rw [((SlAt.b_5 (F.b_6 8 rfl))).1]; first | omega | (simp only [List.length_set]; omega))) fun ACn Cr => ?_; clear J9 AAh
    refine s7 Cr (l_8 F rfl ty_3 Cr.e Cr.e (i := 8) rfl (vs := [(iv (max 0 (((b.tabs.getD kk tab0).err) - ((wb).tmod 8))))]) rfl rfl rfl (by first | (rw [n_4]; omega) | (rw [n_6]; omega) | (rw [h_6]; omega)) (by decide)) ?_
    intro _ ACz Ov UY; have Ow := Ov.g_3 (i := 8) rfl (n' := (b.tabs.set kk { b.tabs.getD kk tab0 with err := max 0 (((b.tabs.getD kk tab0).err) - ((wb).tmod 8)) }).length) (xs' := (g_4 lr lb (b.tabs.set kk { b.tabs.getD kk tab0 with err := max 0 (((b.tabs.getD kk tab0).err) - ((wb).tmod 8)) }))) (by rw [List.length_set]) (m_9 (by omega)); clear Ov Cr F
    refine e_8 ((b_0 ?_))
    have Ui := Ow.gkp (gpc 8 (gpc 9 (gpc 10 (gpc 11 (gpc 12 (gpc 13 (gpc 14 gpn))))))); clear Ow
    exact ⟨(b.tabs.set kk { b.tabs.getD kk tab0 with err := max 0 (((b.tabs.getD kk tab0).err) - ((wb).tmod 8)) }), UY.as _ rfl, Ui, (FinT.set (fun j hj => (hb.tab hj).err.1) hb_kk (by omega) (by omega))⟩
   skip
   intro PJ AA0 T rsf997 ON W hrq KL; clear Iz KJ
   obtain ⟨AC, AE⟩ := W 1 (by decide) (by decide)
   obtain ⟨vt1_vs732, vm1_vs732, lr1_vs732, lb1_vs732, lk1_vs732, AD, Y⟩ := AE
   obtain ⟨H, k⟩ := W 11 (by decide) (by decide)
   obtain ⟨b11_vs732, M, L⟩ := k
   have Ox : Sep NoB w AA0 [(d_4 true vt1_vs732 lr1_vs732 lb1_vs732 b.tabs), (d_5 true vm1_vs732 lk1_vs732 b.macs), (blk b11_vs732 30 [(iv 0), (iv 0)]), (d_4 true vt1_ lr1_ lb1_ b.tabs), (d_5 true vm1_ lk1_ b.macs), (blk b11_ 30 [(iv ((e_9 b (kk : Int) (ra, rb)).1)), (iv ((e_9 b (kk : Int) (ra, rb)).2))]), (blk I 30 [(iv rc), (iv rd)]), (blk K 30 [(iv ra), (iv rb)]), (row (A 3) 46 5 b.tabs.length (g_4 lr lb b.tabs)), (row (A 7) 61 2 b.macs.length (h_8 lk b.macs)), (blk C 25 [(iv b.scales), (A 3), (A 7)]), (blk G 25 [(iv b.scales), vt, vm]), (d_4 false vt lr lb b.tabs), (d_5 false vm lk b.macs), (sl xl 2 l.length (pairs l))] := by rw [show catR rsf997 0 12 = ([(d_4 true vt1_vs732 lr1_vs732 lb1_vs732 b.tabs), (d_5 true vm1_vs732 lk1_vs732 b.macs), (blk b11_vs732 30 [(iv 0), (iv 0)])] : List Res) by (try simp only [catR, gr (W 0 (by decide) (by decide)), Y, gr (W 2 (by decide) (by decide)), gr (W 3 (by decide) (by decide)), gr (W 4 (by decide) (by decide)), gr (W 5 (by decide) (by decide)), gr (W 6 (by decide) (by decide)), gr (W 7 (by decide) (by decide)), gr (W 8 (by decide) (by decide)), gr (W 9 (by decide) (by decide)), L, hrq]); (try rfl)] at KL; exact KL
   have OO := ON.add (gs (W 8 (by decide) (by decide))); clear ON
   have KP := OO.add (gs (W 9 (by decide) (by decide))); clear OO
   rw [M] at H
   have Ak : Fr 245 [] [(20, (bptr b11_vs732 0)), (110, (Value.agg #[(iv ((e_9 b (kk : Int) (rc, rd)).1)), (iv ((e_9 b (kk : Int) (rc, rd)).2))])), (101, (Value.tuple #[(Value.agg #[(iv ((e_9 b (kk : Int) (rc, rd)).1)), (iv ((e_9 b (kk : Int) (rc, rd)).2))]), (iv (i_2 b (kk : Int) (rc, rd)))])), (19, (iv (i_2 b (kk : Int) (ra, rb)))), (18, (bptr b11_ 0)), (17, (bptr I 0)), (15, (eptr (A 3) (kk * 5))), (14, (iv (b.tabs.length : Int))), (13, (bptr C 0)), (6, (bptr G 0)), (1, xl), (2, (Value.int .u8 wa)), (3, (Value.int .u8 wb))] PJ := KP.add (h_5 H rfl); clear KP
   clear W KL AC H hrq
   clear Y
   clear AD
   clear L
   clear M
   refine s7 Ak (c_3 Ox rfl f_4 Ak.e Ak.e (i := 2) rfl (vs := [(iv ((e_9 b (kk : Int) (rc, rd)).1)), (iv ((e_9 b (kk : Int) (rc, rd)).2))]) rfl rfl rfl (Nat.le_of_ble_eq_true rfl)) ?_
   intro _ Uw Lv Cw; clear Ak
   have B : Sep NoB w Uw [(d_4 true vt1_vs732 lr1_vs732 lb1_vs732 b.tabs), (d_5 true vm1_vs732 lk1_vs732 b.macs), (blk b11_vs732 30 [(iv ((e_9 b (kk : Int) (rc, rd)).1)), (iv ((e_9 b (kk : Int) (rc, rd)).2))]), (d_4 true vt1_ lr1_ lb1_ b.tabs), (d_5 true vm1_ lk1_ b.macs), (blk b11_ 30 [(iv ((e_9 b (kk : Int) (ra, rb)).1)), (iv ((e_9 b (kk : Int) (ra, rb)).2))]), (blk I 30 [(iv rc), (iv rd)]), (blk K 30 [(iv ra), (iv rb)]), (row (A 3) 46 5 b.tabs.length (g_4 lr lb b.tabs)), (row (A 7) 61 2 b.macs.length (h_8 lk b.macs)), (blk C 25 [(iv b.scales), (A 3), (A 7)]), (blk G 25 [(iv b.scales), vt, vm]), (d_4 false vt lr lb b.tabs), (d_5 false vm lk b.macs), (sl xl 2 l.length (pairs l))] := Lv; clear Lv Ox
   refine s1 Cw (d_1 rfl Cw.e rfl) fun QD Cx => ?_; clear Cw PJ
   refine s1 Cx (a_1 rfl Cx.e) fun QE Cy => ?_; clear Cx QD
   refine n2 (m2 (s1 Cy (a_0 rfl Cy.e) fun QF Cz => ?_)); clear Cy QE
   refine s1 Cz (o_4 rfl Cz.e (evc _ _)) fun QG C0 => ?_; clear Cz QF
   refine s1 C0 (a_0 rfl C0.e) fun Mw q => ?_; clear C0 QG
   by_cases Bj : (i_2 b (kk : Int) (ra, rb)) = 0
   ·skip
    rw [decide_eq_true Bj] at q
    refine s5 q (a_0 rfl q.e) fun QH C1 => ?_; clear q Mw
    refine s5 C1 (i_6 rfl C1.e (evc _ _)) fun QI Al => ?_; clear C1 QH
    have MW : (i_2 b (kk : Int) (rc, rd)) = 0 := (p_1 (r := (ra, rb)) (r' := (rc, rd)) hc hb_kk AF o hr2_ AW AG (by assumption)).1
    rw [decide_eq_true MW] at Al
    refine s5 Al (a_0 rfl Al.e) fun QJ C2 => ?_; clear Al QI
    refine s5 C2 (a_3 rfl i_4 C2.e) fun QK C3 => ?_; clear C2 QJ
    refine s5 C3 (a_4 rfl ty_3 C3.e (B.bk 2 rfl) rfl) fun QL C4 => ?_; clear C3 QK
    refine s5 C4 (a_3 rfl i_4 C4.e) fun QM C5 => ?_; clear C4 QL
    refine s5 C5 (a_4 rfl ty_3 C5.e (B.bk 5 rfl) rfl) fun QN Am => ?_; clear C5 QM
    refine s5 Am (f_8 rfl Am.e Am.e) fun QO AX => ?_; clear Am QN
    have Py : ¬ (((e_9 b (kk : Int) (rc, rd)).1) < ((e_9 b (kk : Int) (ra, rb)).1)) := (by have hz_ := (p_1 (r := (ra, rb)) (r' := (rc, rd)) hc hb_kk AF o hr2_ AW AG (by assumption)); omega)
    rw [decide_eq_false Py] at AX
    refine s5 AX (b_2 rfl AX.e AX.e) fun QP C6 => ?_; clear AX QO
    refine s5 C6 (a_0 rfl C6.e) fun QQ C7 => ?_; clear C6 QP
    refine s5 C7 (a_3 rfl i_5 C7.e) fun QR C8 => ?_; clear C7 QQ
    refine s5 C8 (a_4 rfl ty_3 C8.e (B.bk 2 rfl) rfl) fun QS C9 => ?_; clear C8 QR
    refine s5 C9 (a_3 rfl i_5 C9.e) fun QT DA => ?_; clear C9 QS
    refine s5 DA (a_4 rfl ty_3 DA.e (B.bk 5 rfl) rfl) fun QU An => ?_; clear DA QT
    refine s5 An (j_1 rfl An.e An.e) fun QV AY => ?_; clear An QU
    have Pz : ¬ (((e_9 b (kk : Int) (ra, rb)).2) < ((e_9 b (kk : Int) (rc, rd)).2)) := (by have hz_ := (p_1 (r := (ra, rb)) (r' := (rc, rd)) hc hb_kk AF o hr2_ AW AG (by assumption)); omega)
    rw [decide_eq_false Pz] at AY
    refine s5 AY (b_2 rfl AY.e AY.e) fun QW Ao => ?_; clear AY QV
    refine s1 Ao (b_3 rfl Ao.e Ao.e) fun QX DB => ?_; clear Ao QW
    refine s1 DB (a_0 rfl DB.e) fun QY DC => ?_; clear DB QX
    refine s5 DC (a_0 rfl DC.e) fun QZ DD => ?_; clear DC QY
    refine s5 DD (i_6 rfl DD.e (evc _ _)) fun Qa Ap => ?_; clear DD QZ
    rw [decide_eq_true Bj] at Ap
    refine s5 Ap (a_0 rfl Ap.e) fun Qb KQ => ?_; clear Ap Qa
    refine s3 KQ fun Qc KR => ?_; clear KQ Qb
    refine s3 KR fun Qd DE => ?_; clear KR Qc
    refine s5 DE (b_2 rfl DE.e (evc _ _)) fun Qe Aq => ?_; clear DE Qd
    refine s1 Aq (b_2 rfl Aq.e Aq.e) fun Qf DF => ?_; clear Aq Qe
    refine s1 DF (a_0 rfl DF.e) fun Qg DG => ?_; clear DF Qf
    refine s5 DG (a_0 rfl DG.e) fun Qh DH => ?_; clear DG Qg
    refine s5 DH (i_6 rfl DH.e (evc _ _)) fun Qi Ar => ?_; clear DH Qh
    rw [decide_eq_true MW] at Ar
    refine s5 Ar (a_0 rfl Ar.e) fun Qj KS => ?_; clear Ar Qi
    refine s3 KS fun Qk KT => ?_; clear KS Qj
    refine s3 KT fun Ql DI => ?_; clear KT Qk
    refine s5 DI (b_2 rfl DI.e (evc _ _)) fun Qm As => ?_; clear DI Ql
    refine s1 As (b_2 rfl As.e As.e) fun Qn DJ => ?_; clear As Qm
    refine n1 (b_9 DJ rfl (d_0 (b_0 ?_)))
    have DK := DJ.as [(15, (eptr (A 3) (kk * 5))), (13, (bptr C 0)), (6, (bptr G 0)), (1, xl), (2, (Value.int .u8 wa)), (3, (Value.int .u8 wb))] rfl; clear DJ
    refine a_5 (s1 DK (a_0 rfl DK.e) fun Qo DL => ?_); clear DK Qn
    refine s1 DL (a_0 rfl DL.e) fun Qp DM => ?_; clear DL Qo
    refine s1 DM (e_3 rfl DM.e (SlAt.b_5 (B.b_6 8 rfl)) (by rw [((SlAt.b_5 (B.b_6 8 rfl))).1]; first | omega | (simp only [List.length_set]; omega))) fun Qq DN => ?_; clear DM Qp
    refine s1 DN (c_0 rfl k_1 DN.e (SlAt.b_5 (B.b_6 8 rfl)) (by rw [((SlAt.b_5 (B.b_6 8 rfl))).1]; first | omega | (simp only [List.length_set]; omega))) fun Qr DO => ?_; clear DN Qq
    refine s1 DO (c_2 rfl ty_3 DO.e (SlAt.b_5 (B.b_6 8 rfl)) (p_2 (by first | omega | (simp only [List.length_set]; omega)))) fun Qs DP => ?_; clear DO Qr
    refine s1 DP (a_0 rfl DP.e) fun Qt DQ => ?_; clear DP Qs
    refine s1 DQ (k_6 un_5 un_3 rfl DQ.e (v := wb) (wrap_i64 (by omega) (by omega))) fun Qu DR => ?_; clear DQ Qt
    refine s1 DR (n_5 rfl DR.e (evc _ _) (by omega)) fun Qv At => ?_; clear DR Qu
    refine s1 At (g_9 rfl At.e At.e (by omega) (by omega)) fun Qw DS => ?_; clear At Qv
    refine s1 DS (u_7 rfl (evc _ _) DS.e) fun Qx DT => ?_; clear DS Qw
    refine s1 DT (e_3 rfl DT.e (SlAt.b_5 (B.b_6 8 rfl)) (by rw [((SlAt.b_5 (B.b_6 8 rfl))).1]; first | omega | (simp only [List.length_set]; omega))) fun Qy DU => ?_; clear DT Qx
    refine s1 DU (c_0 rfl k_1 DU.e (SlAt.b_5 (B.b_6 8 rfl)) (by rw [((SlAt.b_5 (B.b_6 8 rfl))).1]; first | omega | (simp only [List.length_set]; omega))) fun ABd Au => ?_; clear DU Qy
    refine s7 Au (l_8 B rfl ty_3 Au.e Au.e (i := 8) rfl (vs := [(iv (max 0 (((b.tabs.getD kk tab0).err) - ((wb).tmod 8))))]) rfl rfl rfl (by first | (rw [n_4]; omega) | (rw [n_6]; omega) | (rw [h_6]; omega)) (by decide)) ?_
    intro _ ABx Lw PL; have Lx := Lw.g_3 (i := 8) rfl (n' := (b.tabs.set kk { b.tabs.getD kk tab0 with err := max 0 (((b.tabs.getD kk tab0).err) - ((wb).tmod 8)) }).length) (xs' := (g_4 lr lb (b.tabs.set kk { b.tabs.getD kk tab0 with err := max 0 (((b.tabs.getD kk tab0).err) - ((wb).tmod 8)) }))) (by rw [List.length_set]) (m_9 (by omega)); clear Lw Au B
    refine e_8 ((b_0 ?_))
    have Pg := Lx.gkp (gpc 8 (gpc 9 (gpc 10 (gpc 11 (gpc 12 (gpc 13 (gpc 14 gpn))))))); clear Lx
    exact ⟨(b.tabs.set kk { b.tabs.getD kk tab0 with err := max 0 (((b.tabs.getD kk tab0).err) - ((wb).tmod 8)) }), PL.as _ rfl, Pg, (FinT.set (fun j hj => (hb.tab hj).err.1) hb_kk (by omega) (by omega))⟩
   skip
   rw [decide_eq_false Bj] at q
   refine s3 q fun Qz KU => ?_; clear q Mw
   refine s3 KU fun Q0 KV => ?_; clear KU Qz
   refine s3 KV fun Q1 KW => ?_; clear KV Q0
   refine s4 KW fun Q2 KX => ?_; clear KW Q1
   refine s4 KX fun Q3 KY => ?_; clear KX Q2
   refine s4 KY fun Q4 KZ => ?_; clear KY Q3
   refine s4 KZ fun Q5 Ka => ?_; clear KZ Q4
   refine s4 Ka fun Q6 Kb => ?_; clear Ka Q5
   refine s3 Kb fun Q7 Kc => ?_; clear Kb Q6
   refine s3 Kc fun Q8 Kd => ?_; clear Kc Q7
   refine s4 Kd fun Q9 Ke => ?_; clear Kd Q8
   refine s4 Ke fun RA Kf => ?_; clear Ke Q9
   refine s4 Kf fun RB Kg => ?_; clear Kf RA
   refine s4 Kg fun RC Kh => ?_; clear Kg RB
   refine s4 Kh fun RD Ki => ?_; clear Kh RC
   refine s3 Ki fun RE DV => ?_; clear Ki RD
   refine s1 DV (b_2 rfl DV.e (evc _ _)) fun RF DW => ?_; clear DV RE
   refine s1 DW (a_0 rfl DW.e) fun RG DX => ?_; clear DW RF
   refine s5 DX (a_0 rfl DX.e) fun RH DY => ?_; clear DX RG
   refine s5 DY (i_6 rfl DY.e (evc _ _)) fun RI Av => ?_; clear DY RH
   rw [decide_eq_false Bj] at Av
   refine s5 Av (a_0 rfl Av.e) fun RJ DZ => ?_; clear Av RI
   refine s5 DZ (a_0 rfl DZ.e) fun RK Da => ?_; clear DZ RJ
   refine s5 Da (i_6 rfl Da.e (evc _ _)) fun RL AZ => ?_; clear Da RK
   have P0 : (i_2 b (kk : Int) (ra, rb)) = 10 := (z_8 (r := (ra, rb)) hc hb_kk (by dsimp only; omega) (by dsimp only; omega) (by dsimp only; omega) (by assumption))
   rw [decide_eq_true P0] at AZ
   refine s5 AZ (b_3 rfl AZ.e AZ.e) fun RM Aw => ?_; clear AZ RL
   refine s1 Aw (b_2 rfl Aw.e Aw.e) fun RN Db => ?_; clear Aw RM
   refine s1 Db (a_0 rfl Db.e) fun RO Dc => ?_; clear Db RN
   refine s5 Dc (a_0 rfl Dc.e) fun RP Dd => ?_; clear Dc RO
   refine s5 Dd (i_6 rfl Dd.e (evc _ _)) fun RQ De => ?_; clear Dd RP
   refine s5 De (a_0 rfl De.e) fun Mx s => ?_; clear De RQ
   by_cases MT : (i_2 b (kk : Int) (rc, rd)) = 0
   ·skip
    rw [decide_eq_true MT] at s
    refine s3 s fun RR Kj => ?_; clear s Mx
    refine s3 Kj fun RS Df => ?_; clear Kj RR
    refine s5 Df (b_2 rfl Df.e (evc _ _)) fun RT Ax => ?_; clear Df RS
    refine s1 Ax (b_2 rfl Ax.e Ax.e) fun RU Dg => ?_; clear Ax RT
    refine n1 (b_9 Dg rfl (d_0 (b_0 ?_)))
    have Dh := Dg.as [(15, (eptr (A 3) (kk * 5))), (13, (bptr C 0)), (6, (bptr G 0)), (1, xl), (2, (Value.int .u8 wa)), (3, (Value.int .u8 wb))] rfl; clear Dg
    refine a_5 (s1 Dh (a_0 rfl Dh.e) fun RV Di => ?_); clear Dh RU
    refine s1 Di (a_0 rfl Di.e) fun RW Dj => ?_; clear Di RV
    refine s1 Dj (e_3 rfl Dj.e (SlAt.b_5 (B.b_6 8 rfl)) (by rw [((SlAt.b_5 (B.b_6 8 rfl))).1]; first | omega | (simp only [List.length_set]; omega))) fun RX Dk => ?_; clear Dj RW
    refine s1 Dk (c_0 rfl k_1 Dk.e (SlAt.b_5 (B.b_6 8 rfl)) (by rw [((SlAt.b_5 (B.b_6 8 rfl))).1]; first | omega | (simp only [List.length_set]; omega))) fun RY Dl => ?_; clear Dk RX
    refine s1 Dl (c_2 rfl ty_3 Dl.e (SlAt.b_5 (B.b_6 8 rfl)) (p_2 (by first | omega | (simp only [List.length_set]; omega)))) fun RZ Dm => ?_; clear Dl RY
    refine s1 Dm (a_0 rfl Dm.e) fun Ra Dn => ?_; clear Dm RZ
    refine s1 Dn (k_6 un_5 un_3 rfl Dn.e (v := wb) (wrap_i64 (by omega) (by omega))) fun Rb Do => ?_; clear Dn Ra
    refine s1 Do (n_5 rfl Do.e (evc _ _) (by omega)) fun Rc Ay => ?_; clear Do Rb
    refine s1 Ay (g_9 rfl Ay.e Ay.e (by omega) (by omega)) fun Rd Dp => ?_; clear Ay Rc
    refine s1 Dp (u_7 rfl (evc _ _) Dp.e) fun Re Dq => ?_; clear Dp Rd
    refine s1 Dq (e_3 rfl Dq.e (SlAt.b_5 (B.b_6 8 rfl)) (by rw [((SlAt.b_5 (B.b_6 8 rfl))).1]; first | omega | (simp only [List.length_set]; omega))) fun Rf Dr => ?_; clear Dq Re
    refine s1 Dr (c_0 rfl k_1 Dr.e (SlAt.b_5 (B.b_6 8 rfl)) (by rw [((SlAt.b_5 (B.b_6 8 rfl))).1]; first | omega | (simp only [List.length_set]; omega))) fun ABe Az => ?_; clear Dr Rf
    refine s7 Az (l_8 B rfl ty_3 Az.e Az.e (i := 8) rfl (vs := [(iv (max 0 (((b.tabs.getD kk tab0).err) - ((wb).tmod 8))))]) rfl rfl rfl (by first | (rw [n_4]; omega) | (rw [n_6]; omega) | (rw [h_6]; omega)) (by decide)) ?_
    intro _ ABy Ly PM; have Lz := Ly.g_3 (i := 8) rfl (n' := (b.tabs.set kk { b.tabs.getD kk tab0 with err := max 0 (((b.tabs.getD kk tab0).err) - ((wb).tmod 8)) }).length) (xs' := (g_4 lr lb (b.tabs.set kk { b.tabs.getD kk tab0 with err := max 0 (((b.tabs.getD kk tab0).err) - ((wb).tmod 8)) }))) (by rw [List.length_set]) (m_9 (by omega)); clear Ly Az B
    refine e_8 ((b_0 ?_))
    have Ph := Lz.gkp (gpc 8 (gpc 9 (gpc 10 (gpc 11 (gpc 12 (gpc 13 (gpc 14 gpn))))))); clear Lz
    exact ⟨(b.tabs.set kk { b.tabs.getD kk tab0 with err := max 0 (((b.tabs.getD kk tab0).err) - ((wb).tmod 8)) }), PM.as _ rfl, Ph, (FinT.set (fun j hj => (hb.tab hj).err.1) hb_kk (by omega) (by omega))⟩
   skip
   rw [decide_eq_false MT] at s
   refine s5 s (a_0 rfl s.e) fun Rg Ds => ?_; clear s Mx
   refine s5 Ds (i_6 rfl Ds.e (evc _ _)) fun Rh Aa => ?_; clear Ds Rg
   have P1 : (i_2 b (kk : Int) (rc, rd)) = 10 := (z_8 (r := (rc, rd)) hc hb_kk (by dsimp only; omega) (by dsimp only; omega) (by dsimp only; omega) (by assumption))
   rw [decide_eq_true P1] at Aa
   refine s5 Aa (b_3 rfl Aa.e Aa.e) fun Ri A0 => ?_; clear Aa Rh
   refine s1 A0 (b_2 rfl A0.e A0.e) fun Rj Dt => ?_; clear A0 Ri
   refine n1 (b_9 Dt rfl (d_0 (b_0 ?_)))
   have Du := Dt.as [(15, (eptr (A 3) (kk * 5))), (13, (bptr C 0)), (6, (bptr G 0)), (1, xl), (2, (Value.int .u8 wa)), (3, (Value.int .u8 wb))] rfl; clear Dt
   refine a_5 (s1 Du (a_0 rfl Du.e) fun Rk Dv => ?_); clear Du Rj
   refine s1 Dv (a_0 rfl Dv.e) fun Rl Dw => ?_; clear Dv Rk
   refine s1 Dw (e_3 rfl Dw.e (SlAt.b_5 (B.b_6 8 rfl)) (by rw [((SlAt.b_5 (B.b_6 8 rfl))).1]; first | omega | (simp only [List.length_set]; omega))) fun Rm Dx => ?_; clear Dw Rl
   refine s1 Dx (c_0 rfl k_1 Dx.e (SlAt.b_5 (B.b_6 8 rfl)) (by rw [((SlAt.b_5 (B.b_6 8 rfl))).1]; first | omega | (simp only [List.length_set]; omega))) fun Rn Dy => ?_; clear Dx Rm
   refine s1 Dy (c_2 rfl ty_3 Dy.e (SlAt.b_5 (B.b_6 8 rfl)) (p_2 (by first | omega | (simp only [List.length_set]; omega)))) fun Ro Dz => ?_; clear Dy Rn
   refine s1 Dz (a_0 rfl Dz.e) fun Rp D0 => ?_; clear Dz Ro
   refine s1 D0 (k_6 un_5 un_3 rfl D0.e (v := wb) (wrap_i64 (by omega) (by omega))) fun Rq D1 => ?_; clear D0 Rp
   refine s1 D1 (n_5 rfl D1.e (evc _ _) (by omega)) fun Rr A1 => ?_; clear D1 Rq
   refine s1 A1 (g_9 rfl A1.e A1.e (by omega) (by omega)) fun Rs D2 => ?_; clear A1 Rr
   refine s1 D2 (u_7 rfl (evc _ _) D2.e) fun Rt D3 => ?_; clear D2 Rs
   refine s1 D3 (e_3 rfl D3.e (SlAt.b_5 (B.b_6 8 rfl)) (by rw [((SlAt.b_5 (B.b_6 8 rfl))).1]; first | omega | (simp only [List.length_set]; omega))) fun Ru D4 => ?_; clear D3 Rt
   refine s1 D4 (c_0 rfl k_1 D4.e (SlAt.b_5 (B.b_6 8 rfl)) (by rw [((SlAt.b_5 (B.b_6 8 rfl))).1]; first | omega | (simp only [List.length_set]; omega))) fun ABf A2 => ?_; clear D4 Ru
   refine s7 A2 (l_8 B rfl ty_3 A2.e A2.e (i := 8) rfl (vs := [(iv (max 0 (((b.tabs.getD kk tab0).err) - ((wb).tmod 8))))]) rfl rfl rfl (by first | (rw [n_4]; omega) | (rw [n_6]; omega) | (rw [h_6]; omega)) (by decide)) ?_
   intro _ ABz L0 PN; have L1 := L0.g_3 (i := 8) rfl (n' := (b.tabs.set kk { b.tabs.getD kk tab0 with err := max 0 (((b.tabs.getD kk tab0).err) - ((wb).tmod 8)) }).length) (xs' := (g_4 lr lb (b.tabs.set kk { b.tabs.getD kk tab0 with err := max 0 (((b.tabs.getD kk tab0).err) - ((wb).tmod 8)) }))) (by rw [List.length_set]) (m_9 (by omega)); clear L0 A2 B
   refine e_8 ((b_0 ?_))
   have Pi := L1.gkp (gpc 8 (gpc 9 (gpc 10 (gpc 11 (gpc 12 (gpc 13 (gpc 14 gpn))))))); clear L1
   exact ⟨(b.tabs.set kk { b.tabs.getD kk tab0 with err := max 0 (((b.tabs.getD kk tab0).err) - ((wb).tmod 8)) }), PN.as _ rfl, Pi, (FinT.set (fun j hj => (hb.tab hj).err.1) hb_kk (by omega) (by omega))⟩
  skip
  rw [decide_eq_false Px] at Aj
  refine b_9 Aj rfl (d_0 ((b_0 ?_)))
  exact ⟨b.tabs, Aj.as _ rfl, Bk, (FinT.same (fun j hj => (hb.tab hj).err.1))⟩
 skip
 clear H9 Bk U2
 rintro My AB0 ⟨ts1, Kk, z, hft⟩
 have htl1 := hft.len
 have A3 := Kk.as [(13, (bptr C 0)), (6, (bptr G 0)), (1, xl), (2, (Value.int .u8 wa)), (3, (Value.int .u8 wb))] rfl; clear Kk
 refine c_seqI (fun a_ w_ => ∃ lk1 : Nat → Value, ∃ ms1 : List MacD, Fr 245 [] [(13, (bptr C 0)), (6, (bptr G 0)), (1, xl)] a_ ∧ Sep NoB w w_ [(row (A 3) 46 5 ts1.length (g_4 lr lb ts1)), (d_5 false (A 7) lk1 ms1), (blk C 25 [(iv b.scales), (A 3), (A 7)]), (blk G 25 [(iv b.scales), vt, vm]), (d_4 false vt lr lb b.tabs), (d_5 false vm lk b.macs), (sl xl 2 l.length (pairs l))] ∧ (FinM b.scales b.macs ms1)) ?_ ?_
 ·skip
  refine m2 (s1 A3 (a_3 rfl n_1 A3.e) fun Rv D5 => ?_); clear A3 My
  refine s1 D5 (a_4 rfl z_4 D5.e (z.bk 3 rfl) rfl) fun Rw D6 => ?_; clear D5 Rv
  refine s1 D6 (e_0 rfl z_7 D6.e (c_1 (z.ok 5 _ rfl)).macs) fun Rx D7 => ?_; clear D6 Rw
  refine s1 D7 (a_1 rfl D7.e) fun ABg A4 => ?_; clear D7 Rx
  refine n2 ?_
  rcases Nat.eq_zero_or_pos b.macs.length with U5 | U5
  ·skip
   have Kl := A4.as [(22, (iv (b.macs.length : Int))), (13, (bptr C 0)), (6, (bptr G 0)), (1, xl), (2, (Value.int .u8 wa)), (3, (Value.int .u8 wb))] rfl; clear A4
   refine h_1 mixed Kl z 9 [[], [0], [1], [2], [2, 3], [2], [2, 5], [2], [2, 6, 7]] [(Yd.val (iv (b.macs.length : Int))), (Yd.val (Value.bool false)), (Yd.val (Value.bool false)), (Yd.val undef), (Yd.val undef), (Yd.val undef), (Yd.val undef), (Yd.val undef), (Yd.val undef)] (by decide +kernel) rfl rfl ?_ ?_
   ·skip
    refine dq (fun a w hA hS hd => a_0 rfl hA.e) ?_
    refine ⟨fun a w hA hS hd => by have e0 := hx hd 0; exact d_8 rfl (dv (j_1 rfl (c_6 e0) (evc _ _)) hS (by show Value.bool _ = _; simp only [decide_eq_false (show ¬ (0 < (b.macs.length : Int)) by omega), decide_true, decide_false, Bool.not_true, Bool.not_false])), ?_⟩
    refine dq (fun a w hA hS hd => a_0 rfl (hq hd 1)) ?_
    refine dn 2 (dn 2 (dn 2 (dn 2 (dn 2 (dn 2 ?_)))))
    trivial
   intro Ry Ux Km L2 Bf; clear Kl z
   have Kn := Km.add (hz Bf 2); clear Km
   have Ko := Kn.add (hz Bf 4); clear Kn
   have Kp := Ko.add (hz Bf 8); clear Ko
   clear Bf
   refine s3 Kp fun Rz Kq => ?_; clear Kp Ry
   refine s3 Kq fun R0 Kr => ?_; clear Kq Rz
   refine s3 Kr fun R1 Ks => ?_; clear Kr R0
   refine s3 Ks fun R2 Kt => ?_; clear Ks R1
   refine s3 Kt fun R3 D8 => ?_; clear Kt R2
   refine s1 D8 (b_2 rfl D8.e (evc _ _)) fun R4 D9 => ?_; clear D8 R3
   refine s1 D9 (a_0 rfl D9.e) fun R5 Ku => ?_; clear D9 R4
   refine s3 Ku fun R6 Kv => ?_; clear Ku R5
   refine s3 Kv fun R7 Kw => ?_; clear Kv R6
   refine s3 Kw fun R8 EA => ?_; clear Kw R7
   refine s1 EA (b_2 rfl EA.e (evc _ _)) fun ABh Kx => ?_; clear EA R8
   refine n1 (b_9 Kx rfl (d_0 ((b_0 ?_))))
   have Fx := L2.gkp (gpc 1 (gpc 0 (gpc 2 (gpc 3 (gpc 4 (gpc 5 (gpc 6 gpn))))))); clear L2
   have Pc := same_ro Fx.tail (i := 4) rfl
   have L3 : Sep NoB w Ux [(d_5 false (A 7) lk b.macs), (row (A 3) 46 5 ts1.length (g_4 lr lb ts1)), (blk C 25 [(iv b.scales), (A 3), (A 7)]), (blk G 25 [(iv b.scales), vt, vm]), (d_4 false vt lr lb b.tabs), (d_5 false vm lk b.macs), (sl xl 2 l.length (pairs l))] := sep_macs_ro Fx Pc; clear Fx
   have Pj := L3.gkp (gpc 1 (gpc 0 (gpc 2 (gpc 3 (gpc 4 (gpc 5 (gpc 6 gpn))))))); clear L3
   exact ⟨lk, b.macs, Kx.as _ rfl, Pj, (FinM.same hcm.2 hb.blks)⟩
  skip
  obtain ⟨mm, hz_mm, hb_mm⟩ := rem_nat (n := wa) (m := b.macs.length) hA_.1 U5; have hmk := hth.mac mm; have hb5 := hb.blks _ (mac_mem hb_mm); have hmv := hb.mac hb_mm
  have Ky := A4.as [(22, (iv (b.macs.length : Int))), (13, (bptr C 0)), (6, (bptr G 0)), (1, xl), (2, (Value.int .u8 wa)), (3, (Value.int .u8 wb))] rfl; clear A4
  refine h_1 mixed Ky z 9 [[], [0], [1], [2], [2, 3], [2], [2, 5], [2], [2, 6, 7]] [(Yd.val (iv (b.macs.length : Int))), (Yd.val (Value.bool true)), (Yd.val (Value.bool true)), (Yd.val (bptr G 2)), (Yd.val vm), (Yd.val (Value.int .u8 wa)), (Yd.val (iv wa)), (Yd.val (iv (b.macs.length : Int))), (Yd.val (iv (mm : Int)))] (by decide +kernel) rfl rfl ?_ ?_
  ·skip
   refine dq (fun a w hA hS hd => a_0 rfl hA.e) ?_
   refine ⟨fun a w hA hS hd => by have e0 := hx hd 0; exact d_8 rfl (dv (j_1 rfl (c_6 e0) (evc _ _)) hS (by show Value.bool _ = _; simp only [decide_eq_true (show 0 < (b.macs.length : Int) by omega), decide_true, decide_false, Bool.not_true, Bool.not_false])), ?_⟩
   refine dq (fun a w hA hS hd => a_0 rfl (hq hd 1)) ?_
   refine dy 2 (fun a w hA hS hd => a_3 rfl n_1 hA.e) ?_
   refine dy 2 (fun a w hA hS hd => a_4 rfl z_4 (hq hd 3) (hS.bk 3 rfl) rfl) ?_
   refine dy 2 (fun a w hA hS hd => a_0 rfl hA.e) ?_
   refine dy 2 (fun a w hA hS hd => k_6 un_5 un_3 rfl (hq hd 5) (v := wa) (wrap_i64 (by omega) (by omega))) ?_
   refine dy 2 (fun a w hA hS hd => a_0 rfl hA.e) ?_
   refine dy 2 (fun a w hA hS hd => opY_int (n_5 rfl (hq hd 6) (hq hd 7) (by omega)) hz_mm) ?_
   trivial
  intro R9 O6 Kz X Bg; clear Ky z
  have K0 := Kz.add (hz Bg 2); clear Kz
  have K1 := K0.add (hz Bg 4); clear K0
  have A5 := K1.add (hz Bg 8); clear K1
  clear Bg
  refine s5 A5 (b_4 rfl z_7 aa_8 A5.e (i := mm) A5.e (c_1 (X.ok 5 _ rfl)).macs (by decide) (by first | omega | (simp only [List.length_set]; omega))) fun SA EB => ?_; clear A5 R9
  refine s5 EB (c_0 rfl q_2 EB.e (c_1 (X.ok 5 _ rfl)).macs (by rw [((c_1 (X.ok 5 _ rfl)).macs).1]; first | omega | (simp only [List.length_set]; omega))) fun SB EC => ?_; clear EB SA
  refine s5 EC (c_2 rfl ab_5 EC.e (c_1 (X.ok 5 _ rfl)).macs (macs_at1 (by first | omega | (simp only [List.length_set]; omega)))) fun SC ED => ?_; clear EC SB
  refine s5 ED (e_0 rfl ab_7 ED.e ((c_1 (X.ok 5 _ rfl)).blk (i := mm) (by first | omega | (simp only [List.length_set]; omega)))) fun SD EE => ?_; clear ED SC
  refine s5 EE (j_1 rfl EE.e (evc _ _)) fun SE A6 => ?_; clear EE SD
  refine s1 A6 (b_3 rfl A6.e A6.e) fun SF EF => ?_; clear A6 SE
  refine s1 EF (a_0 rfl EF.e) fun Mz u => ?_; clear EF SF
  by_cases MU : 0 < ((b.macs.getD mm mac0).blocks.length : Int)
  ·skip
   rw [decide_eq_true MU] at u
   refine s5 u (a_0 rfl u.e) fun SG EG => ?_; clear u Mz
   refine s5 EG (n_5 rfl EG.e (evc _ _) (by omega)) fun SH EH => ?_; clear EG SG
   refine s5 EH (o_4 rfl EH.e (evc _ _)) fun SI A7 => ?_; clear EH SH
   refine s1 A7 (b_3 rfl A7.e A7.e) fun ABi x => ?_; clear A7 SI
   refine n1 ?_
   by_cases MV : ((wb).tmod 2) = 0
   ·skip
    rw [decide_eq_true MV] at x
    refine c_8 x rfl (c_4 ?_)
    have K2 := x.as [(22, (iv (b.macs.length : Int))), (13, (bptr C 0)), (6, (bptr G 0)), (1, xl), (2, (Value.int .u8 wa)), (3, (Value.int .u8 wb))] rfl; clear x
    have hb0 := hmv.blocks 0 (by omega)
    have K3 := K2.as [(22, (iv (b.macs.length : Int))), (13, (bptr C 0)), (6, (bptr G 0)), (1, xl), (2, (Value.int .u8 wa)), (3, (Value.int .u8 wb))] rfl; clear K2
    refine h_1 mixed K3 X 6 [[], [0], [], [2], [], [3, 4]] [(Yd.val (bptr C 2)), (Yd.val (A 7)), (Yd.val (Value.int .u8 wa)), (Yd.val (iv wa)), (Yd.val (iv (b.macs.length : Int))), (Yd.val (iv (mm : Int)))] (by decide +kernel) rfl rfl ?_ ?_
    ·skip
     refine dq (fun a w hA hS hd => a_3 rfl n_1 hA.e) ?_
     refine dq (fun a w hA hS hd => a_4 rfl z_4 (hq hd 0) (hS.bk 2 rfl) rfl) ?_
     refine dq (fun a w hA hS hd => a_0 rfl hA.e) ?_
     refine dq (fun a w hA hS hd => k_6 un_5 un_3 rfl (hq hd 2) (v := wa) (wrap_i64 (by omega) (by omega))) ?_
     refine dq (fun a w hA hS hd => a_0 rfl hA.e) ?_
     refine dq (fun a w hA hS hd => opY_int (n_5 rfl (hq hd 3) (hq hd 4) (by omega)) hz_mm) ?_
     trivial
    intro SJ AB1 K4 Fy Fv; clear K3 X
    have K5 := K4.add (hz Fv 1); clear K4
    have A8 := K5.add (hz Fv 5); clear K5
    clear Fv
    refine s1 A8 (b_4 rfl z_7 aa_8 A8.e (i := mm) A8.e (SlAt.b_5 (Fy.b_6 1 rfl)) (by decide) (by first | omega | (simp only [List.length_set]; omega))) fun SK EI => ?_; clear A8 SJ
    refine s1 EI (a_1 rfl EI.e) fun SL EJ => ?_; clear EI SK
    refine n4 (s1 EJ (a_0 rfl EJ.e) fun SM K6 => ?_); clear EJ SL
    refine s2 K6 (g_8 Fy rfl pv0 ab_7 ty_63 ze_63 (by decide) (cs := []) bs_63_0_) ?_
    rintro SN _ AB2 ⟨ABr, rfl, AA⟩ EK; clear K6 Fy SM
    refine s1 EK (a_0 rfl EK.e) fun SO EL => ?_; clear EK SN
    refine s1 EL (e_3 rfl EL.e (SlAt.b_5 (AA.b_6 2 rfl)) (by rw [((SlAt.b_5 (AA.b_6 2 rfl))).1]; first | omega | (simp only [List.length_set]; omega))) fun SP EM => ?_; clear EL SO
    refine s1 EM (c_0 rfl q_2 EM.e (SlAt.b_5 (AA.b_6 2 rfl)) (by rw [((SlAt.b_5 (AA.b_6 2 rfl))).1]; first | omega | (simp only [List.length_set]; omega))) fun SQ EN => ?_; clear EM SP
    refine s1 EN (c_2 rfl ab_5 EN.e (SlAt.b_5 (AA.b_6 2 rfl)) (macs_at1 (by first | omega | (simp only [List.length_set]; omega)))) fun SR A9 => ?_; clear EN SQ
    have Fz := AA.s_9 (i := 0) (sz := 3) (n := 0) rfl rfl (by decide); clear AA
    refine s2 A9 (n_9 Fz rfl ab_7 el_63 A9.e A9.e (i := 0) rfl ((c_1 (Fz.ok 6 _ rfl)).blk (i := mm) (by omega)) (trips_one _) (by simp only [maxLen]; omega) (by omega)) ?_
    intro SS Q AB3 L4 EO
    have p := L4.g_3 (i := 0) rfl (n' := (b.macs.getD mm mac0).blocks.length) (xs' := (trips ((b.macs.getD mm mac0).blocks))) (by simp only [Nat.zero_add]) (List.nil_append _); clear L4 A9 Fz SR
    refine s1 EO (e_3 rfl EO.e (SlAt.b_5 (p.b_6 2 rfl)) (by rw [((SlAt.b_5 (p.b_6 2 rfl))).1]; first | omega | (simp only [List.length_set]; omega))) fun ST EP => ?_; clear EO SS
    refine s1 EP (c_0 rfl q_2 EP.e (SlAt.b_5 (p.b_6 2 rfl)) (by rw [((SlAt.b_5 (p.b_6 2 rfl))).1]; first | omega | (simp only [List.length_set]; omega))) fun SU BA => ?_; clear EP ST
    refine s7 BA (l_8 p rfl ab_5 BA.e BA.e (i := 2) rfl (vs := [Q]) (q_7 (SlAt.isSl (SlAt.b_5 (p.b_6 0 rfl)))) rfl (i_7 (SlAt.one (SlAt.b_5 (p.b_6 0 rfl))) v_3) (by first | (rw [n_4]; omega) | (rw [n_6]; omega) | (rw [h_6]; omega)) (by decide)) ?_
    intro _ AB4 L5 K7; have Z := L5.g_3 (i := 2) rfl (n' := (b.macs.set mm ⟨(b.macs.getD mm mac0).scale, (b.macs.getD mm mac0).blocks⟩).length) (xs' := (h_8 (putV mm lk Q) (b.macs.set mm ⟨(b.macs.getD mm mac0).scale, (b.macs.getD mm mac0).blocks⟩))) (by rw [List.length_set]) (macs_setB (by omega)); clear L5 BA p
    refine n2 ?_
    have EQ := K7.as [(23, (eptr (A 7) (mm * 2))), (13, (bptr C 0)), (6, (bptr G 0)), (1, xl), (3, (Value.int .u8 wb))] rfl; clear K7
    refine a_5 (s1 EQ (a_0 rfl EQ.e) fun SV ER => ?_); clear EQ SU
    refine s1 ER (e_3 rfl ER.e (SlAt.b_5 (Z.b_6 2 rfl)) (by rw [((SlAt.b_5 (Z.b_6 2 rfl))).1]; first | omega | (simp only [List.length_set]; omega))) fun SW ES => ?_; clear ER SV
    refine s1 ES (c_0 rfl q_2 ES.e (SlAt.b_5 (Z.b_6 2 rfl)) (by rw [((SlAt.b_5 (Z.b_6 2 rfl))).1]; first | omega | (simp only [List.length_set]; omega))) fun SX ET => ?_; clear ES SW
    refine s1 ET (c_2 rfl ab_5 ET.e (SlAt.b_5 (Z.b_6 2 rfl)) (macs_atP (by first | omega | (simp only [List.length_set]; omega)))) fun SY EU => ?_; clear ET SX
    refine s1 EU (b_4 rfl ab_7 ty_63 EU.e (i := 0) (show _ = Value.int .i64 ((0 : Nat) : Int) from (evc _ _)) (SlAt.b_5 (Z.b_6 0 rfl)) (by decide) (by first | omega | (simp only [List.length_set]; omega))) fun SZ EV => ?_; clear EU SY
    refine s1 EV (c_0 rfl fd_63_0 EV.e (SlAt.b_5 (Z.b_6 0 rfl)) (by rw [((SlAt.b_5 (Z.b_6 0 rfl))).1]; first | omega | (simp only [List.length_set]; omega))) fun Sa EW => ?_; clear EV SZ
    refine s1 EW (a_1 rfl EW.e) fun ABj K8 => ?_; clear EW Sa
    refine n1 ?_
    have K9 := K8.as [(24, (eptr Q (0 * 3 + 0))), (13, (bptr C 0)), (6, (bptr G 0)), (1, xl), (3, (Value.int .u8 wb))] rfl; clear K8
    have LA := K9.as [(24, (eptr Q (0 * 3 + 0))), (13, (bptr C 0)), (6, (bptr G 0)), (1, xl), (3, (Value.int .u8 wb))] rfl; clear K9
    refine h_1 mixed LA Z 14 [[], [], [1], [2], [3], [], [5], [6], [7], [], [9], [10], [8, 11], [4, 12]] [(Yd.val (eptr Q (0 * 3 + 0))), (Yd.val (eptr Q (0 * 3 + 0))), (Yd.val (eptr Q (0 * 3 + 0))), (Yd.val (eptr Q (0 * 3 + 0 + 1))), (Yd.val (iv ((((b.macs.getD mm mac0).blocks).getD 0 (0, 0, 0)).2.1))), (Yd.val (eptr Q (0 * 3 + 0))), (Yd.val (eptr Q (0 * 3 + 0))), (Yd.val (eptr Q (0 * 3 + 0 + 0))), (Yd.val (iv ((((b.macs.getD mm mac0).blocks).getD 0 (0, 0, 0)).1))), (Yd.val (Value.int .u8 wb)), (Yd.val (iv wb)), (Yd.val (iv ((wb).tdiv 8))), (Yd.val (iv (((((b.macs.getD mm mac0).blocks).getD 0 (0, 0, 0)).1) + ((wb).tdiv 8)))), (Yd.val (iv (min ((((b.macs.getD mm mac0).blocks).getD 0 (0, 0, 0)).2.1) (((((b.macs.getD mm mac0).blocks).getD 0 (0, 0, 0)).1) + ((wb).tdiv 8)))))] (by decide +kernel) rfl rfl ?_ ?_
    ·skip
     refine dq (fun a w hA hS hd => a_0 rfl hA.e) ?_
     refine dq (fun a w hA hS hd => a_0 rfl hA.e) ?_
     refine dq (fun a w hA hS hd => e_3 rfl (hq hd 1) (SlAt.b_5 (hS.b_6 0 rfl)) (by rw [((SlAt.b_5 (hS.b_6 0 rfl))).1]; first | omega | (simp only [List.length_set]; omega))) ?_
     refine dq (fun a w hA hS hd => c_0 rfl fd_27_1 (hq hd 2) (SlAt.b_5 (hS.b_6 0 rfl)) (by rw [((SlAt.b_5 (hS.b_6 0 rfl))).1]; first | omega | (simp only [List.length_set]; omega))) ?_
     refine dq (fun a w hA hS hd => c_2 rfl ty_3 (hq hd 3) (SlAt.b_5 (hS.b_6 0 rfl)) (trips_at1 (by first | omega | (simp only [List.length_set]; omega)))) ?_
     refine dq (fun a w hA hS hd => a_0 rfl hA.e) ?_
     refine dq (fun a w hA hS hd => e_3 rfl (hq hd 5) (SlAt.b_5 (hS.b_6 0 rfl)) (by rw [((SlAt.b_5 (hS.b_6 0 rfl))).1]; first | omega | (simp only [List.length_set]; omega))) ?_
     refine dq (fun a w hA hS hd => c_0 rfl fd_27_0 (hq hd 6) (SlAt.b_5 (hS.b_6 0 rfl)) (by rw [((SlAt.b_5 (hS.b_6 0 rfl))).1]; first | omega | (simp only [List.length_set]; omega))) ?_
     refine dq (fun a w hA hS hd => c_2 rfl ty_3 (hq hd 7) (SlAt.b_5 (hS.b_6 0 rfl)) (trips_at0 (by first | omega | (simp only [List.length_set]; omega)))) ?_
     refine dq (fun a w hA hS hd => a_0 rfl hA.e) ?_
     refine dq (fun a w hA hS hd => k_6 un_5 un_3 rfl (hq hd 9) (v := wb) (wrap_i64 (by omega) (by omega))) ?_
     refine dq (fun a w hA hS hd => op_quo rfl (hq hd 10) (evc _ _) (by omega) (by omega) (by omega)) ?_
     refine dq (fun a w hA hS hd => g_6 rfl (hq hd 8) (hq hd 11) (by omega) (by omega)) ?_
     refine dq (fun a w hA hS hd => op_min rfl (hq hd 4) (hq hd 12)) ?_
     trivial
    intro Sb AB5 LB AO Fw; clear LA Z
    have LC := LB.add (hz Fw 0); clear LB
    have EX := LC.add (hz Fw 13); clear LC
    clear Fw
    refine s1 EX (e_3 rfl EX.e (SlAt.b_5 (AO.b_6 0 rfl)) (by rw [((SlAt.b_5 (AO.b_6 0 rfl))).1]; first | omega | (simp only [List.length_set]; omega))) fun Sc EY => ?_; clear EX Sb
    refine s1 EY (c_0 rfl fd_27_0 EY.e (SlAt.b_5 (AO.b_6 0 rfl)) (by rw [((SlAt.b_5 (AO.b_6 0 rfl))).1]; first | omega | (simp only [List.length_set]; omega))) fun ABk BB => ?_; clear EY Sc
    refine s7 BB (l_8 AO rfl ty_3 BB.e BB.e (i := 0) rfl (vs := [(iv (min ((((b.macs.getD mm mac0).blocks).getD 0 (0, 0, 0)).2.1) (((((b.macs.getD mm mac0).blocks).getD 0 (0, 0, 0)).1) + ((wb).tdiv 8))))]) rfl rfl rfl (by first | (rw [n_4]; omega) | (rw [n_6]; omega) | (rw [h_6]; omega)) (by decide)) ?_
    intro _ Uy L6 PO; have L7 := L6.g_3 (i := 0) rfl (n' := (((b.macs.getD mm mac0).blocks).set 0 (min ((((b.macs.getD mm mac0).blocks).getD 0 (0, 0, 0)).2.1) (((((b.macs.getD mm mac0).blocks).getD 0 (0, 0, 0)).1) + ((wb).tdiv 8)), (((b.macs.getD mm mac0).blocks).getD 0 (0, 0, 0)).2.1, (((b.macs.getD mm mac0).blocks).getD 0 (0, 0, 0)).2.2)).length) (xs' := (trips (((b.macs.getD mm mac0).blocks).set 0 (min ((((b.macs.getD mm mac0).blocks).getD 0 (0, 0, 0)).2.1) (((((b.macs.getD mm mac0).blocks).getD 0 (0, 0, 0)).1) + ((wb).tdiv 8)), (((b.macs.getD mm mac0).blocks).getD 0 (0, 0, 0)).2.1, (((b.macs.getD mm mac0).blocks).getD 0 (0, 0, 0)).2.2)))) (by rw [List.length_set]) (trips_set0 (by omega)); clear L6 BB AO
    refine e_8 ((b_0 ?_))
    have L8 := sep_row_sl L7 (i := 0) rfl; clear L7
    have L9 := L8.g_3 (i := 2) rfl (n' := (b.macs.set mm ⟨(b.macs.getD mm mac0).scale, (((b.macs.getD mm mac0).blocks).set 0 (min ((((b.macs.getD mm mac0).blocks).getD 0 (0, 0, 0)).2.1) (((((b.macs.getD mm mac0).blocks).getD 0 (0, 0, 0)).1) + ((wb).tdiv 8)), (((b.macs.getD mm mac0).blocks).getD 0 (0, 0, 0)).2.1, (((b.macs.getD mm mac0).blocks).getD 0 (0, 0, 0)).2.2))⟩).length) (xs' := (h_8 (putV mm lk Q) (b.macs.set mm ⟨(b.macs.getD mm mac0).scale, (((b.macs.getD mm mac0).blocks).set 0 (min ((((b.macs.getD mm mac0).blocks).getD 0 (0, 0, 0)).2.1) (((((b.macs.getD mm mac0).blocks).getD 0 (0, 0, 0)).1) + ((wb).tdiv 8)), (((b.macs.getD mm mac0).blocks).getD 0 (0, 0, 0)).2.1, (((b.macs.getD mm mac0).blocks).getD 0 (0, 0, 0)).2.2))⟩))) (by simp only [List.length_set]) (macs_alike (by omega)); clear L8
    have F0 := L9.gkp (gpc 2 (gpc 0 (gpc 1 (gpc 3 (gpc 4 (gpc 5 (gpc 6 (gpc 7 gpn)))))))); clear L9
    have Pd := setB_ro (m := ⟨(b.macs.getD mm mac0).scale, (((b.macs.getD mm mac0).blocks).set 0 (min ((((b.macs.getD mm mac0).blocks).getD 0 (0, 0, 0)).2.1) (((((b.macs.getD mm mac0).blocks).getD 0 (0, 0, 0)).1) + ((wb).tdiv 8)), (((b.macs.getD mm mac0).blocks).getD 0 (0, 0, 0)).2.1, (((b.macs.getD mm mac0).blocks).getD 0 (0, 0, 0)).2.2))⟩) F0.tail (i := 5) (j := 0) rfl rfl hb_mm
    have MA : Sep NoB w Uy [(d_5 false (A 7) (putV mm lk Q) (b.macs.set mm ⟨(b.macs.getD mm mac0).scale, (((b.macs.getD mm mac0).blocks).set 0 (min ((((b.macs.getD mm mac0).blocks).getD 0 (0, 0, 0)).2.1) (((((b.macs.getD mm mac0).blocks).getD 0 (0, 0, 0)).1) + ((wb).tdiv 8)), (((b.macs.getD mm mac0).blocks).getD 0 (0, 0, 0)).2.1, (((b.macs.getD mm mac0).blocks).getD 0 (0, 0, 0)).2.2))⟩)), (sl Q 3 ((((b.macs.getD mm mac0).blocks).set 0 (min ((((b.macs.getD mm mac0).blocks).getD 0 (0, 0, 0)).2.1) (((((b.macs.getD mm mac0).blocks).getD 0 (0, 0, 0)).1) + ((wb).tdiv 8)), (((b.macs.getD mm mac0).blocks).getD 0 (0, 0, 0)).2.1, (((b.macs.getD mm mac0).blocks).getD 0 (0, 0, 0)).2.2)).length) (trips (((b.macs.getD mm mac0).blocks).set 0 (min ((((b.macs.getD mm mac0).blocks).getD 0 (0, 0, 0)).2.1) (((((b.macs.getD mm mac0).blocks).getD 0 (0, 0, 0)).1) + ((wb).tdiv 8)), (((b.macs.getD mm mac0).blocks).getD 0 (0, 0, 0)).2.1, (((b.macs.getD mm mac0).blocks).getD 0 (0, 0, 0)).2.2)))), (row (A 3) 46 5 ts1.length (g_4 lr lb ts1)), (blk C 25 [(iv b.scales), (A 3), (A 7)]), (blk G 25 [(iv b.scales), vt, vm]), (d_4 false vt lr lb b.tabs), (d_5 false vm lk b.macs), (sl xl 2 l.length (pairs l))] := sep_macs_ro F0 Pd; clear F0
    have hnb := narrow_block (m := (b.macs.getD mm mac0)) (lo := min ((((b.macs.getD mm mac0).blocks).getD 0 (0, 0, 0)).2.1) (((((b.macs.getD mm mac0).blocks).getD 0 (0, 0, 0)).1) + ((wb).tdiv 8))) (macB_blks (hcm.2 _ (mac_mem hb_mm))) (by omega) (by omega) (by omega)
    have Pl := MA.gkp (gpc 2 (gpc 0 (gpc 3 (gpc 4 (gpc 5 (gpc 6 (gpc 7 gpn))))))); clear MA
    exact ⟨(putV mm lk Q), (b.macs.set mm ⟨(b.macs.getD mm mac0).scale, (((b.macs.getD mm mac0).blocks).set 0 (min ((((b.macs.getD mm mac0).blocks).getD 0 (0, 0, 0)).2.1) (((((b.macs.getD mm mac0).blocks).getD 0 (0, 0, 0)).1) + ((wb).tdiv 8)), (((b.macs.getD mm mac0).blocks).getD 0 (0, 0, 0)).2.1, (((b.macs.getD mm mac0).blocks).getD 0 (0, 0, 0)).2.2))⟩), PO.as _ rfl, Pl, (FinM.set hcm.2 hb.blks hb_mm (by rw [List.length_set]; omega) hnb.1 hnb.2)⟩
   skip
   rw [decide_eq_false MV] at x
   refine b_9 x rfl (d_0 ((b_0 ?_)))
   have F1 := X.gkp (gpc 1 (gpc 0 (gpc 2 (gpc 3 (gpc 4 (gpc 5 (gpc 6 gpn))))))); clear X
   have Pe := same_ro F1.tail (i := 4) rfl
   have MB : Sep NoB w O6 [(d_5 false (A 7) lk b.macs), (row (A 3) 46 5 ts1.length (g_4 lr lb ts1)), (blk C 25 [(iv b.scales), (A 3), (A 7)]), (blk G 25 [(iv b.scales), vt, vm]), (d_4 false vt lr lb b.tabs), (d_5 false vm lk b.macs), (sl xl 2 l.length (pairs l))] := sep_macs_ro F1 Pe; clear F1
   have Pm := MB.gkp (gpc 1 (gpc 0 (gpc 2 (gpc 3 (gpc 4 (gpc 5 (gpc 6 gpn))))))); clear MB
   exact ⟨lk, b.macs, x.as _ rfl, Pm, (FinM.same hcm.2 hb.blks)⟩
  skip
  rw [decide_eq_false MU] at u
  refine s3 u fun Sd LD => ?_; clear u Mz
  refine s3 LD fun Se LE => ?_; clear LD Sd
  refine s3 LE fun Sf EZ => ?_; clear LE Se
  refine s1 EZ (b_2 rfl EZ.e (evc _ _)) fun ABl LF => ?_; clear EZ Sf
  refine n1 (b_9 LF rfl (d_0 ((b_0 ?_))))
  have F2 := X.gkp (gpc 1 (gpc 0 (gpc 2 (gpc 3 (gpc 4 (gpc 5 (gpc 6 gpn))))))); clear X
  have Pf := same_ro F2.tail (i := 4) rfl
  have MC : Sep NoB w O6 [(d_5 false (A 7) lk b.macs), (row (A 3) 46 5 ts1.length (g_4 lr lb ts1)), (blk C 25 [(iv b.scales), (A 3), (A 7)]), (blk G 25 [(iv b.scales), vt, vm]), (d_4 false vt lr lb b.tabs), (d_5 false vm lk b.macs), (sl xl 2 l.length (pairs l))] := sep_macs_ro F2 Pf; clear F2
  have Pn := MC.gkp (gpc 1 (gpc 0 (gpc 2 (gpc 3 (gpc 4 (gpc 5 (gpc 6 gpn))))))); clear MC
  exact ⟨lk, b.macs, LF.as _ rfl, Pn, (FinM.same hcm.2 hb.blks)⟩
 skip
 clear A3 z My
 rintro M0 Uz ⟨lk1, ms1, AH, F3, hfm⟩
 have hml1 := hfm.len
 refine c_4 ?_
 have Lu := fin_ro hft F3.tail (i := 3) rfl
 have c : Sep NoB w Uz [(d_4 false (A 3) lr lb ts1), (d_5 false (A 7) lk1 ms1), (blk C 25 [(iv b.scales), (A 3), (A 7)]), (blk G 25 [(iv b.scales), vt, vm]), (d_4 false vt lr lb b.tabs), (d_5 false vm lk b.macs), (sl xl 2 l.length (pairs l))] := sep_tabs_ro F3 Lu.1 Lu.2; clear F3
 have hc2 := fin_check hc hft hfm; have hb2 := p_0 hc2; have hth2 := fin_thin hth hft hfm; have PK := fin_read hr hft hfm
 rcases spans_or b l with hs | ⟨t, hs⟩
 ·skip
  refine a_5 (s1 AH (c_5 rfl z_5 (AH.ev rfl) (c.bk 3 rfl) (l := [(iv b.scales), vt, vm]) rfl rfl) fun Sg Ea => ?_); clear AH M0
  refine s2 Ea (b_1 rfl en_19 (ev1 Ea.e) (w_0 b vt vm lr lb lk _ (b_8 (c.ok 4 _ rfl)) (c_1 (c.ok 5 _ rfl)) hth)) ?_
  rintro Sh _ AB6 ⟨vt1446, vm1447, lr1448, lb1449, lk1450, rfl, MK⟩ Eb; have F4 := c.u_4 MK rfl; clear MK Ea c Sg
  refine s1 Eb (a_0 rfl Eb.e) fun Si Ec => ?_; clear Eb Sh
  refine s2 Ec (b_1 rfl en_26 (ev1 Ec.e) (p_3 l _ _ (F4.sk 8 rfl) (by omega))) ?_
  rintro Sj ABs AB7 ⟨LX, hO1459⟩ BC; have Ab := F4.y_2 LX hO1459; clear LX hO1459 Ec F4 Si
  refine s2 BC (b_1 rfl en_25 (ev2 BC.e BC.e) (Spans_none b vt1446 vm1447 lr1448 lb1449 lk1450 _ (b_8 (Ab.ok 1 _ rfl)) (c_1 (Ab.ok 2 _ rfl)) hth l _ (SlAt.b_5 (Ab.b_6 0 rfl)) (by omega) hr hs)) ?_
  rintro Sk _ AB8 ⟨rfl, LY⟩ Ed; have f := Ab.step LY; clear LY BC Ab Sj
  refine s1 Ed (a_0 rfl Ed.e) fun Sl Ee => ?_; clear Ed Sk
  refine s1 Ee (d_1 rfl Ee.e rfl) fun Sm Ef => ?_; clear Ee Sl
  refine s1 Ef (d_1 rfl Ef.e rfl) fun Sn Eg => ?_; clear Ef Sm
  refine s1 Eg (a_1 rfl Eg.e) fun So Eh => ?_; clear Eg Sn
  refine s1 Eh (a_1 rfl Eh.e) fun M1 LG => ?_; clear Eh So
  refine n2 ?_
  have AI := LG.as [(26, (iv (spE b l))), (25, (Value.slice none 0 0)), (13, (bptr C 0)), (1, xl)] rfl; clear LG
  rcases less_none (b2 := (finB b ts1 ms1)) (l2 := l) hr PK rfl (fin_less hft hfm) hs with KN | ⟨AB, GD⟩
  ·skip
   have AB : i_9 (finB b ts1 ms1) l ≠ 0 := (by rw [KN]; decide)
   refine a_5 (s1 AI (c_5 rfl z_5 (AI.ev rfl) (f.bk 5 rfl) (l := [(iv b.scales), (A 3), (A 7)]) rfl rfl) fun Sp Ei => ?_); clear AI M1
   refine s2 Ei (b_1 rfl en_19 (ev1 Ei.e) (w_0 (finB b ts1 ms1) (A 3) (A 7) lr lb lk1 _ (b_8 (f.ok 3 _ rfl)) (c_1 (f.ok 4 _ rfl)) hth2)) ?_
   rintro Sq _ AB9 ⟨vt1483, vm1484, lr1485, lb1486, lk1487, rfl, ML⟩ Ej; have F5 := f.u_4 ML rfl; clear ML Ei f Sp
   refine s1 Ej (a_0 rfl Ej.e) fun Sr Ek => ?_; clear Ej Sq
   refine s2 Ek (b_1 rfl en_26 (ev1 Ek.e) (p_3 l _ _ (F5.sk 11 rfl) (by omega))) ?_
   rintro Ss ABt ACA ⟨LZ, hO1496⟩ BD; have Ac := F5.y_2 LZ hO1496; clear LZ hO1496 Ek F5 Sr
   refine s2 BD (b_1 rfl en_25 (ev2 BD.e BD.e) (Spans_bad (finB b ts1 ms1) vt1483 vm1484 lr1485 lb1486 lk1487 _ (b_8 (Ac.ok 1 _ rfl)) (c_1 (Ac.ok 2 _ rfl)) hth2 l _ (SlAt.b_5 (Ac.b_6 0 rfl)) (by omega) AB)) ?_
   rintro St _ ACB ⟨rfl, La⟩ El; have MD := Ac.step La; clear La BD Ac Ss
   refine s1 El (a_0 rfl El.e) fun Su Em => ?_; clear El St
   refine s1 Em (d_1 rfl Em.e rfl) fun Sv En => ?_; clear Em Su
   refine s1 En (d_1 rfl En.e rfl) fun Sw Eo => ?_; clear En Sv
   refine s1 Eo (a_1 rfl Eo.e) fun Sx Ep => ?_; clear Eo Sw
   refine s1 Ep (a_1 rfl Ep.e) fun Sy LH => ?_; clear Ep Sx
   refine n2 ?_
   have Eq := LH.as [(28, (iv (spE (finB b ts1 ms1) l))), (27, (Value.slice none 0 0)), (26, (iv (spE b l))), (25, (Value.slice none 0 0))] rfl; clear LH
   refine a_5 (s1 Eq (a_0 rfl Eq.e) fun Sz Er => ?_); clear Eq Sy
   refine s1 Er (a_0 rfl Er.e) fun S0 Es => ?_; clear Er Sz
   refine s1 Es (a_0 rfl Es.e) fun S1 Et => ?_; clear Es S0
   refine s1 Et (a_0 rfl Et.e) fun S2 AJ => ?_; clear Et S1
   refine s2 AJ (b_1 rfl en_30 (ev4 AJ.e AJ.e AJ.e AJ.e) (u_6 ([]) _ (spE (finB b ts1 ms1) l) ([]) _ (spE b l) _ (s_1 _ 2) (s_1 _ 2) (by first | omega | (simp only [List.length_nil]; omega)))) ?_
   rintro S3 _ ACC ⟨rfl, Lb⟩ BE; have ME := MD.step Lb; clear Lb AJ MD S2
   have P2 : (narB ([]) (spE (finB b ts1 ms1) l) ([]) (spE b l)) = true := (nar_err (.inr ((spE_r AB).trans KN)))
   rw [P2] at BE
   refine s1 BE (a_0 rfl BE.e) fun S4 LI => ?_; clear BE S3
   refine s6 LI (b_1 rfl en_17 ev0 (awake_ok _)) ?_
   rintro S5 _ ACD ⟨rfl, Lc⟩ BF; have Po := ME.step Lc; clear Lc LI ME S4
   refine s1 BF (b_3 rfl BF.e BF.e) fun S6 Eu => ?_; clear BF S5
   refine s1 Eu (a_1 rfl Eu.e) fun ABm LJ => ?_; clear Eu S6
   exact n1 (c_7 (a_7 LJ (.inl rfl) (a_2 LJ rfl (.tmp rfl)) (⟨rfl, Po.ext⟩)))
  skip
  refine a_5 (s1 AI (c_5 rfl z_5 (AI.ev rfl) (f.bk 5 rfl) (l := [(iv b.scales), (A 3), (A 7)]) rfl rfl) fun S7 Ev => ?_); clear AI M1
  refine s2 Ev (b_1 rfl en_19 (ev1 Ev.e) (w_0 (finB b ts1 ms1) (A 3) (A 7) lr lb lk1 _ (b_8 (f.ok 3 _ rfl)) (c_1 (f.ok 4 _ rfl)) hth2)) ?_
  rintro S8 _ ACE ⟨vt1545, vm1546, lr1547, lb1548, lk1549, rfl, MM⟩ Ew; have F6 := f.u_4 MM rfl; clear MM Ev f S7
  refine s1 Ew (a_0 rfl Ew.e) fun S9 Ex => ?_; clear Ew S8
  refine s2 Ex (b_1 rfl en_26 (ev1 Ex.e) (p_3 l _ _ (F6.sk 11 rfl) (by omega))) ?_
  rintro TA ABu ACF ⟨Ld, hO1558⟩ BG; have Ad := F6.y_2 Ld hO1558; clear Ld hO1558 Ex F6 S9
  refine s2 BG (b_1 rfl en_25 (ev2 BG.e BG.e) (Spans_none (finB b ts1 ms1) vt1545 vm1546 lr1547 lb1548 lk1549 _ (b_8 (Ad.ok 1 _ rfl)) (c_1 (Ad.ok 2 _ rfl)) hth2 l _ (SlAt.b_5 (Ad.b_6 0 rfl)) (by omega) AB GD)) ?_
  rintro TB _ ACG ⟨rfl, Le⟩ Ey; have MF := Ad.step Le; clear Le BG Ad TA
  refine s1 Ey (a_0 rfl Ey.e) fun TC Ez => ?_; clear Ey TB
  refine s1 Ez (d_1 rfl Ez.e rfl) fun TD E0 => ?_; clear Ez TC
  refine s1 E0 (d_1 rfl E0.e rfl) fun TE E1 => ?_; clear E0 TD
  refine s1 E1 (a_1 rfl E1.e) fun TF E2 => ?_; clear E1 TE
  refine s1 E2 (a_1 rfl E2.e) fun TG LK => ?_; clear E2 TF
  refine n2 ?_
  have E3 := LK.as [(28, (iv (spE (finB b ts1 ms1) l))), (27, (Value.slice none 0 0)), (26, (iv (spE b l))), (25, (Value.slice none 0 0))] rfl; clear LK
  refine a_5 (s1 E3 (a_0 rfl E3.e) fun TH E4 => ?_); clear E3 TG
  refine s1 E4 (a_0 rfl E4.e) fun TI E5 => ?_; clear E4 TH
  refine s1 E5 (a_0 rfl E5.e) fun TJ E6 => ?_; clear E5 TI
  refine s1 E6 (a_0 rfl E6.e) fun TK AK => ?_; clear E6 TJ
  refine s2 AK (b_1 rfl en_30 (ev4 AK.e AK.e AK.e AK.e) (u_6 ([]) _ (spE (finB b ts1 ms1) l) ([]) _ (spE b l) _ (s_1 _ 2) (s_1 _ 2) (by first | omega | (simp only [List.length_nil]; omega)))) ?_
  rintro TL _ ACH ⟨rfl, Lf⟩ BH; have MG := MF.step Lf; clear Lf AK MF TK
  have P3 : (narB ([]) (spE (finB b ts1 ms1) l) ([]) (spE b l)) = true := (nar_err (.inl (spE_9 AB GD)))
  rw [P3] at BH
  refine s1 BH (a_0 rfl BH.e) fun TM LL => ?_; clear BH TL
  refine s6 LL (b_1 rfl en_17 ev0 (awake_ok _)) ?_
  rintro TN _ ACI ⟨rfl, Lg⟩ BI; have Pp := MG.step Lg; clear Lg LL MG TM
  refine s1 BI (b_3 rfl BI.e BI.e) fun TO E7 => ?_; clear BI TN
  refine s1 E7 (a_1 rfl E7.e) fun ABn LM => ?_; clear E7 TO
  exact n1 (c_7 (a_7 LM (.inl rfl) (a_2 LM rfl (.tmp rfl)) (⟨rfl, Pp.ext⟩)))
 skip
 have htln := sp_len hb hl hs
 refine a_5 (s1 AH (c_5 rfl z_5 (AH.ev rfl) (c.bk 3 rfl) (l := [(iv b.scales), vt, vm]) rfl rfl) fun TP E8 => ?_); clear AH M0
 refine s2 E8 (b_1 rfl en_19 (ev1 E8.e) (w_0 b vt vm lr lb lk _ (b_8 (c.ok 4 _ rfl)) (c_1 (c.ok 5 _ rfl)) hth)) ?_
 rintro TQ _ ACJ ⟨vt1607, vm1608, lr1609, lb1610, lk1611, rfl, MN⟩ E9; have F7 := c.u_4 MN rfl; clear MN E8 c TP
 refine s1 E9 (a_0 rfl E9.e) fun TR FA => ?_; clear E9 TQ
 refine s2 FA (b_1 rfl en_26 (ev1 FA.e) (p_3 l _ _ (F7.sk 8 rfl) (by omega))) ?_
 rintro TS O5 ACK ⟨Lh, hO1620⟩ BJ; have Ae := F7.y_2 Lh hO1620; clear Lh hO1620 FA F7 TR
 refine s2 BJ (b_1 rfl en_25 (ev2 BJ.e BJ.e) (Spans_ok b vt1607 vm1608 lr1609 lb1610 lk1611 _ (b_8 (Ae.ok 1 _ rfl)) (c_1 (Ae.ok 2 _ rfl)) hth l _ (SlAt.b_5 (Ae.b_6 0 rfl)) (by omega) t hr hs)) ?_
 rintro TT _ U0 ⟨Ai, rfl, MO⟩ FB
 have J : Sep NoB w U0 [(row Ai 30 2 t.length (pairs t)), (row O5 98 2 l.length (pairs l)), (d_4 true vt1607 lr1609 lb1610 b.tabs), (d_5 true vm1608 lk1611 b.macs), (d_4 false (A 3) lr lb ts1), (d_5 false (A 7) lk1 ms1), (blk C 25 [(iv b.scales), (A 3), (A 7)]), (blk G 25 [(iv b.scales), vt, vm]), (d_4 false vt lr lb b.tabs), (d_5 false vm lk b.macs), (sl xl 2 l.length (pairs l))] := Ae.u_4 MO rfl; clear MO BJ Ae TS
 refine s1 FB (a_0 rfl FB.e) fun TU FC => ?_; clear FB TT
 refine s1 FC (d_1 rfl FC.e rfl) fun TV FD => ?_; clear FC TU
 refine s1 FD (d_1 rfl FD.e rfl) fun TW FE => ?_; clear FD TV
 refine s1 FE (a_1 rfl FE.e) fun TX FF => ?_; clear FE TW
 refine s1 FF (a_1 rfl FF.e) fun GF LN => ?_; clear FF TX
 refine n2 ?_
 have g := LN.as [(26, (iv 0)), (25, Ai), (13, (bptr C 0)), (1, xl)] rfl; clear LN
 rcases less_some (b2 := (finB b ts1 ms1)) (l2 := l) hr PK rfl (fin_less hft hfm) hs with KN | ⟨AB, GD⟩ | ⟨t', AB, GD, hnr, ht4⟩
 ·skip
  have AB : i_9 (finB b ts1 ms1) l ≠ 0 := (by rw [KN]; decide)
  refine a_5 (s1 g (c_5 rfl z_5 (g.ev rfl) (J.bk 6 rfl) (l := [(iv b.scales), (A 3), (A 7)]) rfl rfl) fun TY FG => ?_); clear g GF
  refine s2 FG (b_1 rfl en_19 (ev1 FG.e) (w_0 (finB b ts1 ms1) (A 3) (A 7) lr lb lk1 _ (b_8 (J.ok 4 _ rfl)) (c_1 (J.ok 5 _ rfl)) hth2)) ?_
  rintro TZ _ ACL ⟨vt1645, vm1646, lr1647, lb1648, lk1649, rfl, MP⟩ FH; have F8 := J.u_4 MP rfl; clear MP FG J TY
  refine s1 FH (a_0 rfl FH.e) fun Ta FI => ?_; clear FH TZ
  refine s2 FI (b_1 rfl en_26 (ev1 FI.e) (p_3 l _ _ (F8.sk 12 rfl) (by omega))) ?_
  rintro Tb ABv ACM ⟨Li, hO1658⟩ BK; have Af := F8.y_2 Li hO1658; clear Li hO1658 FI F8 Ta
  refine s2 BK (b_1 rfl en_25 (ev2 BK.e BK.e) (Spans_bad (finB b ts1 ms1) vt1645 vm1646 lr1647 lb1648 lk1649 _ (b_8 (Af.ok 1 _ rfl)) (c_1 (Af.ok 2 _ rfl)) hth2 l _ (SlAt.b_5 (Af.b_6 0 rfl)) (by omega) AB)) ?_
  rintro Tc _ ACN ⟨rfl, Lj⟩ FJ; have F9 := Af.step Lj; clear Lj BK Af Tb
  refine s1 FJ (a_0 rfl FJ.e) fun Td FK => ?_; clear FJ Tc
  refine s1 FK (d_1 rfl FK.e rfl) fun Te FL => ?_; clear FK Td
  refine s1 FL (d_1 rfl FL.e rfl) fun Tf FM => ?_; clear FL Te
  refine s1 FM (a_1 rfl FM.e) fun Tg FN => ?_; clear FM Tf
  refine s1 FN (a_1 rfl FN.e) fun Th LO => ?_; clear FN Tg
  refine n2 ?_
  have FO := LO.as [(28, (iv (spE (finB b ts1 ms1) l))), (27, (Value.slice none 0 0)), (26, (iv 0)), (25, Ai)] rfl; clear LO
  refine a_5 (s1 FO (a_0 rfl FO.e) fun Ti FP => ?_); clear FO Th
  refine s1 FP (a_0 rfl FP.e) fun Tj FQ => ?_; clear FP Ti
  refine s1 FQ (a_0 rfl FQ.e) fun Tk FSa => ?_; clear FQ Tj
  refine s1 FSa (a_0 rfl FSa.e) fun Tl AL => ?_; clear FSa Tk
  refine s2 AL (b_1 rfl en_30 (ev4 AL.e AL.e AL.e AL.e) (u_6 ([]) _ (spE (finB b ts1 ms1) l) t _ 0 _ (s_1 _ 2) (SlAt.b_5 (F9.b_6 3 rfl)) (by first | omega | (simp only [List.length_nil]; omega)))) ?_
  rintro Tm _ ACO ⟨rfl, Lk⟩ BL; have MH := F9.step Lk; clear Lk AL F9 Tl
  have P4 : (narB ([]) (spE (finB b ts1 ms1) l) t 0) = true := (nar_err (.inr ((spE_r AB).trans KN)))
  rw [P4] at BL
  refine s1 BL (a_0 rfl BL.e) fun Tn LP => ?_; clear BL Tm
  refine s6 LP (b_1 rfl en_17 ev0 (awake_ok _)) ?_
  rintro To _ ACP ⟨rfl, Ll⟩ BM; have Pq := MH.step Ll; clear Ll LP MH Tn
  refine s1 BM (b_3 rfl BM.e BM.e) fun Tp FT => ?_; clear BM To
  refine s1 FT (a_1 rfl FT.e) fun ABo LQ => ?_; clear FT Tp
  exact n1 (c_7 (a_7 LQ (.inl rfl) (a_2 LQ rfl (.tmp rfl)) (⟨rfl, Pq.ext⟩)))
 ·skip
  refine a_5 (s1 g (c_5 rfl z_5 (g.ev rfl) (J.bk 6 rfl) (l := [(iv b.scales), (A 3), (A 7)]) rfl rfl) fun Tq FU => ?_); clear g GF
  refine s2 FU (b_1 rfl en_19 (ev1 FU.e) (w_0 (finB b ts1 ms1) (A 3) (A 7) lr lb lk1 _ (b_8 (J.ok 4 _ rfl)) (c_1 (J.ok 5 _ rfl)) hth2)) ?_
  rintro Tr _ ACQ ⟨vt1707, vm1708, lr1709, lb1710, lk1711, rfl, MQ⟩ FV; have GA := J.u_4 MQ rfl; clear MQ FU J Tq
  refine s1 FV (a_0 rfl FV.e) fun Ts FW => ?_; clear FV Tr
  refine s2 FW (b_1 rfl en_26 (ev1 FW.e) (p_3 l _ _ (GA.sk 12 rfl) (by omega))) ?_
  rintro Tt ABw ACR ⟨Lm, hO1720⟩ BN; have Ag := GA.y_2 Lm hO1720; clear Lm hO1720 FW GA Ts
  refine s2 BN (b_1 rfl en_25 (ev2 BN.e BN.e) (Spans_none (finB b ts1 ms1) vt1707 vm1708 lr1709 lb1710 lk1711 _ (b_8 (Ag.ok 1 _ rfl)) (c_1 (Ag.ok 2 _ rfl)) hth2 l _ (SlAt.b_5 (Ag.b_6 0 rfl)) (by omega) AB GD)) ?_
  rintro Tu _ ACS ⟨rfl, Ln⟩ FX; have GB := Ag.step Ln; clear Ln BN Ag Tt
  refine s1 FX (a_0 rfl FX.e) fun Tv FY => ?_; clear FX Tu
  refine s1 FY (d_1 rfl FY.e rfl) fun Tw FZ => ?_; clear FY Tv
  refine s1 FZ (d_1 rfl FZ.e rfl) fun Tx Fa => ?_; clear FZ Tw
  refine s1 Fa (a_1 rfl Fa.e) fun Ty Fb => ?_; clear Fa Tx
  refine s1 Fb (a_1 rfl Fb.e) fun Tz LR => ?_; clear Fb Ty
  refine n2 ?_
  have Fc := LR.as [(28, (iv (spE (finB b ts1 ms1) l))), (27, (Value.slice none 0 0)), (26, (iv 0)), (25, Ai)] rfl; clear LR
  refine a_5 (s1 Fc (a_0 rfl Fc.e) fun T0 Fd => ?_); clear Fc Tz
  refine s1 Fd (a_0 rfl Fd.e) fun T1 Fe => ?_; clear Fd T0
  refine s1 Fe (a_0 rfl Fe.e) fun T2 Ff => ?_; clear Fe T1
  refine s1 Ff (a_0 rfl Ff.e) fun T3 AM => ?_; clear Ff T2
  refine s2 AM (b_1 rfl en_30 (ev4 AM.e AM.e AM.e AM.e) (u_6 ([]) _ (spE (finB b ts1 ms1) l) t _ 0 _ (s_1 _ 2) (SlAt.b_5 (GB.b_6 3 rfl)) (by first | omega | (simp only [List.length_nil]; omega)))) ?_
  rintro T4 _ ACT ⟨rfl, Lo⟩ BO; have MI := GB.step Lo; clear Lo AM GB T3
  have P5 : (narB ([]) (spE (finB b ts1 ms1) l) t 0) = true := (nar_err (.inl (spE_9 AB GD)))
  rw [P5] at BO
  refine s1 BO (a_0 rfl BO.e) fun T5 LS => ?_; clear BO T4
  refine s6 LS (b_1 rfl en_17 ev0 (awake_ok _)) ?_
  rintro T6 _ ACU ⟨rfl, Lp⟩ BP; have Pr := MI.step Lp; clear Lp LS MI T5
  refine s1 BP (b_3 rfl BP.e BP.e) fun T7 Fg => ?_; clear BP T6
  refine s1 Fg (a_1 rfl Fg.e) fun ABp LT => ?_; clear Fg T7
  exact n1 (c_7 (a_7 LT (.inl rfl) (a_2 LT rfl (.tmp rfl)) (⟨rfl, Pr.ext⟩)))
 skip
 refine a_5 (s1 g (c_5 rfl z_5 (g.ev rfl) (J.bk 6 rfl) (l := [(iv b.scales), (A 3), (A 7)]) rfl rfl) fun T8 Fh => ?_); clear g GF
 refine s2 Fh (b_1 rfl en_19 (ev1 Fh.e) (w_0 (finB b ts1 ms1) (A 3) (A 7) lr lb lk1 _ (b_8 (J.ok 4 _ rfl)) (c_1 (J.ok 5 _ rfl)) hth2)) ?_
 rintro T9 _ ACV ⟨vt1769, vm1770, lr1771, lb1772, lk1773, rfl, MR⟩ Fi; have GC := J.u_4 MR rfl; clear MR Fh J T8
 refine s1 Fi (a_0 rfl Fi.e) fun UA Fj => ?_; clear Fi T9
 refine s2 Fj (b_1 rfl en_26 (ev1 Fj.e) (p_3 l _ _ (GC.sk 12 rfl) (by omega))) ?_
 rintro UB Uv ACW ⟨Lq, hO1782⟩ BQ; have Ah := GC.y_2 Lq hO1782; clear Lq hO1782 Fj GC UA
 refine s2 BQ (b_1 rfl en_25 (ev2 BQ.e BQ.e) (Spans_ok (finB b ts1 ms1) vt1769 vm1770 lr1771 lb1772 lk1773 _ (b_8 (Ah.ok 1 _ rfl)) (c_1 (Ah.ok 2 _ rfl)) hth2 l _ (SlAt.b_5 (Ah.b_6 0 rfl)) (by omega) t' AB GD)) ?_
 rintro UC _ U1 ⟨O4, rfl, MS⟩ Fk
 have Bi : Sep NoB w U1 [(row O4 30 2 t'.length (pairs t')), (row Uv 98 2 l.length (pairs l)), (d_4 true vt1769 lr1771 lb1772 (finB b ts1 ms1).tabs), (d_5 true vm1770 lk1773 (finB b ts1 ms1).macs), (row Ai 30 2 t.length (pairs t)), (row O5 98 2 l.length (pairs l)), (d_4 true vt1607 lr1609 lb1610 b.tabs), (d_5 true vm1608 lk1611 b.macs), (d_4 false (A 3) lr lb ts1), (d_5 false (A 7) lk1 ms1), (blk C 25 [(iv b.scales), (A 3), (A 7)]), (blk G 25 [(iv b.scales), vt, vm]), (d_4 false vt lr lb b.tabs), (d_5 false vm lk b.macs), (sl xl 2 l.length (pairs l))] := Ah.u_4 MS rfl; clear MS BQ Ah UB
 refine s1 Fk (a_0 rfl Fk.e) fun UD Fl => ?_; clear Fk UC
 refine s1 Fl (d_1 rfl Fl.e rfl) fun UE Fm => ?_; clear Fl UD
 refine s1 Fm (d_1 rfl Fm.e rfl) fun UF Fn => ?_; clear Fm UE
 refine s1 Fn (a_1 rfl Fn.e) fun UG Fo => ?_; clear Fn UF
 refine s1 Fo (a_1 rfl Fo.e) fun UH LU => ?_; clear Fo UG
 refine n2 ?_
 have Fp := LU.as [(28, (iv 0)), (27, O4), (26, (iv 0)), (25, Ai)] rfl; clear LU
 refine a_5 (s1 Fp (a_0 rfl Fp.e) fun UI Fq => ?_); clear Fp UH
 refine s1 Fq (a_0 rfl Fq.e) fun UJ Fs => ?_; clear Fq UI
 refine s1 Fs (a_0 rfl Fs.e) fun UK Ft => ?_; clear Fs UJ
 refine s1 Ft (a_0 rfl Ft.e) fun UL AN => ?_; clear Ft UK
 refine s2 AN (b_1 rfl en_30 (ev4 AN.e AN.e AN.e AN.e) (u_6 t' _ 0 t _ 0 _ (SlAt.b_5 (Bi.b_6 0 rfl)) (SlAt.b_5 (Bi.b_6 4 rfl)) (by first | omega | (simp only [List.length_nil]; omega)))) ?_
 rintro UM _ ACX ⟨rfl, Ls⟩ BR; have MJ := Bi.step Ls; clear Ls AN Bi UL
 have P6 : (narB t' 0 t 0) = true := hnr
 rw [P6] at BR
 refine s1 BR (a_0 rfl BR.e) fun UN LV => ?_; clear BR UM
 refine s6 LV (b_1 rfl en_17 ev0 (awake_ok _)) ?_
 rintro UO _ ACY ⟨rfl, Lt⟩ BS; have Ps := MJ.step Lt; clear Lt LV MJ UN
 refine s1 BS (b_3 rfl BS.e BS.e) fun UP Fu => ?_; clear BS UO
 refine s1 Fu (a_1 rfl Fu.e) fun ABq LW => ?_; clear Fu UP
 exact n1 (c_7 (a_7 LW (.inl rfl) (a_2 LW rfl (.tmp rfl)) (⟨rfl, Ps.ext⟩)))
theorem HardFiner_ok (b : g_7) (vt vm : Value) (lr lb lk : Nat → Value) (w : World) (hT : j_9 w vt lr lb b.tabs) (hM : k_7 w vm lk b.macs) (l : List (Int × Int)) (xl : Value) (hxl : SlAt w xl 2 l.length (pairs l)) (wa : Int) (hA_ : 0 ≤ wa ∧ wa ≤ 255) (wb : Int) (hB_ : 0 ≤ wb ∧ wb ≤ 255) (lw : Int) (hL_ : 0 ≤ lw ∧ lw ≤ 65535) (wd : Int) (hD_ : 0 ≤ wd ∧ wd ≤ 65535) : Calls Try.prog 7 #[.agg #[.int .i64 b.scales, vt, vm], xl, .int .u8 wa, .int .u8 wb, .int .u16 lw, .int .u16 wd] w (Ret fun v w' => v = .bool true ∧ Ext NoB w w') := by
 rcases Bool.eq_false_or_eq_true (aa_5 b l) with hf | hf
 ·exact HardFiner_b b vt vm lr lb lk w hT hM l xl hxl wa wb hA_ hB_ lw wd hL_ hD_ hf
 exact HardFiner_a b vt vm lr lb lk w hT hM l xl hxl wa wb hA_ hB_ lw wd hL_ hD_ hf
end Go.Proofs.Ytohgladndklciaa
