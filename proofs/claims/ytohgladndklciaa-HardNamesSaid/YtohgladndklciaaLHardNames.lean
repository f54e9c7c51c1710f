/-
  Walks through the functions of the seat, printed by a program of ours (gowalk), a theorem a function: what the call returns and what it leaves in memory.
-/
import Derived.Test.YtohgladndklciaaBd
set_option linter.unusedSimpArgs false
set_option linter.unusedVariables false
namespace Go.Proofs.Ytohgladndklciaa
open Go.RowKit Go.Shelf Go.Eng Go.Hard
set_option maxHeartbeats 8000000 in
theorem HardNames_ok (w : World) :
  Calls Try.prog 15 #[] w (Ret fun v w' => v = .bool true ∧ Ext NoB w w') := by
 refine a_7 Try.func15 rfl fun a0 CU => ?_
 replace CU : Fr 304 [] [] a0 := CU
 have GE : Sep NoB w w [] := Sep.start _ _
 refine m2 (s1 CU (a_0 rfl (evc _ _)) fun a1 GD => ?_); clear CU a0
 refine n4 (s2 GD (a_8 rfl u_9 ev0 (n_5 _)) ?_)
 rintro a3 _ w5 ⟨vt6, vm7, lr8, lb9, lk10, rfl, FU⟩ E7; have CD := GE.n_2 FU rfl; clear FU GD GE a1
 refine s2 E7 (a_8 rfl en_33 (ev2 E7.e (evc _ _)) (Bias_ok a_9 vt6 vm7 lr8 lb9 lk10 _ (c_5 (CD.ok 0 _ rfl)) (d_1 (CD.ok 1 _ rfl)) i_4 1)) ?_
 rintro JB _ Kv ⟨rfl, FD⟩ CK; have FG := CD.step FD; clear FD E7 CD a3
 refine s1 CK (a_1 rfl CK.e) fun JC CL => ?_; clear CK JB
 refine s1 CL (b_2 rfl CL.e rfl) fun JD CM => ?_; clear CL JC
 refine s1 CM (b_2 rfl CM.e rfl) fun JE E3 => ?_; clear CM JD
 refine s2 E3 (d_2 FG rfl t_7 (cs := [(iv 0), (iv 0)]) rfl) ?_
 rintro JF _ Kw ⟨s, rfl, FH⟩ BD; clear E3 FG JE
 refine s7 BD (b_4 FH rfl f_1 BD.e BD.e (i := 0) rfl (vs := [(iv ((m_1 a_9 1).1)), (iv ((m_1 a_9 1).2))]) rfl rfl rfl (Nat.le_of_ble_eq_true rfl)) ?_
 intro _ Jm FI CN; clear BD
 have FJ : Sep NoB w Jm [(blk s 30 [(iv ((m_1 a_9 1).1)), (iv ((m_1 a_9 1).2))]), (c_0 true vt6 lr8 lb9 a_9.tabs), (c_3 true vm7 lk10 a_9.macs)] := FI; clear FI FH
 refine s1 CN (a_0 rfl CN.e) fun JG E4 => ?_; clear CN JF
 refine n2 ?_
 have E5 := E4.as [(2, (iv (l_1 a_9 1))), (1, (bptr s 0))] rfl; clear E4
 have FK := FJ.gkp (gpc 0 gpn); clear FJ
 refine a_5 (s2 E5 (a_8 rfl u_9 ev0 (n_5 _)) ?_)
 rintro JH _ Kx ⟨vt40, vm41, lr42, lb43, lk44, rfl, FV⟩ E6; have FL := FK.n_2 FV rfl; clear FV E5 FK JG
 refine s2 E6 (a_8 rfl t_6 (ev2 (evc _ _) (evc _ _)) (f_8 _ _ _)) ?_
 rintro JI _ Ky ⟨rfl, FE⟩ Bl; have CH := FL.step FE; clear FE E6 FL JH
 refine s2 Bl (a_8 rfl en_18 (ev3 Bl.e (evc _ _) Bl.e) (u_7 a_9 vt40 vm41 lr42 lb43 lk44 _ (c_5 (CH.ok 0 _ rfl)) (d_1 (CH.ok 1 _ rfl)) i_4 0 300 300)) ?_
 rintro JJ _ Kz ⟨rfl, FF⟩ CO; have FM := CH.step FF; clear FF Bl CH JI
 refine s1 CO (a_1 rfl CO.e) fun JK CP => ?_; clear CO JJ
 refine s1 CP (b_2 rfl CP.e rfl) fun JL CQ => ?_; clear CP JK
 refine s1 CQ (b_2 rfl CQ.e rfl) fun JM E8 => ?_; clear CQ JL
 refine s2 E8 (d_2 FM rfl t_7 (cs := [(iv 0), (iv 0)]) rfl) ?_
 rintro JN _ K0 ⟨AD, rfl, FN⟩ CA; clear E8 FM JM
 refine s7 CA (b_4 FN rfl f_1 CA.e CA.e (i := 0) rfl (vs := [(iv ((j_3 a_9 0 (300, 300)).1)), (iv ((j_3 a_9 0 (300, 300)).2))]) rfl rfl rfl (Nat.le_of_ble_eq_true rfl)) ?_
 intro _ Jn FO CR; clear CA
 have FP : Sep NoB w Jn [(blk AD 30 [(iv ((j_3 a_9 0 (300, 300)).1)), (iv ((j_3 a_9 0 (300, 300)).2))]), (c_0 true vt40 lr42 lb43 a_9.tabs), (c_3 true vm41 lk44 a_9.macs), (blk s 30 [(iv ((m_1 a_9 1).1)), (iv ((m_1 a_9 1).2))])] := FO; clear FO FN
 refine s1 CR (a_0 rfl CR.e) fun JO E9 => ?_; clear CR JN
 refine n2 ?_
 have FA := E9.as [(4, (iv (i_0 a_9 0 (300, 300)))), (3, (bptr AD 0)), (2, (iv (l_1 a_9 1))), (1, (bptr s 0))] rfl; clear E9
 have FQ := FP.gkp (gpc 0 (gpc 3 gpn)); clear FP
 refine a_5 (s2 FA (a_8 rfl u_9 ev0 (n_5 _)) ?_)
 rintro JP _ K1 ⟨vt79, vm80, lr81, lb82, lk83, rfl, FW⟩ FB; have FSa := FQ.n_2 FW rfl; clear FW FA FQ JO
 refine s1 FB (c_7 rfl (pv2 (evc _ _) (evc _ _)) (i_6 _ _)) fun JQ FC => ?_; clear FB JP
 refine s1 FC (c_7 rfl (pv2 (evc _ _) (evc _ _)) (i_6 _ _)) fun JR CB => ?_; clear FC JQ
 refine s2 CB (d_7 FSa rfl (pv2 CB.e CB.e) l_3 o_7 y_0 (by decide) (cs := [(iv 0), (iv 170), (iv 1), (iv 265)]) (o_9 _ _ _ _)) ?_
 rintro JS _ K2 ⟨JU, rfl, Ac⟩ CC; clear CB FSa JR
 refine s2 CC (a_8 rfl en_25 (ev2 CC.e CC.e) (Spans_ok a_9 vt79 vm80 lr81 lb82 lk83 _ (c_5 (Ac.ok 1 _ rfl)) (d_1 (Ac.ok 2 _ rfl)) i_4 ([(0, 170), (1, 265)]) _ (SlAt.of_blk (Ac.bk 0 rfl) rfl (Nat.le_of_ble_eq_true rfl)) (by decide) ([(161, 164), (266, 266), (83, 84)]) nm_read2 nm_spans2)) ?_
 rintro JT _ Jo ⟨g, rfl, FX⟩ CS
 have FT : Sep NoB w Jo [(row g 30 2 ([(161, 164), (266, 266), (83, 84)].length) (pairs ([(161, 164), (266, 266), (83, 84)]))), (blk JU 98 [(iv 0), (iv 170), (iv 1), (iv 265)]), (c_0 true vt79 lr81 lb82 a_9.tabs), (c_3 true vm80 lk83 a_9.macs), (blk AD 30 [(iv ((j_3 a_9 0 (300, 300)).1)), (iv ((j_3 a_9 0 (300, 300)).2))]), (blk s 30 [(iv ((m_1 a_9 1).1)), (iv ((m_1 a_9 1).2))])] := Ac.n_2 FX rfl; clear FX CC Ac JS
 refine s1 CS (a_1 rfl CS.e) fun GG Ae => ?_; clear CS JT
 refine s1 Ae (b_2 rfl Ae.e rfl) fun GH Af => ?_; clear Ae GG
 refine s1 Af (b_2 rfl Af.e rfl) fun GI Ag => ?_; clear Af GH
 refine s1 Ag (a_0 rfl Ag.e) fun GJ Ah => ?_; clear Ag GI
 refine s1 Ah (a_0 rfl Ah.e) fun GK CV => ?_; clear Ah GJ
 refine n2 ?_
 have CW := CV.as [(6, (iv 0)), (5, g), (4, (iv (i_0 a_9 0 (300, 300)))), (3, (bptr AD 0)), (2, (iv (l_1 a_9 1))), (1, (bptr s 0))] rfl; clear CV
 have DV := FT.gkp (gpc 0 (gpc 4 (gpc 5 gpn))); clear FT
 refine a_5 (s2 CW (a_8 rfl u_9 ev0 (n_5 _)) ?_)
 rintro GL _ KH ⟨vt116, vm117, lr118, lb119, lk120, rfl, Eg⟩ CX; have DW := DV.n_2 Eg rfl; clear Eg CW DV GK
 refine s1 CX (c_7 rfl (pv2 (evc _ _) (evc _ _)) (i_6 _ _)) fun GM CY => ?_; clear CX GL
 refine s1 CY (c_7 rfl (pv2 (evc _ _) (evc _ _)) (i_6 _ _)) fun GN AE => ?_; clear CY GM
 refine s2 AE (d_7 DW rfl (pv2 AE.e AE.e) l_3 o_7 y_0 (by decide) (cs := [(iv 0), (iv 170), (iv 1), (iv 280)]) (o_9 _ _ _ _)) ?_
 rintro GO _ KI ⟨IG, rfl, u⟩ AF; clear AE DW GN
 refine s2 AF (a_8 rfl en_41 (ev2 AF.e AF.e) (Doubt_ok a_9 vt116 vm117 lr118 lb119 lk120 _ (c_5 (u.ok 1 _ rfl)) (d_1 (u.ok 2 _ rfl)) i_4 ([(0, 170), (1, 280)]) _ (SlAt.of_blk (u.bk 0 rfl) rfl (Nat.le_of_ble_eq_true rfl)) (by decide) nm_read3)) ?_
 rintro GP _ Ix ⟨Ad, rfl, Eh⟩ Ai
 have DX : Sep NoB w Ix [(row Ad 3 1 ((x_4 a_9 ([(0, 170), (1, 280)])).length) (ints (x_4 a_9 ([(0, 170), (1, 280)])))), (blk IG 98 [(iv 0), (iv 170), (iv 1), (iv 280)]), (c_0 true vt116 lr118 lb119 a_9.tabs), (c_3 true vm117 lk120 a_9.macs), (row g 30 2 ([(161, 164), (266, 266), (83, 84)].length) (pairs ([(161, 164), (266, 266), (83, 84)]))), (blk AD 30 [(iv ((j_3 a_9 0 (300, 300)).1)), (iv ((j_3 a_9 0 (300, 300)).2))]), (blk s 30 [(iv ((m_1 a_9 1).1)), (iv ((m_1 a_9 1).2))])] := u.n_2 Eh rfl; clear Eh AF u GO
 refine s1 Ai (a_1 rfl Ai.e) fun GQ Aj => ?_; clear Ai GP
 refine s1 Aj (b_2 rfl Aj.e rfl) fun GR Ak => ?_; clear Aj GQ
 refine s1 Ak (b_2 rfl Ak.e rfl) fun GS Al => ?_; clear Ak GR
 refine s1 Al (a_0 rfl Al.e) fun GT Am => ?_; clear Al GS
 refine s1 Am (a_0 rfl Am.e) fun Jq CZ => ?_; clear Am GT
 refine n2 (d_3 ?_)
 have Ca := CZ.as [(8, (iv 0)), (7, Ad), (6, (iv 0)), (5, g), (4, (iv (i_0 a_9 0 (300, 300)))), (3, (bptr AD 0)), (2, (iv (l_1 a_9 1))), (1, (bptr s 0))] rfl; clear CZ
 have DY := DX.gkp (gpc 0 (gpc 4 (gpc 5 (gpc 6 gpn)))); clear DX
 have Cb := Ca.as [(8, (iv 0)), (7, Ad), (6, (iv 0)), (5, g), (4, (iv (i_0 a_9 0 (300, 300)))), (3, (bptr AD 0)), (2, (iv (l_1 a_9 1))), (1, (bptr s 0))] rfl; clear Ca
 refine c_drawV mixed Cb DY 78 [[], [0], [1], [2], [2], [2, 3, 4], [2, 5], [6], [7], [7, 8], [7, 9], [10], [11], [11], [11, 12, 13], [11, 14], [15], [16], [16, 17], [16, 18], [19], [20], [20, 21], [20, 22], [20, 23], [24], [25], [25, 26], [25, 27], [25], [25, 28, 29], [25, 30], [31], [32], [32, 33], [32, 34], [32], [32, 35, 36], [32, 37], [38], [39], [39, 40], [39, 41], [39], [39, 42, 43], [39, 44], [45], [46], [46, 47], [46, 48], [49], [50], [50], [50, 51, 52], [50, 53], [50, 54], [55], [56], [56], [56, 58], [56], [56, 57, 59, 60], [56, 61], [56, 62], [63], [64], [64], [64, 66], [64], [64, 65, 67, 68], [64, 69], [70], [71], [71], [71, 73], [71], [71, 72, 74, 75], [71, 76]] [(yw (iv (l_1 a_9 1))), (yw (Value.bool (!true))), (yw (Value.bool (!true))), (yw (Value.agg #[(iv ((m_1 a_9 1).1)), (iv ((m_1 a_9 1).2))])), (yw (Value.agg #[(iv (-1)), (iv (-1))])), (yw (Value.bool (!true))), (yw (Value.bool (!true))), (yw (Value.bool (!true))), (yw (iv (i_0 a_9 0 (300, 300)))), (yw (Value.bool (!true))), (yw (Value.bool (!true))), (yw (Value.bool (!true))), (yw (Value.agg #[(iv ((j_3 a_9 0 (300, 300)).1)), (iv ((j_3 a_9 0 (300, 300)).2))])), (yw (Value.agg #[(iv 498), (iv 502)])), (yw (Value.bool (!true))), (yw (Value.bool (!true))), (yw (Value.bool (!true))), (yw (iv 0)), (yw (Value.bool false)), (yw (Value.bool false)), (yw (Value.bool false)), (yw g), (yw (iv ([(161, 164), (266, 266), (83, 84)].length : Int))), (yw (Value.bool (!true))), (yw (Value.bool (!true))), (yw (Value.bool (!true))), (yw g), (yw (eptr g (0 * 2))), (yw (Value.agg #[(iv ((([(161, 164), (266, 266), (83, 84)]).getD 0 (0, 0)).1)), (iv ((([(161, 164), (266, 266), (83, 84)]).getD 0 (0, 0)).2))])), (yw (Value.agg #[(iv 161), (iv 164)])), (yw (Value.bool (!true))), (yw (Value.bool (!true))), (yw (Value.bool (!true))), (yw g), (yw (eptr g (1 * 2))), (yw (Value.agg #[(iv ((([(161, 164), (266, 266), (83, 84)]).getD 1 (0, 0)).1)), (iv ((([(161, 164), (266, 266), (83, 84)]).getD 1 (0, 0)).2))])), (yw (Value.agg #[(iv 266), (iv 266)])), (yw (Value.bool (!true))), (yw (Value.bool (!true))), (yw (Value.bool (!true))), (yw g), (yw (eptr g (2 * 2))), (yw (Value.agg #[(iv ((([(161, 164), (266, 266), (83, 84)]).getD 2 (0, 0)).1)), (iv ((([(161, 164), (266, 266), (83, 84)]).getD 2 (0, 0)).2))])), (yw (Value.agg #[(iv 83), (iv 84)])), (yw (Value.bool (!true))), (yw (Value.bool (!true))), (yw (Value.bool (!true))), (yw (iv 0)), (yw (Value.bool false)), (yw (Value.bool false)), (yw (Value.bool false)), (yw Ad), (fun (A : Nat → Value) (v_ : Value) (rs_ : List Res) => True ∧ rs_ = [(row v_ 3 1 1 [(iv 0)])]), (yw (Value.bool true)), (yw (Value.bool (!true))), (yw (Value.bool (!true))), (yw (Value.bool (!true))), (fun (A : Nat → Value) (v_ : Value) (rs_ : List Res) => ∃ (vt57_ : Value), ∃ (vm57_ : Value), ∃ (lr57_ : Nat → Value), ∃ (lb57_ : Nat → Value), ∃ (lk57_ : Nat → Value), v_ = (Value.agg #[(iv a_9.scales), vt57_, vm57_]) ∧ rs_ = [(c_0 true vt57_ lr57_ lb57_ a_9.tabs), (c_3 true vm57_ lk57_ a_9.macs)]), (yw (Value.agg #[(iv 0), (iv 170)])), (fun (A : Nat → Value) (v_ : Value) (rs_ : List Res) => True ∧ rs_ = [(row v_ 98 2 1 [(iv 0), (iv 170)])]), (fun (A : Nat → Value) (v_ : Value) (rs_ : List Res) => True ∧ rs_ = [(row v_ 3 1 3 [(iv 162), (iv 260), (iv 86)])]), (yw (Value.bool true)), (yw (Value.bool (!true))), (yw (Value.bool (!true))), (yw (Value.bool (!true))), (fun (A : Nat → Value) (v_ : Value) (rs_ : List Res) => ∃ (vt65_ : Value), ∃ (vm65_ : Value), ∃ (lr65_ : Nat → Value), ∃ (lb65_ : Nat → Value), ∃ (lk65_ : Nat → Value), v_ = (Value.agg #[(iv a_9.scales), vt65_, vm65_]) ∧ rs_ = [(c_0 true vt65_ lr65_ lb65_ a_9.tabs), (c_3 true vm65_ lk65_ a_9.macs)]), (yw (Value.agg #[(iv 0), (iv 170)])), (fun (A : Nat → Value) (v_ : Value) (rs_ : List Res) => True ∧ rs_ = [(row v_ 98 2 1 [(iv 0), (iv 170)])]), (fun (A : Nat → Value) (v_ : Value) (rs_ : List Res) => True ∧ rs_ = [(row v_ 3 1 3 [(iv 162), (iv 260), (iv 85)])]), (yw (Value.bool false)), (yw (Value.bool false)), (yw (Value.bool false)), (fun (A : Nat → Value) (v_ : Value) (rs_ : List Res) => ∃ (vt72_ : Value), ∃ (vm72_ : Value), ∃ (lr72_ : Nat → Value), ∃ (lb72_ : Nat → Value), ∃ (lk72_ : Nat → Value), v_ = (Value.agg #[(iv a_9.scales), vt72_, vm72_]) ∧ rs_ = [(c_0 true vt72_ lr72_ lb72_ a_9.tabs), (c_3 true vm72_ lk72_ a_9.macs)]), (yw (Value.agg #[(iv 0), (iv 170)])), (fun (A : Nat → Value) (v_ : Value) (rs_ : List Res) => True ∧ rs_ = [(row v_ 98 2 1 [(iv 0), (iv 170)])]), (fun (A : Nat → Value) (v_ : Value) (rs_ : List Res) => True ∧ rs_ = [(row v_ 3 1 2 [(iv 162), (iv 260)])]), (yw (Value.bool false)), (yw (Value.bool false))] (by decide +kernel) (by decide +kernel) rfl rfl ⟨dw, dw, dw, dw, dw, dw, dw, dw, dw, dw, dw, dw, dw, dw, dw, dw, dw, dw, dw, dw, dw, dw, dw, dw, dw, dw, dw, dw, dw, dw, dw, dw, dw, dw, dw, dw, dw, dw, dw, dw, dw, dw, dw, dw, dw, dw, dw, dw, dw, dw, dw, dw, (fun _ _ _ _ _ h_ => h_), dw, dw, dw, dw, (fun _ _ _ _ _ h_ => h_), dw, (fun _ _ _ _ _ h_ => h_), (fun _ _ _ _ _ h_ => h_), dw, dw, dw, dw, (fun _ _ _ _ _ h_ => h_), dw, (fun _ _ _ _ _ h_ => h_), (fun _ _ _ _ _ h_ => h_), dw, dw, dw, (fun _ _ _ _ _ h_ => h_), dw, (fun _ _ _ _ _ h_ => h_), (fun _ _ _ _ _ h_ => h_), dw, dw, trivial⟩ ?_ ?_
 ·skip
  refine ⟨fun a w A hA hS hd => gv1 (a_1 rfl hA.e), ?_⟩
  refine ⟨fun a w A hA hS hd => gv2 (o_5 rfl (gu hd 0) (evc _ _)) (And.intro (by show Value.bool _ = _; simp only [decide_eq_true (show (l_1 a_9 1) = 0 from (by decide +kernel)), decide_true, decide_false, Bool.not_true, Bool.not_false]) rfl), ?_⟩
  refine ⟨fun a w A hA hS hd => gv1 (a_1 rfl (gu hd 1)), ?_⟩
  refine ⟨fun a w A hA hS hd => gy1 hd 2 (b_9 rfl f_1 (hA.ev rfl) (hS.bk 3 rfl) (l := [(iv ((m_1 a_9 1).1)), (iv ((m_1 a_9 1).2))]) rfl rfl), ?_⟩
  refine ⟨fun a w A hA hS hd => d_9 rfl rfl (gut hd 2 (by decide) rfl (fun _ h => And.left h)) (vx (a_8 rfl t_6 (ev2 (evc _ _) (evc _ _)) (f_8 _ _ _)) (And.intro rfl rfl)), ?_⟩
  refine ⟨fun a w A hA hS hd => gy2 hd 2 (op_neqP z_0 rfl (gu hd 3) (gu hd 4)) (And.intro (by show Value.bool _ = _; simp only [(show (decide ((((m_1 a_9 1).1) : Int) = (-1)) && decide ((((m_1 a_9 1).2) : Int) = (-1))) = true from (by decide +kernel)), decide_true, decide_false, Bool.not_true, Bool.not_false]) rfl), ?_⟩
  refine ⟨fun a w A hA hS hd => gv1 (e_0 rfl (gu hd 2) (gu hd 5)), ?_⟩
  refine ⟨fun a w A hA hS hd => gv1 (a_1 rfl (gu hd 6)), ?_⟩
  refine ⟨fun a w A hA hS hd => gy1 hd 7 (a_1 rfl hA.e), ?_⟩
  refine ⟨fun a w A hA hS hd => gy2 hd 7 (o_5 rfl (gu hd 8) (evc _ _)) (And.intro (by show Value.bool _ = _; simp only [decide_eq_true (show (i_0 a_9 0 (300, 300)) = 0 from (by decide +kernel)), decide_true, decide_false, Bool.not_true, Bool.not_false]) rfl), ?_⟩
  refine ⟨fun a w A hA hS hd => gv1 (e_0 rfl (gu hd 7) (gu hd 9)), ?_⟩
  refine ⟨fun a w A hA hS hd => gv1 (a_1 rfl (gu hd 10)), ?_⟩
  refine ⟨fun a w A hA hS hd => gy1 hd 11 (b_9 rfl f_1 (hA.ev rfl) (hS.bk 2 rfl) (l := [(iv ((j_3 a_9 0 (300, 300)).1)), (iv ((j_3 a_9 0 (300, 300)).2))]) rfl rfl), ?_⟩
  refine ⟨fun a w A hA hS hd => d_9 rfl rfl (gut hd 11 (by decide) rfl (fun _ h => And.left h)) (vx (a_8 rfl t_6 (ev2 (evc _ _) (evc _ _)) (f_8 _ _ _)) (And.intro rfl rfl)), ?_⟩
  refine ⟨fun a w A hA hS hd => gy2 hd 11 (op_neqP z_0 rfl (gu hd 12) (gu hd 13)) (And.intro (by show Value.bool _ = _; simp only [(show (decide ((((j_3 a_9 0 (300, 300)).1) : Int) = 498) && decide ((((j_3 a_9 0 (300, 300)).2) : Int) = 502)) = true from (by decide +kernel)), decide_true, decide_false, Bool.not_true, Bool.not_false]) rfl), ?_⟩
  refine ⟨fun a w A hA hS hd => gv1 (e_0 rfl (gu hd 11) (gu hd 14)), ?_⟩
  refine ⟨fun a w A hA hS hd => gv1 (a_1 rfl (gu hd 15)), ?_⟩
  refine ⟨fun a w A hA hS hd => gy1 hd 16 (a_1 rfl hA.e), ?_⟩
  refine ⟨fun a w A hA hS hd => gy1 hd 16 (o_5 rfl (gu hd 17) (evc _ _)), ?_⟩
  refine ⟨fun a w A hA hS hd => gv1 (e_0 rfl (gu hd 16) (gu hd 18)), ?_⟩
  refine ⟨fun a w A hA hS hd => gv1 (a_1 rfl (gu hd 19)), ?_⟩
  refine ⟨fun a w A hA hS hd => gy1 hd 20 (a_1 rfl hA.e), ?_⟩
  refine ⟨fun a w A hA hS hd => gy1 hd 20 (e_8 rfl x_9 (gu hd 21) (SlAt.e_4 (hS.f_2 1 rfl))), ?_⟩
  refine ⟨fun a w A hA hS hd => gy2 hd 20 (o_5 rfl (gu hd 22) (evc _ _)) (And.intro (by show Value.bool _ = _; simp only [decide_eq_true (show ([(161, 164), (266, 266), (83, 84)].length : Int) = 3 from (by decide +kernel)), decide_true, decide_false, Bool.not_true, Bool.not_false]) rfl), ?_⟩
  refine ⟨fun a w A hA hS hd => gv1 (e_0 rfl (gu hd 20) (gu hd 23)), ?_⟩
  refine ⟨fun a w A hA hS hd => gv1 (a_1 rfl (gu hd 24)), ?_⟩
  refine ⟨fun a w A hA hS hd => gy1 hd 25 (a_1 rfl hA.e), ?_⟩
  refine ⟨fun a w A hA hS hd => gy1 hd 25 (b_6 rfl x_9 f_1 (gu hd 26) (i := 0) (show _ = Value.int .i64 ((0 : Nat) : Int) from (evc _ _)) (SlAt.e_4 (hS.f_2 1 rfl)) (by decide) (by decide)), ?_⟩
  refine ⟨fun a w A hA hS hd => gy1 hd 25 (e_7 rfl f_1 (gu hd 27) (SlAt.e_4 (hS.f_2 1 rfl)) (g_1 (by decide)) rfl (by decide)), ?_⟩
  refine ⟨fun a w A hA hS hd => d_9 rfl rfl (gut hd 25 (by decide) rfl (fun _ h => And.left h)) (vx (a_8 rfl t_6 (ev2 (evc _ _) (evc _ _)) (f_8 _ _ _)) (And.intro rfl rfl)), ?_⟩
  refine ⟨fun a w A hA hS hd => gy2 hd 25 (op_neqP z_0 rfl (gu hd 28) (gu hd 29)) (And.intro (by show Value.bool _ = _; simp only [(show (decide ((((([(161, 164), (266, 266), (83, 84)]).getD 0 (0, 0)).1) : Int) = 161) && decide ((((([(161, 164), (266, 266), (83, 84)]).getD 0 (0, 0)).2) : Int) = 164)) = true from (by decide +kernel)), decide_true, decide_false, Bool.not_true, Bool.not_false]) rfl), ?_⟩
  refine ⟨fun a w A hA hS hd => gv1 (e_0 rfl (gu hd 25) (gu hd 30)), ?_⟩
  refine ⟨fun a w A hA hS hd => gv1 (a_1 rfl (gu hd 31)), ?_⟩
  refine ⟨fun a w A hA hS hd => gy1 hd 32 (a_1 rfl hA.e), ?_⟩
  refine ⟨fun a w A hA hS hd => gy1 hd 32 (b_6 rfl x_9 f_1 (gu hd 33) (i := 1) (show _ = Value.int .i64 ((1 : Nat) : Int) from (evc _ _)) (SlAt.e_4 (hS.f_2 1 rfl)) (by decide) (by decide)), ?_⟩
  refine ⟨fun a w A hA hS hd => gy1 hd 32 (e_7 rfl f_1 (gu hd 34) (SlAt.e_4 (hS.f_2 1 rfl)) (g_1 (by decide)) rfl (by decide)), ?_⟩
  refine ⟨fun a w A hA hS hd => d_9 rfl rfl (gut hd 32 (by decide) rfl (fun _ h => And.left h)) (vx (a_8 rfl t_6 (ev2 (evc _ _) (evc _ _)) (f_8 _ _ _)) (And.intro rfl rfl)), ?_⟩
  refine ⟨fun a w A hA hS hd => gy2 hd 32 (op_neqP z_0 rfl (gu hd 35) (gu hd 36)) (And.intro (by show Value.bool _ = _; simp only [(show (decide ((((([(161, 164), (266, 266), (83, 84)]).getD 1 (0, 0)).1) : Int) = 266) && decide ((((([(161, 164), (266, 266), (83, 84)]).getD 1 (0, 0)).2) : Int) = 266)) = true from (by decide +kernel)), decide_true, decide_false, Bool.not_true, Bool.not_false]) rfl), ?_⟩
  refine ⟨fun a w A hA hS hd => gv1 (e_0 rfl (gu hd 32) (gu hd 37)), ?_⟩
  refine ⟨fun a w A hA hS hd => gv1 (a_1 rfl (gu hd 38)), ?_⟩
  refine ⟨fun a w A hA hS hd => gy1 hd 39 (a_1 rfl hA.e), ?_⟩
  refine ⟨fun a w A hA hS hd => gy1 hd 39 (b_6 rfl x_9 f_1 (gu hd 40) (i := 2) (show _ = Value.int .i64 ((2 : Nat) : Int) from (evc _ _)) (SlAt.e_4 (hS.f_2 1 rfl)) (by decide) (by decide)), ?_⟩
  refine ⟨fun a w A hA hS hd => gy1 hd 39 (e_7 rfl f_1 (gu hd 41) (SlAt.e_4 (hS.f_2 1 rfl)) (g_1 (by decide)) rfl (by decide)), ?_⟩
  refine ⟨fun a w A hA hS hd => d_9 rfl rfl (gut hd 39 (by decide) rfl (fun _ h => And.left h)) (vx (a_8 rfl t_6 (ev2 (evc _ _) (evc _ _)) (f_8 _ _ _)) (And.intro rfl rfl)), ?_⟩
  refine ⟨fun a w A hA hS hd => gy2 hd 39 (op_neqP z_0 rfl (gu hd 42) (gu hd 43)) (And.intro (by show Value.bool _ = _; simp only [(show (decide ((((([(161, 164), (266, 266), (83, 84)]).getD 2 (0, 0)).1) : Int) = 83) && decide ((((([(161, 164), (266, 266), (83, 84)]).getD 2 (0, 0)).2) : Int) = 84)) = true from (by decide +kernel)), decide_true, decide_false, Bool.not_true, Bool.not_false]) rfl), ?_⟩
  refine ⟨fun a w A hA hS hd => gv1 (e_0 rfl (gu hd 39) (gu hd 44)), ?_⟩
  refine ⟨fun a w A hA hS hd => gv1 (a_1 rfl (gu hd 45)), ?_⟩
  refine ⟨fun a w A hA hS hd => gy1 hd 46 (a_1 rfl hA.e), ?_⟩
  refine ⟨fun a w A hA hS hd => gy1 hd 46 (o_5 rfl (gu hd 47) (evc _ _)), ?_⟩
  refine ⟨fun a w A hA hS hd => gv1 (e_0 rfl (gu hd 46) (gu hd 48)), ?_⟩
  refine ⟨fun a w A hA hS hd => gv1 (a_1 rfl (gu hd 49)), ?_⟩
  refine ⟨fun a w A hA hS hd => gy1 hd 50 (a_1 rfl hA.e), ?_⟩
  refine ⟨fun a w A hA hS hd => d_9 rfl rfl (gut hd 50 (by decide) rfl (fun _ h => And.left h)) (vblt rfl (pv1 (evc _ _)) j_6 ty_3 ze_3 (by decide) (cs := [(iv 0)]) (s_6 _) rfl (by decide) (fun _ => And.intro trivial rfl)), ?_⟩
  refine ⟨fun a w A hA hS hd => ?_, ?_⟩
  ·skip
   obtain ⟨JW, J7, Ik, IK⟩ := hd 52 (by decide)
   obtain ⟨J0, IR⟩ := Ik; subst IR
   have hp52_0 := IK _ (List.mem_of_getElem? (i := 0) rfl)
   exact d_9 rfl rfl (gut hd 50 (by decide) rfl (fun _ h => And.left h)) (vx (a_8 rfl en_36 (ev2 (gu hd 51) (c_1 (f_4 JW rfl))) (ints_ok (x_4 a_9 ([(0, 170), (1, 280)])) _ _ (SlAt.e_4 (hS.f_2 0 rfl)) ([0]) _ (SlAt.e_4 hp52_0) (by decide))) (And.intro (by show Value.bool _ = _; simp only [(show (decide ((x_4 a_9 ([(0, 170), (1, 280)])) = [0])) = true from (by decide +kernel)), decide_true, decide_false, Bool.not_true, Bool.not_false]) rfl))
  refine ⟨fun a w A hA hS hd => gy1 hd 50 (g_0 rfl (gu hd 53)), ?_⟩
  refine ⟨fun a w A hA hS hd => gv1 (e_0 rfl (gu hd 50) (gu hd 54)), ?_⟩
  refine ⟨fun a w A hA hS hd => gv1 (a_1 rfl (gu hd 55)), ?_⟩
  refine ⟨fun a w A hA hS hd => d_9 rfl rfl (gut hd 56 (by decide) rfl (fun _ h => And.left h)) (vn (a_8 rfl u_9 ev0 (n_5 _)) (fun v w' h => by obtain ⟨vt, vm, lr, lb, lk, rfl, hT⟩ := h; exact ⟨_, ⟨vt, vm, lr, lb, lk, rfl, rfl⟩, hT, rfl⟩)), ?_⟩
  refine ⟨fun a w A hA hS hd => gy1 hd 56 (c_7 rfl (pv2 (evc _ _) (evc _ _)) (i_6 _ _)), ?_⟩
  refine ⟨fun a w A hA hS hd => d_9 rfl rfl (gut hd 56 (by decide) rfl (fun _ h => And.left h)) (vblt rfl (pv1 (gu hd 58)) l_3 o_7 y_0 (by decide) (cs := [(iv 0), (iv 170)]) (j_2 _ _) rfl (by decide) (fun _ => And.intro trivial rfl)), ?_⟩
  refine ⟨fun a w A hA hS hd => d_9 rfl rfl (gut hd 56 (by decide) rfl (fun _ h => And.left h)) (vblt rfl (pv3 (evc _ _) (evc _ _) (evc _ _)) j_6 ty_3 ze_3 (by decide) (cs := [(iv 162), (iv 260), (iv 86)]) (bs_3_3_0i_1i_2i _ _ _) rfl (by decide) (fun _ => And.intro trivial rfl)), ?_⟩
  refine ⟨fun a w A hA hS hd => ?_, ?_⟩
  ·skip
   obtain ⟨GA, J8, Il, FY⟩ := hd 57 (by decide)
   obtain ⟨vt57_, vm57_, lr57_, lb57_, lk57_, Ie, IS⟩ := Il; subst IS
   rw [Ie] at GA
   have hp57_0 := FY _ (List.mem_of_getElem? (i := 0) rfl)
   have hp57_1 := FY _ (List.mem_of_getElem? (i := 1) rfl)
   obtain ⟨JX, J9, Im, IL⟩ := hd 59 (by decide)
   obtain ⟨J1, IT⟩ := Im; subst IT
   have hp59_0 := IL _ (List.mem_of_getElem? (i := 0) rfl)
   obtain ⟨JY, KA, In, IM⟩ := hd 60 (by decide)
   obtain ⟨J2, IU⟩ := In; subst IU
   have hp60_0 := IM _ (List.mem_of_getElem? (i := 0) rfl)
   exact d_9 rfl rfl (gut hd 56 (by decide) rfl (fun _ h => And.left h)) (vx (a_8 rfl en_39 (ev3 (c_1 (f_4 GA rfl)) (c_1 (f_4 JX rfl)) (c_1 (f_4 JY rfl))) (Prove_ok a_9 vt57_ vm57_ lr57_ lb57_ lk57_ _ (c_5 hp57_0) (d_1 hp57_1) i_4 ([(0, 170)]) _ (SlAt.e_4 hp59_0) (by decide) ([162, 260, 86]) _ (SlAt.e_4 hp60_0) (by decide) kept_read)) (And.intro (by show Value.bool _ = _; simp only [(show (y_6 a_9 ([(0, 170)]) ([162, 260, 86])) = true from (by decide +kernel)), decide_true, decide_false, Bool.not_true, Bool.not_false]) rfl))
  refine ⟨fun a w A hA hS hd => gy1 hd 56 (g_0 rfl (gu hd 61)), ?_⟩
  refine ⟨fun a w A hA hS hd => gv1 (e_0 rfl (gu hd 56) (gu hd 62)), ?_⟩
  refine ⟨fun a w A hA hS hd => gv1 (a_1 rfl (gu hd 63)), ?_⟩
  refine ⟨fun a w A hA hS hd => d_9 rfl rfl (gut hd 64 (by decide) rfl (fun _ h => And.left h)) (vn (a_8 rfl u_9 ev0 (n_5 _)) (fun v w' h => by obtain ⟨vt, vm, lr, lb, lk, rfl, hT⟩ := h; exact ⟨_, ⟨vt, vm, lr, lb, lk, rfl, rfl⟩, hT, rfl⟩)), ?_⟩
  refine ⟨fun a w A hA hS hd => gy1 hd 64 (c_7 rfl (pv2 (evc _ _) (evc _ _)) (i_6 _ _)), ?_⟩
  refine ⟨fun a w A hA hS hd => d_9 rfl rfl (gut hd 64 (by decide) rfl (fun _ h => And.left h)) (vblt rfl (pv1 (gu hd 66)) l_3 o_7 y_0 (by decide) (cs := [(iv 0), (iv 170)]) (j_2 _ _) rfl (by decide) (fun _ => And.intro trivial rfl)), ?_⟩
  refine ⟨fun a w A hA hS hd => d_9 rfl rfl (gut hd 64 (by decide) rfl (fun _ h => And.left h)) (vblt rfl (pv3 (evc _ _) (evc _ _) (evc _ _)) j_6 ty_3 ze_3 (by decide) (cs := [(iv 162), (iv 260), (iv 85)]) (bs_3_3_0i_1i_2i _ _ _) rfl (by decide) (fun _ => And.intro trivial rfl)), ?_⟩
  refine ⟨fun a w A hA hS hd => ?_, ?_⟩
  ·skip
   obtain ⟨GB, KB, Io, FZ⟩ := hd 65 (by decide)
   obtain ⟨vt65_, vm65_, lr65_, lb65_, lk65_, If, IV⟩ := Io; subst IV
   rw [If] at GB
   have hp65_0 := FZ _ (List.mem_of_getElem? (i := 0) rfl)
   have hp65_1 := FZ _ (List.mem_of_getElem? (i := 1) rfl)
   obtain ⟨JZ, KC, Ip, IN⟩ := hd 67 (by decide)
   obtain ⟨J3, IW⟩ := Ip; subst IW
   have hp67_0 := IN _ (List.mem_of_getElem? (i := 0) rfl)
   obtain ⟨Ja, KD, Iq, IOa⟩ := hd 68 (by decide)
   obtain ⟨J4, IX⟩ := Iq; subst IX
   have hp68_0 := IOa _ (List.mem_of_getElem? (i := 0) rfl)
   exact d_9 rfl rfl (gut hd 64 (by decide) rfl (fun _ h => And.left h)) (vx (a_8 rfl en_39 (ev3 (c_1 (f_4 GB rfl)) (c_1 (f_4 JZ rfl)) (c_1 (f_4 Ja rfl))) (Prove_ok a_9 vt65_ vm65_ lr65_ lb65_ lk65_ _ (c_5 hp65_0) (d_1 hp65_1) i_4 ([(0, 170)]) _ (SlAt.e_4 hp67_0) (by decide) ([162, 260, 85]) _ (SlAt.e_4 hp68_0) (by decide) kept_read)) (And.intro (by show Value.bool _ = _; simp only [(show (y_6 a_9 ([(0, 170)]) ([162, 260, 85])) = false from (by decide +kernel)), decide_true, decide_false, Bool.not_true, Bool.not_false]) rfl))
  refine ⟨fun a w A hA hS hd => gv1 (e_0 rfl (gu hd 64) (gu hd 69)), ?_⟩
  refine ⟨fun a w A hA hS hd => gv1 (a_1 rfl (gu hd 70)), ?_⟩
  refine ⟨fun a w A hA hS hd => d_9 rfl rfl (gut hd 71 (by decide) rfl (fun _ h => And.left h)) (vn (a_8 rfl u_9 ev0 (n_5 _)) (fun v w' h => by obtain ⟨vt, vm, lr, lb, lk, rfl, hT⟩ := h; exact ⟨_, ⟨vt, vm, lr, lb, lk, rfl, rfl⟩, hT, rfl⟩)), ?_⟩
  refine ⟨fun a w A hA hS hd => gy1 hd 71 (c_7 rfl (pv2 (evc _ _) (evc _ _)) (i_6 _ _)), ?_⟩
  refine ⟨fun a w A hA hS hd => d_9 rfl rfl (gut hd 71 (by decide) rfl (fun _ h => And.left h)) (vblt rfl (pv1 (gu hd 73)) l_3 o_7 y_0 (by decide) (cs := [(iv 0), (iv 170)]) (j_2 _ _) rfl (by decide) (fun _ => And.intro trivial rfl)), ?_⟩
  refine ⟨fun a w A hA hS hd => d_9 rfl rfl (gut hd 71 (by decide) rfl (fun _ h => And.left h)) (vblt rfl (pv2 (evc _ _) (evc _ _)) j_6 ty_3 ze_3 (by decide) (cs := [(iv 162), (iv 260)]) (q_0 _ _) rfl (by decide) (fun _ => And.intro trivial rfl)), ?_⟩
  refine ⟨fun a w A hA hS hd => ?_, ?_⟩
  ·skip
   obtain ⟨GC, KE, Ir, Fa⟩ := hd 72 (by decide)
   obtain ⟨vt72_, vm72_, lr72_, lb72_, lk72_, Ig, IY⟩ := Ir; subst IY
   rw [Ig] at GC
   have hp72_0 := Fa _ (List.mem_of_getElem? (i := 0) rfl)
   have hp72_1 := Fa _ (List.mem_of_getElem? (i := 1) rfl)
   obtain ⟨Jb, KF, Is, IP⟩ := hd 74 (by decide)
   obtain ⟨J5, IZ⟩ := Is; subst IZ
   have hp74_0 := IP _ (List.mem_of_getElem? (i := 0) rfl)
   obtain ⟨Jc, KG, It, IQ⟩ := hd 75 (by decide)
   obtain ⟨J6, Ia⟩ := It; subst Ia
   have hp75_0 := IQ _ (List.mem_of_getElem? (i := 0) rfl)
   exact d_9 rfl rfl (gut hd 71 (by decide) rfl (fun _ h => And.left h)) (vx (a_8 rfl en_39 (ev3 (c_1 (f_4 GC rfl)) (c_1 (f_4 Jb rfl)) (c_1 (f_4 Jc rfl))) (Prove_ok a_9 vt72_ vm72_ lr72_ lb72_ lk72_ _ (c_5 hp72_0) (d_1 hp72_1) i_4 ([(0, 170)]) _ (SlAt.e_4 hp74_0) (by decide) ([162, 260]) _ (SlAt.e_4 hp75_0) (by decide) kept_read)) (And.intro (by show Value.bool _ = _; simp only [(show (y_6 a_9 ([(0, 170)]) ([162, 260])) = false from (by decide +kernel)), decide_true, decide_false, Bool.not_true, Bool.not_false]) rfl))
  refine ⟨fun a w A hA hS hd => gv1 (e_0 rfl (gu hd 71) (gu hd 76)), ?_⟩
  trivial
 intro GU Iy A rsf157 Cc C CE; clear Cb DY
 obtain ⟨Ff, F0⟩ := C 52 (by decide)
 obtain ⟨Fp, Et⟩ := F0
 obtain ⟨Fg, F1⟩ := C 57 (by decide)
 obtain ⟨vt57_, vm57_, lr57_, lb57_, lk57_, Fq, Eu⟩ := F1
 obtain ⟨Fh, F2⟩ := C 59 (by decide)
 obtain ⟨Fs, Ev⟩ := F2
 obtain ⟨Fi, F3⟩ := C 60 (by decide)
 obtain ⟨Ft, Ew⟩ := F3
 obtain ⟨Fj, F4⟩ := C 65 (by decide)
 obtain ⟨vt65_, vm65_, lr65_, lb65_, lk65_, Fu, Ex⟩ := F4
 obtain ⟨Fk, F5⟩ := C 67 (by decide)
 obtain ⟨Fv, Ey⟩ := F5
 obtain ⟨Fl, F6⟩ := C 68 (by decide)
 obtain ⟨Fw, Ez⟩ := F6
 obtain ⟨Fm, F7⟩ := C 72 (by decide)
 obtain ⟨vt72_, vm72_, lr72_, lb72_, lk72_, Fx, E0⟩ := F7
 obtain ⟨Fn, F8⟩ := C 74 (by decide)
 obtain ⟨Fy, E1⟩ := F8
 obtain ⟨Fo, F9⟩ := C 75 (by decide)
 obtain ⟨Fz, E2⟩ := F9
 have DZ : Sep NoB w Iy [(row (A 52) 3 1 1 [(iv 0)]), (c_0 true vt57_ lr57_ lb57_ a_9.tabs), (c_3 true vm57_ lk57_ a_9.macs), (row (A 59) 98 2 1 [(iv 0), (iv 170)]), (row (A 60) 3 1 3 [(iv 162), (iv 260), (iv 86)]), (c_0 true vt65_ lr65_ lb65_ a_9.tabs), (c_3 true vm65_ lk65_ a_9.macs), (row (A 67) 98 2 1 [(iv 0), (iv 170)]), (row (A 68) 3 1 3 [(iv 162), (iv 260), (iv 85)]), (c_0 true vt72_ lr72_ lb72_ a_9.tabs), (c_3 true vm72_ lk72_ a_9.macs), (row (A 74) 98 2 1 [(iv 0), (iv 170)]), (row (A 75) 3 1 2 [(iv 162), (iv 260)]), (row Ad 3 1 ((x_4 a_9 ([(0, 170), (1, 280)])).length) (ints (x_4 a_9 ([(0, 170), (1, 280)])))), (row g 30 2 ([(161, 164), (266, 266), (83, 84)].length) (pairs ([(161, 164), (266, 266), (83, 84)]))), (blk AD 30 [(iv ((j_3 a_9 0 (300, 300)).1)), (iv ((j_3 a_9 0 (300, 300)).2))]), (blk s 30 [(iv ((m_1 a_9 1).1)), (iv ((m_1 a_9 1).2))])] := by rw [show catR rsf157 0 78 = ([(row (A 52) 3 1 1 [(iv 0)]), (c_0 true vt57_ lr57_ lb57_ a_9.tabs), (c_3 true vm57_ lk57_ a_9.macs), (row (A 59) 98 2 1 [(iv 0), (iv 170)]), (row (A 60) 3 1 3 [(iv 162), (iv 260), (iv 86)]), (c_0 true vt65_ lr65_ lb65_ a_9.tabs), (c_3 true vm65_ lk65_ a_9.macs), (row (A 67) 98 2 1 [(iv 0), (iv 170)]), (row (A 68) 3 1 3 [(iv 162), (iv 260), (iv 85)]), (c_0 true vt72_ lr72_ lb72_ a_9.tabs), (c_3 true vm72_ lk72_ a_9.macs), (row (A 74) 98 2 1 [(iv 0), (iv 170)]), (row (A 75) 3 1 2 [(iv 162), (iv 260)])] : List Res) by (try simp only [catR, gr (C 0 (by decide)), gr (C 1 (by decide)), gr (C 2 (by decide)), gr (C 3 (by decide)), gr (C 4 (by decide)), gr (C 5 (by decide)), gr (C 6 (by decide)), gr (C 7 (by decide)), gr (C 8 (by decide)), gr (C 9 (by decide)), gr (C 10 (by decide)), gr (C 11 (by decide)), gr (C 12 (by decide)), gr (C 13 (by decide)), gr (C 14 (by decide)), gr (C 15 (by decide)), gr (C 16 (by decide)), gr (C 17 (by decide)), gr (C 18 (by decide)), gr (C 19 (by decide)), gr (C 20 (by decide)), gr (C 21 (by decide)), gr (C 22 (by decide)), gr (C 23 (by decide)), gr (C 24 (by decide)), gr (C 25 (by decide)), gr (C 26 (by decide)), gr (C 27 (by decide)), gr (C 28 (by decide)), gr (C 29 (by decide)), gr (C 30 (by decide)), gr (C 31 (by decide)), gr (C 32 (by decide)), gr (C 33 (by decide)), gr (C 34 (by decide)), gr (C 35 (by decide)), gr (C 36 (by decide)), gr (C 37 (by decide)), gr (C 38 (by decide)), gr (C 39 (by decide)), gr (C 40 (by decide)), gr (C 41 (by decide)), gr (C 42 (by decide)), gr (C 43 (by decide)), gr (C 44 (by decide)), gr (C 45 (by decide)), gr (C 46 (by decide)), gr (C 47 (by decide)), gr (C 48 (by decide)), gr (C 49 (by decide)), gr (C 50 (by decide)), gr (C 51 (by decide)), Et, gr (C 53 (by decide)), gr (C 54 (by decide)), gr (C 55 (by decide)), gr (C 56 (by decide)), Eu, gr (C 58 (by decide)), Ev, Ew, gr (C 61 (by decide)), gr (C 62 (by decide)), gr (C 63 (by decide)), gr (C 64 (by decide)), Ex, gr (C 66 (by decide)), Ey, Ez, gr (C 69 (by decide)), gr (C 70 (by decide)), gr (C 71 (by decide)), E0, gr (C 73 (by decide)), E1, E2, gr (C 76 (by decide)), gr (C 77 (by decide))]); (try rfl)] at CE; exact CE
 have An := Cc.add (gs (C 77 (by decide))); clear Cc
 clear C CE Ff Fg Fh Fi Fj Fk Fl Fm Fn Fo
 clear Et
 clear Fp
 clear Eu
 clear Fq
 clear Ev
 clear Fs
 clear Ew
 clear Ft
 clear Ex
 clear Fu
 clear Ey
 clear Fv
 clear Ez
 clear Fw
 clear E0
 clear Fx
 clear E1
 clear Fy
 clear E2
 clear Fz
 refine n1 (b_8 An rfl (e_1 (b_3 (d_3 ?_))))
 have Cd := An.as [] rfl; clear An
 have Da := DZ.gkp gpn; clear DZ
 refine a_5 (s2 Cd (a_8 rfl u_9 ev0 (kept_parts _)) ?_)
 rintro GV _ KJ ⟨F, G, E, vt168, H, I, vm171, rfl, Ei⟩ Ce; have Db := Da.n_2 Ei rfl; clear Ei Cd Da GU
 refine s2 Ce (d_2 Db rfl ze_37 (cs := [(iv 0), (Value.slice none 0 0), (Value.slice none 0 0)]) rfl) ?_
 rintro GW _ KK ⟨q, rfl, AV⟩ AG; clear Ce Db GV
 refine s7 AG (b_4 AV rfl n_6 AG.e AG.e (i := 0) rfl (vs := [(iv 3), vt168, vm171]) rfl rfl (k_2 rfl (k_2 (SlAt.one (SlAt.e_4 (AV.f_2 4 rfl))) (k_2 (SlAt.one (SlAt.e_4 (AV.f_2 7 rfl))) y_2))) (Nat.le_of_ble_eq_true rfl)) ?_
 intro _ Iz Dc Ao; clear AG
 have j : Sep NoB w Iz [(blk q 37 [(iv 3), vt168, vm171]), (row F 107 2 4 [(iv 100), (iv 200), (iv 200), (iv 300), (iv 300), (iv 500), (iv 400), (iv 600)]), (row G 107 2 2 [(iv 250), (iv 90), (iv 350), (iv 50)]), (row E 3 1 1 [(iv 2)]), (row vt168 106 5 2 [(iv 0), (iv 1), F, E, (iv 2), (iv 1), (iv 2), G, (Value.slice none 0 0), (iv 0)]), (row H 100 3 2 [(iv 150), (iv 154), (iv 160), (iv 240), (iv 246), (iv 249)]), (row I 100 3 1 [(iv 300), (iv 300), (iv 299)]), (row vm171 103 2 2 [(iv 0), H, (iv 1), I])] := Dc; clear Dc AV
 refine n4 (s1 Ao (a_4 rfl q_5 Ao.e) fun GX Ap => ?_); clear Ao GW
 refine s1 Ap (a_3 rfl z_1 Ap.e (j.bk 0 rfl) rfl) fun GY Aq => ?_; clear Ap GX
 refine s1 Aq (b_6 rfl x_8 m_9 Aq.e (i := 0) (show _ = Value.int .i64 ((0 : Nat) : Int) from (evc _ _)) (SlAt.e_4 (j.f_2 7 rfl)) (by decide) (by decide)) fun GZ Ar => ?_; clear Aq GY
 refine s1 Ar (i_5 rfl fd_103_1 Ar.e (SlAt.e_4 (j.f_2 7 rfl)) (by rw [((SlAt.e_4 (j.f_2 7 rfl))).1]; first | omega | (simp only [List.length_set]; omega))) fun Ga As => ?_; clear Ar GZ
 refine s1 As (g_2 rfl ty_101 As.e (SlAt.e_4 (j.f_2 7 rfl)) rfl) fun Gb At => ?_; clear As Ga
 refine s1 At (b_6 rfl x_2 w_6 At.e (i := 1) (show _ = Value.int .i64 ((1 : Nat) : Int) from (evc _ _)) (SlAt.e_4 (j.f_2 5 rfl)) (by decide) (by decide)) fun Gc Au => ?_; clear At Gb
 refine s1 Au (i_5 rfl fd_100_1 Au.e (SlAt.e_4 (j.f_2 5 rfl)) (by rw [((SlAt.e_4 (j.f_2 5 rfl))).1]; first | omega | (simp only [List.length_set]; omega))) fun Gd Av => ?_; clear Au Gc
 refine s7 Av (op_storeE j rfl ty_3 Av.e (evc _ _) (i := 5) rfl (vs := [(iv 251)]) rfl rfl rfl (Nat.le_of_ble_eq_true rfl) (by decide)) ?_
 intro _ KL Dd Cf; have k := Dd.i_9 (i := 5) rfl (n' := 2) (xs' := [(iv 150), (iv 154), (iv 160), (iv 240), (iv 246), (iv 251)]) rfl rfl; clear Dd Av j
 refine n2 ?_
 have Aw := Cf.as [(9, (bptr q 0))] rfl; clear Cf
 refine a_5 (s1 Aw (a_4 rfl q_5 Aw.e) fun Ge Ax => ?_); clear Aw Gd
 refine s1 Ax (a_3 rfl z_1 Ax.e (k.bk 0 rfl) rfl) fun Gf Ay => ?_; clear Ax Ge
 refine s1 Ay (b_6 rfl x_8 m_9 Ay.e (i := 0) (show _ = Value.int .i64 ((0 : Nat) : Int) from (evc _ _)) (SlAt.e_4 (k.f_2 7 rfl)) (by decide) (by decide)) fun Gg Az => ?_; clear Ay Gf
 refine s1 Az (i_5 rfl fd_103_1 Az.e (SlAt.e_4 (k.f_2 7 rfl)) (by rw [((SlAt.e_4 (k.f_2 7 rfl))).1]; first | omega | (simp only [List.length_set]; omega))) fun Gh A0 => ?_; clear Az Gg
 refine s1 A0 (g_2 rfl ty_101 A0.e (SlAt.e_4 (k.f_2 7 rfl)) rfl) fun Gi A1 => ?_; clear A0 Gh
 refine s1 A1 (b_6 rfl x_2 w_6 A1.e (i := 0) (show _ = Value.int .i64 ((0 : Nat) : Int) from (evc _ _)) (SlAt.e_4 (k.f_2 5 rfl)) (by decide) (by decide)) fun Gj A2 => ?_; clear A1 Gi
 refine s1 A2 (i_5 rfl fd_100_1 A2.e (SlAt.e_4 (k.f_2 5 rfl)) (by rw [((SlAt.e_4 (k.f_2 5 rfl))).1]; first | omega | (simp only [List.length_set]; omega))) fun Gk A3 => ?_; clear A2 Gj
 refine s7 A3 (op_storeE k rfl ty_3 A3.e (evc _ _) (i := 5) rfl (vs := [(iv 154)]) rfl rfl rfl (Nat.le_of_ble_eq_true rfl) (by decide)) ?_
 intro _ CT De Cg; have Df := De.i_9 (i := 5) rfl (n' := 2) (xs' := [(iv 150), (iv 154), (iv 154), (iv 240), (iv 246), (iv 251)]) rfl rfl; clear De A3 k
 refine n2 ?_
 have A4 := Cg.as [(9, (bptr q 0))] rfl; clear Cg
 have Dg := Df.gkp (gpc 5 (gpc 6 (gpc 7 (gpc 0 (gpc 1 (gpc 2 (gpc 3 (gpc 4 gpn)))))))); clear Df
 have Dh : Sep NoB w CT [(c_3 true vm171 (putV 1 (putV 0 (fun _ => NILs) H) I) badB.macs), (blk q 37 [(iv 3), vt168, vm171]), (row F 107 2 4 [(iv 100), (iv 200), (iv 200), (iv 300), (iv 300), (iv 500), (iv 400), (iv 600)]), (row G 107 2 2 [(iv 250), (iv 90), (iv 350), (iv 50)]), (row E 3 1 1 [(iv 2)]), (row vt168 106 5 2 [(iv 0), (iv 1), F, E, (iv 2), (iv 1), (iv 2), G, (Value.slice none 0 0), (iv 0)])] := u_1 0 1 [(150, 154, 154), (240, 246, 251)] [(300, 300, 299)] Dg; clear Dg
 have Di := Dh.gkp (gpc 2 (gpc 3 (gpc 4 (gpc 5 (gpc 0 (gpc 1 gpn)))))); clear Dh
 have Dj : Sep NoB w CT [(c_0 true vt168 (putV 1 (putV 0 (fun _ => NILs) F) G) (putV 1 (putV 0 (fun _ => NILs) E) NILs) badB.tabs), (c_3 true vm171 (putV 1 (putV 0 (fun _ => NILs) H) I) badB.macs), (blk q 37 [(iv 3), vt168, vm171])] := u_2 0 1 2 1 2 0 [(100, 200), (200, 300), (300, 500), (400, 600)] [(250, 90), (350, 50)] [2] Di; clear Di
 have x : Sep NoB w CT [(c_0 true vt168 (putV 1 (putV 0 (fun _ => NILs) F) G) (putV 1 (putV 0 (fun _ => NILs) E) NILs) badB.tabs), (c_3 true vm171 (putV 1 (putV 0 (fun _ => NILs) H) I) badB.macs), (blk q 37 [(iv badB.scales), vt168, vm171])] := Dj; clear Dj
 refine a_5 (s1 A4 (b_9 rfl n_6 (A4.ev rfl) (x.bk 2 rfl) (l := [(iv badB.scales), vt168, vm171]) rfl rfl) fun Gl A5 => ?_); clear A4 Gk
 refine s2 A5 (a_8 rfl en_33 (ev2 A5.e (evc _ _)) (Bias_ok badB vt168 vm171 (putV 1 (putV 0 (fun _ => NILs) F) G) (putV 1 (putV 0 (fun _ => NILs) E) NILs) (putV 1 (putV 0 (fun _ => NILs) H) I) _ (c_5 (x.ok 0 _ rfl)) (d_1 (x.ok 1 _ rfl)) bad_thin 0)) ?_
 rintro Gm _ KM ⟨rfl, DL⟩ A6; have y := x.step DL; clear DL A5 x Gl
 refine s1 A6 (a_1 rfl A6.e) fun Gn A7 => ?_; clear A6 Gm
 refine s1 A7 (b_2 rfl A7.e rfl) fun Go A8 => ?_; clear A7 Gn
 refine s1 A8 (b_2 rfl A8.e rfl) fun Gp A9 => ?_; clear A8 Go
 refine s1 A9 (a_0 rfl A9.e) fun Gq BA => ?_; clear A9 Gp
 refine n4 (s1 BA (b_9 rfl n_6 (BA.ev rfl) (y.bk 2 rfl) (l := [(iv badB.scales), vt168, vm171]) rfl rfl) fun Gr BB => ?_); clear BA Gq
 refine s2 BB (a_8 rfl en_34 (ev1 BB.e) (Off_ok badB vt168 vm171 (putV 1 (putV 0 (fun _ => NILs) F) G) (putV 1 (putV 0 (fun _ => NILs) E) NILs) (putV 1 (putV 0 (fun _ => NILs) H) I) _ (c_5 (y.ok 0 _ rfl)) (d_1 (y.ok 1 _ rfl)) bad_thin nm_badc)) ?_
 rintro Gs _ I0 ⟨L, rfl, Ej⟩ BC
 have CF : Sep NoB w I0 [(row L 3 1 ((offL badB).length) (ints (offL badB))), (c_0 true vt168 (putV 1 (putV 0 (fun _ => NILs) F) G) (putV 1 (putV 0 (fun _ => NILs) E) NILs) badB.tabs), (c_3 true vm171 (putV 1 (putV 0 (fun _ => NILs) H) I) badB.macs), (blk q 37 [(iv badB.scales), vt168, vm171])] := y.n_2 Ej rfl; clear Ej BB y Gr
 refine s1 BC (a_1 rfl BC.e) fun Gt BE => ?_; clear BC Gs
 refine s1 BE (b_2 rfl BE.e rfl) fun Gu BF => ?_; clear BE Gt
 refine s1 BF (b_2 rfl BF.e rfl) fun Gv BG => ?_; clear BF Gu
 refine s1 BG (a_0 rfl BG.e) fun Gw BH => ?_; clear BG Gv
 refine s1 BH (a_0 rfl BH.e) fun Gx Ch => ?_; clear BH Gw
 refine n2 ?_
 have BI := Ch.as [(4, (iv 0)), (10, L), (2, (iv (l_1 badB 0))), (9, (bptr q 0))] rfl; clear Ch
 refine a_5 (s1 BI (b_9 rfl n_6 (BI.ev rfl) (CF.bk 3 rfl) (l := [(iv badB.scales), vt168, vm171]) rfl rfl) fun Gy Ci => ?_); clear BI Gx
 refine s1 Ci (c_7 rfl (pv2 (evc _ _) (evc _ _)) (i_6 _ _)) fun Gz BJ => ?_; clear Ci Gy
 refine s2 BJ (d_7 CF rfl (pv1 BJ.e) l_3 o_7 y_0 (by decide) (cs := [(iv 0), (iv 170)]) (j_2 _ _)) ?_
 rintro G0 _ KN ⟨Jv, rfl, z⟩ AH; clear BJ CF Gz
 refine s2 AH (a_8 rfl en_25 (ev2 AH.e AH.e) (Spans_bad badB vt168 vm171 (putV 1 (putV 0 (fun _ => NILs) F) G) (putV 1 (putV 0 (fun _ => NILs) E) NILs) (putV 1 (putV 0 (fun _ => NILs) H) I) _ (c_5 (z.ok 2 _ rfl)) (d_1 (z.ok 3 _ rfl)) bad_thin ([(0, 170)]) _ (SlAt.of_blk (z.bk 0 rfl) rfl (Nat.le_of_ble_eq_true rfl)) (by decide) (by rw [nm_badread]; decide))) ?_
 rintro G1 _ KO ⟨rfl, DM⟩ BK; have Dk := z.step DM; clear DM AH z G0
 refine s1 BK (a_1 rfl BK.e) fun G2 BL => ?_; clear BK G1
 refine s1 BL (b_2 rfl BL.e rfl) fun G3 BM => ?_; clear BL G2
 refine s1 BM (b_2 rfl BM.e rfl) fun G4 BN => ?_; clear BM G3
 refine s1 BN (a_0 rfl BN.e) fun G5 Cj => ?_; clear BN G4
 refine n2 ?_
 have Ck := Cj.as [(6, (iv (spE badB ([(0, 170)])))), (4, (iv 0)), (10, L), (2, (iv (l_1 badB 0)))] rfl; clear Cj
 have Dl := Dk.gkp (gpc 1 (gpc 2 (gpc 3 gpn))); clear Dk
 refine a_5 (s2 Ck (a_8 rfl u_9 ev0 (n_5 _)) ?_)
 rintro G6 _ KP ⟨vt287, vm288, lr289, lb290, lk291, rfl, Ek⟩ Cl; have Dm := Dl.n_2 Ek rfl; clear Ek Ck Dl G5
 refine s1 Cl (c_7 rfl (pv2 (evc _ _) (evc _ _)) (i_6 _ _)) fun G7 Cm => ?_; clear Cl G6
 refine s1 Cm (c_7 rfl (pv2 (evc _ _) (evc _ _)) (i_6 _ _)) fun G8 AI => ?_; clear Cm G7
 refine s2 AI (d_7 Dm rfl (pv2 AI.e AI.e) l_3 o_7 y_0 (by decide) (cs := [(iv 0), (iv 170), (iv 1), (iv 280)]) (o_9 _ _ _ _)) ?_
 rintro G9 _ KQ ⟨Jw, rfl, AA⟩ AJ; clear AI Dm G8
 refine s2 AJ (a_8 rfl en_25 (ev2 AJ.e AJ.e) (Spans_none a_9 vt287 vm288 lr289 lb290 lk291 _ (c_5 (AA.ok 1 _ rfl)) (d_1 (AA.ok 2 _ rfl)) i_4 ([(0, 170), (1, 280)]) _ (SlAt.of_blk (AA.bk 0 rfl) rfl (Nat.le_of_ble_eq_true rfl)) (by decide) nm_read3 nm_spans3)) ?_
 rintro HA _ KR ⟨rfl, DN⟩ BO; have Dn := AA.step DN; clear DN AJ AA G9
 refine s1 BO (a_1 rfl BO.e) fun HB BP => ?_; clear BO HA
 refine s1 BP (b_2 rfl BP.e rfl) fun HC BQ => ?_; clear BP HB
 refine s1 BQ (b_2 rfl BQ.e rfl) fun HD BR => ?_; clear BQ HC
 refine s1 BR (a_0 rfl BR.e) fun HE Cn => ?_; clear BR HD
 refine n2 ?_
 have Co := Cn.as [(8, (iv (spE a_9 ([(0, 170), (1, 280)])))), (6, (iv (spE badB ([(0, 170)])))), (4, (iv 0)), (10, L), (2, (iv (l_1 badB 0)))] rfl; clear Cn
 have Do := Dn.gkp (gpc 3 (gpc 4 (gpc 5 gpn))); clear Dn
 refine a_5 (s2 Co (a_8 rfl u_9 ev0 (n_5 _)) ?_)
 rintro HF _ KS ⟨vt321, vm322, lr323, lb324, lk325, rfl, El⟩ Cp; have Dp := Do.n_2 El rfl; clear El Co Do HE
 refine s2 Cp (a_8 rfl t_6 (ev2 (evc _ _) (evc _ _)) (f_8 _ _ _)) ?_
 rintro HG _ KT ⟨rfl, DO⟩ AK; have AW := Dp.step DO; clear DO Cp Dp HF
 refine s2 AK (a_8 rfl en_18 (ev3 AK.e (evc _ _) AK.e) (u_7 a_9 vt321 vm322 lr323 lb324 lk325 _ (c_5 (AW.ok 0 _ rfl)) (d_1 (AW.ok 1 _ rfl)) i_4 0 250 350)) ?_
 rintro HH _ KU ⟨rfl, DP⟩ BS; have Dq := AW.step DP; clear DP AK AW HG
 refine s1 BS (a_1 rfl BS.e) fun HI BT => ?_; clear BS HH
 refine s1 BT (b_2 rfl BT.e rfl) fun HJ BU => ?_; clear BT HI
 refine s1 BU (b_2 rfl BU.e rfl) fun HK Cq => ?_; clear BU HJ
 refine s2 Cq (d_2 Dq rfl t_7 (cs := [(iv 0), (iv 0)]) rfl) ?_
 rintro HL _ KV ⟨IH, rfl, Dr⟩ AL; clear Cq Dq HK
 refine s7 AL (b_4 Dr rfl f_1 AL.e AL.e (i := 0) rfl (vs := [(iv ((j_3 a_9 0 (250, 350)).1)), (iv ((j_3 a_9 0 (250, 350)).2))]) rfl rfl rfl (Nat.le_of_ble_eq_true rfl)) ?_
 intro _ I1 Ds BV; clear AL
 have Dt : Sep NoB w I1 [(blk IH 30 [(iv ((j_3 a_9 0 (250, 350)).1)), (iv ((j_3 a_9 0 (250, 350)).2))]), (c_0 true vt321 lr323 lb324 a_9.tabs), (c_3 true vm322 lk325 a_9.macs), (row L 3 1 ((offL badB).length) (ints (offL badB))), (c_0 true vt168 (putV 1 (putV 0 (fun _ => NILs) F) G) (putV 1 (putV 0 (fun _ => NILs) E) NILs) badB.tabs), (c_3 true vm171 (putV 1 (putV 0 (fun _ => NILs) H) I) badB.macs)] := Ds; clear Ds Dr
 refine s1 BV (a_0 rfl BV.e) fun HM Cr => ?_; clear BV HL
 refine n2 ?_
 have Cs := Cr.as [(12, (iv (i_0 a_9 0 (250, 350)))), (8, (iv (spE a_9 ([(0, 170), (1, 280)])))), (6, (iv (spE badB ([(0, 170)])))), (4, (iv 0)), (10, L), (2, (iv (l_1 badB 0)))] rfl; clear Cr
 have Du := Dt.gkp (gpc 3 (gpc 4 (gpc 5 gpn))); clear Dt
 refine a_5 (s2 Cs (a_8 rfl u_9 ev0 (n_5 _)) ?_)
 rintro HN _ KW ⟨vt360, vm361, lr362, lb363, lk364, rfl, Em⟩ Ct; have Dv := Du.n_2 Em rfl; clear Em Cs Du HM
 refine s2 Ct (a_8 rfl t_6 (ev2 (evc _ _) (evc _ _)) (f_8 _ _ _)) ?_
 rintro HO _ KX ⟨rfl, DQ⟩ AM; have AX := Dv.step DQ; clear DQ Ct Dv HN
 refine s2 AM (a_8 rfl en_18 (ev3 AM.e (evc _ _) AM.e) (u_7 a_9 vt360 vm361 lr362 lb363 lk364 _ (c_5 (AX.ok 0 _ rfl)) (d_1 (AX.ok 1 _ rfl)) i_4 0 99 99)) ?_
 rintro HP _ KY ⟨rfl, DR⟩ BW; have Dw := AX.step DR; clear DR AM AX HO
 refine s1 BW (a_1 rfl BW.e) fun HQ BX => ?_; clear BW HP
 refine s1 BX (b_2 rfl BX.e rfl) fun HR BY => ?_; clear BX HQ
 refine s1 BY (b_2 rfl BY.e rfl) fun HS Cu => ?_; clear BY HR
 refine s2 Cu (d_2 Dw rfl t_7 (cs := [(iv 0), (iv 0)]) rfl) ?_
 rintro HT _ KZ ⟨II, rfl, Dx⟩ AN; clear Cu Dw HS
 refine s7 AN (b_4 Dx rfl f_1 AN.e AN.e (i := 0) rfl (vs := [(iv ((j_3 a_9 0 (99, 99)).1)), (iv ((j_3 a_9 0 (99, 99)).2))]) rfl rfl rfl (Nat.le_of_ble_eq_true rfl)) ?_
 intro _ I2 Dy BZ; clear AN
 have Dz : Sep NoB w I2 [(blk II 30 [(iv ((j_3 a_9 0 (99, 99)).1)), (iv ((j_3 a_9 0 (99, 99)).2))]), (c_0 true vt360 lr362 lb363 a_9.tabs), (c_3 true vm361 lk364 a_9.macs), (row L 3 1 ((offL badB).length) (ints (offL badB))), (c_0 true vt168 (putV 1 (putV 0 (fun _ => NILs) F) G) (putV 1 (putV 0 (fun _ => NILs) E) NILs) badB.tabs), (c_3 true vm171 (putV 1 (putV 0 (fun _ => NILs) H) I) badB.macs)] := Dy; clear Dy Dx
 refine s1 BZ (a_0 rfl BZ.e) fun HU Cv => ?_; clear BZ HT
 refine n2 ?_
 have Cw := Cv.as [(14, (iv (i_0 a_9 0 (99, 99)))), (12, (iv (i_0 a_9 0 (250, 350)))), (8, (iv (spE a_9 ([(0, 170), (1, 280)])))), (6, (iv (spE badB ([(0, 170)])))), (4, (iv 0)), (10, L), (2, (iv (l_1 badB 0)))] rfl; clear Cv
 have D0 := Dz.gkp (gpc 3 (gpc 4 (gpc 5 gpn))); clear Dz
 refine a_5 (s2 Cw (a_8 rfl u_9 ev0 (n_5 _)) ?_)
 rintro HV _ Ka ⟨vt399, vm400, lr401, lb402, lk403, rfl, En⟩ Cx; have D1 := D0.n_2 En rfl; clear En Cw D0 HU
 refine s2 Cx (a_8 rfl t_6 (ev2 (evc _ _) (evc _ _)) (f_8 _ _ _)) ?_
 rintro HW _ Kb ⟨rfl, DS⟩ AO; have AY := D1.step DS; clear DS Cx D1 HV
 refine s2 AO (a_8 rfl en_18 (ev3 AO.e (evc _ _) AO.e) (u_7 a_9 vt399 vm400 lr401 lb402 lk403 _ (c_5 (AY.ok 0 _ rfl)) (d_1 (AY.ok 1 _ rfl)) i_4 2 100 100)) ?_
 rintro HX _ Kc ⟨rfl, DT⟩ Ba; have D2 := AY.step DT; clear DT AO AY HW
 refine s1 Ba (a_1 rfl Ba.e) fun HY Bb => ?_; clear Ba HX
 refine s1 Bb (b_2 rfl Bb.e rfl) fun HZ Bc => ?_; clear Bb HY
 refine s1 Bc (b_2 rfl Bc.e rfl) fun Ha Cy => ?_; clear Bc HZ
 refine s2 Cy (d_2 D2 rfl t_7 (cs := [(iv 0), (iv 0)]) rfl) ?_
 rintro Hb _ Kd ⟨IJ, rfl, D3⟩ AP; clear Cy D2 Ha
 refine s7 AP (b_4 D3 rfl f_1 AP.e AP.e (i := 0) rfl (vs := [(iv ((j_3 a_9 2 (100, 100)).1)), (iv ((j_3 a_9 2 (100, 100)).2))]) rfl rfl rfl (Nat.le_of_ble_eq_true rfl)) ?_
 intro _ I3 D4 Bd; clear AP
 have D5 : Sep NoB w I3 [(blk IJ 30 [(iv ((j_3 a_9 2 (100, 100)).1)), (iv ((j_3 a_9 2 (100, 100)).2))]), (c_0 true vt399 lr401 lb402 a_9.tabs), (c_3 true vm400 lk403 a_9.macs), (row L 3 1 ((offL badB).length) (ints (offL badB))), (c_0 true vt168 (putV 1 (putV 0 (fun _ => NILs) F) G) (putV 1 (putV 0 (fun _ => NILs) E) NILs) badB.tabs), (c_3 true vm171 (putV 1 (putV 0 (fun _ => NILs) H) I) badB.macs)] := D4; clear D4 D3
 refine s1 Bd (a_0 rfl Bd.e) fun Hc Cz => ?_; clear Bd Hb
 refine n2 ?_
 have C0 := Cz.as [(16, (iv (i_0 a_9 2 (100, 100)))), (14, (iv (i_0 a_9 0 (99, 99)))), (12, (iv (i_0 a_9 0 (250, 350)))), (8, (iv (spE a_9 ([(0, 170), (1, 280)])))), (6, (iv (spE badB ([(0, 170)])))), (4, (iv 0)), (10, L), (2, (iv (l_1 badB 0)))] rfl; clear Cz
 have D6 := D5.gkp (gpc 3 (gpc 4 (gpc 5 gpn))); clear D5
 refine a_5 (s2 C0 (a_8 rfl u_9 ev0 (n_5 _)) ?_)
 rintro Hd _ Ke ⟨vt438, vm439, lr440, lb441, lk442, rfl, Eo⟩ C1; have D7 := D6.n_2 Eo rfl; clear Eo C0 D6 Hc
 refine s1 C1 (c_7 rfl (pv1 (evc _ _)) (bd_98_0i _)) fun He Be => ?_; clear C1 Hd
 refine s2 Be (d_7 D7 rfl (pv1 Be.e) l_3 o_7 y_0 (by decide) (cs := [(iv 2), (iv 0)]) (j_2 _ _)) ?_
 rintro Hf _ Kf ⟨Jx, rfl, AB⟩ AQ; clear Be D7 He
 refine s2 AQ (a_8 rfl en_25 (ev2 AQ.e AQ.e) (Spans_bad a_9 vt438 vm439 lr440 lb441 lk442 _ (c_5 (AB.ok 1 _ rfl)) (d_1 (AB.ok 2 _ rfl)) i_4 ([(2, 0)]) _ (SlAt.of_blk (AB.bk 0 rfl) rfl (Nat.le_of_ble_eq_true rfl)) (by decide) (by rw [nm_read4]; decide))) ?_
 rintro Hg _ Kg ⟨rfl, DU⟩ Bf; have D8 := AB.step DU; clear DU AQ AB Hf
 refine s1 Bf (a_1 rfl Bf.e) fun Hh Bg => ?_; clear Bf Hg
 refine s1 Bg (b_2 rfl Bg.e rfl) fun Hi Bh => ?_; clear Bg Hh
 refine s1 Bh (b_2 rfl Bh.e rfl) fun Hj Bi => ?_; clear Bh Hi
 refine s1 Bi (a_0 rfl Bi.e) fun Hk Bj => ?_; clear Bi Hj
 refine s1 Bj (a_0 rfl Bj.e) fun Js C2 => ?_; clear Bj Hk
 refine n2 ?_
 have C3 := C2.as [(18, (iv (spE a_9 ([(2, 0)])))), (16, (iv (i_0 a_9 2 (100, 100)))), (14, (iv (i_0 a_9 0 (99, 99)))), (12, (iv (i_0 a_9 0 (250, 350)))), (8, (iv (spE a_9 ([(0, 170), (1, 280)])))), (6, (iv (spE badB ([(0, 170)])))), (4, (iv 0)), (10, L), (2, (iv (l_1 badB 0)))] rfl; clear C2
 have D9 := D8.gkp (gpc 3 (gpc 4 (gpc 5 gpn))); clear D8
 have C4 := C3.as [(18, (iv (spE a_9 ([(2, 0)])))), (16, (iv (i_0 a_9 2 (100, 100)))), (14, (iv (i_0 a_9 0 (99, 99)))), (12, (iv (i_0 a_9 0 (250, 350)))), (8, (iv (spE a_9 ([(0, 170), (1, 280)])))), (6, (iv (spE badB ([(0, 170)])))), (4, (iv 0)), (10, L), (2, (iv (l_1 badB 0)))] rfl; clear C3
 refine c_drawV mixed C4 D9 7 [[], [], [0, 1], [2], [3], [3], [4]] [(fun (f : Nat → Value) (v_ : Value) (rs_ : List Res) => ∃ (vt0_ : Value), ∃ (vm0_ : Value), ∃ (lr0_ : Nat → Value), ∃ (lb0_ : Nat → Value), ∃ (lk0_ : Nat → Value), v_ = (Value.agg #[(iv a_9.scales), vt0_, vm0_]) ∧ rs_ = [(c_0 true vt0_ lr0_ lb0_ a_9.tabs), (c_3 true vm0_ lk0_ a_9.macs)]), (fun (f : Nat → Value) (v_ : Value) (rs_ : List Res) => True ∧ rs_ = [(row v_ 98 2 w_8.length (pairs w_8))]), (yw (Value.tuple #[(Value.slice none 0 0), (iv (spE a_9 w_8))])), (yw (Value.tuple #[(Value.slice none 0 0), (iv (spE a_9 w_8))])), (yw (Value.slice none 0 0)), (yw (iv (spE a_9 w_8))), (yw (Value.slice none 0 0))] (by decide +kernel) (by decide +kernel) rfl rfl ⟨(fun _ _ _ _ _ h_ => h_), (fun _ _ _ _ _ h_ => h_), dw, dw, dw, dw, dw, trivial⟩ ?_ ?_
 ·skip
  refine ⟨fun a w f hA hS hd => e_2 rfl (vn (a_8 rfl u_9 ev0 (n_5 _)) (fun v w' h => by obtain ⟨vt, vm, lr, lb, lk, rfl, hT⟩ := h; exact ⟨_, ⟨vt, vm, lr, lb, lk, rfl, rfl⟩, hT, rfl⟩)), ?_⟩
  refine ⟨fun a w f hA hS hd => e_2 rfl (vn (op_makeFull (n := 9) (Sep.start NoB _) rfl l_3 el_98 (show _ = Value.int .i64 ((9 : Nat) : Int) from (evc _ _)) (show _ = Value.int .i64 ((9 : Nat) : Int) from (evc _ _)) mkv_98_9 (by decide) (by decide) (by decide)) (fun v w' h => ⟨_, ⟨trivial, rfl⟩, h, rfl⟩)), ?_⟩
  refine ⟨fun a w f hA hS hd => ?_, ?_⟩
  ·skip
   obtain ⟨e0, Ks, Jj, GF⟩ := hd 0 (by decide)
   obtain ⟨vt0_, vm0_, lr0_, lb0_, lk0_, Ji, Jf⟩ := Jj; subst Jf
   rw [Ji] at e0
   have hp0_0 := GF _ (List.mem_of_getElem? (i := 0) rfl)
   have hp0_1 := GF _ (List.mem_of_getElem? (i := 1) rfl)
   obtain ⟨e1, Kt, Jk, Jd⟩ := hd 1 (by decide)
   obtain ⟨Kq, Jg⟩ := Jk; subst Jg
   have hp1_0 := Jd _ (List.mem_of_getElem? (i := 0) rfl)
   exact gx1 (a_8 rfl en_25 (ev2 (c_1 (f_4 e0 rfl)) (c_1 (f_4 e1 rfl))) (Spans_bad a_9 vt0_ vm0_ lr0_ lb0_ lk0_ _ (c_5 hp0_0) (d_1 hp0_1) i_4 w_8 _ (SlAt.e_4 hp1_0) (by decide) (by rw [nm_read9]; decide)))
  refine ⟨fun a w f hA hS hd => gv1 (a_1 rfl (gu hd 2)), ?_⟩
  refine ⟨fun a w f hA hS hd => gv1 (b_2 rfl (gu hd 3) rfl), ?_⟩
  refine ⟨fun a w f hA hS hd => gv1 (b_2 rfl (gu hd 3) rfl), ?_⟩
  refine ⟨fun a w f hA hS hd => gv1 (a_0 rfl (gu hd 4)), ?_⟩
  trivial
 intro Hl I4 f rsf476 C5 o CG; clear C4 D9
 obtain ⟨Ib, Iu⟩ := o 0 (by decide)
 obtain ⟨vt0_, vm0_, lr0_, lb0_, lk0_, Ih, Fb⟩ := Iu
 obtain ⟨Ic, Iv⟩ := o 1 (by decide)
 obtain ⟨Ii, Fc⟩ := Iv
 have EA : Sep NoB w I4 [(c_0 true vt0_ lr0_ lb0_ a_9.tabs), (c_3 true vm0_ lk0_ a_9.macs), (row (f 1) 98 2 w_8.length (pairs w_8)), (row L 3 1 ((offL badB).length) (ints (offL badB))), (c_0 true vt168 (putV 1 (putV 0 (fun _ => NILs) F) G) (putV 1 (putV 0 (fun _ => NILs) E) NILs) badB.tabs), (c_3 true vm171 (putV 1 (putV 0 (fun _ => NILs) H) I) badB.macs)] := by rw [show catR rsf476 0 7 = ([(c_0 true vt0_ lr0_ lb0_ a_9.tabs), (c_3 true vm0_ lk0_ a_9.macs), (row (f 1) 98 2 w_8.length (pairs w_8))] : List Res) by (try simp only [catR, Fb, Fc, gr (o 2 (by decide)), gr (o 3 (by decide)), gr (o 4 (by decide)), gr (o 5 (by decide)), gr (o 6 (by decide))]); (try rfl)] at CG; exact CG
 have Bk := C5.add (gs (o 5 (by decide))); clear C5
 clear o CG Ib Ic
 clear Fb
 clear Ih
 clear Fc
 clear Ii
 refine s1 Bk (a_0 rfl Bk.e) fun Hm C6 => ?_; clear Bk Hl
 refine n2 ?_
 have EB := EA.gkp (gpc 3 (gpc 4 (gpc 5 gpn))); clear EA
 refine a_5 (s2 C6 (a_8 rfl u_9 ev0 (kept_parts _)) ?_)
 rintro Hn _ Kh ⟨U, V, T, vt488, W, X, vm491, rfl, Ep⟩ C7; have EC := EB.n_2 Ep rfl; clear Ep C6 EB Hm
 refine s2 C7 (a_8 rfl u_9 ev0 (kept_parts _)) ?_
 rintro Ho _ Ki ⟨P, Q, O, vt500, R, S, vm503, rfl, Eq⟩ C8; have ED := EC.n_2 Eq rfl; clear Eq C7 EC Hn
 refine s2 C8 (a_8 rfl u_9 ev0 (kept_parts _)) ?_
 rintro Hp _ Kj ⟨J, K, Z, vt512, M, N, vm515, rfl, Er⟩ C9; have EE := ED.n_2 Er rfl; clear Er C8 ED Ho
 refine s2 C9 (d_2 EE rfl ze_37 (cs := [(iv 0), (Value.slice none 0 0), (Value.slice none 0 0)]) rfl) ?_
 rintro Hq _ Kk ⟨b, rfl, EF⟩ DA; clear C9 EE Hp
 refine s2 DA (d_2 EF rfl ze_37 (cs := [(iv 0), (Value.slice none 0 0), (Value.slice none 0 0)]) rfl) ?_
 rintro Hr _ Kl ⟨c, rfl, EG⟩ DB; clear DA EF Hq
 refine s2 DB (d_2 EG rfl ze_37 (cs := [(iv 0), (Value.slice none 0 0), (Value.slice none 0 0)]) rfl) ?_
 rintro Hs _ Km ⟨d, rfl, AZ⟩ AR; clear DB EG Hr
 refine s7 AR (b_4 AZ rfl n_6 AR.e AR.e (i := 2) rfl (vs := [(iv 3), vt488, vm491]) rfl rfl (k_2 rfl (k_2 (SlAt.one (SlAt.e_4 (AZ.f_2 20 rfl))) (k_2 (SlAt.one (SlAt.e_4 (AZ.f_2 23 rfl))) y_2))) (Nat.le_of_ble_eq_true rfl)) ?_
 intro _ I5 EH AS; clear AR
 have Aa : Sep NoB w I5 [(blk d 37 [(iv 0), (Value.slice none 0 0), (Value.slice none 0 0)]), (blk c 37 [(iv 0), (Value.slice none 0 0), (Value.slice none 0 0)]), (blk b 37 [(iv 3), vt488, vm491]), (row J 107 2 4 [(iv 100), (iv 200), (iv 200), (iv 300), (iv 300), (iv 500), (iv 400), (iv 600)]), (row K 107 2 2 [(iv 250), (iv 90), (iv 350), (iv 50)]), (row Z 3 1 1 [(iv 2)]), (row vt512 106 5 2 [(iv 0), (iv 1), J, Z, (iv 2), (iv 1), (iv 2), K, (Value.slice none 0 0), (iv 0)]), (row M 100 3 2 [(iv 150), (iv 154), (iv 160), (iv 240), (iv 246), (iv 249)]), (row N 100 3 1 [(iv 300), (iv 300), (iv 299)]), (row vm515 103 2 2 [(iv 0), M, (iv 1), N]), (row P 107 2 4 [(iv 100), (iv 200), (iv 200), (iv 300), (iv 300), (iv 500), (iv 400), (iv 600)]), (row Q 107 2 2 [(iv 250), (iv 90), (iv 350), (iv 50)]), (row O 3 1 1 [(iv 2)]), (row vt500 106 5 2 [(iv 0), (iv 1), P, O, (iv 2), (iv 1), (iv 2), Q, (Value.slice none 0 0), (iv 0)]), (row R 100 3 2 [(iv 150), (iv 154), (iv 160), (iv 240), (iv 246), (iv 249)]), (row S 100 3 1 [(iv 300), (iv 300), (iv 299)]), (row vm503 103 2 2 [(iv 0), R, (iv 1), S]), (row U 107 2 4 [(iv 100), (iv 200), (iv 200), (iv 300), (iv 300), (iv 500), (iv 400), (iv 600)]), (row V 107 2 2 [(iv 250), (iv 90), (iv 350), (iv 50)]), (row T 3 1 1 [(iv 2)]), (row vt488 106 5 2 [(iv 0), (iv 1), U, T, (iv 2), (iv 1), (iv 2), V, (Value.slice none 0 0), (iv 0)]), (row W 100 3 2 [(iv 150), (iv 154), (iv 160), (iv 240), (iv 246), (iv 249)]), (row X 100 3 1 [(iv 300), (iv 300), (iv 299)]), (row vm491 103 2 2 [(iv 0), W, (iv 1), X]), (row L 3 1 ((offL badB).length) (ints (offL badB))), (c_0 true vt168 (putV 1 (putV 0 (fun _ => NILs) F) G) (putV 1 (putV 0 (fun _ => NILs) E) NILs) badB.tabs), (c_3 true vm171 (putV 1 (putV 0 (fun _ => NILs) H) I) badB.macs)] := EH; clear EH AZ
 refine s7 AS (b_4 Aa rfl n_6 AS.e AS.e (i := 1) rfl (vs := [(iv 3), vt500, vm503]) rfl rfl (k_2 rfl (k_2 (SlAt.one (SlAt.e_4 (Aa.f_2 13 rfl))) (k_2 (SlAt.one (SlAt.e_4 (Aa.f_2 16 rfl))) y_2))) (Nat.le_of_ble_eq_true rfl)) ?_
 intro _ I6 EI AT; clear AS
 have Ab : Sep NoB w I6 [(blk d 37 [(iv 0), (Value.slice none 0 0), (Value.slice none 0 0)]), (blk c 37 [(iv 3), vt500, vm503]), (blk b 37 [(iv 3), vt488, vm491]), (row J 107 2 4 [(iv 100), (iv 200), (iv 200), (iv 300), (iv 300), (iv 500), (iv 400), (iv 600)]), (row K 107 2 2 [(iv 250), (iv 90), (iv 350), (iv 50)]), (row Z 3 1 1 [(iv 2)]), (row vt512 106 5 2 [(iv 0), (iv 1), J, Z, (iv 2), (iv 1), (iv 2), K, (Value.slice none 0 0), (iv 0)]), (row M 100 3 2 [(iv 150), (iv 154), (iv 160), (iv 240), (iv 246), (iv 249)]), (row N 100 3 1 [(iv 300), (iv 300), (iv 299)]), (row vm515 103 2 2 [(iv 0), M, (iv 1), N]), (row P 107 2 4 [(iv 100), (iv 200), (iv 200), (iv 300), (iv 300), (iv 500), (iv 400), (iv 600)]), (row Q 107 2 2 [(iv 250), (iv 90), (iv 350), (iv 50)]), (row O 3 1 1 [(iv 2)]), (row vt500 106 5 2 [(iv 0), (iv 1), P, O, (iv 2), (iv 1), (iv 2), Q, (Value.slice none 0 0), (iv 0)]), (row R 100 3 2 [(iv 150), (iv 154), (iv 160), (iv 240), (iv 246), (iv 249)]), (row S 100 3 1 [(iv 300), (iv 300), (iv 299)]), (row vm503 103 2 2 [(iv 0), R, (iv 1), S]), (row U 107 2 4 [(iv 100), (iv 200), (iv 200), (iv 300), (iv 300), (iv 500), (iv 400), (iv 600)]), (row V 107 2 2 [(iv 250), (iv 90), (iv 350), (iv 50)]), (row T 3 1 1 [(iv 2)]), (row vt488 106 5 2 [(iv 0), (iv 1), U, T, (iv 2), (iv 1), (iv 2), V, (Value.slice none 0 0), (iv 0)]), (row W 100 3 2 [(iv 150), (iv 154), (iv 160), (iv 240), (iv 246), (iv 249)]), (row X 100 3 1 [(iv 300), (iv 300), (iv 299)]), (row vm491 103 2 2 [(iv 0), W, (iv 1), X]), (row L 3 1 ((offL badB).length) (ints (offL badB))), (c_0 true vt168 (putV 1 (putV 0 (fun _ => NILs) F) G) (putV 1 (putV 0 (fun _ => NILs) E) NILs) badB.tabs), (c_3 true vm171 (putV 1 (putV 0 (fun _ => NILs) H) I) badB.macs)] := EI; clear EI Aa
 refine s7 AT (b_4 Ab rfl n_6 AT.e AT.e (i := 0) rfl (vs := [(iv 3), vt512, vm515]) rfl rfl (k_2 rfl (k_2 (SlAt.one (SlAt.e_4 (Ab.f_2 6 rfl))) (k_2 (SlAt.one (SlAt.e_4 (Ab.f_2 9 rfl))) y_2))) (Nat.le_of_ble_eq_true rfl)) ?_
 intro _ I7 EJ Bm; clear AT
 have r : Sep NoB w I7 [(blk d 37 [(iv 3), vt512, vm515]), (blk c 37 [(iv 3), vt500, vm503]), (blk b 37 [(iv 3), vt488, vm491]), (row J 107 2 4 [(iv 100), (iv 200), (iv 200), (iv 300), (iv 300), (iv 500), (iv 400), (iv 600)]), (row K 107 2 2 [(iv 250), (iv 90), (iv 350), (iv 50)]), (row Z 3 1 1 [(iv 2)]), (row vt512 106 5 2 [(iv 0), (iv 1), J, Z, (iv 2), (iv 1), (iv 2), K, (Value.slice none 0 0), (iv 0)]), (row M 100 3 2 [(iv 150), (iv 154), (iv 160), (iv 240), (iv 246), (iv 249)]), (row N 100 3 1 [(iv 300), (iv 300), (iv 299)]), (row vm515 103 2 2 [(iv 0), M, (iv 1), N]), (row P 107 2 4 [(iv 100), (iv 200), (iv 200), (iv 300), (iv 300), (iv 500), (iv 400), (iv 600)]), (row Q 107 2 2 [(iv 250), (iv 90), (iv 350), (iv 50)]), (row O 3 1 1 [(iv 2)]), (row vt500 106 5 2 [(iv 0), (iv 1), P, O, (iv 2), (iv 1), (iv 2), Q, (Value.slice none 0 0), (iv 0)]), (row R 100 3 2 [(iv 150), (iv 154), (iv 160), (iv 240), (iv 246), (iv 249)]), (row S 100 3 1 [(iv 300), (iv 300), (iv 299)]), (row vm503 103 2 2 [(iv 0), R, (iv 1), S]), (row U 107 2 4 [(iv 100), (iv 200), (iv 200), (iv 300), (iv 300), (iv 500), (iv 400), (iv 600)]), (row V 107 2 2 [(iv 250), (iv 90), (iv 350), (iv 50)]), (row T 3 1 1 [(iv 2)]), (row vt488 106 5 2 [(iv 0), (iv 1), U, T, (iv 2), (iv 1), (iv 2), V, (Value.slice none 0 0), (iv 0)]), (row W 100 3 2 [(iv 150), (iv 154), (iv 160), (iv 240), (iv 246), (iv 249)]), (row X 100 3 1 [(iv 300), (iv 300), (iv 299)]), (row vm491 103 2 2 [(iv 0), W, (iv 1), X]), (row L 3 1 ((offL badB).length) (ints (offL badB))), (c_0 true vt168 (putV 1 (putV 0 (fun _ => NILs) F) G) (putV 1 (putV 0 (fun _ => NILs) E) NILs) badB.tabs), (c_3 true vm171 (putV 1 (putV 0 (fun _ => NILs) H) I) badB.macs)] := EJ; clear EJ Ab
 refine n4 (s1 Bm (a_4 rfl s_7 Bm.e) fun Ht Bn => ?_); clear Bm Hs
 refine s1 Bn (a_3 rfl z_5 Bn.e (r.bk 2 rfl) rfl) fun Hu Bo => ?_; clear Bn Ht
 refine s1 Bo (b_6 rfl x_3 j_5 Bo.e (i := 0) (show _ = Value.int .i64 ((0 : Nat) : Int) from (evc _ _)) (SlAt.e_4 (r.f_2 20 rfl)) (by decide) (by decide)) fun Hv Bp => ?_; clear Bo Hu
 refine s1 Bp (i_5 rfl fd_106_1 Bp.e (SlAt.e_4 (r.f_2 20 rfl)) (by rw [((SlAt.e_4 (r.f_2 20 rfl))).1]; first | omega | (simp only [List.length_set]; omega))) fun Hw Bq => ?_; clear Bp Hv
 refine s7 Bq (op_storeE r rfl ty_3 Bq.e (evc _ _) (i := 20) rfl (vs := [(iv 0)]) rfl rfl rfl (Nat.le_of_ble_eq_true rfl) (by decide)) ?_
 intro _ Kn EK DC; have m := EK.i_9 (i := 20) rfl (n' := 2) (xs' := [(iv 0), (iv 0), U, T, (iv 2), (iv 1), (iv 2), V, (Value.slice none 0 0), (iv 0)]) rfl rfl; clear EK Bq r
 refine n2 ?_
 have Br := DC.as [(23, (bptr d 0)), (22, (bptr c 0)), (21, (bptr b 0)), (20, (iv (spE a_9 w_8))), (18, (iv (spE a_9 ([(2, 0)])))), (16, (iv (i_0 a_9 2 (100, 100)))), (14, (iv (i_0 a_9 0 (99, 99)))), (12, (iv (i_0 a_9 0 (250, 350)))), (8, (iv (spE a_9 ([(0, 170), (1, 280)])))), (6, (iv (spE badB ([(0, 170)])))), (4, (iv 0)), (10, L), (2, (iv (l_1 badB 0)))] rfl; clear DC
 refine a_5 (s1 Br (a_4 rfl s_7 Br.e) fun Hx Bs => ?_); clear Br Hw
 refine s1 Bs (a_3 rfl z_5 Bs.e (m.bk 1 rfl) rfl) fun Hy Bt => ?_; clear Bs Hx
 refine s1 Bt (b_6 rfl x_3 j_5 Bt.e (i := 1) (show _ = Value.int .i64 ((1 : Nat) : Int) from (evc _ _)) (SlAt.e_4 (m.f_2 13 rfl)) (by decide) (by decide)) fun Hz Bu => ?_; clear Bt Hy
 refine s1 Bu (i_5 rfl i_2 Bu.e (SlAt.e_4 (m.f_2 13 rfl)) (by rw [((SlAt.e_4 (m.f_2 13 rfl))).1]; first | omega | (simp only [List.length_set]; omega))) fun H0 Bv => ?_; clear Bu Hz
 refine s1 Bv (g_2 rfl o_3 Bv.e (SlAt.e_4 (m.f_2 13 rfl)) rfl) fun H1 Bw => ?_; clear Bv H0
 refine s1 Bw (b_6 rfl j_0 h_2 Bw.e (i := 1) (show _ = Value.int .i64 ((1 : Nat) : Int) from (evc _ _)) (SlAt.e_4 (m.f_2 11 rfl)) (by decide) (by decide)) fun H2 Bx => ?_; clear Bw H1
 refine s1 Bx (i_5 rfl k_0 Bx.e (SlAt.e_4 (m.f_2 11 rfl)) (by rw [((SlAt.e_4 (m.f_2 11 rfl))).1]; first | omega | (simp only [List.length_set]; omega))) fun H3 By => ?_; clear Bx H2
 refine s7 By (op_storeE m rfl ty_3 By.e (evc _ _) (i := 11) rfl (vs := [(iv 90)]) rfl rfl rfl (Nat.le_of_ble_eq_true rfl) (by decide)) ?_
 intro _ Ko EL DD; have CI := EL.i_9 (i := 11) rfl (n' := 2) (xs' := [(iv 250), (iv 90), (iv 350), (iv 90)]) rfl rfl; clear EL By m
 refine n2 ?_
 have Bz := DD.as [(23, (bptr d 0)), (22, (bptr c 0)), (21, (bptr b 0)), (20, (iv (spE a_9 w_8))), (18, (iv (spE a_9 ([(2, 0)])))), (16, (iv (i_0 a_9 2 (100, 100)))), (14, (iv (i_0 a_9 0 (99, 99)))), (12, (iv (i_0 a_9 0 (250, 350)))), (8, (iv (spE a_9 ([(0, 170), (1, 280)])))), (6, (iv (spE badB ([(0, 170)])))), (4, (iv 0)), (10, L), (2, (iv (l_1 badB 0)))] rfl; clear DD
 refine a_5 (s1 Bz (a_4 rfl s_7 Bz.e) fun H4 B0 => ?_); clear Bz H3
 refine s1 B0 (a_3 rfl z_5 B0.e (CI.bk 0 rfl) rfl) fun H5 DE => ?_; clear B0 H4
 refine s2 DE (d_7 CI rfl (pv1 (evc _ _)) j_6 ty_3 ze_3 (by decide) (cs := [(iv 3)]) (s_6 _)) ?_
 rintro H6 _ Kp ⟨Y, rfl, AC⟩ B1; clear DE CI H5
 refine s1 B1 (b_6 rfl x_3 j_5 B1.e (i := 0) (show _ = Value.int .i64 ((0 : Nat) : Int) from (evc _ _)) (SlAt.e_4 (AC.f_2 7 rfl)) (by decide) (by decide)) fun H7 B2 => ?_; clear B1 H6
 refine s1 B2 (i_5 rfl fd_106_3 B2.e (SlAt.e_4 (AC.f_2 7 rfl)) (by rw [((SlAt.e_4 (AC.f_2 7 rfl))).1]; first | omega | (simp only [List.length_set]; omega))) fun H8 AU => ?_; clear B2 H7
 refine s7 AU (op_storeE AC rfl y_4 AU.e AU.e (i := 7) rfl (vs := [(Value.slice (some ⟨Y, 0, none⟩) 1 1)]) rfl rfl (k_2 rfl y_2) (Nat.le_of_ble_eq_true rfl) (by decide)) ?_
 intro _ p EM DF; have EN := EM.i_9 (i := 7) rfl (n' := 2) (xs' := [(iv 0), (iv 1), J, (Value.slice (some ⟨Y, 0, none⟩) 1 1), (iv 2), (iv 1), (iv 2), K, (Value.slice none 0 0), (iv 0)]) rfl rfl; clear EM AU AC
 refine n2 ?_
 have EO := EN.gkp (gpc 22 (gpc 23 (gpc 24 (gpc 0 (gpc 1 (gpc 2 (gpc 3 (gpc 4 (gpc 5 (gpc 6 (gpc 7 (gpc 8 (gpc 9 (gpc 10 (gpc 11 (gpc 12 (gpc 13 (gpc 14 (gpc 15 (gpc 16 (gpc 17 (gpc 18 (gpc 19 (gpc 20 (gpc 21 (gpc 25 (gpc 26 (gpc 27 gpn)))))))))))))))))))))))))))); clear EN
 have EP : Sep NoB w p [(c_3 true vm491 (putV 1 (putV 0 (fun _ => NILs) W) X) oddB.macs), (blk Y 3 [(iv 3)]), (blk d 37 [(iv 3), vt512, vm515]), (blk c 37 [(iv 3), vt500, vm503]), (blk b 37 [(iv 3), vt488, vm491]), (row J 107 2 4 [(iv 100), (iv 200), (iv 200), (iv 300), (iv 300), (iv 500), (iv 400), (iv 600)]), (row K 107 2 2 [(iv 250), (iv 90), (iv 350), (iv 50)]), (row Z 3 1 1 [(iv 2)]), (row vt512 106 5 2 [(iv 0), (iv 1), J, (Value.slice (some ⟨Y, 0, none⟩) 1 1), (iv 2), (iv 1), (iv 2), K, (Value.slice none 0 0), (iv 0)]), (row M 100 3 2 [(iv 150), (iv 154), (iv 160), (iv 240), (iv 246), (iv 249)]), (row N 100 3 1 [(iv 300), (iv 300), (iv 299)]), (row vm515 103 2 2 [(iv 0), M, (iv 1), N]), (row P 107 2 4 [(iv 100), (iv 200), (iv 200), (iv 300), (iv 300), (iv 500), (iv 400), (iv 600)]), (row Q 107 2 2 [(iv 250), (iv 90), (iv 350), (iv 90)]), (row O 3 1 1 [(iv 2)]), (row vt500 106 5 2 [(iv 0), (iv 1), P, O, (iv 2), (iv 1), (iv 2), Q, (Value.slice none 0 0), (iv 0)]), (row R 100 3 2 [(iv 150), (iv 154), (iv 160), (iv 240), (iv 246), (iv 249)]), (row S 100 3 1 [(iv 300), (iv 300), (iv 299)]), (row vm503 103 2 2 [(iv 0), R, (iv 1), S]), (row U 107 2 4 [(iv 100), (iv 200), (iv 200), (iv 300), (iv 300), (iv 500), (iv 400), (iv 600)]), (row V 107 2 2 [(iv 250), (iv 90), (iv 350), (iv 50)]), (row T 3 1 1 [(iv 2)]), (row vt488 106 5 2 [(iv 0), (iv 0), U, T, (iv 2), (iv 1), (iv 2), V, (Value.slice none 0 0), (iv 0)]), (row L 3 1 ((offL badB).length) (ints (offL badB))), (c_0 true vt168 (putV 1 (putV 0 (fun _ => NILs) F) G) (putV 1 (putV 0 (fun _ => NILs) E) NILs) badB.tabs), (c_3 true vm171 (putV 1 (putV 0 (fun _ => NILs) H) I) badB.macs)] := u_1 0 1 [(150, 154, 160), (240, 246, 249)] [(300, 300, 299)] EO; clear EO
 have EQ := EP.gkp (gpc 19 (gpc 20 (gpc 21 (gpc 22 (gpc 0 (gpc 1 (gpc 2 (gpc 3 (gpc 4 (gpc 5 (gpc 6 (gpc 7 (gpc 8 (gpc 9 (gpc 10 (gpc 11 (gpc 12 (gpc 13 (gpc 14 (gpc 15 (gpc 16 (gpc 17 (gpc 18 (gpc 23 (gpc 24 (gpc 25 gpn)))))))))))))))))))))))))); clear EP
 have ER : Sep NoB w p [(c_0 true vt488 (putV 1 (putV 0 (fun _ => NILs) U) V) (putV 1 (putV 0 (fun _ => NILs) T) NILs) oddB.tabs), (c_3 true vm491 (putV 1 (putV 0 (fun _ => NILs) W) X) oddB.macs), (blk Y 3 [(iv 3)]), (blk d 37 [(iv 3), vt512, vm515]), (blk c 37 [(iv 3), vt500, vm503]), (blk b 37 [(iv 3), vt488, vm491]), (row J 107 2 4 [(iv 100), (iv 200), (iv 200), (iv 300), (iv 300), (iv 500), (iv 400), (iv 600)]), (row K 107 2 2 [(iv 250), (iv 90), (iv 350), (iv 50)]), (row Z 3 1 1 [(iv 2)]), (row vt512 106 5 2 [(iv 0), (iv 1), J, (Value.slice (some ⟨Y, 0, none⟩) 1 1), (iv 2), (iv 1), (iv 2), K, (Value.slice none 0 0), (iv 0)]), (row M 100 3 2 [(iv 150), (iv 154), (iv 160), (iv 240), (iv 246), (iv 249)]), (row N 100 3 1 [(iv 300), (iv 300), (iv 299)]), (row vm515 103 2 2 [(iv 0), M, (iv 1), N]), (row P 107 2 4 [(iv 100), (iv 200), (iv 200), (iv 300), (iv 300), (iv 500), (iv 400), (iv 600)]), (row Q 107 2 2 [(iv 250), (iv 90), (iv 350), (iv 90)]), (row O 3 1 1 [(iv 2)]), (row vt500 106 5 2 [(iv 0), (iv 1), P, O, (iv 2), (iv 1), (iv 2), Q, (Value.slice none 0 0), (iv 0)]), (row R 100 3 2 [(iv 150), (iv 154), (iv 160), (iv 240), (iv 246), (iv 249)]), (row S 100 3 1 [(iv 300), (iv 300), (iv 299)]), (row vm503 103 2 2 [(iv 0), R, (iv 1), S]), (row L 3 1 ((offL badB).length) (ints (offL badB))), (c_0 true vt168 (putV 1 (putV 0 (fun _ => NILs) F) G) (putV 1 (putV 0 (fun _ => NILs) E) NILs) badB.tabs), (c_3 true vm171 (putV 1 (putV 0 (fun _ => NILs) H) I) badB.macs)] := u_2 0 0 2 1 2 0 [(100, 200), (200, 300), (300, 500), (400, 600)] [(250, 90), (350, 50)] [2] EQ; clear EQ
 have ES : Sep NoB w p [(c_0 true vt488 (putV 1 (putV 0 (fun _ => NILs) U) V) (putV 1 (putV 0 (fun _ => NILs) T) NILs) oddB.tabs), (c_3 true vm491 (putV 1 (putV 0 (fun _ => NILs) W) X) oddB.macs), (blk Y 3 [(iv 3)]), (blk d 37 [(iv 3), vt512, vm515]), (blk c 37 [(iv 3), vt500, vm503]), (blk b 37 [(iv oddB.scales), vt488, vm491]), (row J 107 2 4 [(iv 100), (iv 200), (iv 200), (iv 300), (iv 300), (iv 500), (iv 400), (iv 600)]), (row K 107 2 2 [(iv 250), (iv 90), (iv 350), (iv 50)]), (row Z 3 1 1 [(iv 2)]), (row vt512 106 5 2 [(iv 0), (iv 1), J, (Value.slice (some ⟨Y, 0, none⟩) 1 1), (iv 2), (iv 1), (iv 2), K, (Value.slice none 0 0), (iv 0)]), (row M 100 3 2 [(iv 150), (iv 154), (iv 160), (iv 240), (iv 246), (iv 249)]), (row N 100 3 1 [(iv 300), (iv 300), (iv 299)]), (row vm515 103 2 2 [(iv 0), M, (iv 1), N]), (row P 107 2 4 [(iv 100), (iv 200), (iv 200), (iv 300), (iv 300), (iv 500), (iv 400), (iv 600)]), (row Q 107 2 2 [(iv 250), (iv 90), (iv 350), (iv 90)]), (row O 3 1 1 [(iv 2)]), (row vt500 106 5 2 [(iv 0), (iv 1), P, O, (iv 2), (iv 1), (iv 2), Q, (Value.slice none 0 0), (iv 0)]), (row R 100 3 2 [(iv 150), (iv 154), (iv 160), (iv 240), (iv 246), (iv 249)]), (row S 100 3 1 [(iv 300), (iv 300), (iv 299)]), (row vm503 103 2 2 [(iv 0), R, (iv 1), S]), (row L 3 1 ((offL badB).length) (ints (offL badB))), (c_0 true vt168 (putV 1 (putV 0 (fun _ => NILs) F) G) (putV 1 (putV 0 (fun _ => NILs) E) NILs) badB.tabs), (c_3 true vm171 (putV 1 (putV 0 (fun _ => NILs) H) I) badB.macs)] := ER; clear ER
 have ET := ES.gkp (gpc 17 (gpc 18 (gpc 19 (gpc 0 (gpc 1 (gpc 2 (gpc 3 (gpc 4 (gpc 5 (gpc 6 (gpc 7 (gpc 8 (gpc 9 (gpc 10 (gpc 11 (gpc 12 (gpc 13 (gpc 14 (gpc 15 (gpc 16 (gpc 20 (gpc 21 (gpc 22 gpn))))))))))))))))))))))); clear ES
 have EU : Sep NoB w p [(c_3 true vm503 (putV 1 (putV 0 (fun _ => NILs) R) S) p_0.macs), (c_0 true vt488 (putV 1 (putV 0 (fun _ => NILs) U) V) (putV 1 (putV 0 (fun _ => NILs) T) NILs) oddB.tabs), (c_3 true vm491 (putV 1 (putV 0 (fun _ => NILs) W) X) oddB.macs), (blk Y 3 [(iv 3)]), (blk d 37 [(iv 3), vt512, vm515]), (blk c 37 [(iv 3), vt500, vm503]), (blk b 37 [(iv oddB.scales), vt488, vm491]), (row J 107 2 4 [(iv 100), (iv 200), (iv 200), (iv 300), (iv 300), (iv 500), (iv 400), (iv 600)]), (row K 107 2 2 [(iv 250), (iv 90), (iv 350), (iv 50)]), (row Z 3 1 1 [(iv 2)]), (row vt512 106 5 2 [(iv 0), (iv 1), J, (Value.slice (some ⟨Y, 0, none⟩) 1 1), (iv 2), (iv 1), (iv 2), K, (Value.slice none 0 0), (iv 0)]), (row M 100 3 2 [(iv 150), (iv 154), (iv 160), (iv 240), (iv 246), (iv 249)]), (row N 100 3 1 [(iv 300), (iv 300), (iv 299)]), (row vm515 103 2 2 [(iv 0), M, (iv 1), N]), (row P 107 2 4 [(iv 100), (iv 200), (iv 200), (iv 300), (iv 300), (iv 500), (iv 400), (iv 600)]), (row Q 107 2 2 [(iv 250), (iv 90), (iv 350), (iv 90)]), (row O 3 1 1 [(iv 2)]), (row vt500 106 5 2 [(iv 0), (iv 1), P, O, (iv 2), (iv 1), (iv 2), Q, (Value.slice none 0 0), (iv 0)]), (row L 3 1 ((offL badB).length) (ints (offL badB))), (c_0 true vt168 (putV 1 (putV 0 (fun _ => NILs) F) G) (putV 1 (putV 0 (fun _ => NILs) E) NILs) badB.tabs), (c_3 true vm171 (putV 1 (putV 0 (fun _ => NILs) H) I) badB.macs)] := u_1 0 1 [(150, 154, 160), (240, 246, 249)] [(300, 300, 299)] ET; clear ET
 have EV := EU.gkp (gpc 14 (gpc 15 (gpc 16 (gpc 17 (gpc 0 (gpc 1 (gpc 2 (gpc 3 (gpc 4 (gpc 5 (gpc 6 (gpc 7 (gpc 8 (gpc 9 (gpc 10 (gpc 11 (gpc 12 (gpc 13 (gpc 18 (gpc 19 (gpc 20 gpn))))))))))))))))))))); clear EU
 have EW : Sep NoB w p [(c_0 true vt500 (putV 1 (putV 0 (fun _ => NILs) P) Q) (putV 1 (putV 0 (fun _ => NILs) O) NILs) p_0.tabs), (c_3 true vm503 (putV 1 (putV 0 (fun _ => NILs) R) S) p_0.macs), (c_0 true vt488 (putV 1 (putV 0 (fun _ => NILs) U) V) (putV 1 (putV 0 (fun _ => NILs) T) NILs) oddB.tabs), (c_3 true vm491 (putV 1 (putV 0 (fun _ => NILs) W) X) oddB.macs), (blk Y 3 [(iv 3)]), (blk d 37 [(iv 3), vt512, vm515]), (blk c 37 [(iv 3), vt500, vm503]), (blk b 37 [(iv oddB.scales), vt488, vm491]), (row J 107 2 4 [(iv 100), (iv 200), (iv 200), (iv 300), (iv 300), (iv 500), (iv 400), (iv 600)]), (row K 107 2 2 [(iv 250), (iv 90), (iv 350), (iv 50)]), (row Z 3 1 1 [(iv 2)]), (row vt512 106 5 2 [(iv 0), (iv 1), J, (Value.slice (some ⟨Y, 0, none⟩) 1 1), (iv 2), (iv 1), (iv 2), K, (Value.slice none 0 0), (iv 0)]), (row M 100 3 2 [(iv 150), (iv 154), (iv 160), (iv 240), (iv 246), (iv 249)]), (row N 100 3 1 [(iv 300), (iv 300), (iv 299)]), (row vm515 103 2 2 [(iv 0), M, (iv 1), N]), (row L 3 1 ((offL badB).length) (ints (offL badB))), (c_0 true vt168 (putV 1 (putV 0 (fun _ => NILs) F) G) (putV 1 (putV 0 (fun _ => NILs) E) NILs) badB.tabs), (c_3 true vm171 (putV 1 (putV 0 (fun _ => NILs) H) I) badB.macs)] := u_2 0 1 2 1 2 0 [(100, 200), (200, 300), (300, 500), (400, 600)] [(250, 90), (350, 90)] [2] EV; clear EV
 have EX : Sep NoB w p [(c_0 true vt500 (putV 1 (putV 0 (fun _ => NILs) P) Q) (putV 1 (putV 0 (fun _ => NILs) O) NILs) p_0.tabs), (c_3 true vm503 (putV 1 (putV 0 (fun _ => NILs) R) S) p_0.macs), (c_0 true vt488 (putV 1 (putV 0 (fun _ => NILs) U) V) (putV 1 (putV 0 (fun _ => NILs) T) NILs) oddB.tabs), (c_3 true vm491 (putV 1 (putV 0 (fun _ => NILs) W) X) oddB.macs), (blk Y 3 [(iv 3)]), (blk d 37 [(iv 3), vt512, vm515]), (blk c 37 [(iv p_0.scales), vt500, vm503]), (blk b 37 [(iv oddB.scales), vt488, vm491]), (row J 107 2 4 [(iv 100), (iv 200), (iv 200), (iv 300), (iv 300), (iv 500), (iv 400), (iv 600)]), (row K 107 2 2 [(iv 250), (iv 90), (iv 350), (iv 50)]), (row Z 3 1 1 [(iv 2)]), (row vt512 106 5 2 [(iv 0), (iv 1), J, (Value.slice (some ⟨Y, 0, none⟩) 1 1), (iv 2), (iv 1), (iv 2), K, (Value.slice none 0 0), (iv 0)]), (row M 100 3 2 [(iv 150), (iv 154), (iv 160), (iv 240), (iv 246), (iv 249)]), (row N 100 3 1 [(iv 300), (iv 300), (iv 299)]), (row vm515 103 2 2 [(iv 0), M, (iv 1), N]), (row L 3 1 ((offL badB).length) (ints (offL badB))), (c_0 true vt168 (putV 1 (putV 0 (fun _ => NILs) F) G) (putV 1 (putV 0 (fun _ => NILs) E) NILs) badB.tabs), (c_3 true vm171 (putV 1 (putV 0 (fun _ => NILs) H) I) badB.macs)] := EW; clear EW
 have EY := EX.l_2 (i := 4) (sz := 1) (n := 1) rfl rfl (by decide); clear EX
 have EZ := EY.gkp (gpc 12 (gpc 13 (gpc 14 (gpc 0 (gpc 1 (gpc 2 (gpc 3 (gpc 4 (gpc 5 (gpc 6 (gpc 7 (gpc 8 (gpc 9 (gpc 10 (gpc 11 (gpc 15 (gpc 16 (gpc 17 gpn)))))))))))))))))); clear EY
 have Ea : Sep NoB w p [(c_3 true vm515 (putV 1 (putV 0 (fun _ => NILs) M) N) farB.macs), (c_0 true vt500 (putV 1 (putV 0 (fun _ => NILs) P) Q) (putV 1 (putV 0 (fun _ => NILs) O) NILs) p_0.tabs), (c_3 true vm503 (putV 1 (putV 0 (fun _ => NILs) R) S) p_0.macs), (c_0 true vt488 (putV 1 (putV 0 (fun _ => NILs) U) V) (putV 1 (putV 0 (fun _ => NILs) T) NILs) oddB.tabs), (c_3 true vm491 (putV 1 (putV 0 (fun _ => NILs) W) X) oddB.macs), (row (Value.slice (some ⟨Y, 0, none⟩) 1 1) 3 1 1 [(iv 3)]), (blk d 37 [(iv 3), vt512, vm515]), (blk c 37 [(iv p_0.scales), vt500, vm503]), (blk b 37 [(iv oddB.scales), vt488, vm491]), (row J 107 2 4 [(iv 100), (iv 200), (iv 200), (iv 300), (iv 300), (iv 500), (iv 400), (iv 600)]), (row K 107 2 2 [(iv 250), (iv 90), (iv 350), (iv 50)]), (row Z 3 1 1 [(iv 2)]), (row vt512 106 5 2 [(iv 0), (iv 1), J, (Value.slice (some ⟨Y, 0, none⟩) 1 1), (iv 2), (iv 1), (iv 2), K, (Value.slice none 0 0), (iv 0)]), (row L 3 1 ((offL badB).length) (ints (offL badB))), (c_0 true vt168 (putV 1 (putV 0 (fun _ => NILs) F) G) (putV 1 (putV 0 (fun _ => NILs) E) NILs) badB.tabs), (c_3 true vm171 (putV 1 (putV 0 (fun _ => NILs) H) I) badB.macs)] := u_1 0 1 [(150, 154, 160), (240, 246, 249)] [(300, 300, 299)] EZ; clear EZ
 have Eb := Ea.gkp (gpc 9 (gpc 10 (gpc 5 (gpc 12 (gpc 0 (gpc 1 (gpc 2 (gpc 3 (gpc 4 (gpc 6 (gpc 7 (gpc 8 (gpc 11 (gpc 13 (gpc 14 (gpc 15 gpn)))))))))))))))); clear Ea
 have Ec : Sep NoB w p [(c_0 true vt512 (putV 1 (putV 0 (fun _ => NILs) J) K) (putV 1 (putV 0 (fun _ => NILs) (Value.slice (some ⟨Y, 0, none⟩) 1 1)) NILs) farB.tabs), (c_3 true vm515 (putV 1 (putV 0 (fun _ => NILs) M) N) farB.macs), (c_0 true vt500 (putV 1 (putV 0 (fun _ => NILs) P) Q) (putV 1 (putV 0 (fun _ => NILs) O) NILs) p_0.tabs), (c_3 true vm503 (putV 1 (putV 0 (fun _ => NILs) R) S) p_0.macs), (c_0 true vt488 (putV 1 (putV 0 (fun _ => NILs) U) V) (putV 1 (putV 0 (fun _ => NILs) T) NILs) oddB.tabs), (c_3 true vm491 (putV 1 (putV 0 (fun _ => NILs) W) X) oddB.macs), (blk d 37 [(iv 3), vt512, vm515]), (blk c 37 [(iv p_0.scales), vt500, vm503]), (blk b 37 [(iv oddB.scales), vt488, vm491]), (row Z 3 1 1 [(iv 2)]), (row L 3 1 ((offL badB).length) (ints (offL badB))), (c_0 true vt168 (putV 1 (putV 0 (fun _ => NILs) F) G) (putV 1 (putV 0 (fun _ => NILs) E) NILs) badB.tabs), (c_3 true vm171 (putV 1 (putV 0 (fun _ => NILs) H) I) badB.macs)] := u_2 0 1 2 1 2 0 [(100, 200), (200, 300), (300, 500), (400, 600)] [(250, 90), (350, 50)] [3] Eb; clear Eb
 have Ed : Sep NoB w p [(c_0 true vt512 (putV 1 (putV 0 (fun _ => NILs) J) K) (putV 1 (putV 0 (fun _ => NILs) (Value.slice (some ⟨Y, 0, none⟩) 1 1)) NILs) farB.tabs), (c_3 true vm515 (putV 1 (putV 0 (fun _ => NILs) M) N) farB.macs), (c_0 true vt500 (putV 1 (putV 0 (fun _ => NILs) P) Q) (putV 1 (putV 0 (fun _ => NILs) O) NILs) p_0.tabs), (c_3 true vm503 (putV 1 (putV 0 (fun _ => NILs) R) S) p_0.macs), (c_0 true vt488 (putV 1 (putV 0 (fun _ => NILs) U) V) (putV 1 (putV 0 (fun _ => NILs) T) NILs) oddB.tabs), (c_3 true vm491 (putV 1 (putV 0 (fun _ => NILs) W) X) oddB.macs), (blk d 37 [(iv farB.scales), vt512, vm515]), (blk c 37 [(iv p_0.scales), vt500, vm503]), (blk b 37 [(iv oddB.scales), vt488, vm491]), (row Z 3 1 1 [(iv 2)]), (row L 3 1 ((offL badB).length) (ints (offL badB))), (c_0 true vt168 (putV 1 (putV 0 (fun _ => NILs) F) G) (putV 1 (putV 0 (fun _ => NILs) E) NILs) badB.tabs), (c_3 true vm171 (putV 1 (putV 0 (fun _ => NILs) H) I) badB.macs)] := Ec; clear Ec
 have Ee := Ed.gkp (gpc 0 (gpc 1 (gpc 2 (gpc 3 (gpc 4 (gpc 5 (gpc 6 (gpc 7 (gpc 8 (gpc 10 (gpc 11 (gpc 12 gpn)))))))))))); clear Ed
 refine a_5 (s1 DF (c_7 rfl (pv1 (evc _ _)) (bd_37_0i _)) fun H9 B3 => ?_); clear DF H8
 refine s2 B3 (a_8 rfl en_25 (ev2 B3.e (evc _ _)) (Spans_ok freeB NILs NILs (fun _ => NILs) (fun _ => NILs) (fun _ => NILs) _ (tabsAt_nil _ _ _) (macsAt_nil _ _) free_thin ([]) _ (slAt_nil _ 1) (by decide) ([(0, 100000)]) nm_free nm_freespans)) ?_
 rintro IA _ I8 ⟨t, rfl, Es⟩ B4
 have Ef : Sep NoB w I8 [(row t 30 2 ([(0, 100000)].length) (pairs ([(0, 100000)]))), (c_0 true vt512 (putV 1 (putV 0 (fun _ => NILs) J) K) (putV 1 (putV 0 (fun _ => NILs) (Value.slice (some ⟨Y, 0, none⟩) 1 1)) NILs) farB.tabs), (c_3 true vm515 (putV 1 (putV 0 (fun _ => NILs) M) N) farB.macs), (c_0 true vt500 (putV 1 (putV 0 (fun _ => NILs) P) Q) (putV 1 (putV 0 (fun _ => NILs) O) NILs) p_0.tabs), (c_3 true vm503 (putV 1 (putV 0 (fun _ => NILs) R) S) p_0.macs), (c_0 true vt488 (putV 1 (putV 0 (fun _ => NILs) U) V) (putV 1 (putV 0 (fun _ => NILs) T) NILs) oddB.tabs), (c_3 true vm491 (putV 1 (putV 0 (fun _ => NILs) W) X) oddB.macs), (blk d 37 [(iv farB.scales), vt512, vm515]), (blk c 37 [(iv p_0.scales), vt500, vm503]), (blk b 37 [(iv oddB.scales), vt488, vm491]), (row L 3 1 ((offL badB).length) (ints (offL badB))), (c_0 true vt168 (putV 1 (putV 0 (fun _ => NILs) F) G) (putV 1 (putV 0 (fun _ => NILs) E) NILs) badB.tabs), (c_3 true vm171 (putV 1 (putV 0 (fun _ => NILs) H) I) badB.macs)] := Ee.n_2 Es rfl; clear Es B3 Ee H9
 refine s1 B4 (a_1 rfl B4.e) fun IB B5 => ?_; clear B4 IA
 refine s1 B5 (b_2 rfl B5.e rfl) fun IC B6 => ?_; clear B5 IB
 refine s1 B6 (b_2 rfl B6.e rfl) fun ID B7 => ?_; clear B6 IC
 refine s1 B7 (a_0 rfl B7.e) fun IE B8 => ?_; clear B7 ID
 refine s1 B8 (a_0 rfl B8.e) fun Jt DG => ?_; clear B8 IE
 refine n2 ?_
 have DH := DG.as [(25, (iv 0)), (24, t), (23, (bptr d 0)), (22, (bptr c 0)), (21, (bptr b 0)), (20, (iv (spE a_9 w_8))), (18, (iv (spE a_9 ([(2, 0)])))), (16, (iv (i_0 a_9 2 (100, 100)))), (14, (iv (i_0 a_9 0 (99, 99)))), (12, (iv (i_0 a_9 0 (250, 350)))), (8, (iv (spE a_9 ([(0, 170), (1, 280)])))), (6, (iv (spE badB ([(0, 170)])))), (4, (iv 0)), (10, L), (2, (iv (l_1 badB 0)))] rfl; clear DG
 have DI := DH.as [(25, (iv 0)), (24, t), (23, (bptr d 0)), (22, (bptr c 0)), (21, (bptr b 0)), (20, (iv (spE a_9 w_8))), (18, (iv (spE a_9 ([(2, 0)])))), (16, (iv (i_0 a_9 2 (100, 100)))), (14, (iv (i_0 a_9 0 (99, 99)))), (12, (iv (i_0 a_9 0 (250, 350)))), (8, (iv (spE a_9 ([(0, 170), (1, 280)])))), (6, (iv (spE badB ([(0, 170)])))), (4, (iv 0)), (10, L), (2, (iv (l_1 badB 0)))] rfl; clear DH
 refine c_drawV mixed DI Ef 78 [[], [0], [1], [2], [2, 3], [2, 4], [5], [6], [6], [6, 7, 8], [6, 9], [10], [11], [11, 12], [11, 13], [14], [15], [15, 16], [15, 17], [18], [19], [19, 20], [19, 21], [22], [23], [23, 24], [23, 25], [26], [27], [27, 28], [27, 29], [30], [31], [31, 32], [31, 33], [34], [35], [35, 36], [35, 37], [38], [39], [39, 40], [39, 41], [39, 42], [43], [44], [44, 45], [44, 46], [44, 47], [48], [49], [49, 50], [49, 51], [49, 52], [53], [54], [54, 55], [54, 56], [54, 57], [58], [59], [59, 60], [59, 61], [62], [63], [63, 64], [63, 65], [63, 66], [67], [68], [68, 69], [68, 70], [68], [68, 71, 72], [68, 73], [74], [75], [75, 76]] [(yw (iv (l_1 badB 0))), (yw (Value.bool true)), (yw (Value.bool true)), (yw (iv 0)), (yw (Value.bool true)), (yw (Value.bool true)), (yw (Value.bool true)), (yw L), (fun (B : Nat → Value) (v_ : Value) (rs_ : List Res) => True ∧ rs_ = [(row v_ 3 1 1 [(iv 0)])]), (yw (Value.bool true)), (yw (Value.bool true)), (yw (Value.bool true)), (yw (iv (spE badB ([(0, 170)])))), (yw (Value.bool true)), (yw (Value.bool true)), (yw (Value.bool true)), (yw (iv (spE a_9 ([(0, 170), (1, 280)])))), (yw (Value.bool true)), (yw (Value.bool true)), (yw (Value.bool true)), (yw (iv (i_0 a_9 0 (250, 350)))), (yw (Value.bool true)), (yw (Value.bool true)), (yw (Value.bool true)), (yw (iv (i_0 a_9 0 (99, 99)))), (yw (Value.bool true)), (yw (Value.bool true)), (yw (Value.bool true)), (yw (iv (i_0 a_9 2 (100, 100)))), (yw (Value.bool true)), (yw (Value.bool true)), (yw (Value.bool true)), (yw (iv (spE a_9 ([(2, 0)])))), (yw (Value.bool true)), (yw (Value.bool true)), (yw (Value.bool true)), (yw (iv (spE a_9 w_8))), (yw (Value.bool true)), (yw (Value.bool true)), (yw (Value.bool true)), (yw (Value.agg #[(iv oddB.scales), vt488, vm491])), (yw (iv (e_9 oddB))), (yw (Value.bool true)), (yw (Value.bool true)), (yw (Value.bool true)), (yw (Value.agg #[(iv p_0.scales), vt500, vm503])), (yw (iv (e_9 p_0))), (yw (Value.bool true)), (yw (Value.bool true)), (yw (Value.bool true)), (yw (Value.agg #[(iv farB.scales), vt512, vm515])), (yw (iv (e_9 farB))), (yw (Value.bool true)), (yw (Value.bool true)), (yw (Value.bool true)), (yw (Value.agg #[(iv 0), (Value.slice none 0 0), (Value.slice none 0 0)])), (yw (iv (e_9 zeroB))), (yw (Value.bool true)), (yw (Value.bool true)), (yw (Value.bool true)), (yw (iv 0)), (yw (Value.bool true)), (yw (Value.bool true)), (yw (Value.bool true)), (yw t), (yw (iv ([(0, 100000)].length : Int))), (yw (Value.bool true)), (yw (Value.bool true)), (yw (Value.bool true)), (yw t), (yw (eptr t (0 * 2))), (yw (Value.agg #[(iv ((([(0, 100000)]).getD 0 (0, 0)).1)), (iv ((([(0, 100000)]).getD 0 (0, 0)).2))])), (yw (Value.agg #[(iv 0), (iv 100000)])), (yw (Value.bool true)), (yw (Value.bool true)), (yw (Value.bool true)), (yw (Value.bool true)), (yw (Value.bool true))] (by decide +kernel) (by decide +kernel) rfl rfl ⟨dw, dw, dw, dw, dw, dw, dw, dw, (fun _ _ _ _ _ h_ => h_), dw, dw, dw, dw, dw, dw, dw, dw, dw, dw, dw, dw, dw, dw, dw, dw, dw, dw, dw, dw, dw, dw, dw, dw, dw, dw, dw, dw, dw, dw, dw, dw, dw, dw, dw, dw, dw, dw, dw, dw, dw, dw, dw, dw, dw, dw, dw, dw, dw, dw, dw, dw, dw, dw, dw, dw, dw, dw, dw, dw, dw, dw, dw, dw, dw, dw, dw, dw, dw, trivial⟩ ?_ ?_
 ·skip
  refine ⟨fun a w B hA hS hd => gv1 (a_1 rfl hA.e), ?_⟩
  refine ⟨fun a w B hA hS hd => gv2 (j_8 rfl (gu hd 0) (evc _ _)) (And.intro (by show Value.bool _ = _; simp only [decide_eq_true (show (l_1 badB 0) = 11 from (by decide +kernel)), decide_true, decide_false, Bool.not_true, Bool.not_false]) rfl), ?_⟩
  refine ⟨fun a w B hA hS hd => gv1 (a_1 rfl (gu hd 1)), ?_⟩
  refine ⟨fun a w B hA hS hd => gy1 hd 2 (a_1 rfl hA.e), ?_⟩
  refine ⟨fun a w B hA hS hd => gy1 hd 2 (j_8 rfl (gu hd 3) (evc _ _)), ?_⟩
  refine ⟨fun a w B hA hS hd => gv1 (b_5 rfl (gu hd 2) (gu hd 4)), ?_⟩
  refine ⟨fun a w B hA hS hd => gv1 (a_1 rfl (gu hd 5)), ?_⟩
  refine ⟨fun a w B hA hS hd => gy1 hd 6 (a_1 rfl hA.e), ?_⟩
  refine ⟨fun a w B hA hS hd => d_9 rfl rfl (gut hd 6 (by decide) rfl (fun _ h => And.left h)) (vblt rfl (pv1 (evc _ _)) j_6 ty_3 ze_3 (by decide) (cs := [(iv 0)]) (s_6 _) rfl (by decide) (fun _ => And.intro trivial rfl)), ?_⟩
  refine ⟨fun a w B hA hS hd => ?_, ?_⟩
  ·skip
   obtain ⟨e8, Ku, Jl, Je⟩ := hd 8 (by decide)
   obtain ⟨Kr, Jh⟩ := Jl; subst Jh
   have hp8_0 := Je _ (List.mem_of_getElem? (i := 0) rfl)
   exact d_9 rfl rfl (gut hd 6 (by decide) rfl (fun _ h => And.left h)) (vx (a_8 rfl en_36 (ev2 (gu hd 7) (c_1 (f_4 e8 rfl))) (ints_ok (offL badB) _ _ (SlAt.e_4 (hS.f_2 10 rfl)) ([0]) _ (SlAt.e_4 hp8_0) (by decide))) (And.intro (by show Value.bool _ = _; simp only [(show (decide ((offL badB) = [0])) = true from (by decide +kernel)), decide_true, decide_false, Bool.not_true, Bool.not_false]) rfl))
  refine ⟨fun a w B hA hS hd => gv1 (b_5 rfl (gu hd 6) (gu hd 9)), ?_⟩
  refine ⟨fun a w B hA hS hd => gv1 (a_1 rfl (gu hd 10)), ?_⟩
  refine ⟨fun a w B hA hS hd => gy1 hd 11 (a_1 rfl hA.e), ?_⟩
  refine ⟨fun a w B hA hS hd => gy2 hd 11 (j_8 rfl (gu hd 12) (evc _ _)) (And.intro (by show Value.bool _ = _; simp only [decide_eq_true (show (spE badB ([(0, 170)])) = 11 from (by decide +kernel)), decide_true, decide_false, Bool.not_true, Bool.not_false]) rfl), ?_⟩
  refine ⟨fun a w B hA hS hd => gv1 (b_5 rfl (gu hd 11) (gu hd 13)), ?_⟩
  refine ⟨fun a w B hA hS hd => gv1 (a_1 rfl (gu hd 14)), ?_⟩
  refine ⟨fun a w B hA hS hd => gy1 hd 15 (a_1 rfl hA.e), ?_⟩
  refine ⟨fun a w B hA hS hd => gy2 hd 15 (j_8 rfl (gu hd 16) (evc _ _)) (And.intro (by show Value.bool _ = _; simp only [decide_eq_true (show (spE a_9 ([(0, 170), (1, 280)])) = 9 from (by decide +kernel)), decide_true, decide_false, Bool.not_true, Bool.not_false]) rfl), ?_⟩
  refine ⟨fun a w B hA hS hd => gv1 (b_5 rfl (gu hd 15) (gu hd 17)), ?_⟩
  refine ⟨fun a w B hA hS hd => gv1 (a_1 rfl (gu hd 18)), ?_⟩
  refine ⟨fun a w B hA hS hd => gy1 hd 19 (a_1 rfl hA.e), ?_⟩
  refine ⟨fun a w B hA hS hd => gy2 hd 19 (j_8 rfl (gu hd 20) (evc _ _)) (And.intro (by show Value.bool _ = _; simp only [decide_eq_true (show (i_0 a_9 0 (250, 350)) = 10 from (by decide +kernel)), decide_true, decide_false, Bool.not_true, Bool.not_false]) rfl), ?_⟩
  refine ⟨fun a w B hA hS hd => gv1 (b_5 rfl (gu hd 19) (gu hd 21)), ?_⟩
  refine ⟨fun a w B hA hS hd => gv1 (a_1 rfl (gu hd 22)), ?_⟩
  refine ⟨fun a w B hA hS hd => gy1 hd 23 (a_1 rfl hA.e), ?_⟩
  refine ⟨fun a w B hA hS hd => gy2 hd 23 (j_8 rfl (gu hd 24) (evc _ _)) (And.intro (by show Value.bool _ = _; simp only [decide_eq_true (show (i_0 a_9 0 (99, 99)) = 10 from (by decide +kernel)), decide_true, decide_false, Bool.not_true, Bool.not_false]) rfl), ?_⟩
  refine ⟨fun a w B hA hS hd => gv1 (b_5 rfl (gu hd 23) (gu hd 25)), ?_⟩
  refine ⟨fun a w B hA hS hd => gv1 (a_1 rfl (gu hd 26)), ?_⟩
  refine ⟨fun a w B hA hS hd => gy1 hd 27 (a_1 rfl hA.e), ?_⟩
  refine ⟨fun a w B hA hS hd => gy2 hd 27 (j_8 rfl (gu hd 28) (evc _ _)) (And.intro (by show Value.bool _ = _; simp only [decide_eq_true (show (i_0 a_9 2 (100, 100)) = 2 from (by decide +kernel)), decide_true, decide_false, Bool.not_true, Bool.not_false]) rfl), ?_⟩
  refine ⟨fun a w B hA hS hd => gv1 (b_5 rfl (gu hd 27) (gu hd 29)), ?_⟩
  refine ⟨fun a w B hA hS hd => gv1 (a_1 rfl (gu hd 30)), ?_⟩
  refine ⟨fun a w B hA hS hd => gy1 hd 31 (a_1 rfl hA.e), ?_⟩
  refine ⟨fun a w B hA hS hd => gy2 hd 31 (j_8 rfl (gu hd 32) (evc _ _)) (And.intro (by show Value.bool _ = _; simp only [decide_eq_true (show (spE a_9 ([(2, 0)])) = 2 from (by decide +kernel)), decide_true, decide_false, Bool.not_true, Bool.not_false]) rfl), ?_⟩
  refine ⟨fun a w B hA hS hd => gv1 (b_5 rfl (gu hd 31) (gu hd 33)), ?_⟩
  refine ⟨fun a w B hA hS hd => gv1 (a_1 rfl (gu hd 34)), ?_⟩
  refine ⟨fun a w B hA hS hd => gy1 hd 35 (a_1 rfl hA.e), ?_⟩
  refine ⟨fun a w B hA hS hd => gy2 hd 35 (j_8 rfl (gu hd 36) (evc _ _)) (And.intro (by show Value.bool _ = _; simp only [decide_eq_true (show (spE a_9 w_8) = 3 from (by decide +kernel)), decide_true, decide_false, Bool.not_true, Bool.not_false]) rfl), ?_⟩
  refine ⟨fun a w B hA hS hd => gv1 (b_5 rfl (gu hd 35) (gu hd 37)), ?_⟩
  refine ⟨fun a w B hA hS hd => gv1 (a_1 rfl (gu hd 38)), ?_⟩
  refine ⟨fun a w B hA hS hd => gy1 hd 39 (b_9 rfl n_6 (hA.ev rfl) (hS.bk 9 rfl) (l := [(iv oddB.scales), vt488, vm491]) rfl rfl), ?_⟩
  refine ⟨fun a w B hA hS hd => d_9 rfl rfl (gut hd 39 (by decide) rfl (fun _ h => And.left h)) (vx (a_8 rfl en_32 (ev1 (gu hd 40)) (l_8 oddB vt488 vm491 (putV 1 (putV 0 (fun _ => NILs) U) V) (putV 1 (putV 0 (fun _ => NILs) T) NILs) (putV 1 (putV 0 (fun _ => NILs) W) X) _ (c_5 (hS.ok 5 _ rfl)) (d_1 (hS.ok 6 _ rfl)) odd_thin)) (And.intro rfl rfl)), ?_⟩
  refine ⟨fun a w B hA hS hd => gy2 hd 39 (j_8 rfl (gu hd 41) (evc _ _)) (And.intro (by show Value.bool _ = _; simp only [decide_eq_true (show (e_9 oddB) = 1 from (by decide +kernel)), decide_true, decide_false, Bool.not_true, Bool.not_false]) rfl), ?_⟩
  refine ⟨fun a w B hA hS hd => gv1 (b_5 rfl (gu hd 39) (gu hd 42)), ?_⟩
  refine ⟨fun a w B hA hS hd => gv1 (a_1 rfl (gu hd 43)), ?_⟩
  refine ⟨fun a w B hA hS hd => gy1 hd 44 (b_9 rfl n_6 (hA.ev rfl) (hS.bk 8 rfl) (l := [(iv p_0.scales), vt500, vm503]) rfl rfl), ?_⟩
  refine ⟨fun a w B hA hS hd => d_9 rfl rfl (gut hd 44 (by decide) rfl (fun _ h => And.left h)) (vx (a_8 rfl en_32 (ev1 (gu hd 45)) (l_8 p_0 vt500 vm503 (putV 1 (putV 0 (fun _ => NILs) P) Q) (putV 1 (putV 0 (fun _ => NILs) O) NILs) (putV 1 (putV 0 (fun _ => NILs) R) S) _ (c_5 (hS.ok 3 _ rfl)) (d_1 (hS.ok 4 _ rfl)) flat_thin)) (And.intro rfl rfl)), ?_⟩
  refine ⟨fun a w B hA hS hd => gy2 hd 44 (j_8 rfl (gu hd 46) (evc _ _)) (And.intro (by show Value.bool _ = _; simp only [decide_eq_true (show (e_9 p_0) = 1 from (by decide +kernel)), decide_true, decide_false, Bool.not_true, Bool.not_false]) rfl), ?_⟩
  refine ⟨fun a w B hA hS hd => gv1 (b_5 rfl (gu hd 44) (gu hd 47)), ?_⟩
  refine ⟨fun a w B hA hS hd => gv1 (a_1 rfl (gu hd 48)), ?_⟩
  refine ⟨fun a w B hA hS hd => gy1 hd 49 (b_9 rfl n_6 (hA.ev rfl) (hS.bk 7 rfl) (l := [(iv farB.scales), vt512, vm515]) rfl rfl), ?_⟩
  refine ⟨fun a w B hA hS hd => d_9 rfl rfl (gut hd 49 (by decide) rfl (fun _ h => And.left h)) (vx (a_8 rfl en_32 (ev1 (gu hd 50)) (l_8 farB vt512 vm515 (putV 1 (putV 0 (fun _ => NILs) J) K) (putV 1 (putV 0 (fun _ => NILs) (Value.slice (some ⟨Y, 0, none⟩) 1 1)) NILs) (putV 1 (putV 0 (fun _ => NILs) M) N) _ (c_5 (hS.ok 1 _ rfl)) (d_1 (hS.ok 2 _ rfl)) far_thin)) (And.intro rfl rfl)), ?_⟩
  refine ⟨fun a w B hA hS hd => gy2 hd 49 (j_8 rfl (gu hd 51) (evc _ _)) (And.intro (by show Value.bool _ = _; simp only [decide_eq_true (show (e_9 farB) = 1 from (by decide +kernel)), decide_true, decide_false, Bool.not_true, Bool.not_false]) rfl), ?_⟩
  refine ⟨fun a w B hA hS hd => gv1 (b_5 rfl (gu hd 49) (gu hd 52)), ?_⟩
  refine ⟨fun a w B hA hS hd => gv1 (a_1 rfl (gu hd 53)), ?_⟩
  refine ⟨fun a w B hA hS hd => gy1 hd 54 (c_7 rfl pv0 bd_37_), ?_⟩
  refine ⟨fun a w B hA hS hd => d_9 rfl rfl (gut hd 54 (by decide) rfl (fun _ h => And.left h)) (vx (a_8 rfl en_32 (ev1 (gu hd 55)) (l_8 zeroB NILs NILs (fun _ => NILs) (fun _ => NILs) (fun _ => NILs) _ (tabsAt_nil _ _ _) (macsAt_nil _ _) zero_thin)) (And.intro rfl rfl)), ?_⟩
  refine ⟨fun a w B hA hS hd => gy2 hd 54 (j_8 rfl (gu hd 56) (evc _ _)) (And.intro (by show Value.bool _ = _; simp only [decide_eq_true (show (e_9 zeroB) = 1 from (by decide +kernel)), decide_true, decide_false, Bool.not_true, Bool.not_false]) rfl), ?_⟩
  refine ⟨fun a w B hA hS hd => gv1 (b_5 rfl (gu hd 54) (gu hd 57)), ?_⟩
  refine ⟨fun a w B hA hS hd => gv1 (a_1 rfl (gu hd 58)), ?_⟩
  refine ⟨fun a w B hA hS hd => gy1 hd 59 (a_1 rfl hA.e), ?_⟩
  refine ⟨fun a w B hA hS hd => gy1 hd 59 (j_8 rfl (gu hd 60) (evc _ _)), ?_⟩
  refine ⟨fun a w B hA hS hd => gv1 (b_5 rfl (gu hd 59) (gu hd 61)), ?_⟩
  refine ⟨fun a w B hA hS hd => gv1 (a_1 rfl (gu hd 62)), ?_⟩
  refine ⟨fun a w B hA hS hd => gy1 hd 63 (a_1 rfl hA.e), ?_⟩
  refine ⟨fun a w B hA hS hd => gy1 hd 63 (e_8 rfl x_9 (gu hd 64) (SlAt.e_4 (hS.f_2 0 rfl))), ?_⟩
  refine ⟨fun a w B hA hS hd => gy2 hd 63 (j_8 rfl (gu hd 65) (evc _ _)) (And.intro (by show Value.bool _ = _; simp only [decide_eq_true (show ([(0, 100000)].length : Int) = 1 from (by decide +kernel)), decide_true, decide_false, Bool.not_true, Bool.not_false]) rfl), ?_⟩
  refine ⟨fun a w B hA hS hd => gv1 (b_5 rfl (gu hd 63) (gu hd 66)), ?_⟩
  refine ⟨fun a w B hA hS hd => gv1 (a_1 rfl (gu hd 67)), ?_⟩
  refine ⟨fun a w B hA hS hd => gy1 hd 68 (a_1 rfl hA.e), ?_⟩
  refine ⟨fun a w B hA hS hd => gy1 hd 68 (b_6 rfl x_9 f_1 (gu hd 69) (i := 0) (show _ = Value.int .i64 ((0 : Nat) : Int) from (evc _ _)) (SlAt.e_4 (hS.f_2 0 rfl)) (by decide) (by decide)), ?_⟩
  refine ⟨fun a w B hA hS hd => gy1 hd 68 (e_7 rfl f_1 (gu hd 70) (SlAt.e_4 (hS.f_2 0 rfl)) (g_1 (by decide)) rfl (by decide)), ?_⟩
  refine ⟨fun a w B hA hS hd => d_9 rfl rfl (gut hd 68 (by decide) rfl (fun _ h => And.left h)) (vx (a_8 rfl t_6 (ev2 (evc _ _) (evc _ _)) (f_8 _ _ _)) (And.intro rfl rfl)), ?_⟩
  refine ⟨fun a w B hA hS hd => gy2 hd 68 (op_eqlP z_0 rfl (gu hd 71) (gu hd 72)) (And.intro (by show Value.bool _ = _; simp only [(show (decide ((((([(0, 100000)]).getD 0 (0, 0)).1) : Int) = 0) && decide ((((([(0, 100000)]).getD 0 (0, 0)).2) : Int) = 100000)) = true from (by decide +kernel)), decide_true, decide_false, Bool.not_true, Bool.not_false]) rfl), ?_⟩
  refine ⟨fun a w B hA hS hd => gv1 (b_5 rfl (gu hd 68) (gu hd 73)), ?_⟩
  refine ⟨fun a w B hA hS hd => gv1 (a_1 rfl (gu hd 74)), ?_⟩
  refine ⟨fun a w B hA hS hd => d_9 rfl rfl (gut hd 75 (by decide) rfl (fun _ h => And.left h)) (vx (a_8 rfl en_17 ev0 (awake_ok _)) (And.intro rfl rfl)), ?_⟩
  refine ⟨fun a w B hA hS hd => gv1 (b_5 rfl (gu hd 75) (gu hd 76)), ?_⟩
  trivial
 intro IF I9 B rsf637 DJ D CJ; clear DI Ef
 obtain ⟨Id, Iw⟩ := D 8 (by decide)
 obtain ⟨Ij, Fd⟩ := Iw
 have Fe : Sep NoB w I9 [(row (B 8) 3 1 1 [(iv 0)]), (row t 30 2 ([(0, 100000)].length) (pairs ([(0, 100000)]))), (c_0 true vt512 (putV 1 (putV 0 (fun _ => NILs) J) K) (putV 1 (putV 0 (fun _ => NILs) (Value.slice (some ⟨Y, 0, none⟩) 1 1)) NILs) farB.tabs), (c_3 true vm515 (putV 1 (putV 0 (fun _ => NILs) M) N) farB.macs), (c_0 true vt500 (putV 1 (putV 0 (fun _ => NILs) P) Q) (putV 1 (putV 0 (fun _ => NILs) O) NILs) p_0.tabs), (c_3 true vm503 (putV 1 (putV 0 (fun _ => NILs) R) S) p_0.macs), (c_0 true vt488 (putV 1 (putV 0 (fun _ => NILs) U) V) (putV 1 (putV 0 (fun _ => NILs) T) NILs) oddB.tabs), (c_3 true vm491 (putV 1 (putV 0 (fun _ => NILs) W) X) oddB.macs), (blk d 37 [(iv farB.scales), vt512, vm515]), (blk c 37 [(iv p_0.scales), vt500, vm503]), (blk b 37 [(iv oddB.scales), vt488, vm491]), (row L 3 1 ((offL badB).length) (ints (offL badB))), (c_0 true vt168 (putV 1 (putV 0 (fun _ => NILs) F) G) (putV 1 (putV 0 (fun _ => NILs) E) NILs) badB.tabs), (c_3 true vm171 (putV 1 (putV 0 (fun _ => NILs) H) I) badB.macs)] := by rw [show catR rsf637 0 78 = ([(row (B 8) 3 1 1 [(iv 0)])] : List Res) by (try simp only [catR, gr (D 0 (by decide)), gr (D 1 (by decide)), gr (D 2 (by decide)), gr (D 3 (by decide)), gr (D 4 (by decide)), gr (D 5 (by decide)), gr (D 6 (by decide)), gr (D 7 (by decide)), Fd, gr (D 9 (by decide)), gr (D 10 (by decide)), gr (D 11 (by decide)), gr (D 12 (by decide)), gr (D 13 (by decide)), gr (D 14 (by decide)), gr (D 15 (by decide)), gr (D 16 (by decide)), gr (D 17 (by decide)), gr (D 18 (by decide)), gr (D 19 (by decide)), gr (D 20 (by decide)), gr (D 21 (by decide)), gr (D 22 (by decide)), gr (D 23 (by decide)), gr (D 24 (by decide)), gr (D 25 (by decide)), gr (D 26 (by decide)), gr (D 27 (by decide)), gr (D 28 (by decide)), gr (D 29 (by decide)), gr (D 30 (by decide)), gr (D 31 (by decide)), gr (D 32 (by decide)), gr (D 33 (by decide)), gr (D 34 (by decide)), gr (D 35 (by decide)), gr (D 36 (by decide)), gr (D 37 (by decide)), gr (D 38 (by decide)), gr (D 39 (by decide)), gr (D 40 (by decide)), gr (D 41 (by decide)), gr (D 42 (by decide)), gr (D 43 (by decide)), gr (D 44 (by decide)), gr (D 45 (by decide)), gr (D 46 (by decide)), gr (D 47 (by decide)), gr (D 48 (by decide)), gr (D 49 (by decide)), gr (D 50 (by decide)), gr (D 51 (by decide)), gr (D 52 (by decide)), gr (D 53 (by decide)), gr (D 54 (by decide)), gr (D 55 (by decide)), gr (D 56 (by decide)), gr (D 57 (by decide)), gr (D 58 (by decide)), gr (D 59 (by decide)), gr (D 60 (by decide)), gr (D 61 (by decide)), gr (D 62 (by decide)), gr (D 63 (by decide)), gr (D 64 (by decide)), gr (D 65 (by decide)), gr (D 66 (by decide)), gr (D 67 (by decide)), gr (D 68 (by decide)), gr (D 69 (by decide)), gr (D 70 (by decide)), gr (D 71 (by decide)), gr (D 72 (by decide)), gr (D 73 (by decide)), gr (D 74 (by decide)), gr (D 75 (by decide)), gr (D 76 (by decide)), gr (D 77 (by decide))]); (try rfl)] at CJ; exact CJ
 have B9 := DJ.add (gs (D 77 (by decide))); clear DJ
 clear D CJ Id
 clear Fd
 clear Ij
 refine s1 B9 (a_0 rfl B9.e) fun Ju DK => ?_; clear B9 IF
 exact n1 (c_6 (b_0 DK (.inl rfl) (a_2 DK rfl (.tmp rfl)) (⟨rfl, Fe.ext⟩)))
end Go.Proofs.Ytohgladndklciaa
