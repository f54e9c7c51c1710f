/-
  Walks through the functions of the seat, printed by a program of ours (gowalk), a theorem a function: what the call returns and what it leaves in memory.
-/
import Derived.Test.YtohgladndklciaaBe
set_option linter.unusedSimpArgs false
set_option linter.unusedVariables false
namespace Go.Proofs.Ytohgladndklciaa
open Go.RowKit Go.Shelf Go.Eng Go.Hard
set_option maxHeartbeats 4000000 in
theorem HardTruth_a (b : h_4) (vt vm : Value) (lr lb lk : Nat → Value) (w : World) (hT : j_8 w vt lr lb b.tabs) (hM : k_6 w vm lk b.macs) (ws : List Int) (xw : Value) (hxw : SlAt w xw 1 ws.length (ws.map (Value.int .u16))) (hw : ad_4 ws) (my : Int) (hy : 0 ≤ my ∧ my ≤ 255) (hf : ab_0 b 0 = false) :
  Calls Try.prog 14 #[(Value.agg #[(iv b.scales), vt, vm]), xw, (Value.int .u8 my)] w (Ret fun v w' => v = .bool true ∧ Ext NoB w w') := by
 refine a_9 Try.func14 rfl fun V B => ?_
 replace B : Fr 113 [] [(0, (Value.agg #[(iv b.scales), vt, vm])), (1, xw), (2, (Value.int .u8 my))] V := B
 have S : Sep NoB w w [(d_0 false vt lr lb b.tabs), (d_3 false vm lk b.macs), (sl xw 1 ws.length (ws.map (Value.int .u16)))] := f_1 ⟨rfl, hT, rfl, hM, rfl, hxw, trivial⟩
 refine m2 (s2 B (f_4 S rfl B.e (cs := [(iv b.scales), vt, vm]) rfl) ?_)
 rintro g _ o ⟨n, rfl, C⟩ R; clear B S V
 refine s1 R (a_0 rfl (evc _ _)) fun h M => ?_; clear R g
 refine n2 (m2 (s1 M (c_9 rfl ae_7 (M.ev rfl) (C.bk 0 rfl) (l := [(iv b.scales), vt, vm]) rfl rfl) fun i N => ?_)); clear M h
 refine s2 N (b_3 rfl en_16 (ev2 N.e (evc _ _)) (thin0_ok b vt vm lr lb lk _ (b_8 (C.ok 1 _ rfl)) (c_5 (C.ok 2 _ rfl)))) ?_
 rintro W _ k ⟨rfl, O⟩ A; have Q := C.step O; clear O N C i
 have U : (ab_0 b 0) = false := hf
 rw [U] at A
 refine s1 A (f_5 rfl A.e) fun X D => ?_; clear A W
 refine s1 D (a_1 rfl D.e) fun Y H => ?_; clear D X
 refine s3 H fun Z I => ?_; clear H Y
 refine s3 I fun a J => ?_; clear I Z
 refine s3 J fun c E => ?_; clear J a
 refine s1 E (b_6 rfl E.e (evc _ _)) fun d F => ?_; clear E c
 refine n1 (c_0 F rfl (b_5 ?_))
 have K := F.as [] rfl; clear F
 refine a_5 (s2 K (b_3 rfl en_17 ev0 (awake_ok _)) ?_)
 rintro f _ m ⟨rfl, P⟩ G; have T := Q.step P; clear P K Q d
 refine s1 G (a_0 rfl G.e) fun j L => ?_; clear G f
 exact n1 (c_2 (a_6 (a_8 L (.inl rfl) (a_3 L rfl (.tmp rfl)) (⟨rfl, T.ext⟩))))
set_option maxHeartbeats 4000000 in
theorem HardTruth_b (b : h_4) (vt vm : Value) (lr lb lk : Nat → Value) (w : World) (hT : j_8 w vt lr lb b.tabs) (hM : k_6 w vm lk b.macs) (ws : List Int) (xw : Value) (hxw : SlAt w xw 1 ws.length (ws.map (Value.int .u16))) (hw : ad_4 ws) (my : Int) (hy : 0 ≤ my ∧ my ≤ 255) (hf : ab_0 b 0 = true) (hc : g_7 b ≠ 0) :
  Calls Try.prog 14 #[(Value.agg #[(iv b.scales), vt, vm]), xw, (Value.int .u8 my)] w (Ret fun v w' => v = .bool true ∧ Ext NoB w w') := by
 refine a_9 Try.func14 rfl fun Y D => ?_
 replace D : Fr 113 [] [(0, (Value.agg #[(iv b.scales), vt, vm])), (1, xw), (2, (Value.int .u8 my))] Y := D
 have hth := (thin_iff.1 hf).1; have htl9 := hth.tl; have hml9 := hth.ml
 have U : Sep NoB w w [(d_0 false vt lr lb b.tabs), (d_3 false vm lk b.macs), (sl xw 1 ws.length (ws.map (Value.int .u16)))] := f_1 ⟨rfl, hT, rfl, hM, rfl, hxw, trivial⟩
 refine m2 (s2 D (f_4 U rfl D.e (cs := [(iv b.scales), vt, vm]) rfl) ?_)
 rintro j _ s ⟨r, rfl, E⟩ T; clear D U Y
 refine s1 T (a_0 rfl (evc _ _)) fun k N => ?_; clear T j
 refine n2 (m2 (s1 N (c_9 rfl ae_7 (N.ev rfl) (E.bk 0 rfl) (l := [(iv b.scales), vt, vm]) rfl rfl) fun m O => ?_)); clear N k
 refine s2 O (b_3 rfl en_16 (ev2 O.e (evc _ _)) (thin0_ok b vt vm lr lb lk _ (b_8 (E.ok 1 _ rfl)) (c_5 (E.ok 2 _ rfl)))) ?_
 rintro Z _ o ⟨rfl, P⟩ C; have B := E.step P; clear P O E m
 have W : (ab_0 b 0) = true := hf
 rw [W] at C
 refine s1 C (f_5 rfl C.e) fun a F => ?_; clear C Z
 refine s1 F (a_1 rfl F.e) fun c G => ?_; clear F a
 refine s5 G (c_9 rfl ae_7 (G.ev rfl) (B.bk 0 rfl) (l := [(iv b.scales), vt, vm]) rfl rfl) fun d H => ?_; clear G c
 refine s6 H (b_3 rfl en_21 (ev1 H.e) (rfault_ok b vt vm lr lb lk _ (b_8 (B.ok 1 _ rfl)) (c_5 (B.ok 2 _ rfl)) hth)) ?_
 rintro f _ p ⟨rfl, Q⟩ I; have S := B.step Q; clear Q H B d
 refine s5 I (v_7 rfl I.e (evc _ _)) fun g A => ?_; clear I f
 have X : ¬ ((g_7 b) = 0) := hc
 rw [decide_eq_false X] at A
 refine s1 A (c_7 rfl A.e A.e) fun h J => ?_; clear A g
 refine n1 (c_0 J rfl (b_5 ?_))
 have L := J.as [] rfl; clear J
 refine a_5 (s2 L (b_3 rfl en_17 ev0 (awake_ok _)) ?_)
 rintro i _ q ⟨rfl, R⟩ K; have V := S.step R; clear R L S h
 refine s1 K (a_0 rfl K.e) fun n M => ?_; clear K i
 exact n1 (c_2 (a_6 (a_8 M (.inl rfl) (a_3 M rfl (.tmp rfl)) (⟨rfl, V.ext⟩))))
set_option maxHeartbeats 4000000 in
theorem HardTruth_c (b : h_4) (vt vm : Value) (lr lb lk : Nat → Value) (w : World) (hT : j_8 w vt lr lb b.tabs) (hM : k_6 w vm lk b.macs) (ws : List Int) (xw : Value) (hxw : SlAt w xw 1 ws.length (ws.map (Value.int .u16))) (hw : ad_4 ws) (my : Int) (hy : 0 ≤ my ∧ my ≤ 255) (hf : ab_0 b 0 = true) (hc : g_7 b = 0) :
  Calls Try.prog 14 #[(Value.agg #[(iv b.scales), vt, vm]), xw, (Value.int .u8 my)] w (Ret fun v w' => v = .bool true ∧ Ext NoB w w') := by
 refine a_9 Try.func14 rfl fun a0 Aq => ?_
 replace Aq : Fr 113 [] [(0, (Value.agg #[(iv b.scales), vt, vm])), (1, xw), (2, (Value.int .u8 my))] a0 := Aq
 have hth := (thin_iff.1 hf).1; have htl9 := hth.tl; have hml9 := hth.ml; have hb := check_ok hc; have Ds := hb.scales
 have B3 : Sep NoB w w [(d_0 false vt lr lb b.tabs), (d_3 false vm lk b.macs), (sl xw 1 ws.length (ws.map (Value.int .u16)))] := f_1 ⟨rfl, hT, rfl, hM, rfl, hxw, trivial⟩
 refine m2 (s2 Aq (f_4 B3 rfl Aq.e (cs := [(iv b.scales), vt, vm]) rfl) ?_)
 rintro a1 _ w3 ⟨m, rfl, Ar⟩ B2; clear Aq B3 a0
 refine s1 B2 (a_0 rfl (evc _ _)) fun a6 Bj => ?_; clear B2 a1
 refine n2 (m2 (s1 Bj (c_9 rfl ae_7 (Bj.ev rfl) (Ar.bk 0 rfl) (l := [(iv b.scales), vt, vm]) rfl rfl) fun a8 Bl => ?_)); clear Bj a6
 refine s2 Bl (b_3 rfl en_16 (ev2 Bl.e (evc _ _)) (thin0_ok b vt vm lr lb lk _ (b_8 (Ar.ok 1 _ rfl)) (c_5 (Ar.ok 2 _ rfl)))) ?_
 rintro C7 _ Du ⟨rfl, Bm⟩ p; have g := Ar.step Bm; clear Bm Bl Ar a8
 have C0 : (ab_0 b 0) = true := hf
 rw [C0] at p
 refine s1 p (f_5 rfl p.e) fun C8 As => ?_; clear p C7
 refine s1 As (a_1 rfl As.e) fun C9 At => ?_; clear As C8
 refine s5 At (c_9 rfl ae_7 (At.ev rfl) (g.bk 0 rfl) (l := [(iv b.scales), vt, vm]) rfl rfl) fun DA Au => ?_; clear At C9
 refine s6 Au (b_3 rfl en_21 (ev1 Au.e) (rfault_ok b vt vm lr lb lk _ (b_8 (g.ok 1 _ rfl)) (c_5 (g.ok 2 _ rfl)) hth)) ?_
 rintro DB _ Dv ⟨rfl, Bn⟩ Av; have R := g.step Bn; clear Bn Au g DA
 refine s5 Av (v_7 rfl Av.e (evc _ _)) fun DC f => ?_; clear Av DB
 have C1 : (g_7 b) = 0 := hc
 rw [decide_eq_true C1] at f
 refine s1 f (c_7 rfl f.e f.e) fun DD Aw => ?_; clear f DC
 refine n1 (b_4 Aw rfl (c_6 (a_7 (b_5 ?_))))
 have Ax := Aw.as [(3, (bptr m 0)), (1, xw), (2, (Value.int .u8 my))] rfl; clear Aw
 refine a_5 (s1 Ax (c_9 rfl ae_7 (Ax.ev rfl) (R.bk 0 rfl) (l := [(iv b.scales), vt, vm]) rfl rfl) fun DE Ay => ?_); clear Ax DD
 refine s1 Ay (a_1 rfl Ay.e) fun DF Ak => ?_; clear Ay DE
 refine s2 Ak (b_3 rfl en_44 (ev2 Ak.e Ak.e) (Truly_ok b vt vm lr lb lk _ (b_8 (R.ok 1 _ rfl)) (c_5 (R.ok 2 _ rfl)) hth hb ws _ (R.sk 3 rfl) hw)) ?_
 rintro DG _ DZ ⟨B, z, rfl, hzn, Bq⟩ Az
 have F : Sep NoB w DZ [(row B 3 1 z.length (ints z)), (blk m 25 [(iv b.scales), vt, vm]), (d_0 false vt lr lb b.tabs), (d_3 false vm lk b.macs), (sl xw 1 ws.length (ws.map (Value.int .u16)))] := R.w_4 Bq rfl; clear Bq Ak R DF
 refine s1 Az (a_1 rfl Az.e) fun DH A0 => ?_; clear Az DG
 refine s1 A0 (e_0 rfl A0.e rfl) fun DI A1 => ?_; clear A0 DH
 refine s1 A1 (e_0 rfl A1.e rfl) fun DJ A2 => ?_; clear A1 DI
 refine s1 A2 (a_0 rfl A2.e) fun DK A3 => ?_; clear A2 DJ
 refine s1 A3 (a_0 rfl A3.e) fun DL Bi => ?_; clear A3 DK
 refine n2 (b_5 ?_)
 have A4 := Bi.as [(8, (Value.bool (t_6 b [] z))), (7, B), (3, (bptr m 0)), (1, xw), (2, (Value.int .u8 my))] rfl; clear Bi
 refine a_5 (s1 A4 (a_1 rfl A4.e) fun DM A5 => ?_); clear A4 DL
 refine s1 A5 (f_5 rfl A5.e) fun B1 E => ?_; clear A5 DM
 refine n1 ?_
 rcases Bool.eq_false_or_eq_true ((t_6 b [] z)) with Ap | Ap
 ·skip
  rw [Ap] at E
  have B4 : t_6 b [] z = true := Ap; have hzv := fits_vals B4
  refine b_4 E rfl (c_6 (a_7 (b_5 ?_)))
  have hrm := rem_bd (y := my) (d := 9) hy.1 (by decide)
  refine a_5 (s1 E (c_9 rfl ae_7 (E.ev rfl) (F.bk 1 rfl) (l := [(iv b.scales), vt, vm]) rfl rfl) fun DN A6 => ?_); clear E B1
  refine s1 A6 (a_1 rfl A6.e) fun DO A7 => ?_; clear A6 DN
  refine s1 A7 (a_1 rfl A7.e) fun DP A8 => ?_; clear A7 DO
  refine s1 A8 (a_1 rfl A8.e) fun DQ A9 => ?_; clear A8 DP
  refine s1 A9 (op_conv un_5 un_3 rfl A9.e (v := my) (wrap_i64 (by omega) (by omega))) fun DR BA => ?_; clear A9 DQ
  refine s1 BA (op_rem rfl BA.e (evc _ _) (by omega)) fun DS Q => ?_; clear BA DR
  refine s2 Q (b_3 rfl en_45 (ev4 Q.e Q.e Q.e Q.e) (Seen_ok b vt vm lr lb lk _ (b_8 (F.ok 2 _ rfl)) (c_5 (F.ok 3 _ rfl)) hth hb z _ (SlAt.e_9 (F.f_3 0 rfl)) hzn hzv ws _ (F.sk 4 rfl) hw ((my).tmod 9) (by omega))) ?_
  rintro DT j Dw ⟨l, hsi, hsl, Bo, hO75⟩ BB; have h := F.s_9 Bo hO75; clear Bo hO75 Q F DS
  have hl := hsi.reads (by omega); have hll := hl.len; have hfit := seen_fits hsi B4; obtain ⟨t, hs, htl, Dt, hin⟩ := truth_spans hb hl hfit; have hr := read_V hc hl; have hdn := truth_doubt hb hs; have hdl := doubt_bd hb l
  refine s1 BB (a_0 rfl BB.e) fun DU Bk => ?_; clear BB DT
  refine n2 ?_
  have BC := Bk.as [(9, j), (7, B), (3, (bptr m 0))] rfl; clear Bk
  refine a_5 (s1 BC (c_9 rfl ae_7 (BC.ev rfl) (h.bk 2 rfl) (l := [(iv b.scales), vt, vm]) rfl rfl) fun DV BD => ?_); clear BC DU
  refine s2 BD (b_3 rfl en_19 (ev1 BD.e) (Book_ok b vt vm lr lb lk _ (b_8 (h.ok 3 _ rfl)) (c_5 (h.ok 4 _ rfl)) hth)) ?_
  rintro DW _ Dx ⟨vt86, vm87, lr88, lb89, lk90, rfl, Br⟩ BE; have BG := h.w_4 Br rfl; clear Br BD h DV
  refine s1 BE (a_1 rfl BE.e) fun DX BF => ?_; clear BE DW
  refine s2 BF (b_3 rfl en_26 (ev1 BF.e) (Readings_ok l _ _ (SlAt.e_9 (BG.f_3 2 rfl)) (by omega))) ?_
  rintro DY BI Dy ⟨Bp, hO99⟩ Al; have M := BG.s_9 Bp hO99; clear Bp hO99 BF BG DX
  refine s2 Al (b_3 rfl en_25 (ev2 Al.e Al.e) (Spans_ok b vt86 vm87 lr88 lb89 lk90 _ (b_8 (M.ok 1 _ rfl)) (c_5 (M.ok 2 _ rfl)) hth l _ (SlAt.e_9 (M.f_3 0 rfl)) (by omega) t hr hs)) ?_
  rintro B5 _ C4 ⟨A, rfl, Bd⟩ n
  have N : Sep NoB w C4 [(row A 30 2 t.length (pairs t)), (row BI 98 2 l.length (pairs l)), (d_0 true vt86 lr88 lb89 b.tabs), (d_3 true vm87 lk90 b.macs), (row j 67 2 l.length (pairs l)), (row B 3 1 z.length (ints z)), (blk m 25 [(iv b.scales), vt, vm]), (d_0 false vt lr lb b.tabs), (d_3 false vm lk b.macs), (sl xw 1 ws.length (ws.map (Value.int .u16)))] := M.w_4 Bd rfl; clear Bd Al M DY
  refine s1 n (a_1 rfl n.e) fun B6 o => ?_; clear n B5
  refine s1 o (e_0 rfl o.e rfl) fun B7 q => ?_; clear o B6
  refine s1 q (e_0 rfl q.e rfl) fun B8 r => ?_; clear q B7
  refine s1 r (a_0 rfl r.e) fun B9 s => ?_; clear r B8
  refine s1 s (a_0 rfl s.e) fun CA BJ => ?_; clear s B9
  refine n2 ?_
  have u := BJ.as [(11, (iv 0)), (10, A), (9, j), (7, B), (3, (bptr m 0))] rfl; clear BJ
  refine a_5 (s1 u (c_9 rfl ae_7 (u.ev rfl) (N.bk 6 rfl) (l := [(iv b.scales), vt, vm]) rfl rfl) fun CB x => ?_); clear u CA
  refine s2 x (b_3 rfl en_19 (ev1 x.e) (Book_ok b vt vm lr lb lk _ (b_8 (N.ok 7 _ rfl)) (c_5 (N.ok 8 _ rfl)) hth)) ?_
  rintro CC _ Di ⟨vt124, vm125, lr126, lb127, lk128, rfl, Be⟩ AA; have Am := N.w_4 Be rfl; clear Be x N CB
  refine s1 AA (a_1 rfl AA.e) fun CD AB => ?_; clear AA CC
  refine s2 AB (b_3 rfl en_26 (ev1 AB.e) (Readings_ok l _ _ (SlAt.e_9 (Am.f_3 6 rfl)) (by omega))) ?_
  rintro CE Bs Dj ⟨BW, hO137⟩ S; have O := Am.s_9 BW hO137; clear BW hO137 AB Am CD
  refine s2 S (b_3 rfl en_41 (ev2 S.e S.e) (Doubt_ok b vt124 vm125 lr126 lb127 lk128 _ (b_8 (O.ok 1 _ rfl)) (c_5 (O.ok 2 _ rfl)) hth l _ (SlAt.e_9 (O.f_3 0 rfl)) (by omega) hr)) ?_
  rintro CF _ C5 ⟨BH, rfl, Bf⟩ AC
  have D : Sep NoB w C5 [(row BH 3 1 ((l_2 b l).length) (ints (l_2 b l))), (row Bs 98 2 l.length (pairs l)), (d_0 true vt124 lr126 lb127 b.tabs), (d_3 true vm125 lk128 b.macs), (row A 30 2 t.length (pairs t)), (row BI 98 2 l.length (pairs l)), (d_0 true vt86 lr88 lb89 b.tabs), (d_3 true vm87 lk90 b.macs), (row j 67 2 l.length (pairs l)), (row B 3 1 z.length (ints z)), (blk m 25 [(iv b.scales), vt, vm]), (d_0 false vt lr lb b.tabs), (d_3 false vm lk b.macs), (sl xw 1 ws.length (ws.map (Value.int .u16)))] := O.w_4 Bf rfl; clear Bf S O CE
  refine s1 AC (a_1 rfl AC.e) fun CG AD => ?_; clear AC CF
  refine s1 AD (e_0 rfl AD.e rfl) fun CH AE => ?_; clear AD CG
  refine s1 AE (e_0 rfl AE.e rfl) fun CI AF => ?_; clear AE CH
  refine s1 AF (a_0 rfl AF.e) fun CJ AG => ?_; clear AF CI
  refine s1 AG (a_0 rfl AG.e) fun CK BK => ?_; clear AG CJ
  refine n2 (b_5 ?_)
  have AH := BK.as [(13, (iv 0)), (12, BH), (11, (iv 0)), (10, A), (9, j), (7, B), (3, (bptr m 0))] rfl; clear BK
  refine a_5 (s1 AH (a_1 rfl AH.e) fun CL AI => ?_); clear AH CK
  refine s1 AI (v_7 rfl AI.e (evc _ _)) fun CM AJ => ?_; clear AI CL
  refine s1 AJ (a_1 rfl AJ.e) fun CN AK => ?_; clear AJ CM
  refine s5 AK (a_1 rfl AK.e) fun CO AL => ?_; clear AK CN
  refine s5 AL (v_7 rfl AL.e (evc _ _)) fun CP T => ?_; clear AL CO
  refine s1 T (c_7 rfl T.e T.e) fun CQ AM => ?_; clear T CP
  refine s1 AM (a_1 rfl AM.e) fun CR AN => ?_; clear AM CQ
  refine s5 AN (a_1 rfl AN.e) fun CS AO => ?_; clear AN CR
  refine s5 AO (d_1 rfl j_1 AO.e (SlAt.e_9 (D.f_3 0 rfl))) fun CT AP => ?_; clear AO CS
  refine s5 AP (v_7 rfl AP.e (evc _ _)) fun CU I => ?_; clear AP CT
  have Bx : ((l_2 b l).length : Int) = 0 := (by omega)
  rw [decide_eq_true Bx] at I
  refine s1 I (c_7 rfl I.e I.e) fun CV AQ => ?_; clear I CU
  refine s1 AQ (a_1 rfl AQ.e) fun CW AR => ?_; clear AQ CV
  refine s5 AR (a_1 rfl AR.e) fun CX AS => ?_; clear AR CW
  refine s5 AS (d_1 rfl ae_1 AS.e (SlAt.e_9 (D.f_3 4 rfl))) fun CY AT => ?_; clear AS CX
  refine s5 AT (a_1 rfl AT.e) fun CZ AU => ?_; clear AT CY
  refine s5 AU (d_1 rfl j_1 AU.e (SlAt.e_9 (D.f_3 9 rfl))) fun Ca U => ?_; clear AU CZ
  refine s5 U (v_7 rfl U.e U.e) fun Cb J => ?_; clear U Ca
  have By : (t.length : Int) = (z.length : Int) := (by omega)
  rw [decide_eq_true By] at J
  refine s1 J (c_7 rfl J.e J.e) fun Cc AV => ?_; clear J Cb
  refine s1 AV (a_1 rfl AV.e) fun Cd AW => ?_; clear AV Cc
  refine s5 AW (c_9 rfl ae_7 (AW.ev rfl) (D.bk 10 rfl) (l := [(iv b.scales), vt, vm]) rfl rfl) fun Ce AX => ?_; clear AW Cd
  refine s6 AX (b_3 rfl en_19 (ev1 AX.e) (Book_ok b vt vm lr lb lk _ (b_8 (D.ok 11 _ rfl)) (c_5 (D.ok 12 _ rfl)) hth)) ?_
  rintro Cf _ Dk ⟨vt202, vm203, lr204, lb205, lk206, rfl, Bg⟩ AY; have An := D.w_4 Bg rfl; clear Bg AX D Ce
  refine s5 AY (a_1 rfl AY.e) fun Cg AZ => ?_; clear AY Cf
  refine s6 AZ (b_3 rfl en_26 (ev1 AZ.e) (Readings_ok l _ _ (SlAt.e_9 (An.f_3 10 rfl)) (by omega))) ?_
  rintro Ch C2 Dl ⟨BX, hO215⟩ Aa; have Ao := An.s_9 BX hO215; clear BX hO215 AZ An Cg
  refine s5 Aa (a_1 rfl Aa.e) fun Ci Ab => ?_; clear Aa Ch
  refine s6 Ab (b_3 rfl en_40 (ev1 Ab.e) (list_ok z _ _ (SlAt.e_9 (Ao.f_3 12 rfl)) (by omega))) ?_
  rintro Cj C3 Dm ⟨BY, hO224⟩ K; have H := Ao.s_9 BY hO224; clear BY hO224 Ab Ao Ci
  refine s6 K (b_3 rfl en_39 (ev3 K.e K.e K.e) (Prove_ok b vt202 vm203 lr204 lb205 lk206 _ (b_8 (H.ok 2 _ rfl)) (c_5 (H.ok 3 _ rfl)) hth l _ (SlAt.e_9 (H.f_3 1 rfl)) (by omega) z _ (SlAt.e_9 (H.f_3 0 rfl)) (by omega) hr)) ?_
  rintro Ck _ Dn ⟨rfl, BZ⟩ V; have Bc := H.step BZ; clear BZ K H Cj
  have Bz : (t_6 b l z) = true := hfit
  rw [Bz] at V
  refine s5 V (f_5 rfl V.e) fun Cl W => ?_; clear V Ck
  refine s1 W (c_7 rfl W.e W.e) fun Cm Ac => ?_; clear W Cl
  refine n1 (b_4 Ac rfl (c_6 (a_7 (b_5 (b_5 ?_)))))
  have BL := Ac.as [(10, A), (7, B)] rfl; clear Ac
  refine a_5 (s1 BL (a_0 rfl (evc _ _)) fun Cn BM => ?_); clear BL Cm
  refine n1 (c_4 ?_)
  have BN := BM.as [(14, (iv 0)), (10, A), (7, B)] rfl; clear BM
  refine h_3 (G := Nat) (fun (k : Nat) a_ w_ => Fr 113 [] [(14, (iv (k : Int))), (10, A), (7, B)] a_ ∧ Sep NoB w w_ [(row C3 3 1 z.length (ints z)), (row C2 98 2 l.length (pairs l)), (d_0 true vt202 lr204 lb205 b.tabs), (d_3 true vm203 lk206 b.macs), (row BH 3 1 ((l_2 b l).length) (ints (l_2 b l))), (row Bs 98 2 l.length (pairs l)), (d_0 true vt124 lr126 lb127 b.tabs), (d_3 true vm125 lk128 b.macs), (row A 30 2 t.length (pairs t)), (row BI 98 2 l.length (pairs l)), (d_0 true vt86 lr88 lb89 b.tabs), (d_3 true vm87 lk90 b.macs), (row j 67 2 l.length (pairs l)), (row B 3 1 z.length (ints z)), (blk m 25 [(iv b.scales), vt, vm]), (d_0 false vt lr lb b.tabs), (d_3 false vm lk b.macs), (sl xw 1 ws.length (ws.map (Value.int .u16)))] ∧ (k ≤ t.length)) (fun k => t.length - k) 0 ⟨BN.as _ rfl, Bc, by omega⟩ ?_
  clear BN Bc Cn
  rintro k Co Do ⟨Ad, P, hkk⟩
  refine b_5 (m2 (s1 Ad (a_1 rfl Ad.e) fun Cp Ae => ?_)); clear Ad Co
  refine s1 Ae (a_1 rfl Ae.e) fun Cq Af => ?_; clear Ae Cp
  refine s1 Af (d_1 rfl ae_1 Af.e (SlAt.e_9 (P.f_3 8 rfl))) fun Cr X => ?_; clear Af Cq
  refine s1 X (f_7 rfl X.e X.e) fun Cs C => ?_; clear X Cr
  refine n1 ?_
  by_cases Bh : (k : Int) < (t.length : Int)
  ·skip
   rw [decide_eq_true Bh] at C
   refine c_0 C rfl (c_6 (a_7 (b_5 (c_4 (b_5 ?_)))))
   have BO := C.as [(14, (iv (k : Int))), (10, A), (7, B)] rfl; clear C
   refine g_0 mixed BO P 20 [[], [], [0, 1], [2], [], [], [4, 5], [6], [7], [3, 8], [9], [10], [10], [10, 11, 12], [10, 13], [10], [10], [10, 15, 16], [10, 17], [10, 18]] [(Yd.val B), (Yd.val (iv (k : Int))), (Yd.val (eptr B (k * 1))), (Yd.val (iv (z.getD k 0))), (Yd.val A), (Yd.val (iv (k : Int))), (Yd.val (eptr A (k * 2))), (Yd.val (eptr A (k * 2 + 0))), (Yd.val (iv ((t.getD k (0, 0)).1))), (Yd.val (Value.bool false)), (Yd.val (Value.bool false)), (Yd.val B), (Yd.val (iv (k : Int))), (Yd.val (eptr B (k * 1))), (Yd.val (iv (z.getD k 0))), (Yd.val A), (Yd.val (iv (k : Int))), (Yd.val (eptr A (k * 2))), (Yd.val (eptr A (k * 2 + 1))), (Yd.val (iv ((t.getD k (0, 0)).2)))] (by decide +kernel) rfl rfl ?_ ?_
   ·skip
    refine dq (fun a w hA hS hd => a_1 rfl hA.e) ?_
    refine dq (fun a w hA hS hd => a_1 rfl hA.e) ?_
    refine dq (fun a w hA hS hd => b_0 rfl j_1 ty_3 (hq hd 0) (i := k) (hq hd 1) (SlAt.e_9 (hS.f_3 13 rfl)) (by decide) (by omega)) ?_
    refine dq (fun a w hA hS hd => c_1 rfl ty_3 (hq hd 2) (SlAt.e_9 (hS.f_3 13 rfl)) (ints_at (by omega))) ?_
    refine dq (fun a w hA hS hd => a_1 rfl hA.e) ?_
    refine dq (fun a w hA hS hd => a_1 rfl hA.e) ?_
    refine dq (fun a w hA hS hd => b_0 rfl ae_1 h_1 (hq hd 4) (i := k) (hq hd 5) (SlAt.e_9 (hS.f_3 8 rfl)) (by decide) (by omega)) ?_
    refine dq (fun a w hA hS hd => e_5 rfl m_7 (hq hd 6) (SlAt.e_9 (hS.f_3 8 rfl)) (by rw [((SlAt.e_9 (hS.f_3 8 rfl))).1]; omega)) ?_
    refine dq (fun a w hA hS hd => c_1 rfl ty_3 (hq hd 7) (SlAt.e_9 (hS.f_3 8 rfl)) (i_6 (by omega))) ?_
    refine ⟨fun a w hA hS hd => by have e3 := hx hd 3; have e8 := hx hd 8; exact d_5 rfl (dv (f_7 rfl (c_3 e3) (c_3 e8)) hS (by show Value.bool _ = _; simp only [decide_eq_false (show ¬ ((z.getD k 0) < ((t.getD k (0, 0)).1)) from (by have hz_ := hin k (by omega); omega)), decide_true, decide_false, Bool.not_true, Bool.not_false])), ?_⟩
    refine dq (fun a w hA hS hd => a_1 rfl (hq hd 9)) ?_
    refine dy 10 (fun a w hA hS hd => a_1 rfl hA.e) ?_
    refine dy 10 (fun a w hA hS hd => a_1 rfl hA.e) ?_
    refine dy 10 (fun a w hA hS hd => b_0 rfl j_1 ty_3 (hq hd 11) (i := k) (hq hd 12) (SlAt.e_9 (hS.f_3 13 rfl)) (by decide) (by omega)) ?_
    refine dy 10 (fun a w hA hS hd => c_1 rfl ty_3 (hq hd 13) (SlAt.e_9 (hS.f_3 13 rfl)) (ints_at (by omega))) ?_
    refine dy 10 (fun a w hA hS hd => a_1 rfl hA.e) ?_
    refine dy 10 (fun a w hA hS hd => a_1 rfl hA.e) ?_
    refine dy 10 (fun a w hA hS hd => b_0 rfl ae_1 h_1 (hq hd 15) (i := k) (hq hd 16) (SlAt.e_9 (hS.f_3 8 rfl)) (by decide) (by omega)) ?_
    refine dy 10 (fun a w hA hS hd => e_5 rfl m_8 (hq hd 17) (SlAt.e_9 (hS.f_3 8 rfl)) (by rw [((SlAt.e_9 (hS.f_3 8 rfl))).1]; omega)) ?_
    refine dy 10 (fun a w hA hS hd => c_1 rfl ty_3 (hq hd 18) (SlAt.e_9 (hS.f_3 8 rfl)) (j_0 (by omega))) ?_
    trivial
   intro Ct Dp BP Bu c; clear BO P
   have BQ := BP.add (hz c 10); clear BP
   have BR := BQ.add (hz c 14); clear BQ
   have Y := BR.add (hz c 19); clear BR
   clear c
   refine s5 Y (j_5 rfl Y.e Y.e) fun Cu L => ?_; clear Y Ct
   have B0 : ¬ (((t.getD k (0, 0)).2) < (z.getD k 0)) := (by have hz_ := hin k (by omega); omega)
   rw [decide_eq_false B0] at L
   refine s1 L (c_7 rfl L.e L.e) fun Cv Z => ?_; clear L Cu
   refine n1 (b_4 Z rfl (c_6 (g_3 (a_7 (a_5 (s1 Z (a_1 rfl Z.e) fun Cw Ag => ?_)))))); clear Z Cv
   refine s1 Ag (e_3 rfl Ag.e (evc _ _) (by omega) (by omega)) fun Cx Ah => ?_; clear Ag Cw
   refine s1 Ah (a_0 rfl Ah.e) fun Db Bt => ?_; clear Ah Cx
   refine e_6 ?_
   exact a_7 ⟨k + 1, ⟨Bt.as _ rfl, Bu, by omega⟩, by omega⟩
  skip
  rw [decide_eq_false Bh] at C
  refine b_4 C rfl (g_6 (b_2 (b_2 (f_2 (a_7 (b_5 ?_))))))
  have BS := C.as [] rfl; clear C
  refine a_5 (s2 BS (b_3 rfl en_17 ev0 (awake_ok _)) ?_)
  rintro Cy _ Dq ⟨rfl, Ba⟩ Ai; have Bv := P.step Ba; clear Ba BS P Cs
  refine s1 Ai (a_0 rfl Ai.e) fun Dc BT => ?_; clear Ai Cy
  exact n1 (c_2 (a_8 BT (.inl rfl) (a_3 BT rfl (.tmp rfl)) (⟨rfl, Bv.ext⟩)))
 skip
 rw [Ap] at E
 refine c_0 E rfl (b_5 ?_)
 have BU := E.as [] rfl; clear E
 refine a_5 (s2 BU (b_3 rfl en_17 ev0 (awake_ok _)) ?_)
 rintro Cz _ Dr ⟨rfl, Bb⟩ Aj; have Bw := F.step Bb; clear Bb BU F B1
 refine s1 Aj (a_0 rfl Aj.e) fun Dd BV => ?_; clear Aj Cz
 exact n1 (c_2 (a_6 (a_8 BV (.inl rfl) (a_3 BV rfl (.tmp rfl)) (⟨rfl, Bw.ext⟩))))
theorem HardTruth_ok (b : h_4) (vt vm : Value) (lr lb lk : Nat → Value) (w : World) (hT : j_8 w vt lr lb b.tabs) (hM : k_6 w vm lk b.macs) (ws : List Int) (xw : Value) (hxw : SlAt w xw 1 ws.length (ws.map (Value.int .u16))) (hw : ad_4 ws) (my : Int) (hy : 0 ≤ my ∧ my ≤ 255) : Calls Try.prog 14 #[.agg #[.int .i64 b.scales, vt, vm], xw, .int .u8 my] w (Ret fun v w' => v = .bool true ∧ Ext NoB w w') := by
 rcases Bool.eq_false_or_eq_true (ab_0 b 0) with hf | hf
 ·by_cases hc : g_7 b = 0
  ·exact HardTruth_c b vt vm lr lb lk w hT hM ws xw hxw hw my hy hf hc
  exact HardTruth_b b vt vm lr lb lk w hT hM ws xw hxw hw my hy hf hc
 exact HardTruth_a b vt vm lr lb lk w hT hM ws xw hxw hw my hy hf
end Go.Proofs.Ytohgladndklciaa
