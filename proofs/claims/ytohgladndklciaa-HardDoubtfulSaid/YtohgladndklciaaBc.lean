/-
  The errors of readings, of a machine's bias, of what a table makes of a range; which machines are off.
  The tables of a book by the scales that they convert: what the map of a bench holds.
  One pass over the tables, in the order of the scales that they lead to, and from: what is left to do.
  How the program finds the spans: the first ranges reading by reading, then pass by pass.
-/
import Derived.Test.YtohgladndklciaaBb
import Derived.Test.YtohgladndklciaaEngb
set_option linter.unusedSimpArgs false
set_option linter.unusedVariables false
namespace Go.Proofs.Ytohgladndklciaa
open Go.RowKit Go.Shelf Go.Eng Go.Hard
theorem u_0 : fldK Try.prog 25 1 = some 1 := by kernel_rfl
theorem ac_6 : tyK Try.prog 22 = some (false, 1) := by kernel_rfl
theorem ac_7 : Try.prog.underlying 22 = some (.slice 46) := by kernel_rfl
theorem p_5 : fldK Try.prog 25 2 = some 2 := by kernel_rfl
theorem ab_6 : tyK Try.prog 23 = some (false, 1) := by kernel_rfl
theorem ab_8 : Try.prog.underlying 23 = some (.slice 61) := by kernel_rfl
theorem m_9 : Try.prog.underlying 49 = some (.slice 67) := by kernel_rfl
theorem fd_25_0 : fldK Try.prog 25 0 = some 0 := by kernel_rfl
theorem en_51 : ∀ args w, (callFunc 51 args).run Try.prog w = .ok (.enter 51 args) w := enters_of Try.func51 (by kernel_rfl) rfl
theorem ze_61 : (Try.prog.info? 61).bind (·.zero) = some (Value.agg #[(Value.int .i64 0), (Value.slice none 0 0)]) := by kernel_rfl
theorem fd_61_0 : fldK Try.prog 61 0 = some 0 := by kernel_rfl
theorem en_52 : ∀ args w, (callFunc 52 args).run Try.prog w = .ok (.enter 52 args) w := enters_of Try.func52 (by kernel_rfl) rfl
theorem x_6 : fldK Try.prog 37 1 = some 1 := by kernel_rfl
theorem ty_34 : tyK Try.prog 34 = some (false, 1) := by kernel_rfl
theorem v_6 : fldK Try.prog 37 2 = some 2 := by kernel_rfl
theorem ty_35 : tyK Try.prog 35 = some (false, 1) := by kernel_rfl
theorem en_62 : ∀ args w, (callFunc 62 args).run Try.prog w = .ok (.enter 62 args) w := enters_of Try.func62 (by kernel_rfl) rfl
theorem en_61 : ∀ args w, (callFunc 61 args).run Try.prog w = .ok (.enter 61 args) w := enters_of Try.func61 (by kernel_rfl) rfl
theorem en_64 : ∀ args w, (callFunc 64 args).run Try.prog w = .ok (.enter 64 args) w := enters_of Try.func64 (by kernel_rfl) rfl
theorem en_63 : ∀ args w, (callFunc 63 args).run Try.prog w = .ok (.enter 63 args) w := enters_of Try.func63 (by kernel_rfl) rfl
theorem en_65 : ∀ args w, (callFunc 65 args).run Try.prog w = .ok (.enter 65 args) w := enters_of Try.func65 (by kernel_rfl) rfl
theorem en_66 : ∀ args w, (callFunc 66 args).run Try.prog w = .ok (.enter 66 args) w := enters_of Try.func66 (by kernel_rfl) rfl
theorem thin_ok (b : h_0) (vt vm : Value) (lr lb lk : Nat → Value) (w : World) (hT : j_6 w vt lr lb b.tabs) (hM : k_4 w vm lk b.macs) (l : List (Int × Int)) (xl : Value) (hxl : SlAt w xl 2 l.length (pairs l)) :
  Calls Try.prog 16 #[(Value.agg #[(Value.int .i64 b.scales), vt, vm]), xl] w (Ret fun v w' => v = .bool (ac_0 b l.length) ∧ Ext NoB w w') := by
 refine a_8 Try.func16 rfl fun a0 AH => ?_
 replace AH : Fr 62 [] [(0, (Value.agg #[(Value.int .i64 b.scales), vt, vm])), (1, xl)] a0 := AH
 have BW : Sep NoB w w [(c_9 false vt lr lb b.tabs), (d_2 false vm lk b.macs), (sl xl 2 l.length (pairs l))] := f_0 ⟨rfl, hT, rfl, hM, rfl, hxl, trivial⟩
 refine m2 ?_
 refine s2 AH (f_3 BW rfl (AH.ev rfl) (cs := [(Value.int .i64 b.scales), vt, vm]) rfl) ?_
 rintro a1 _ w3 ⟨S, rfl, K⟩ BV; clear AH BW a0
 refine s1 BV (a_1 rfl (evc _ _)) fun a6 BE => ?_; clear BV a1
 refine n2 ?_
 refine m2 ?_
 refine s1 BE (a_4 rfl u_0 (BE.ev rfl)) fun a8 BK => ?_; clear BE a6
 refine s1 BK (a_3 rfl ac_6 (BK.ev rfl) (K.bk 0 rfl) rfl) fun CE AI => ?_; clear BK a8
 refine s1 AI (c_0 rfl ac_7 (AI.ev rfl) (b_6 (K.ok 1 _ rfl)).tabs) fun CF AJ => ?_; clear AI CE
 refine s1 AJ (g_9 rfl (AJ.ev rfl) (evc _ _)) fun CG AK => ?_; clear AJ CF
 refine s1 AK (a_0 rfl (AK.ev rfl)) fun BR L => ?_; clear AK CG
 by_cases BL : 9 < (b.tabs.length : Int)
 ·skip
  rw [decide_eq_true BL] at L
  refine s3 L fun CH A2 => ?_; clear L BR
  refine s3 A2 fun CI A3 => ?_; clear A2 CH
  refine s3 A3 fun CJ A4 => ?_; clear A3 CI
  refine s3 A4 fun CK AL => ?_; clear A4 CJ
  refine s1 AL (b_3 rfl (AL.ev rfl) (evc _ _)) fun CL AM => ?_; clear AL CK
  refine s1 AM (a_0 rfl (AM.ev rfl)) fun CM A5 => ?_; clear AM CL
  refine s3 A5 fun CN A6 => ?_; clear A5 CM
  refine s3 A6 fun CO A7 => ?_; clear A6 CN
  refine s3 A7 fun CP AN => ?_; clear A7 CO
  refine s1 AN (b_3 rfl (AN.ev rfl) (evc _ _)) fun CQ AO => ?_; clear AN CP
  refine n1 ?_
  refine c_6 AO rfl ?_
  refine b_7 ?_
  have A8 := AO.as [] rfl; clear AO
  refine a_5 ?_
  refine s1 A8 (a_1 rfl (evc _ _)) fun Cv A9 => ?_; clear A8 CQ
  refine n1 ?_
  refine c_8 ?_
  refine a_7 ?_
  refine a_9 A9 (.inl rfl) (a_2 A9 rfl (.tmp rfl)) ?_
  exact ⟨congrArg Value.bool (Eq.symm (by first | exact thin_n1 (by omega) | exact thin_n2 (k := k) (by omega) | exact thin_n3 (k := I) (by omega))), K.ext⟩
 skip
 rw [decide_eq_false BL] at L
 refine s5 L (a_4 rfl p_5 (L.ev rfl)) fun CR AP => ?_; clear L BR
 refine s5 AP (a_3 rfl ab_6 (AP.ev rfl) (K.bk 0 rfl) rfl) fun CS AQ => ?_; clear AP CR
 refine s5 AQ (c_0 rfl ab_8 (AQ.ev rfl) (b_8 (K.ok 2 _ rfl)).macs) fun CT AR => ?_; clear AQ CS
 refine s5 AR (g_9 rfl (AR.ev rfl) (evc _ _)) fun CU AE => ?_; clear AR CT
 refine s1 AE (c_2 rfl (AE.ev rfl) (AE.ev rfl)) fun CV AS => ?_; clear AE CU
 refine s1 AS (a_0 rfl (AS.ev rfl)) fun BS M => ?_; clear AS CV
 by_cases BM : 9 < (b.macs.length : Int)
 ·skip
  rw [decide_eq_true BM] at M
  refine s3 M fun CW BA => ?_; clear M BS
  refine s3 BA fun CX BB => ?_; clear BA CW
  refine s3 BB fun CY AT => ?_; clear BB CX
  refine s1 AT (b_3 rfl (AT.ev rfl) (evc _ _)) fun CZ AU => ?_; clear AT CY
  refine n1 ?_
  refine c_6 AU rfl ?_
  refine b_7 ?_
  have BC := AU.as [] rfl; clear AU
  refine a_5 ?_
  refine s1 BC (a_1 rfl (evc _ _)) fun Cw BD => ?_; clear BC CZ
  refine n1 ?_
  refine c_8 ?_
  refine a_7 ?_
  refine a_9 BD (.inl rfl) (a_2 BD rfl (.tmp rfl)) ?_
  exact ⟨congrArg Value.bool (Eq.symm (by first | exact thin_n1 (by omega) | exact thin_n2 (k := k) (by omega) | exact thin_n3 (k := I) (by omega))), K.ext⟩
 skip
 rw [decide_eq_false BM] at M
 refine s5 M (a_0 rfl (M.ev rfl)) fun Ca AV => ?_; clear M BS
 refine s5 AV (c_0 rfl m_9 (AV.ev rfl) (K.sk 3 rfl)) fun Cb AW => ?_; clear AV Ca
 refine s5 AW (g_9 rfl (AW.ev rfl) (evc _ _)) fun Cc AF => ?_; clear AW Cb
 refine s1 AF (c_2 rfl (AF.ev rfl) (AF.ev rfl)) fun BT J => ?_; clear AF Cc
 refine n1 ?_
 by_cases BN : 12 < (l.length : Int)
 ·skip
  rw [decide_eq_true BN] at J
  refine c_6 J rfl ?_
  refine b_7 ?_
  have BF := J.as [] rfl; clear J
  refine a_5 ?_
  refine s1 BF (a_1 rfl (evc _ _)) fun Cx BG => ?_; clear BF BT
  refine n1 ?_
  refine c_8 ?_
  refine a_7 ?_
  refine a_9 BG (.inl rfl) (a_2 BG rfl (.tmp rfl)) ?_
  exact ⟨congrArg Value.bool (Eq.symm (by first | exact thin_n1 (by omega) | exact thin_n2 (k := k) (by omega) | exact thin_n3 (k := I) (by omega))), K.ext⟩
 skip
 rw [decide_eq_false BN] at J
 refine b_5 J rfl ?_
 refine d_1 ?_
 refine b_0 ?_
 refine b_7 ?_
 refine b_7 ?_
 have BH := J.as [(2, (bptr S 0))] rfl; clear J
 refine a_5 ?_
 refine s1 BH (a_1 rfl (evc _ _)) fun Cd BI => ?_; clear BH BT
 refine n1 ?_
 refine d_0 ?_
 have BJ := BI.as [(5, (Value.int .i64 0)), (2, (bptr S 0))] rfl; clear BI
 refine h_3 (G := Nat) (fun (k : Nat) a_ w_ => Fr 62 [] [(5, (Value.int .i64 (k : Int))), (2, (bptr S 0))] a_ ∧ Sep NoB w w_ [(blk S 25 [(Value.int .i64 b.scales), vt, vm]), (c_9 false vt lr lb b.tabs), (d_2 false vm lk b.macs), (sl xl 2 l.length (pairs l))] ∧ (k ≤ b.tabs.length) ∧ (∀ i, i < k → (b.tabs.getD i tab0).rows.length ≤ 12 ∧ (b.tabs.getD i tab0).brk.length ≤ 12)) (fun k => b.tabs.length - k) 0 ⟨BJ.as _ rfl, K, by omega, (fun _ h => absurd h (Nat.not_lt_zero _))⟩ ?_
 clear BJ K Cd
 rintro k Ce Cy ⟨AX, A, hkk, BX⟩
 refine b_7 ?_
 refine m2 ?_
 refine s1 AX (a_0 rfl (AX.ev rfl)) fun Cf AY => ?_; clear AX Ce
 refine s1 AY (a_4 rfl u_0 (AY.ev rfl)) fun Cg AZ => ?_; clear AY Cf
 refine s1 AZ (a_3 rfl ac_6 (AZ.ev rfl) (A.bk 0 rfl) rfl) fun Ch Aa => ?_; clear AZ Cg
 refine s1 Aa (c_0 rfl ac_7 (Aa.ev rfl) (b_6 (A.ok 1 _ rfl)).tabs) fun Ci AG => ?_; clear Aa Ch
 refine s1 AG (f_9 rfl (AG.ev rfl) (AG.ev rfl)) fun BU H => ?_; clear AG Ci
 refine n1 ?_
 by_cases BO : (k : Int) < (b.tabs.length : Int)
 ·skip
  rw [decide_eq_true BO] at H
  refine c_6 H rfl ?_
  refine d_1 ?_
  refine b_0 ?_
  refine b_7 ?_
  refine d_0 ?_
  refine m2 ?_
  refine s1 H (a_4 rfl u_0 (H.ev rfl)) fun Cj Ab => ?_; clear H BU
  refine s1 Ab (a_3 rfl ac_6 (Ab.ev rfl) (A.bk 0 rfl) rfl) fun Ck T => ?_; clear Ab Cj
  refine s1 T (a_0 rfl (T.ev rfl)) fun BZ N => ?_; clear T Ck
  refine s1 N (b_2 rfl ac_7 ty_46 (N.ev rfl) (i := k) (N.ev rfl) (b_6 (A.ok 1 _ rfl)).tabs (by decide) (by omega)) fun Ba U => ?_; clear N BZ
  refine s1 U (e_6 rfl j_7 (U.ev rfl) (b_6 (A.ok 1 _ rfl)).tabs (by rw [((b_6 (A.ok 1 _ rfl)).tabs).1]; omega)) fun Bb V => ?_; clear U Ba
  refine s1 V (c_7 rfl r_5 (V.ev rfl) (b_6 (A.ok 1 _ rfl)).tabs (tabs_at2 (by omega))) fun Bc W => ?_; clear V Bb
  refine s1 W (c_0 rfl r_6 (W.ev rfl) ((b_6 (A.ok 1 _ rfl)).row (i := k) (by omega))) fun Bd X => ?_; clear W Bc
  refine s1 X (g_9 rfl (X.ev rfl) (evc _ _)) fun Be Y => ?_; clear X Bd
  refine s1 Y (a_0 rfl (Y.ev rfl)) fun Ay F => ?_; clear Y Be
  by_cases Au : 12 < ((b.tabs.getD k tab0).rows.length : Int)
  ·skip
   rw [decide_eq_true Au] at F
   refine s3 F fun Bf Ac => ?_; clear F Ay
   refine s3 Ac fun Bg Ad => ?_; clear Ac Bf
   refine s3 Ad fun Bh Ae => ?_; clear Ad Bg
   refine s3 Ae fun Bi Af => ?_; clear Ae Bh
   refine s3 Af fun Bj Ag => ?_; clear Af Bi
   refine s3 Ag fun Bk Ah => ?_; clear Ag Bj
   refine s3 Ah fun Bl Ai => ?_; clear Ah Bk
   refine s3 Ai fun Bm Z => ?_; clear Ai Bl
   refine s1 Z (b_3 rfl (Z.ev rfl) (evc _ _)) fun Bn a => ?_; clear Z Bm
   refine n1 ?_
   refine c_6 a rfl ?_
   refine b_7 ?_
   have Aj := a.as [] rfl; clear a
   refine a_5 ?_
   refine s1 Aj (a_1 rfl (evc _ _)) fun Cm Ak => ?_; clear Aj Bn
   refine n1 ?_
   refine c_8 ?_
   refine d_3 ?_
   refine a_7 ?_
   refine a_7 ?_
   refine d_3 ?_
   refine a_7 ?_
   refine a_9 Ak (.inl rfl) (a_2 Ak rfl (.tmp rfl)) ?_
   exact ⟨congrArg Value.bool (Eq.symm (by first | exact thin_n1 (by omega) | exact thin_n2 (k := k) (by omega) | exact thin_n3 (k := I) (by omega))), A.ext⟩
  skip
  rw [decide_eq_false Au] at F
  refine s5 F (a_4 rfl u_0 (F.ev rfl)) fun Bo c => ?_; clear F Ay
  refine s5 c (a_3 rfl ac_6 (c.ev rfl) (A.bk 0 rfl) rfl) fun Bp d => ?_; clear c Bo
  refine s5 d (a_0 rfl (d.ev rfl)) fun Bq O => ?_; clear d Bp
  refine s5 O (b_2 rfl ac_7 ty_46 (O.ev rfl) (i := k) (O.ev rfl) (b_6 (A.ok 1 _ rfl)).tabs (by decide) (by omega)) fun Br e => ?_; clear O Bq
  refine s5 e (e_6 rfl z_5 (e.ev rfl) (b_6 (A.ok 1 _ rfl)).tabs (by rw [((b_6 (A.ok 1 _ rfl)).tabs).1]; omega)) fun Bs f => ?_; clear e Br
  refine s5 f (c_7 rfl aa_8 (f.ev rfl) (b_6 (A.ok 1 _ rfl)).tabs (tabs_at3 (by omega))) fun Bt g => ?_; clear f Bs
  refine s5 g (c_0 rfl h_8 (g.ev rfl) ((b_6 (A.ok 1 _ rfl)).brk (i := k) (by omega))) fun Bu j => ?_; clear g Bt
  refine s5 j (g_9 rfl (j.ev rfl) (evc _ _)) fun Bv P => ?_; clear j Bu
  refine s1 P (c_2 rfl (P.ev rfl) (P.ev rfl)) fun Az D => ?_; clear P Bv
  refine n1 ?_
  by_cases Av : 12 < ((b.tabs.getD k tab0).brk.length : Int)
  ·skip
   rw [decide_eq_true Av] at D
   refine c_6 D rfl ?_
   refine b_7 ?_
   have Al := D.as [] rfl; clear D
   refine a_5 ?_
   refine s1 Al (a_1 rfl (evc _ _)) fun Cn Am => ?_; clear Al Az
   refine n1 ?_
   refine c_8 ?_
   refine d_3 ?_
   refine a_7 ?_
   refine a_7 ?_
   refine d_3 ?_
   refine a_7 ?_
   refine a_9 Am (.inl rfl) (a_2 Am rfl (.tmp rfl)) ?_
   exact ⟨congrArg Value.bool (Eq.symm (by first | exact thin_n1 (by omega) | exact thin_n2 (k := k) (by omega) | exact thin_n3 (k := I) (by omega))), A.ext⟩
  skip
  rw [decide_eq_false Av] at D
  refine b_5 D rfl ?_
  refine d_1 ?_
  refine g_8 ?_
  refine b_0 ?_
  have m := D.as [(5, (Value.int .i64 (k : Int))), (2, (bptr S 0))] rfl; clear D
  refine a_5 ?_
  refine s1 m (a_0 rfl (m.ev rfl)) fun Bw n => ?_; clear m Az
  refine s1 n (f_6 rfl (n.ev rfl) (evc _ _) (by omega) (by omega)) fun Bx o => ?_; clear n Bw
  refine s1 o (a_1 rfl (o.ev rfl)) fun Co BP => ?_; clear o Bx
  refine e_8 ?_
  exact b_0 ⟨k + 1, ⟨BP.as _ rfl, A, by omega, (fun i hi => by rcases Nat.lt_succ_iff_lt_or_eq.1 hi with h | h; exact BX i h; subst h; omega)⟩, by omega⟩
 skip
 rw [decide_eq_false BO] at H
 refine b_5 H rfl ?_
 refine h_1 ?_
 refine b_4 ?_
 refine b_4 ?_
 refine f_7 ?_
 refine b_0 ?_
 refine b_7 ?_
 refine b_7 ?_
 have An := H.as [(2, (bptr S 0))] rfl; clear H
 refine a_5 ?_
 refine s1 An (a_1 rfl (evc _ _)) fun By Ao => ?_; clear An BU
 refine n1 ?_
 refine d_0 ?_
 have Ap := Ao.as [(6, (Value.int .i64 0)), (2, (bptr S 0))] rfl; clear Ao
 refine h_3 (G := Nat) (fun (I : Nat) a_ w_ => Fr 62 [] [(6, (Value.int .i64 (I : Int))), (2, (bptr S 0))] a_ ∧ Sep NoB w w_ [(blk S 25 [(Value.int .i64 b.scales), vt, vm]), (c_9 false vt lr lb b.tabs), (d_2 false vm lk b.macs), (sl xl 2 l.length (pairs l))] ∧ (I ≤ b.macs.length) ∧ (∀ i, i < I → (b.macs.getD i mac0).blocks.length ≤ 8)) (fun I => b.macs.length - I) 0 ⟨Ap.as _ rfl, A, by omega, (fun _ h => absurd h (Nat.not_lt_zero _))⟩ ?_
 clear Ap A By
 rintro I Bz Cu ⟨p, B, hkk1, BY⟩
 refine b_7 ?_
 refine m2 ?_
 refine s1 p (a_0 rfl (p.ev rfl)) fun B0 q => ?_; clear p Bz
 refine s1 q (a_4 rfl p_5 (q.ev rfl)) fun B1 r => ?_; clear q B0
 refine s1 r (a_3 rfl ab_6 (r.ev rfl) (B.bk 0 rfl) rfl) fun B2 s => ?_; clear r B1
 refine s1 s (c_0 rfl ab_8 (s.ev rfl) (b_8 (B.ok 2 _ rfl)).macs) fun B3 Q => ?_; clear s B2
 refine s1 Q (f_9 rfl (Q.ev rfl) (Q.ev rfl)) fun A0 C => ?_; clear Q B3
 refine n1 ?_
 by_cases Aw : (I : Int) < (b.macs.length : Int)
 ·skip
  rw [decide_eq_true Aw] at C
  refine c_6 C rfl ?_
  refine d_1 ?_
  refine b_0 ?_
  refine b_7 ?_
  refine d_0 ?_
  refine m2 ?_
  refine s1 C (a_4 rfl p_5 (C.ev rfl)) fun B4 t => ?_; clear C A0
  refine s1 t (a_3 rfl ab_6 (t.ev rfl) (B.bk 0 rfl) rfl) fun B5 u => ?_; clear t B4
  refine s1 u (a_0 rfl (u.ev rfl)) fun B6 R => ?_; clear u B5
  refine s1 R (b_2 rfl ab_8 ac_1 (R.ev rfl) (i := I) (R.ev rfl) (b_8 (B.ok 2 _ rfl)).macs (by decide) (by omega)) fun B7 x => ?_; clear R B6
  refine s1 x (e_6 rfl v_7 (x.ev rfl) (b_8 (B.ok 2 _ rfl)).macs (by rw [((b_8 (B.ok 2 _ rfl)).macs).1]; omega)) fun B8 y => ?_; clear x B7
  refine s1 y (c_7 rfl ty_59 (y.ev rfl) (b_8 (B.ok 2 _ rfl)).macs (macs_at1 (by omega))) fun B9 z => ?_; clear y B8
  refine s1 z (c_0 rfl un_59 (z.ev rfl) ((b_8 (B.ok 2 _ rfl)).blk (i := I) (by omega))) fun CA AA => ?_; clear z B9
  refine s1 AA (g_9 rfl (AA.ev rfl) (evc _ _)) fun A1 E => ?_; clear AA CA
  refine n1 ?_
  by_cases Ax : 8 < ((b.macs.getD I mac0).blocks.length : Int)
  ·skip
   rw [decide_eq_true Ax] at E
   refine c_6 E rfl ?_
   refine b_7 ?_
   have Aq := E.as [] rfl; clear E
   refine a_5 ?_
   refine s1 Aq (a_1 rfl (evc _ _)) fun Cp Ar => ?_; clear Aq A1
   refine n1 ?_
   refine c_8 ?_
   refine d_3 ?_
   refine a_7 ?_
   refine a_7 ?_
   refine d_3 ?_
   refine a_7 ?_
   refine a_9 Ar (.inl rfl) (a_2 Ar rfl (.tmp rfl)) ?_
   exact ⟨congrArg Value.bool (Eq.symm (by first | exact thin_n1 (by omega) | exact thin_n2 (k := k) (by omega) | exact thin_n3 (k := I) (by omega))), B.ext⟩
  skip
  rw [decide_eq_false Ax] at E
  refine b_5 E rfl ?_
  refine d_1 ?_
  refine g_8 ?_
  refine b_0 ?_
  have AB := E.as [(6, (Value.int .i64 (I : Int))), (2, (bptr S 0))] rfl; clear E
  refine a_5 ?_
  refine s1 AB (a_0 rfl (AB.ev rfl)) fun CB AC => ?_; clear AB A1
  refine s1 AC (f_6 rfl (AC.ev rfl) (evc _ _) (by omega) (by omega)) fun CC AD => ?_; clear AC CB
  refine s1 AD (a_1 rfl (AD.ev rfl)) fun Cq BQ => ?_; clear AD CC
  refine e_8 ?_
  exact b_0 ⟨I + 1, ⟨BQ.as _ rfl, B, by omega, (fun i hi => by rcases Nat.lt_succ_iff_lt_or_eq.1 hi with h | h; exact BY i h; subst h; omega)⟩, by omega⟩
 skip
 rw [decide_eq_false Aw] at C
 refine b_5 C rfl ?_
 refine h_1 ?_
 refine b_4 ?_
 refine b_4 ?_
 refine f_7 ?_
 refine b_0 ?_
 refine b_7 ?_
 have As := C.as [] rfl; clear C
 refine a_5 ?_
 refine s1 As (a_1 rfl (evc _ _)) fun Cr At => ?_; clear As A0
 refine n1 ?_
 refine c_8 ?_
 refine a_9 At (.inl rfl) (a_2 At rfl (.tmp rfl)) ?_
 exact ⟨congrArg Value.bool (Eq.symm (thin_y (by omega) (by omega) (by omega) (fun i hi => BX i (by omega)) (fun i hi => BY i (by omega)))), B.ext⟩
set_option maxHeartbeats 4000000 in
theorem rfault_ok (b : h_0) (vt vm : Value) (lr lb lk : Nat → Value) (w : World) (hT : j_6 w vt lr lb b.tabs) (hM : k_4 w vm lk b.macs) (hth : o_0 b) :
  Calls Try.prog 21 #[(Value.agg #[(Value.int .i64 b.scales), vt, vm])] w (Ret fun v w' => v = .int .i64 (g_0 b) ∧ Ext NoB w w') := by
 refine a_8 Try.func21 rfl fun a0 BL => ?_
 replace BL : Fr 113 [] [(0, (Value.agg #[(Value.int .i64 b.scales), vt, vm]))] a0 := BL
 have htl := hth.tl; have hml := hth.ml
 have C4 : Sep NoB w w [(c_9 false vt lr lb b.tabs), (d_2 false vm lk b.macs)] := f_0 ⟨rfl, hT, rfl, hM, trivial⟩
 refine m2 ?_
 refine s2 BL (f_3 C4 rfl (BL.ev rfl) (cs := [(Value.int .i64 b.scales), vt, vm]) rfl) ?_
 rintro a1 _ w3 ⟨E, rfl, m⟩ C3; clear BL C4 a0
 refine s1 C3 (a_1 rfl (evc _ _)) fun a6 Cj => ?_; clear C3 a1
 refine n2 ?_
 refine m2 ?_
 refine s1 Cj (a_4 rfl u_0 (Cj.ev rfl)) fun a8 Cm => ?_; clear Cj a6
 refine s1 Cm (a_3 rfl ac_6 (Cm.ev rfl) (m.bk 0 rfl) rfl) fun ER BM => ?_; clear Cm a8
 refine s1 BM (c_0 rfl ac_7 (BM.ev rfl) (b_6 (m.ok 1 _ rfl)).tabs) fun ES BN => ?_; clear BM ER
 refine s1 BN (g_9 rfl (BN.ev rfl) (evc _ _)) fun ET BO => ?_; clear BN ES
 refine s1 BO (a_0 rfl (BO.ev rfl)) fun Cz g => ?_; clear BO ET
 by_cases Cq : 6 < (b.tabs.length : Int)
 ·skip
  rw [decide_eq_true Cq] at g
  refine s3 g fun EU CZ => ?_; clear g Cz
  refine s3 CZ fun EV Ca => ?_; clear CZ EU
  refine s3 Ca fun EW Cb => ?_; clear Ca EV
  refine s3 Cb fun EX BP => ?_; clear Cb EW
  refine s1 BP (b_3 rfl (BP.ev rfl) (evc _ _)) fun EY BQ => ?_; clear BP EX
  refine n1 ?_
  refine c_6 BQ rfl ?_
  refine b_7 ?_
  have Cc := BQ.as [] rfl; clear BQ
  refine a_5 ?_
  refine s1 Cc (a_1 rfl (evc _ _)) fun FH Cd => ?_; clear Cc EY
  refine n1 ?_
  refine c_8 ?_
  refine a_7 ?_
  refine a_9 Cd (.inl rfl) (a_2 Cd rfl (.tmp rfl)) ?_
  exact ⟨j_1 (Eq.symm (by first | exact m_5 (by omega) | exact q_4 (k := k) (by omega) (by omega) | exact q_5 (k := O) (by omega) (by omega) | exact n_1 (⟨by omega, by omega, fun i hi => A i (by omega), fun i hi => B i (by omega)⟩ : f_8 b) (by assumption) | exact q_3 (k := D) (⟨by omega, by omega, fun i hi => A i (by omega), fun i hi => B i (by omega)⟩ : f_8 b) (by omega) (by assumption) | exact j_9 (k := C) (⟨by omega, by omega, fun i hi => A i (by omega), fun i hi => B i (by omega)⟩ : f_8 b) (by omega) (aa_4 (by assumption)) | exact j_9 (k := C) (⟨by omega, by omega, fun i hi => A i (by omega), fun i hi => B i (by omega)⟩ : f_8 b) (by omega) (aa_5 (k := N) (by omega) (g_8 (by first | exact .inl (by assumption) | exact .inr (by assumption)))) | exact t_9 (⟨by omega, by omega, fun i hi => A i (by omega), fun i hi => B i (by omega)⟩ : f_8 b) (by assumption) (fun i hi => c i (by omega)) (fun i hi => d i (by omega)))), m.ext⟩
 skip
 rw [decide_eq_false Cq] at g
 refine s5 g (a_4 rfl p_5 (g.ev rfl)) fun EZ BR => ?_; clear g Cz
 refine s5 BR (a_3 rfl ab_6 (BR.ev rfl) (m.bk 0 rfl) rfl) fun Ea BS => ?_; clear BR EZ
 refine s5 BS (c_0 rfl ab_8 (BS.ev rfl) (b_8 (m.ok 2 _ rfl)).macs) fun Eb BT => ?_; clear BS Ea
 refine s5 BT (g_9 rfl (BT.ev rfl) (evc _ _)) fun Ec BB => ?_; clear BT Eb
 refine s1 BB (c_2 rfl (BB.ev rfl) (BB.ev rfl)) fun C0 Y => ?_; clear BB Ec
 refine n1 ?_
 by_cases Cr : 6 < (b.macs.length : Int)
 ·skip
  rw [decide_eq_true Cr] at Y
  refine c_6 Y rfl ?_
  refine b_7 ?_
  have Ce := Y.as [] rfl; clear Y
  refine a_5 ?_
  refine s1 Ce (a_1 rfl (evc _ _)) fun FI Cf => ?_; clear Ce C0
  refine n1 ?_
  refine c_8 ?_
  refine a_7 ?_
  refine a_9 Cf (.inl rfl) (a_2 Cf rfl (.tmp rfl)) ?_
  exact ⟨j_1 (Eq.symm (by first | exact m_5 (by omega) | exact q_4 (k := k) (by omega) (by omega) | exact q_5 (k := O) (by omega) (by omega) | exact n_1 (⟨by omega, by omega, fun i hi => A i (by omega), fun i hi => B i (by omega)⟩ : f_8 b) (by assumption) | exact q_3 (k := D) (⟨by omega, by omega, fun i hi => A i (by omega), fun i hi => B i (by omega)⟩ : f_8 b) (by omega) (by assumption) | exact j_9 (k := C) (⟨by omega, by omega, fun i hi => A i (by omega), fun i hi => B i (by omega)⟩ : f_8 b) (by omega) (aa_4 (by assumption)) | exact j_9 (k := C) (⟨by omega, by omega, fun i hi => A i (by omega), fun i hi => B i (by omega)⟩ : f_8 b) (by omega) (aa_5 (k := N) (by omega) (g_8 (by first | exact .inl (by assumption) | exact .inr (by assumption)))) | exact t_9 (⟨by omega, by omega, fun i hi => A i (by omega), fun i hi => B i (by omega)⟩ : f_8 b) (by assumption) (fun i hi => c i (by omega)) (fun i hi => d i (by omega)))), m.ext⟩
 skip
 rw [decide_eq_false Cr] at Y
 refine b_5 Y rfl ?_
 refine d_1 ?_
 refine b_0 ?_
 refine b_7 ?_
 refine b_7 ?_
 have Cg := Y.as [(1, (bptr E 0))] rfl; clear Y
 refine a_5 ?_
 refine s1 Cg (a_1 rfl (evc _ _)) fun Ed Ch => ?_; clear Cg C0
 refine n1 ?_
 refine d_0 ?_
 have Ci := Ch.as [(3, (Value.int .i64 0)), (1, (bptr E 0))] rfl; clear Ch
 refine h_3 (G := Nat) (fun (k : Nat) a_ w_ => Fr 113 [] [(3, (Value.int .i64 (k : Int))), (1, (bptr E 0))] a_ ∧ Sep NoB w w_ [(blk E 25 [(Value.int .i64 b.scales), vt, vm]), (c_9 false vt lr lb b.tabs), (d_2 false vm lk b.macs)] ∧ (k ≤ b.tabs.length) ∧ (∀ i, i < k → (b.tabs.getD i tab0).rows.length ≤ 8)) (fun k => b.tabs.length - k) 0 ⟨Ci.as _ rfl, m, by omega, (fun _ h => absurd h (Nat.not_lt_zero _))⟩ ?_
 clear Ci m Ed
 rintro k Ee FL ⟨BU, I, hkk, A⟩
 refine b_7 ?_
 refine m2 ?_
 refine s1 BU (a_0 rfl (BU.ev rfl)) fun Ef BV => ?_; clear BU Ee
 refine s1 BV (a_4 rfl u_0 (BV.ev rfl)) fun Eg BW => ?_; clear BV Ef
 refine s1 BW (a_3 rfl ac_6 (BW.ev rfl) (I.bk 0 rfl) rfl) fun Eh BX => ?_; clear BW Eg
 refine s1 BX (c_0 rfl ac_7 (BX.ev rfl) (b_6 (I.ok 1 _ rfl)).tabs) fun Ei BC => ?_; clear BX Eh
 refine s1 BC (f_9 rfl (BC.ev rfl) (BC.ev rfl)) fun C1 X => ?_; clear BC Ei
 refine n1 ?_
 by_cases Cs : (k : Int) < (b.tabs.length : Int)
 ·skip
  rw [decide_eq_true Cs] at X
  refine c_6 X rfl ?_
  refine d_1 ?_
  refine b_0 ?_
  refine b_7 ?_
  refine d_0 ?_
  refine m2 ?_
  refine s1 X (a_4 rfl u_0 (X.ev rfl)) fun Ej BY => ?_; clear X C1
  refine s1 BY (a_3 rfl ac_6 (BY.ev rfl) (I.bk 0 rfl) rfl) fun Ek BZ => ?_; clear BY Ej
  refine s1 BZ (a_0 rfl (BZ.ev rfl)) fun El BD => ?_; clear BZ Ek
  refine s1 BD (b_2 rfl ac_7 ty_46 (BD.ev rfl) (i := k) (BD.ev rfl) (b_6 (I.ok 1 _ rfl)).tabs (by decide) (by omega)) fun Em Ba => ?_; clear BD El
  refine s1 Ba (e_6 rfl j_7 (Ba.ev rfl) (b_6 (I.ok 1 _ rfl)).tabs (by rw [((b_6 (I.ok 1 _ rfl)).tabs).1]; omega)) fun En Bb => ?_; clear Ba Em
  refine s1 Bb (c_7 rfl r_5 (Bb.ev rfl) (b_6 (I.ok 1 _ rfl)).tabs (tabs_at2 (by omega))) fun Eo Bc => ?_; clear Bb En
  refine s1 Bc (c_0 rfl r_6 (Bc.ev rfl) ((b_6 (I.ok 1 _ rfl)).row (i := k) (by omega))) fun Ep Bd => ?_; clear Bc Eo
  refine s1 Bd (g_9 rfl (Bd.ev rfl) (evc _ _)) fun C2 Z => ?_; clear Bd Ep
  refine n1 ?_
  by_cases Ct : 8 < ((b.tabs.getD k tab0).rows.length : Int)
  ·skip
   rw [decide_eq_true Ct] at Z
   refine c_6 Z rfl ?_
   refine b_7 ?_
   have Ck := Z.as [] rfl; clear Z
   refine a_5 ?_
   refine s1 Ck (a_1 rfl (evc _ _)) fun FJ Cl => ?_; clear Ck C2
   refine n1 ?_
   refine c_8 ?_
   refine d_3 ?_
   refine a_7 ?_
   refine a_7 ?_
   refine d_3 ?_
   refine a_7 ?_
   refine a_9 Cl (.inl rfl) (a_2 Cl rfl (.tmp rfl)) ?_
   exact ⟨j_1 (Eq.symm (by first | exact m_5 (by omega) | exact q_4 (k := k) (by omega) (by omega) | exact q_5 (k := O) (by omega) (by omega) | exact n_1 (⟨by omega, by omega, fun i hi => A i (by omega), fun i hi => B i (by omega)⟩ : f_8 b) (by assumption) | exact q_3 (k := D) (⟨by omega, by omega, fun i hi => A i (by omega), fun i hi => B i (by omega)⟩ : f_8 b) (by omega) (by assumption) | exact j_9 (k := C) (⟨by omega, by omega, fun i hi => A i (by omega), fun i hi => B i (by omega)⟩ : f_8 b) (by omega) (aa_4 (by assumption)) | exact j_9 (k := C) (⟨by omega, by omega, fun i hi => A i (by omega), fun i hi => B i (by omega)⟩ : f_8 b) (by omega) (aa_5 (k := N) (by omega) (g_8 (by first | exact .inl (by assumption) | exact .inr (by assumption)))) | exact t_9 (⟨by omega, by omega, fun i hi => A i (by omega), fun i hi => B i (by omega)⟩ : f_8 b) (by assumption) (fun i hi => c i (by omega)) (fun i hi => d i (by omega)))), I.ext⟩
  skip
  rw [decide_eq_false Ct] at Z
  refine b_5 Z rfl ?_
  refine d_1 ?_
  refine g_8 ?_
  refine b_0 ?_
  have Be := Z.as [(3, (Value.int .i64 (k : Int))), (1, (bptr E 0))] rfl; clear Z
  refine a_5 ?_
  refine s1 Be (a_0 rfl (Be.ev rfl)) fun Er Bf => ?_; clear Be C2
  refine s1 Bf (f_6 rfl (Bf.ev rfl) (evc _ _) (by omega) (by omega)) fun Es Bg => ?_; clear Bf Er
  refine s1 Bg (a_1 rfl (Bg.ev rfl)) fun FK EO => ?_; clear Bg Es
  refine e_8 ?_
  exact b_0 ⟨k + 1, ⟨EO.as _ rfl, I, by omega, (fun i hi => by rcases Nat.lt_succ_iff_lt_or_eq.1 hi with h | h; exact A i h; subst h; omega)⟩, by omega⟩
 skip
 rw [decide_eq_false Cs] at X
 refine b_5 X rfl ?_
 refine h_1 ?_
 refine b_4 ?_
 refine b_4 ?_
 refine f_7 ?_
 refine b_0 ?_
 refine b_7 ?_
 refine b_7 ?_
 have Cn := X.as [(1, (bptr E 0))] rfl; clear X
 refine a_5 ?_
 refine s1 Cn (a_1 rfl (evc _ _)) fun Et Co => ?_; clear Cn C1
 refine n1 ?_
 refine d_0 ?_
 have Cp := Co.as [(4, (Value.int .i64 0)), (1, (bptr E 0))] rfl; clear Co
 refine h_3 (G := Nat) (fun (O : Nat) a_ w_ => Fr 113 [] [(4, (Value.int .i64 (O : Int))), (1, (bptr E 0))] a_ ∧ Sep NoB w w_ [(blk E 25 [(Value.int .i64 b.scales), vt, vm]), (c_9 false vt lr lb b.tabs), (d_2 false vm lk b.macs)] ∧ (O ≤ b.macs.length) ∧ (∀ i, i < O → (b.macs.getD i mac0).blocks.length ≤ 5)) (fun O => b.macs.length - O) 0 ⟨Cp.as _ rfl, I, by omega, (fun _ h => absurd h (Nat.not_lt_zero _))⟩ ?_
 clear Cp I Et
 rintro O Eu FM ⟨Bh, H, hkk1, B⟩
 refine b_7 ?_
 refine m2 ?_
 refine s1 Bh (a_0 rfl (Bh.ev rfl)) fun C6 AC => ?_; clear Bh Eu
 refine s1 AC (a_4 rfl p_5 (AC.ev rfl)) fun C7 AD => ?_; clear AC C6
 refine s1 AD (a_3 rfl ab_6 (AD.ev rfl) (H.bk 0 rfl) rfl) fun C8 AE => ?_; clear AD C7
 refine s1 AE (c_0 rfl ab_8 (AE.ev rfl) (b_8 (H.ok 2 _ rfl)).macs) fun C9 n => ?_; clear AE C8
 refine s1 n (f_9 rfl (n.ev rfl) (n.ev rfl)) fun CQ J => ?_; clear n C9
 refine n1 ?_
 by_cases CL : (O : Int) < (b.macs.length : Int)
 ·skip
  rw [decide_eq_true CL] at J
  refine c_6 J rfl ?_
  refine d_1 ?_
  refine b_0 ?_
  refine b_7 ?_
  refine d_0 ?_
  refine m2 ?_
  refine s1 J (a_4 rfl p_5 (J.ev rfl)) fun DA AF => ?_; clear J CQ
  refine s1 AF (a_3 rfl ab_6 (AF.ev rfl) (H.bk 0 rfl) rfl) fun DB AG => ?_; clear AF DA
  refine s1 AG (a_0 rfl (AG.ev rfl)) fun DC o => ?_; clear AG DB
  refine s1 o (b_2 rfl ab_8 ac_1 (o.ev rfl) (i := O) (o.ev rfl) (b_8 (H.ok 2 _ rfl)).macs (by decide) (by omega)) fun DD AH => ?_; clear o DC
  refine s1 AH (e_6 rfl v_7 (AH.ev rfl) (b_8 (H.ok 2 _ rfl)).macs (by rw [((b_8 (H.ok 2 _ rfl)).macs).1]; omega)) fun DE AI => ?_; clear AH DD
  refine s1 AI (c_7 rfl ty_59 (AI.ev rfl) (b_8 (H.ok 2 _ rfl)).macs (macs_at1 (by omega))) fun DF AJ => ?_; clear AI DE
  refine s1 AJ (c_0 rfl un_59 (AJ.ev rfl) ((b_8 (H.ok 2 _ rfl)).blk (i := O) (by omega))) fun DG AK => ?_; clear AJ DF
  refine s1 AK (g_9 rfl (AK.ev rfl) (evc _ _)) fun CR P => ?_; clear AK DG
  refine n1 ?_
  by_cases CM : 5 < ((b.macs.getD O mac0).blocks.length : Int)
  ·skip
   rw [decide_eq_true CM] at P
   refine c_6 P rfl ?_
   refine b_7 ?_
   have Bi := P.as [] rfl; clear P
   refine a_5 ?_
   refine s1 Bi (a_1 rfl (evc _ _)) fun Ew Bj => ?_; clear Bi CR
   refine n1 ?_
   refine c_8 ?_
   refine d_3 ?_
   refine a_7 ?_
   refine a_7 ?_
   refine d_3 ?_
   refine a_7 ?_
   refine a_9 Bj (.inl rfl) (a_2 Bj rfl (.tmp rfl)) ?_
   exact ⟨j_1 (Eq.symm (by first | exact m_5 (by omega) | exact q_4 (k := k) (by omega) (by omega) | exact q_5 (k := O) (by omega) (by omega) | exact n_1 (⟨by omega, by omega, fun i hi => A i (by omega), fun i hi => B i (by omega)⟩ : f_8 b) (by assumption) | exact q_3 (k := D) (⟨by omega, by omega, fun i hi => A i (by omega), fun i hi => B i (by omega)⟩ : f_8 b) (by omega) (by assumption) | exact j_9 (k := C) (⟨by omega, by omega, fun i hi => A i (by omega), fun i hi => B i (by omega)⟩ : f_8 b) (by omega) (aa_4 (by assumption)) | exact j_9 (k := C) (⟨by omega, by omega, fun i hi => A i (by omega), fun i hi => B i (by omega)⟩ : f_8 b) (by omega) (aa_5 (k := N) (by omega) (g_8 (by first | exact .inl (by assumption) | exact .inr (by assumption)))) | exact t_9 (⟨by omega, by omega, fun i hi => A i (by omega), fun i hi => B i (by omega)⟩ : f_8 b) (by assumption) (fun i hi => c i (by omega)) (fun i hi => d i (by omega)))), H.ext⟩
  skip
  rw [decide_eq_false CM] at P
  refine b_5 P rfl ?_
  refine d_1 ?_
  refine g_8 ?_
  refine b_0 ?_
  have AL := P.as [(4, (Value.int .i64 (O : Int))), (1, (bptr E 0))] rfl; clear P
  refine a_5 ?_
  refine s1 AL (a_0 rfl (AL.ev rfl)) fun DH AM => ?_; clear AL CR
  refine s1 AM (f_6 rfl (AM.ev rfl) (evc _ _) (by omega) (by omega)) fun DI AN => ?_; clear AM DH
  refine s1 AN (a_1 rfl (AN.ev rfl)) fun Ex Cu => ?_; clear AN DI
  refine e_8 ?_
  exact b_0 ⟨O + 1, ⟨Cu.as _ rfl, H, by omega, (fun i hi => by rcases Nat.lt_succ_iff_lt_or_eq.1 hi with h | h; exact B i h; subst h; omega)⟩, by omega⟩
 skip
 rw [decide_eq_false CL] at J
 refine b_5 J rfl ?_
 refine h_1 ?_
 refine b_4 ?_
 refine b_4 ?_
 refine f_7 ?_
 refine b_0 ?_
 refine b_7 ?_
 refine b_7 ?_
 have AO := J.as [(1, (bptr E 0))] rfl; clear J
 refine a_5 ?_
 refine s1 AO (a_4 rfl fd_25_0 (AO.ev rfl)) fun DJ AP => ?_; clear AO CQ
 refine s1 AP (a_3 rfl ty_3 (AP.ev rfl) (H.bk 0 rfl) rfl) fun DK AQ => ?_; clear AP DJ
 refine s2 AQ (a_6 rfl v_5 (ev3 (AQ.ev rfl) (evc _ _) (evc _ _)) (v_4 _ _ _ _)) ?_
 rintro DL _ W_ ⟨rfl, hW_⟩ AR; have hW2_ := hW_.symm; subst hW2_; clear hW_ AQ DK
 refine s1 AR (f_4 rfl (AR.ev rfl)) fun CS Q => ?_; clear AR DL
 refine n1 ?_
 rcases Bool.eq_false_or_eq_true ((inB b.scales 1 4)) with BG | BG
 ·skip
  rw [BG] at Q
  refine b_5 Q rfl ?_
  refine d_1 ?_
  refine b_0 ?_
  refine b_7 ?_
  refine m2 ?_
  refine s1 Q (a_1 rfl (evc _ _)) fun DM Bk => ?_; clear Q CS
  refine n1 ?_
  refine d_0 ?_
  have Bl := Bk.as [(5, (Value.int .i64 0)), (1, (bptr E 0))] rfl; clear Bk
  refine h_3 (G := Nat) (fun (D : Nat) a_ w_ => Fr 113 [] [(5, (Value.int .i64 (D : Int))), (1, (bptr E 0))] a_ ∧ Sep NoB w w_ [(blk E 25 [(Value.int .i64 b.scales), vt, vm]), (c_9 false vt lr lb b.tabs), (d_2 false vm lk b.macs)] ∧ (D ≤ b.tabs.length) ∧ (∀ i, i < D → tabB b.scales (b.tabs.getD i tab0) = true)) (fun D => b.tabs.length - D) 0 ⟨Bl.as _ rfl, H, by omega, (fun _ h => absurd h (Nat.not_lt_zero _))⟩ ?_
  clear Bl H DM
  rintro D DN E9 ⟨AS, e, hkk2, c⟩
  refine b_7 ?_
  refine m2 ?_
  refine s1 AS (a_0 rfl (AS.ev rfl)) fun DO AT => ?_; clear AS DN
  refine s1 AT (a_4 rfl u_0 (AT.ev rfl)) fun DP AU => ?_; clear AT DO
  refine s1 AU (a_3 rfl ac_6 (AU.ev rfl) (e.bk 0 rfl) rfl) fun DQ AV => ?_; clear AU DP
  refine s1 AV (c_0 rfl ac_7 (AV.ev rfl) (b_6 (e.ok 1 _ rfl)).tabs) fun DR p => ?_; clear AV DQ
  refine s1 p (f_9 rfl (p.ev rfl) (p.ev rfl)) fun DS R => ?_; clear p DR
  refine n1 ?_
  by_cases CN : (D : Int) < (b.tabs.length : Int)
  ·skip
   rw [decide_eq_true CN] at R
   refine c_6 R rfl ?_
   refine d_1 ?_
   refine b_0 ?_
   refine b_7 ?_
   refine d_0 ?_
   refine b_7 ?_
   have Bm := R.as [(5, (Value.int .i64 (D : Int))), (1, (bptr E 0))] rfl; clear R
   refine g_6 mixed Bm e 7 [[], [0], [], [2], [], [3, 4], [5]] [(Yd.val (bptr E 0)), (Yd.val (Value.int .i64 b.scales)), (Yd.val (bptr E 1)), (Yd.val vt), (Yd.val (Value.int .i64 (D : Int))), (Yd.val (eptr vt (D * 5))), (Yd.val (Value.agg #[(Value.int .i64 ((b.tabs.getD D tab0).frm)), (Value.int .i64 ((b.tabs.getD D tab0).dst)), (lr D), (lb D), (Value.int .i64 ((b.tabs.getD D tab0).err))]))] (by decide +kernel) rfl rfl ?_ ?_
   ·skip
    refine dq (fun a w hA hS hd => a_4 rfl fd_25_0 (hA.ev rfl)) ?_
    refine dq (fun a w hA hS hd => a_3 rfl ty_3 (hq hd 0) (hS.bk 0 rfl) rfl) ?_
    refine dq (fun a w hA hS hd => a_4 rfl u_0 (hA.ev rfl)) ?_
    refine dq (fun a w hA hS hd => a_3 rfl ac_6 (hq hd 2) (hS.bk 0 rfl) rfl) ?_
    refine dq (fun a w hA hS hd => a_0 rfl (hA.ev rfl)) ?_
    refine dq (fun a w hA hS hd => b_2 rfl ac_7 ty_46 (hq hd 3) (i := D) (hq hd 4) (b_6 (hS.ok 1 _ rfl)).tabs (by decide) (by omega)) ?_
    refine dq (fun a w hA hS hd => f_2 rfl ty_46 (hq hd 5) (b_6 (hS.ok 1 _ rfl)).tabs (y_3 (by omega)) rfl (by decide)) ?_
    trivial
   intro DT FA Bn AB BE; clear Bm e
   have Bo := Bn.add (hz BE 1); clear Bn
   have q := Bo.add (hz BE 6); clear Bo
   clear BE
   refine s2 q (a_6 rfl en_51 (ev2 (q.ev rfl) (q.ev rfl)) (istable_ok b.scales (h_4.1 (by assumption)) (b.tabs.getD D tab0) _ _ _ ((b_6 (AB.ok 1 _ rfl)).row (i := D) (by omega)) ((b_6 (AB.ok 1 _ rfl)).brk (i := D) (by omega)) (hth.rl _) (hth.bl _))) ?_
   rintro DU _ FB ⟨rfl, CF⟩ AW; have CI := AB.step CF; clear CF q AB DT
   refine s1 AW (f_4 rfl (AW.ev rfl)) fun CT K => ?_; clear AW DU
   refine n1 ?_
   rcases Bool.eq_false_or_eq_true ((tabB b.scales (b.tabs.getD D tab0))) with BH | BH
   ·skip
    rw [BH] at K
    refine b_5 K rfl ?_
    refine d_1 ?_
    refine g_8 ?_
    refine b_0 ?_
    refine a_5 ?_
    refine s1 K (a_0 rfl (K.ev rfl)) fun DV AX => ?_; clear K CT
    refine s1 AX (f_6 rfl (AX.ev rfl) (evc _ _) (by omega) (by omega)) fun DW AY => ?_; clear AX DV
    refine s1 AY (a_1 rfl (AY.ev rfl)) fun Ey Cv => ?_; clear AY DW
    refine e_8 ?_
    exact b_0 ⟨D + 1, ⟨Cv.as _ rfl, CI, by omega, (fun i hi => by rcases Nat.lt_succ_iff_lt_or_eq.1 hi with h | h; exact c i h; subst h; assumption)⟩, by omega⟩
   skip
   rw [BH] at K
   refine c_6 K rfl ?_
   refine b_7 ?_
   have Bp := K.as [] rfl; clear K
   refine a_5 ?_
   refine s1 Bp (a_1 rfl (evc _ _)) fun Ez Bq => ?_; clear Bp CT
   refine n1 ?_
   refine c_8 ?_
   refine d_3 ?_
   refine a_7 ?_
   refine a_7 ?_
   refine d_3 ?_
   refine a_7 ?_
   refine a_9 Bq (.inl rfl) (a_2 Bq rfl (.tmp rfl)) ?_
   exact ⟨j_1 (Eq.symm (by first | exact m_5 (by omega) | exact q_4 (k := k) (by omega) (by omega) | exact q_5 (k := O) (by omega) (by omega) | exact n_1 (⟨by omega, by omega, fun i hi => A i (by omega), fun i hi => B i (by omega)⟩ : f_8 b) (by assumption) | exact q_3 (k := D) (⟨by omega, by omega, fun i hi => A i (by omega), fun i hi => B i (by omega)⟩ : f_8 b) (by omega) (by assumption) | exact j_9 (k := C) (⟨by omega, by omega, fun i hi => A i (by omega), fun i hi => B i (by omega)⟩ : f_8 b) (by omega) (aa_4 (by assumption)) | exact j_9 (k := C) (⟨by omega, by omega, fun i hi => A i (by omega), fun i hi => B i (by omega)⟩ : f_8 b) (by omega) (aa_5 (k := N) (by omega) (g_8 (by first | exact .inl (by assumption) | exact .inr (by assumption)))) | exact t_9 (⟨by omega, by omega, fun i hi => A i (by omega), fun i hi => B i (by omega)⟩ : f_8 b) (by assumption) (fun i hi => c i (by omega)) (fun i hi => d i (by omega)))), CI.ext⟩
  skip
  rw [decide_eq_false CN] at R
  refine b_5 R rfl ?_
  refine h_1 ?_
  refine b_4 ?_
  refine b_4 ?_
  refine f_7 ?_
  refine b_0 ?_
  refine b_7 ?_
  refine b_7 ?_
  have Br := R.as [(1, (bptr E 0))] rfl; clear R
  refine a_5 ?_
  refine s1 Br (a_1 rfl (evc _ _)) fun DX Bs => ?_; clear Br DS
  refine n1 ?_
  refine d_0 ?_
  have Bt := Bs.as [(6, (Value.int .i64 0)), (1, (bptr E 0))] rfl; clear Bs
  refine h_3 (G := Nat) (fun (C : Nat) a_ w_ => Fr 113 [] [(6, (Value.int .i64 (C : Int))), (1, (bptr E 0))] a_ ∧ Sep NoB w w_ [(blk E 25 [(Value.int .i64 b.scales), vt, vm]), (c_9 false vt lr lb b.tabs), (d_2 false vm lk b.macs)] ∧ (C ≤ b.macs.length) ∧ (∀ i, i < C → macB b.scales (b.macs.getD i mac0) = true)) (fun C => b.macs.length - C) 0 ⟨Bt.as _ rfl, e, by omega, (fun _ h => absurd h (Nat.not_lt_zero _))⟩ ?_
  clear Bt e DX
  rintro C DY FC ⟨AZ, U, hkk3, d⟩
  have hkl3 := hth.kl C; have hsc_ := h_4.1 (show inB b.scales 1 4 = true by assumption)
  refine b_7 ?_
  refine m2 ?_
  refine s1 AZ (a_0 rfl (AZ.ev rfl)) fun DZ Aa => ?_; clear AZ DY
  refine s1 Aa (a_4 rfl p_5 (Aa.ev rfl)) fun Da Ab => ?_; clear Aa DZ
  refine s1 Ab (a_3 rfl ab_6 (Ab.ev rfl) (U.bk 0 rfl) rfl) fun Db Ac => ?_; clear Ab Da
  refine s1 Ac (c_0 rfl ab_8 (Ac.ev rfl) (b_8 (U.ok 2 _ rfl)).macs) fun Dc r => ?_; clear Ac Db
  refine s1 r (f_9 rfl (r.ev rfl) (r.ev rfl)) fun CU L => ?_; clear r Dc
  refine n1 ?_
  by_cases CO : (C : Int) < (b.macs.length : Int)
  ·skip
   rw [decide_eq_true CO] at L
   refine c_6 L rfl ?_
   refine d_1 ?_
   refine b_0 ?_
   refine b_7 ?_
   refine d_0 ?_
   refine m2 ?_
   refine s1 L (a_4 rfl p_5 (L.ev rfl)) fun Dd Ad => ?_; clear L CU
   refine s1 Ad (a_3 rfl ab_6 (Ad.ev rfl) (U.bk 0 rfl) rfl) fun De Ae => ?_; clear Ad Dd
   refine s1 Ae (a_0 rfl (Ae.ev rfl)) fun Df s => ?_; clear Ae De
   refine s1 s (b_2 rfl ab_8 ac_1 (s.ev rfl) (i := C) (s.ev rfl) (b_8 (U.ok 2 _ rfl)).macs (by decide) (by omega)) fun Dg Af => ?_; clear s Df
   refine s1 Af (f_2 rfl ac_1 (Af.ev rfl) (b_8 (U.ok 2 _ rfl)).macs (x_7 (by omega)) rfl (by decide)) fun Dh Bu => ?_; clear Af Dg
   refine s2 Bu (e_4 U rfl ze_61 (cs := [(Value.int .i64 0), (Value.slice none 0 0)]) rfl) ?_
   rintro Di _ FD ⟨f, rfl, BF⟩ t; clear Bu U Dh
   refine s7 t (c_5 BF rfl ac_1 (t.ev rfl) (t.ev rfl) (i := 0) rfl (vs := [(Value.int .i64 ((b.macs.getD C mac0).scale)), (lk C)]) rfl rfl (j_3 rfl (j_3 (SlAt.one ((b_8 (BF.ok 3 _ rfl)).blk (i := C) (by omega))) x_2)) (Nat.le_of_ble_eq_true rfl)) ?_
   intro _ EP CJ Bv; clear t
   have l : Sep NoB w EP [(blk f 61 [(Value.int .i64 ((b.macs.getD C mac0).scale)), (lk C)]), (blk E 25 [(Value.int .i64 b.scales), vt, vm]), (c_9 false vt lr lb b.tabs), (d_2 false vm lk b.macs)] := CJ; clear CJ BF
   refine n2 ?_
   refine b_7 ?_
   have Ag := Bv.as [(7, (bptr f 0)), (6, (Value.int .i64 (C : Int))), (1, (bptr E 0))] rfl; clear Bv
   refine a_5 ?_
   refine s1 Ag (a_4 rfl fd_61_0 (Ag.ev rfl)) fun Dj Ah => ?_; clear Ag Di
   refine s1 Ah (a_3 rfl ty_3 (Ah.ev rfl) (l.bk 0 rfl) rfl) fun Dk Ai => ?_; clear Ah Dj
   refine s1 Ai (a_4 rfl fd_25_0 (Ai.ev rfl)) fun Dl Aj => ?_; clear Ai Dk
   refine s1 Aj (a_3 rfl ty_3 (Aj.ev rfl) (l.bk 1 rfl) rfl) fun Dm Ak => ?_; clear Aj Dl
   refine s1 Ak (g_1 rfl (Ak.ev rfl) (evc _ _) (by omega) (by omega)) fun Dn u => ?_; clear Ak Dm
   refine s2 u (a_6 rfl v_5 (ev3 (u.ev rfl) (evc _ _) (u.ev rfl)) (v_4 _ _ _ _)) ?_
   rintro Do _ W_ ⟨rfl, hW_⟩ Al; have hW2_ := hW_.symm; subst hW2_; clear hW_ u Dn
   refine s1 Al (f_4 rfl (Al.ev rfl)) fun CV S => ?_; clear Al Do
   refine n1 ?_
   rcases Bool.eq_false_or_eq_true ((inB ((b.macs.getD C mac0).scale) 0 (b.scales - 1))) with BI | BI
   ·skip
    rw [BI] at S
    refine b_5 S rfl ?_
    refine d_1 ?_
    refine b_0 ?_
    refine b_7 ?_
    have Bw := S.as [(7, (bptr f 0)), (6, (Value.int .i64 (C : Int))), (1, (bptr E 0))] rfl; clear S
    refine a_5 ?_
    refine s1 Bw (a_1 rfl (evc _ _)) fun Dp Bx => ?_; clear Bw CV
    refine n1 ?_
    refine d_0 ?_
    have By := Bx.as [(8, (Value.int .i64 0)), (7, (bptr f 0)), (6, (Value.int .i64 (C : Int))), (1, (bptr E 0))] rfl; clear Bx
    refine h_3 (G := Nat) (fun (N : Nat) a_ w_ => Fr 113 [] [(8, (Value.int .i64 (N : Int))), (7, (bptr f 0)), (6, (Value.int .i64 (C : Int))), (1, (bptr E 0))] a_ ∧ Sep NoB w w_ [(blk f 61 [(Value.int .i64 ((b.macs.getD C mac0).scale)), (lk C)]), (blk E 25 [(Value.int .i64 b.scales), vt, vm]), (c_9 false vt lr lb b.tabs), (d_2 false vm lk b.macs)] ∧ (N ≤ (b.macs.getD C mac0).blocks.length) ∧ (∀ i, i < N → blkB ((b.macs.getD C mac0).blocks.getD i (0, 0, 0)) = true)) (fun N => (b.macs.getD C mac0).blocks.length - N) 0 ⟨By.as _ rfl, l, by omega, (fun _ h => absurd h (Nat.not_lt_zero _))⟩ ?_
    clear By l Dp
    rintro N Dq FE ⟨Am, F, hkk4, C5⟩
    refine b_7 ?_
    refine m2 ?_
    refine s1 Am (a_0 rfl (Am.ev rfl)) fun Dr An => ?_; clear Am Dq
    refine s1 An (a_4 rfl v_7 (An.ev rfl)) fun Ds Ao => ?_; clear An Dr
    refine s1 Ao (a_3 rfl ty_59 (Ao.ev rfl) (F.bk 0 rfl) rfl) fun Dt Ap => ?_; clear Ao Ds
    refine s1 Ap (c_0 rfl un_59 (Ap.ev rfl) ((b_8 (F.ok 3 _ rfl)).blk (i := C) (by omega))) fun Du x => ?_; clear Ap Dt
    refine s1 x (f_9 rfl (x.ev rfl) (x.ev rfl)) fun CW M => ?_; clear x Du
    refine n1 ?_
    by_cases CP : (N : Int) < ((b.macs.getD C mac0).blocks.length : Int)
    ·skip
     rw [decide_eq_true CP] at M
     refine c_6 M rfl ?_
     refine d_1 ?_
     refine b_0 ?_
     refine b_7 ?_
     refine d_0 ?_
     refine m2 ?_
     refine s1 M (a_4 rfl v_7 (M.ev rfl)) fun Dv Aq => ?_; clear M CW
     refine s1 Aq (a_3 rfl ty_59 (Aq.ev rfl) (F.bk 0 rfl) rfl) fun Dw Ar => ?_; clear Aq Dv
     refine s1 Ar (a_0 rfl (Ar.ev rfl)) fun Dx y => ?_; clear Ar Dw
     refine s1 y (b_2 rfl un_59 ty_63 (y.ev rfl) (i := N) (y.ev rfl) ((b_8 (F.ok 3 _ rfl)).blk (i := C) (by omega)) (by decide) (by omega)) fun Dy As => ?_; clear y Dx
     refine s1 As (e_6 rfl fd_63_0 (As.ev rfl) ((b_8 (F.ok 3 _ rfl)).blk (i := C) (by omega)) (by rw [(((b_8 (F.ok 3 _ rfl)).blk (i := C) (by omega))).1]; omega)) fun Dz At => ?_; clear As Dy
     refine s1 At (f_2 rfl ty_27 (At.ev rfl) ((b_8 (F.ok 3 _ rfl)).blk (i := C) (by omega)) (trips_sub0 (by omega)) rfl (by decide)) fun D0 Au => ?_; clear At Dz
     refine s2 Au (a_6 rfl en_52 (ev1 (Au.ev rfl)) (span_ok _ _ _)) ?_
     rintro D1 _ FF ⟨rfl, CG⟩ Av; have V := F.step CG; clear CG Au F D0
     refine s1 Av (f_4 rfl (Av.ev rfl)) fun D2 Aw => ?_; clear Av D1
     refine s1 Aw (a_0 rfl (Aw.ev rfl)) fun CX W => ?_; clear Aw D2
     rcases Bool.eq_false_or_eq_true ((y_2 ((((b.macs.getD C mac0).blocks).getD N (0, 0, 0)).1, (((b.macs.getD C mac0).blocks).getD N (0, 0, 0)).2.1))) with BJ | BJ
     ·skip
      rw [BJ] at W
      refine s5 W (a_4 rfl v_7 (W.ev rfl)) fun D3 Ax => ?_; clear W CX
      refine s5 Ax (a_3 rfl ty_59 (Ax.ev rfl) (V.bk 0 rfl) rfl) fun D4 Ay => ?_; clear Ax D3
      refine s5 Ay (a_0 rfl (Ay.ev rfl)) fun D5 z => ?_; clear Ay D4
      refine s5 z (b_2 rfl un_59 ty_63 (z.ev rfl) (i := N) (z.ev rfl) ((b_8 (V.ok 3 _ rfl)).blk (i := C) (by omega)) (by decide) (by omega)) fun D6 Az => ?_; clear z D5
      refine s5 Az (e_6 rfl fd_63_1 (Az.ev rfl) ((b_8 (V.ok 3 _ rfl)).blk (i := C) (by omega)) (by rw [(((b_8 (V.ok 3 _ rfl)).blk (i := C) (by omega))).1]; omega)) fun D7 A0 => ?_; clear Az D6
      refine s5 A0 (c_7 rfl ty_3 (A0.ev rfl) ((b_8 (V.ok 3 _ rfl)).blk (i := C) (by omega)) (trips_at2 (by omega))) fun D8 A1 => ?_; clear A0 D7
      refine s6 A1 (a_6 rfl en_53 (ev1 (A1.ev rfl)) (rvalue_ok _ _)) ?_
      rintro D9 _ FG ⟨rfl, CH⟩ A2; have CK := V.step CH; clear CH A1 V D8
      refine s5 A2 (f_4 rfl (A2.ev rfl)) fun EA AA => ?_; clear A2 D9
      refine s1 AA (c_2 rfl (AA.ev rfl) (AA.ev rfl)) fun CY T => ?_; clear AA EA
      refine n1 ?_
      rcases Bool.eq_false_or_eq_true ((inB ((((b.macs.getD C mac0).blocks).getD N (0, 0, 0)).2.2) 0 100000)) with BK | BK
      ·skip
       rw [BK] at T
       refine b_5 T rfl ?_
       refine d_1 ?_
       refine g_8 ?_
       refine b_0 ?_
       have A3 := T.as [(8, (Value.int .i64 (N : Int))), (7, (bptr f 0)), (6, (Value.int .i64 (C : Int))), (1, (bptr E 0))] rfl; clear T
       refine a_5 ?_
       refine s1 A3 (a_0 rfl (A3.ev rfl)) fun EB A4 => ?_; clear A3 CY
       refine s1 A4 (f_6 rfl (A4.ev rfl) (evc _ _) (by omega) (by omega)) fun EC A5 => ?_; clear A4 EB
       refine s1 A5 (a_1 rfl (A5.ev rfl)) fun E0 Cw => ?_; clear A5 EC
       refine e_8 ?_
       exact b_0 ⟨N + 1, ⟨Cw.as _ rfl, CK, by omega, (fun i hi => by rcases Nat.lt_succ_iff_lt_or_eq.1 hi with h | h; exact C5 i h; subst h; exact blk_y (by assumption) (by assumption))⟩, by omega⟩
      skip
      rw [BK] at T
      refine c_6 T rfl ?_
      refine b_7 ?_
      have Bz := T.as [] rfl; clear T
      refine a_5 ?_
      refine s1 Bz (a_1 rfl (evc _ _)) fun E1 B0 => ?_; clear Bz CY
      refine n1 ?_
      refine c_8 ?_
      refine d_3 ?_
      refine a_7 ?_
      refine a_7 ?_
      refine d_3 ?_
      refine d_3 ?_
      refine a_7 ?_
      refine a_7 ?_
      refine d_3 ?_
      refine a_7 ?_
      refine a_9 B0 (.inl rfl) (a_2 B0 rfl (.tmp rfl)) ?_
      exact ⟨j_1 (Eq.symm (by first | exact m_5 (by omega) | exact q_4 (k := k) (by omega) (by omega) | exact q_5 (k := O) (by omega) (by omega) | exact n_1 (⟨by omega, by omega, fun i hi => A i (by omega), fun i hi => B i (by omega)⟩ : f_8 b) (by assumption) | exact q_3 (k := D) (⟨by omega, by omega, fun i hi => A i (by omega), fun i hi => B i (by omega)⟩ : f_8 b) (by omega) (by assumption) | exact j_9 (k := C) (⟨by omega, by omega, fun i hi => A i (by omega), fun i hi => B i (by omega)⟩ : f_8 b) (by omega) (aa_4 (by assumption)) | exact j_9 (k := C) (⟨by omega, by omega, fun i hi => A i (by omega), fun i hi => B i (by omega)⟩ : f_8 b) (by omega) (aa_5 (k := N) (by omega) (g_8 (by first | exact .inl (by assumption) | exact .inr (by assumption)))) | exact t_9 (⟨by omega, by omega, fun i hi => A i (by omega), fun i hi => B i (by omega)⟩ : f_8 b) (by assumption) (fun i hi => c i (by omega)) (fun i hi => d i (by omega)))), CK.ext⟩
     skip
     rw [BJ] at W
     refine s3 W fun ED B1 => ?_; clear W CX
     refine s3 B1 fun EE B2 => ?_; clear B1 ED
     refine s3 B2 fun EF B3 => ?_; clear B2 EE
     refine s3 B3 fun EG B4 => ?_; clear B3 EF
     refine s3 B4 fun EH B5 => ?_; clear B4 EG
     refine s3 B5 fun EI B6 => ?_; clear B5 EH
     refine s3 B6 fun EJ B7 => ?_; clear B6 EI
     refine s3 B7 fun EK A6 => ?_; clear B7 EJ
     refine s1 A6 (b_3 rfl (A6.ev rfl) (evc _ _)) fun EL A7 => ?_; clear A6 EK
     refine n1 ?_
     refine c_6 A7 rfl ?_
     refine b_7 ?_
     have B8 := A7.as [] rfl; clear A7
     refine a_5 ?_
     refine s1 B8 (a_1 rfl (evc _ _)) fun E2 B9 => ?_; clear B8 EL
     refine n1 ?_
     refine c_8 ?_
     refine d_3 ?_
     refine a_7 ?_
     refine a_7 ?_
     refine d_3 ?_
     refine d_3 ?_
     refine a_7 ?_
     refine a_7 ?_
     refine d_3 ?_
     refine a_7 ?_
     refine a_9 B9 (.inl rfl) (a_2 B9 rfl (.tmp rfl)) ?_
     exact ⟨j_1 (Eq.symm (by first | exact m_5 (by omega) | exact q_4 (k := k) (by omega) (by omega) | exact q_5 (k := O) (by omega) (by omega) | exact n_1 (⟨by omega, by omega, fun i hi => A i (by omega), fun i hi => B i (by omega)⟩ : f_8 b) (by assumption) | exact q_3 (k := D) (⟨by omega, by omega, fun i hi => A i (by omega), fun i hi => B i (by omega)⟩ : f_8 b) (by omega) (by assumption) | exact j_9 (k := C) (⟨by omega, by omega, fun i hi => A i (by omega), fun i hi => B i (by omega)⟩ : f_8 b) (by omega) (aa_4 (by assumption)) | exact j_9 (k := C) (⟨by omega, by omega, fun i hi => A i (by omega), fun i hi => B i (by omega)⟩ : f_8 b) (by omega) (aa_5 (k := N) (by omega) (g_8 (by first | exact .inl (by assumption) | exact .inr (by assumption)))) | exact t_9 (⟨by omega, by omega, fun i hi => A i (by omega), fun i hi => B i (by omega)⟩ : f_8 b) (by assumption) (fun i hi => c i (by omega)) (fun i hi => d i (by omega)))), V.ext⟩
    skip
    rw [decide_eq_false CP] at M
    refine b_5 M rfl ?_
    refine h_1 ?_
    refine b_4 ?_
    refine b_4 ?_
    refine f_7 ?_
    refine g_8 ?_
    refine b_0 ?_
    have A8 := M.as [(6, (Value.int .i64 (C : Int))), (1, (bptr E 0))] rfl; clear M
    refine a_5 ?_
    refine s1 A8 (a_0 rfl (A8.ev rfl)) fun EM A9 => ?_; clear A8 CW
    refine s1 A9 (f_6 rfl (A9.ev rfl) (evc _ _) (by omega) (by omega)) fun EN BA => ?_; clear A9 EM
    refine s1 BA (a_1 rfl (BA.ev rfl)) fun E3 Cx => ?_; clear BA EN
    refine e_8 ?_
    have Cy := F.gkp (gpc 1 (gpc 2 (gpc 3 gpn))); clear F
    exact b_0 ⟨C + 1, ⟨Cx.as _ rfl, Cy, by omega, (fun i hi => by rcases Nat.lt_succ_iff_lt_or_eq.1 hi with h | h; exact d i h; subst h; exact mac_y (by assumption) (fun j hj => C5 j (by omega)))⟩, by omega⟩
   skip
   rw [BI] at S
   refine c_6 S rfl ?_
   refine b_7 ?_
   have CA := S.as [] rfl; clear S
   refine a_5 ?_
   refine s1 CA (a_1 rfl (evc _ _)) fun E4 CB => ?_; clear CA CV
   refine n1 ?_
   refine c_8 ?_
   refine a_7 ?_
   refine d_3 ?_
   refine a_7 ?_
   refine a_7 ?_
   refine d_3 ?_
   refine a_7 ?_
   refine a_9 CB (.inl rfl) (a_2 CB rfl (.tmp rfl)) ?_
   exact ⟨j_1 (Eq.symm (by first | exact m_5 (by omega) | exact q_4 (k := k) (by omega) (by omega) | exact q_5 (k := O) (by omega) (by omega) | exact n_1 (⟨by omega, by omega, fun i hi => A i (by omega), fun i hi => B i (by omega)⟩ : f_8 b) (by assumption) | exact q_3 (k := D) (⟨by omega, by omega, fun i hi => A i (by omega), fun i hi => B i (by omega)⟩ : f_8 b) (by omega) (by assumption) | exact j_9 (k := C) (⟨by omega, by omega, fun i hi => A i (by omega), fun i hi => B i (by omega)⟩ : f_8 b) (by omega) (aa_4 (by assumption)) | exact j_9 (k := C) (⟨by omega, by omega, fun i hi => A i (by omega), fun i hi => B i (by omega)⟩ : f_8 b) (by omega) (aa_5 (k := N) (by omega) (g_8 (by first | exact .inl (by assumption) | exact .inr (by assumption)))) | exact t_9 (⟨by omega, by omega, fun i hi => A i (by omega), fun i hi => B i (by omega)⟩ : f_8 b) (by assumption) (fun i hi => c i (by omega)) (fun i hi => d i (by omega)))), l.ext⟩
  skip
  rw [decide_eq_false CO] at L
  refine b_5 L rfl ?_
  refine h_1 ?_
  refine b_4 ?_
  refine b_4 ?_
  refine f_7 ?_
  refine b_0 ?_
  refine b_7 ?_
  have CC := L.as [] rfl; clear L
  refine a_5 ?_
  refine s1 CC (a_1 rfl (evc _ _)) fun E5 CD => ?_; clear CC CU
  refine n1 ?_
  refine c_8 ?_
  refine a_9 CD (.inl rfl) (a_2 CD rfl (.tmp rfl)) ?_
  exact ⟨j_1 (Eq.symm (by first | exact m_5 (by omega) | exact q_4 (k := k) (by omega) (by omega) | exact q_5 (k := O) (by omega) (by omega) | exact n_1 (⟨by omega, by omega, fun i hi => A i (by omega), fun i hi => B i (by omega)⟩ : f_8 b) (by assumption) | exact q_3 (k := D) (⟨by omega, by omega, fun i hi => A i (by omega), fun i hi => B i (by omega)⟩ : f_8 b) (by omega) (by assumption) | exact j_9 (k := C) (⟨by omega, by omega, fun i hi => A i (by omega), fun i hi => B i (by omega)⟩ : f_8 b) (by omega) (aa_4 (by assumption)) | exact j_9 (k := C) (⟨by omega, by omega, fun i hi => A i (by omega), fun i hi => B i (by omega)⟩ : f_8 b) (by omega) (aa_5 (k := N) (by omega) (g_8 (by first | exact .inl (by assumption) | exact .inr (by assumption)))) | exact t_9 (⟨by omega, by omega, fun i hi => A i (by omega), fun i hi => B i (by omega)⟩ : f_8 b) (by assumption) (fun i hi => c i (by omega)) (fun i hi => d i (by omega)))), U.ext⟩
 skip
 rw [BG] at Q
 refine c_6 Q rfl ?_
 refine m2 ?_
 refine s1 Q (a_1 rfl (evc _ _)) fun E6 CE => ?_; clear Q CS
 refine n1 ?_
 refine c_8 ?_
 refine a_7 ?_
 refine a_9 CE (.inl rfl) (a_2 CE rfl (.tmp rfl)) ?_
 exact ⟨j_1 (Eq.symm (by first | exact m_5 (by omega) | exact q_4 (k := k) (by omega) (by omega) | exact q_5 (k := O) (by omega) (by omega) | exact n_1 (⟨by omega, by omega, fun i hi => A i (by omega), fun i hi => B i (by omega)⟩ : f_8 b) (by assumption) | exact q_3 (k := D) (⟨by omega, by omega, fun i hi => A i (by omega), fun i hi => B i (by omega)⟩ : f_8 b) (by omega) (by assumption) | exact j_9 (k := C) (⟨by omega, by omega, fun i hi => A i (by omega), fun i hi => B i (by omega)⟩ : f_8 b) (by omega) (aa_4 (by assumption)) | exact j_9 (k := C) (⟨by omega, by omega, fun i hi => A i (by omega), fun i hi => B i (by omega)⟩ : f_8 b) (by omega) (aa_5 (k := N) (by omega) (g_8 (by first | exact .inl (by assumption) | exact .inr (by assumption)))) | exact t_9 (⟨by omega, by omega, fun i hi => A i (by omega), fun i hi => B i (by omega)⟩ : f_8 b) (by assumption) (fun i hi => c i (by omega)) (fun i hi => d i (by omega)))), H.ext⟩
set_option maxHeartbeats 4000000 in
theorem check_book (b : h_0) (vt vm : Value) (lr lb lk : Nat → Value) (w : World) (hT : j_6 w vt lr lb b.tabs) (hM : k_4 w vm lk b.macs) (hth : o_0 b) :
  Calls Try.prog 32 #[(Value.agg #[(Value.int .i64 b.scales), vt, vm])] w (Ret fun v w' => v = .int .i64 (g_0 b) ∧ Ext NoB w w') := by
 refine a_8 Try.func32 rfl fun a0 k => ?_
 replace k : Fr 45 [] [(0, (Value.agg #[(Value.int .i64 b.scales), vt, vm]))] a0 := k
 have BI : Sep NoB w w [(c_9 false vt lr lb b.tabs), (d_2 false vm lk b.macs)] := f_0 ⟨rfl, hT, rfl, hM, trivial⟩
 refine m2 ?_
 refine s2 k (f_3 BI rfl (k.ev rfl) (cs := [(Value.int .i64 b.scales), vt, vm]) rfl) ?_
 rintro a1 _ w3 ⟨b4, rfl, D⟩ BH; clear k BI a0
 refine s1 BH (a_1 rfl (evc _ _)) fun a6 A6 => ?_; clear BH a1
 refine n2 ?_
 refine d_0 ?_
 refine m2 ?_
 refine s1 A6 (a_4 rfl x_6 (A6.ev rfl)) fun a8 A7 => ?_; clear A6 a6
 refine s1 A7 (a_3 rfl ty_34 (A7.ev rfl) (D.bk 0 rfl) rfl) fun Bs m => ?_; clear A7 a8
 refine s1 m (c_0 rfl aa_9 (m.ev rfl) (b_6 (D.ok 1 _ rfl)).tabs) fun Bt n => ?_; clear m Bs
 refine s1 n (g_9 rfl (n.ev rfl) (evc _ _)) fun Bu o => ?_; clear n Bt
 refine s1 o (a_0 rfl (o.ev rfl)) fun BC I => ?_; clear o Bu
 by_cases BA : 6 < (b.tabs.length : Int)
 ·skip
  rw [decide_eq_true BA] at I
  refine s3 I fun Bv Az => ?_; clear I BC
  refine s3 Az fun Bw A0 => ?_; clear Az Bv
  refine s3 A0 fun Bx A1 => ?_; clear A0 Bw
  refine s3 A1 fun By p => ?_; clear A1 Bx
  refine s1 p (b_3 rfl (p.ev rfl) (evc _ _)) fun Bz q => ?_; clear p By
  refine s1 q (a_1 rfl (q.ev rfl)) fun B0 r => ?_; clear q Bz
  refine n1 ?_
  refine c_6 r rfl ?_
  refine b_7 ?_
  have A2 := r.as [] rfl; clear r
  refine a_5 ?_
  refine s1 A2 (a_1 rfl (evc _ _)) fun CY A3 => ?_; clear A2 B0
  refine n1 ?_
  refine c_8 ?_
  refine d_3 ?_
  refine a_7 ?_
  refine a_9 A3 (.inl rfl) (a_2 A3 rfl (.tmp rfl)) ?_
  exact ⟨j_1 (Eq.symm (by first | exact m_5 (by omega) | exact check_3b' (by assumption) | exact check_3c' (by assumption))), D.ext⟩
 skip
 rw [decide_eq_false BA] at I
 refine s5 I (a_4 rfl v_6 (I.ev rfl)) fun B1 s => ?_; clear I BC
 refine s5 s (a_3 rfl ty_35 (s.ev rfl) (D.bk 0 rfl) rfl) fun B2 t => ?_; clear s B1
 refine s5 t (c_0 rfl ac_8 (t.ev rfl) (b_8 (D.ok 2 _ rfl)).macs) fun B3 u => ?_; clear t B2
 refine s5 u (g_9 rfl (u.ev rfl) (evc _ _)) fun B4 f => ?_; clear u B3
 refine s1 f (c_2 rfl (f.ev rfl) (f.ev rfl)) fun B5 x => ?_; clear f B4
 refine s1 x (a_1 rfl (x.ev rfl)) fun BD G => ?_; clear x B5
 refine n1 ?_
 by_cases BB : 6 < (b.macs.length : Int)
 ·skip
  rw [decide_eq_true BB] at G
  refine c_6 G rfl ?_
  refine b_7 ?_
  have A4 := G.as [] rfl; clear G
  refine a_5 ?_
  refine s1 A4 (a_1 rfl (evc _ _)) fun CZ A5 => ?_; clear A4 BD
  refine n1 ?_
  refine c_8 ?_
  refine d_3 ?_
  refine a_7 ?_
  refine a_9 A5 (.inl rfl) (a_2 A5 rfl (.tmp rfl)) ?_
  exact ⟨j_1 (Eq.symm (by first | exact m_5 (by omega) | exact check_3b' (by assumption) | exact check_3c' (by assumption))), D.ext⟩
 skip
 rw [decide_eq_false BB] at G
 refine b_5 G rfl ?_
 refine b_7 ?_
 have y := G.as [(1, (bptr b4 0))] rfl; clear G
 refine a_5 ?_
 refine s1 y (a_4 rfl x_6 (y.ev rfl)) fun B6 z => ?_; clear y BD
 refine s1 z (a_3 rfl ty_34 (z.ev rfl) (D.bk 0 rfl) rfl) fun B7 AA => ?_; clear z B6
 refine s2 AA (a_6 rfl en_61 (ev2 (AA.ev rfl) (evf _ _)) (all_tab b.tabs lr lb _ 62 #[] #[] (fun i => decide (((b.tabs.getD i tab0).rows.length : Int) ≤ 8)) _ (b_6 (D.ok 1 _ rfl)).tabs (by have := hth.tl; omega) ⟨en_62, fun i hi W hW => tshort_ok (b.tabs.getD i tab0) _ _ W ((b_6 ((D.step hW).ok 1 _ rfl)).row hi) ((b_6 ((D.step hW).ok 1 _ rfl)).brk hi) (hth.rl i) (hth.bl i)⟩ (fun i hi => ⟨((b_6 (D.ok 1 _ rfl)).row hi).one, ((b_6 (D.ok 1 _ rfl)).brk hi).one⟩))) ?_
 rintro B8 _ Ca ⟨rfl, A8⟩ AB; have K := D.step A8; clear A8 AA D B7
 refine s1 AB (f_4 rfl (AB.ev rfl)) fun B9 AC => ?_; clear AB B8
 refine s1 AC (a_1 rfl (AC.ev rfl)) fun BE F => ?_; clear AC B9
 refine n1 ?_
 rcases Bool.eq_false_or_eq_true (((List.range b.tabs.length).all (fun i => decide (((b.tabs.getD i tab0).rows.length : Int) ≤ 8)))) with AP | AP
 ·skip
  rw [AP] at F
  refine b_5 F rfl ?_
  refine m2 ?_
  refine s1 F (a_4 rfl v_6 (F.ev rfl)) fun CA AD => ?_; clear F BE
  refine s1 AD (a_3 rfl ty_35 (AD.ev rfl) (K.bk 0 rfl) rfl) fun CB AE => ?_; clear AD CA
  refine s2 AE (a_6 rfl en_63 (ev2 (AE.ev rfl) (evf _ _)) (all_mac b.macs lk _ 64 #[] #[] (fun i => decide (((b.macs.getD i mac0).blocks.length : Int) ≤ 5)) _ (b_8 (K.ok 2 _ rfl)).macs (by have := hth.ml; omega) ⟨en_64, fun i hi W hW => mshort_ok (b.macs.getD i mac0) _ W ((b_8 ((K.step hW).ok 2 _ rfl)).blk hi)⟩ (fun i hi => ((b_8 (K.ok 2 _ rfl)).blk hi).one))) ?_
  rintro CC _ Cb ⟨rfl, A9⟩ AF; have A := K.step A9; clear A9 AE K CB
  refine s1 AF (f_4 rfl (AF.ev rfl)) fun CD AG => ?_; clear AF CC
  refine s1 AG (a_1 rfl (AG.ev rfl)) fun BF H => ?_; clear AG CD
  refine n1 ?_
  rcases Bool.eq_false_or_eq_true (((List.range b.macs.length).all (fun i => decide (((b.macs.getD i mac0).blocks.length : Int) ≤ 5)))) with AQ | AQ
  ·skip
   rw [AQ] at H
   refine b_5 H rfl ?_
   refine b_7 ?_
   have AH := H.as [(1, (bptr b4 0))] rfl; clear H
   refine a_5 ?_
   refine s1 AH (a_4 rfl fd_37_0 (AH.ev rfl)) fun CE AI => ?_; clear AH BF
   refine s1 AI (a_3 rfl ty_3 (AI.ev rfl) (A.bk 0 rfl) rfl) fun CF AJ => ?_; clear AI CE
   refine s2 AJ (a_6 rfl en_47 (ev3 (AJ.ev rfl) (evc _ _) (evc _ _)) (n_9 _ _ _ _)) ?_
   rintro CG _ W_ ⟨rfl, hW_⟩ AK; have hW2_ := hW_.symm; subst hW2_; clear hW_ AJ CF
   refine s1 AK (f_4 rfl (AK.ev rfl)) fun CH AL => ?_; clear AK CG
   refine s1 AL (a_0 rfl (AL.ev rfl)) fun BG J => ?_; clear AL CH
   rcases Bool.eq_false_or_eq_true ((inB b.scales 1 4)) with AR | AR
   ·skip
    rw [AR] at J
    refine s5 J (a_4 rfl x_6 (J.ev rfl)) fun CI AM => ?_; clear J BG
    refine s5 AM (a_3 rfl ty_34 (AM.ev rfl) (A.bk 0 rfl) rfl) fun CJ AN => ?_; clear AM CI
    refine s5 AN (c_4 rfl y_4 (AN.ev rfl) (A.bk 0 rfl) (l := [(Value.int .i64 b.scales), vt, vm]) rfl rfl) fun CK AO => ?_; clear AN CJ
    refine s5 AO (i_0 rfl (ev1 (AO.ev rfl)) ev0) fun CL g => ?_; clear AO CK
    refine s6 g (a_6 rfl en_61 (ev2 (g.ev rfl) (g.ev rfl)) (all_tab b.tabs lr lb _ 65 #[(Value.agg #[(Value.int .i64 b.scales), vt, vm])] #[] (fun i => tabB b.scales (b.tabs.getD i tab0)) _ (b_6 (A.ok 1 _ rfl)).tabs (by have := hth.tl; omega) ⟨en_65, fun i hi W hW => table_ok b.scales vt vm (b_6 (A.ok 1 _ rfl)).tabs.one (b_8 (A.ok 2 _ rfl)).macs.one (h_4.1 (by assumption)) (b.tabs.getD i tab0) _ _ W ((b_6 ((A.step hW).ok 1 _ rfl)).row hi) ((b_6 ((A.step hW).ok 1 _ rfl)).brk hi) (hth.rl i) (hth.bl i)⟩ (fun i hi => ⟨((b_6 (A.ok 1 _ rfl)).row hi).one, ((b_6 (A.ok 1 _ rfl)).brk hi).one⟩))) ?_
    rintro BJ _ CW ⟨rfl, Au⟩ O; have B := A.step Au; clear Au g A CL
    refine s5 O (f_4 rfl (O.ev rfl)) fun BK L => ?_; clear O BJ
    refine s1 L (c_2 rfl (L.ev rfl) (L.ev rfl)) fun BL P => ?_; clear L BK
    refine s1 P (a_0 rfl (P.ev rfl)) fun Ax E => ?_; clear P BL
    rcases Bool.eq_false_or_eq_true (((List.range b.tabs.length).all (fun i => tabB b.scales (b.tabs.getD i tab0)))) with h | h
    ·skip
     rw [h] at E
     refine s5 E (a_4 rfl v_6 (E.ev rfl)) fun BM Q => ?_; clear E Ax
     refine s5 Q (a_3 rfl ty_35 (Q.ev rfl) (B.bk 0 rfl) rfl) fun BN R => ?_; clear Q BM
     refine s5 R (c_4 rfl y_4 (R.ev rfl) (B.bk 0 rfl) (l := [(Value.int .i64 b.scales), vt, vm]) rfl rfl) fun BO S => ?_; clear R BN
     refine s5 S (i_0 rfl (ev1 (S.ev rfl)) ev0) fun BP M => ?_; clear S BO
     refine s6 M (a_6 rfl en_63 (ev2 (M.ev rfl) (M.ev rfl)) (all_mac b.macs lk _ 66 #[(Value.agg #[(Value.int .i64 b.scales), vt, vm])] #[] (fun i => macB b.scales (b.macs.getD i mac0)) _ (b_8 (B.ok 2 _ rfl)).macs (by have := hth.ml; omega) ⟨en_66, fun i hi W hW => machine_ok b.scales vt vm W (b_6 (B.ok 1 _ rfl)).tabs.one (b_8 (B.ok 2 _ rfl)).macs.one (h_4.1 (by assumption)) (b.macs.getD i mac0) _ ((b_8 ((B.step hW).ok 2 _ rfl)).blk hi) (hth.kl i)⟩ (fun i hi => ((b_8 (B.ok 2 _ rfl)).blk hi).one))) ?_
     rintro BQ _ CX ⟨rfl, Av⟩ T; have Aw := B.step Av; clear Av M B BP
     refine s5 T (f_4 rfl (T.ev rfl)) fun BR N => ?_; clear T BQ
     refine s1 N (c_2 rfl (N.ev rfl) (N.ev rfl)) fun BS U => ?_; clear N BR
     refine s1 U (a_1 rfl (U.ev rfl)) fun Ay C => ?_; clear U BS
     refine n1 ?_
     rcases Bool.eq_false_or_eq_true (((List.range b.macs.length).all (fun i => macB b.scales (b.macs.getD i mac0)))) with j | j
     ·skip
      rw [j] at C
      refine b_5 C rfl ?_
      refine d_1 ?_
      refine g_8 ?_
      refine b_0 ?_
      refine b_7 ?_
      have AS := C.as [] rfl; clear C
      refine a_5 ?_
      refine s1 AS (a_1 rfl (evc _ _)) fun CO AT => ?_; clear AS Ay
      refine n1 ?_
      refine c_8 ?_
      refine a_9 AT (.inl rfl) (a_2 AT rfl (.tmp rfl)) ?_
      exact ⟨j_1 (Eq.symm (check_0' (q_7 (by omega) (by omega) (by assumption) (by assumption)) (by assumption) (by assumption) (by assumption))), Aw.ext⟩
     skip
     rw [j] at C
     refine c_6 C rfl ?_
     refine b_7 ?_
     have AU := C.as [] rfl; clear C
     refine a_5 ?_
     refine s1 AU (a_1 rfl (evc _ _)) fun CP AV => ?_; clear AU Ay
     refine n1 ?_
     refine c_8 ?_
     refine d_3 ?_
     refine a_7 ?_
     refine a_9 AV (.inl rfl) (a_2 AV rfl (.tmp rfl)) ?_
     exact ⟨j_1 (Eq.symm (by first | exact n_1 (q_7 (by omega) (by omega) (by assumption) (by assumption)) (by assumption) | exact check_1b' (q_7 (by omega) (by omega) (by assumption) (by assumption)) (by assumption) | exact check_1c' (q_7 (by omega) (by omega) (by assumption) (by assumption)) (by assumption))), Aw.ext⟩
    skip
    rw [h] at E
    refine s3 E fun BT AW => ?_; clear E Ax
    refine s3 AW fun BU AX => ?_; clear AW BT
    refine s3 AX fun BV AY => ?_; clear AX BU
    refine s3 AY fun BW AZ => ?_; clear AY BV
    refine s3 AZ fun BX Aa => ?_; clear AZ BW
    refine s3 Aa fun BY V => ?_; clear Aa BX
    refine s1 V (b_3 rfl (V.ev rfl) (evc _ _)) fun BZ X => ?_; clear V BY
    refine s1 X (a_1 rfl (X.ev rfl)) fun Ba Y => ?_; clear X BZ
    refine n1 ?_
    refine c_6 Y rfl ?_
    refine b_7 ?_
    have Ab := Y.as [] rfl; clear Y
    refine a_5 ?_
    refine s1 Ab (a_1 rfl (evc _ _)) fun CQ Ac => ?_; clear Ab Ba
    refine n1 ?_
    refine c_8 ?_
    refine d_3 ?_
    refine a_7 ?_
    refine a_9 Ac (.inl rfl) (a_2 Ac rfl (.tmp rfl)) ?_
    exact ⟨j_1 (Eq.symm (by first | exact n_1 (q_7 (by omega) (by omega) (by assumption) (by assumption)) (by assumption) | exact check_1b' (q_7 (by omega) (by omega) (by assumption) (by assumption)) (by assumption) | exact check_1c' (q_7 (by omega) (by omega) (by assumption) (by assumption)) (by assumption))), B.ext⟩
   skip
   rw [AR] at J
   refine s3 J fun Bb Ad => ?_; clear J BG
   refine s3 Ad fun Bc Ae => ?_; clear Ad Bb
   refine s3 Ae fun Bd Af => ?_; clear Ae Bc
   refine s3 Af fun Be Ag => ?_; clear Af Bd
   refine s3 Ag fun Bf Ah => ?_; clear Ag Be
   refine s3 Ah fun Bg Z => ?_; clear Ah Bf
   refine s1 Z (b_3 rfl (Z.ev rfl) (evc _ _)) fun Bh a => ?_; clear Z Bg
   refine s1 a (a_0 rfl (a.ev rfl)) fun Bi Ai => ?_; clear a Bh
   refine s3 Ai fun Bj Aj => ?_; clear Ai Bi
   refine s3 Aj fun Bk Ak => ?_; clear Aj Bj
   refine s3 Ak fun Bl Al => ?_; clear Ak Bk
   refine s3 Al fun Bm Am => ?_; clear Al Bl
   refine s3 Am fun Bn An => ?_; clear Am Bm
   refine s3 An fun Bo c => ?_; clear An Bn
   refine s1 c (b_3 rfl (c.ev rfl) (evc _ _)) fun Bp d => ?_; clear c Bo
   refine s1 d (a_1 rfl (d.ev rfl)) fun Bq e => ?_; clear d Bp
   refine n1 ?_
   refine c_6 e rfl ?_
   refine b_7 ?_
   have Ao := e.as [] rfl; clear e
   refine a_5 ?_
   refine s1 Ao (a_1 rfl (evc _ _)) fun CR Ap => ?_; clear Ao Bq
   refine n1 ?_
   refine c_8 ?_
   refine d_3 ?_
   refine a_7 ?_
   refine a_9 Ap (.inl rfl) (a_2 Ap rfl (.tmp rfl)) ?_
   exact ⟨j_1 (Eq.symm (by first | exact n_1 (q_7 (by omega) (by omega) (by assumption) (by assumption)) (by assumption) | exact check_1b' (q_7 (by omega) (by omega) (by assumption) (by assumption)) (by assumption) | exact check_1c' (q_7 (by omega) (by omega) (by assumption) (by assumption)) (by assumption))), A.ext⟩
  skip
  rw [AQ] at H
  refine c_6 H rfl ?_
  refine b_7 ?_
  have Aq := H.as [] rfl; clear H
  refine a_5 ?_
  refine s1 Aq (a_1 rfl (evc _ _)) fun CS Ar => ?_; clear Aq BF
  refine n1 ?_
  refine c_8 ?_
  refine d_3 ?_
  refine a_7 ?_
  refine a_9 Ar (.inl rfl) (a_2 Ar rfl (.tmp rfl)) ?_
  exact ⟨j_1 (Eq.symm (by first | exact m_5 (by omega) | exact check_3b' (by assumption) | exact check_3c' (by assumption))), A.ext⟩
 skip
 rw [AP] at F
 refine c_6 F rfl ?_
 refine b_7 ?_
 have As := F.as [] rfl; clear F
 refine a_5 ?_
 refine s1 As (a_1 rfl (evc _ _)) fun CT At => ?_; clear As BE
 refine n1 ?_
 refine c_8 ?_
 refine d_3 ?_
 refine a_7 ?_
 refine a_9 At (.inl rfl) (a_2 At rfl (.tmp rfl)) ?_
 exact ⟨j_1 (Eq.symm (by first | exact m_5 (by omega) | exact check_3b' (by assumption) | exact check_3c' (by assumption))), K.ext⟩
end Go.Proofs.Ytohgladndklciaa

namespace Go.Hard
section
variable {b : h_0} {l : List (Int × Int)} {k : Nat} {i : Int}
theorem l_3.mac (h : l_3 b) (hi : k < b.macs.length) : MacV b.scales (b.macs.getD k mac0) := h.macs _ (by simp only [List.getD, List.getElem?_eq_getElem hi, Option.getD_some]; exact List.getElem_mem hi)
theorem l_3.tab (h : l_3 b) (hi : k < b.tabs.length) : TabV b.scales (b.tabs.getD k tab0) := h.tabs _ (by simp only [List.getD, List.getElem?_eq_getElem hi, Option.getD_some]; exact List.getElem_mem hi)
theorem read_c (h : g_0 b ≠ 0) : n_5 b l = g_0 b := by unfold n_5; rw [if_pos h]
theorem read_3 (h : g_0 b = 0) (h2 : 8 < l.length) : n_5 b l = 3 := by unfold n_5; rw [if_neg (not_not_intro h), if_pos h2]
theorem readB_n (h : inB (l.getD k (0, 0)).1 0 ((b.macs.length : Int) - 1) = false ∨ inB (l.getD k (0, 0)).2 0 100000 = false) : u_9 b (l.getD k (0, 0)) = false := by
  unfold u_9; rcases h with h | h <;> rw [h] <;> simp
theorem readB_y (h1 : inB (l.getD k (0, 0)).1 0 ((b.macs.length : Int) - 1) = true) (h2 : inB (l.getD k (0, 0)).2 0 100000 = true) : u_9 b (l.getD k (0, 0)) = true := by unfold u_9; rw [h1, h2]; rfl
theorem read_2 (h : g_0 b = 0) (h2 : ¬ 8 < l.length) (hk : k < l.length) (h3 : u_9 b (l.getD k (0, 0)) = false) : n_5 b l = 2 := by
  unfold n_5; rw [if_neg (not_not_intro h), if_neg h2, if_pos (allI_no hk h3)]
theorem read_2' (h : g_0 b = 0) (h2 : ¬ 8 < l.length) (h3 : (List.range l.length).all (fun i => u_9 b (l.getD i (0, 0))) = false) : n_5 b l = 2 := by
  unfold n_5; rw [if_neg (not_not_intro h), if_neg h2, if_pos (show allI l.length (fun i => u_9 b (l.getD i (0, 0))) = false from h3)]
theorem read_11 (h : g_0 b = 0) (h2 : ¬ 8 < l.length) (h3 : ∀ i, i < l.length → u_9 b (l.getD i (0, 0)) = true) (hk : k < l.length) (h4 : offB (b.macs.getD (l.getD k (0, 0)).1.toNat mac0) = true) : n_5 b l = 11 := by
  unfold n_5; rw [if_neg (not_not_intro h), if_neg h2, if_neg (by rw [i_4.2 h3]; decide), if_pos (allI_no hk (by rw [h4]; rfl))]
theorem read_11' (h : g_0 b = 0) (h2 : ¬ 8 < l.length) (h3 : (List.range l.length).all (fun i => u_9 b (l.getD i (0, 0))) = true) (h4 : (List.range l.length).all (fun i => !offB (b.macs.getD (l.getD i (0, 0)).1.toNat mac0)) = false) : n_5 b l = 11 := by
  unfold n_5; rw [if_neg (not_not_intro h), if_neg h2, if_neg (by rw [show allI l.length (fun i => u_9 b (l.getD i (0, 0))) = true from h3]; decide), if_pos (show allI l.length (fun i => !offB (b.macs.getD (l.getD i (0, 0)).1.toNat mac0)) = false from h4)]
theorem read_0 (h : g_0 b = 0) (h2 : ¬ 8 < l.length) (h3 : ∀ i, i < l.length → u_9 b (l.getD i (0, 0)) = true) (h4 : ∀ i, i < l.length → offB (b.macs.getD (l.getD i (0, 0)).1.toNat mac0) = false) : n_5 b l = 0 := by
  unfold n_5; rw [if_neg (not_not_intro h), if_neg h2, if_neg (by rw [i_4.2 h3]; decide), if_neg]
  rw [i_4.2 fun i hi => by rw [h4 i hi]; rfl]; decide
theorem o_6 (h : n_5 b l = 0) : g_0 b = 0 := by
  unfold n_5 at h
  split at h
  · rename_i h1; exact absurd h h1
  · rename_i h1; exact Decidable.not_not.1 h1
theorem readB_is (h : u_9 b (l.getD k (0, 0)) = true) : (0 ≤ (l.getD k (0, 0)).1 ∧ (l.getD k (0, 0)).1 ≤ (b.macs.length : Int) - 1) ∧ 0 ≤ (l.getD k (0, 0)).2 ∧ (l.getD k (0, 0)).2 ≤ 100000 := by
  unfold u_9 at h; rwa [Bool.and_eq_true, h_4, h_4] at h
end
def y_9 (b : h_0) (i : Int) : Int := if g_0 b ≠ 0 then g_0 b else if inB i 0 ((b.macs.length : Int) - 1) = false then 2 else if offB (b.macs.getD i.toNat mac0) = true then 11 else 0
def z_0 (b : h_0) (i : Int) : Rng := if y_9 b i = 0 then e_5 (b.macs.getD i.toNat mac0) else (0, 0)
theorem biasE_c {b : h_0} {i : Int} (h : g_0 b ≠ 0) : y_9 b i = g_0 b := by unfold y_9; rw [if_pos h]
theorem biasE_2 {b : h_0} {i : Int} (h : g_0 b = 0) (h2 : inB i 0 ((b.macs.length : Int) - 1) = false) : y_9 b i = 2 := by unfold y_9; rw [if_neg (not_not_intro h), if_pos h2]
theorem biasE_11 {b : h_0} {i : Int} (h : g_0 b = 0) (h2 : inB i 0 ((b.macs.length : Int) - 1) = true) (h3 : offB (b.macs.getD i.toNat mac0) = true) : y_9 b i = 11 := by unfold y_9; rw [if_neg (not_not_intro h), if_neg (by rw [h2]; decide), if_pos h3]
theorem biasE_0 {b : h_0} {i : Int} (h : g_0 b = 0) (h2 : inB i 0 ((b.macs.length : Int) - 1) = true) (h3 : offB (b.macs.getD i.toNat mac0) = false) : y_9 b i = 0 := by unfold y_9; rw [if_neg (not_not_intro h), if_neg (by rw [h2]; decide), if_neg (by rw [h3]; decide)]
theorem biasR_n {b : h_0} {i : Int} (h : y_9 b i ≠ 0) : z_0 b i = (0, 0) := if_neg h
theorem biasR_y {b : h_0} {i : Int} (h : y_9 b i = 0) : z_0 b i = e_5 (b.macs.getD i.toNat mac0) := if_pos h
theorem off_t {m : MacD} (h : (e_5 m).2 < (e_5 m).1) : offB m = true := decide_eq_true h
theorem off_f {m : MacD} (h : ¬ (e_5 m).2 < (e_5 m).1) : offB m = false := decide_eq_false h
def z_4 (b : h_0) (i : Int) (r : Rng) : Int := if g_0 b ≠ 0 then g_0 b else if inB i 0 ((b.tabs.length : Int) - 1) = false ∨ y_2 r = false then 2 else if r_7 (b.tabs.getD i.toNat tab0) r = false then 10 else 0
def z_9 (b : h_0) (i : Int) (r : Rng) : Rng := if z_4 b i r = 0 then l_8 (b.tabs.getD i.toNat tab0) r else (0, 0)
section
variable {b : h_0} {i : Int} {r : Rng}
theorem convE_c (h : g_0 b ≠ 0) : z_4 b i r = g_0 b := by unfold z_4; rw [if_pos h]
theorem convE_2 (h : g_0 b = 0) (h2 : inB i 0 ((b.tabs.length : Int) - 1) = false ∨ y_2 r = false) : z_4 b i r = 2 := by unfold z_4; rw [if_neg (not_not_intro h), if_pos h2]
theorem convE_10 (h : g_0 b = 0) (h2 : inB i 0 ((b.tabs.length : Int) - 1) = true) (h3 : y_2 r = true) (h4 : r_7 (b.tabs.getD i.toNat tab0) r = false) : z_4 b i r = 10 := by unfold z_4; rw [if_neg (not_not_intro h), if_neg (by rw [h2, h3]; decide), if_pos h4]
theorem convE_0 (h : g_0 b = 0) (h2 : inB i 0 ((b.tabs.length : Int) - 1) = true) (h3 : y_2 r = true) (h4 : r_7 (b.tabs.getD i.toNat tab0) r = true) : z_4 b i r = 0 := by unfold z_4; rw [if_neg (not_not_intro h), if_neg (by rw [h2, h3]; decide), if_neg (by rw [h4]; decide)]
theorem convR_n (h : z_4 b i r ≠ 0) : z_9 b i r = (0, 0) := if_neg h
theorem convR_y (h : z_4 b i r = 0) : z_9 b i r = l_8 (b.tabs.getD i.toNat tab0) r := if_pos h
end
end Go.Hard

namespace Go.Proofs.Ytohgladndklciaa
open Go.RowKit Go.Shelf Go.Eng Go.Hard
theorem r_4 : tyK Try.prog 25 = some (true, 3) := by kernel_rfl
theorem en_21 : ∀ args w, (callFunc 21 args).run Try.prog w = .ok (.enter 21 args) w := enters_of Try.func21 (by kernel_rfl) rfl
theorem ty_67 : tyK Try.prog 67 = some (true, 2) := by kernel_rfl
theorem fd_67_0 : fldK Try.prog 67 0 = some 0 := by kernel_rfl
theorem fd_67_1 : fldK Try.prog 67 1 = some 1 := by kernel_rfl
theorem en_35 : ∀ args w, (callFunc 35 args).run Try.prog w = .ok (.enter 35 args) w := enters_of Try.func35 (by kernel_rfl) rfl
theorem en_59 : ∀ args w, (callFunc 59 args).run Try.prog w = .ok (.enter 59 args) w := enters_of Try.func59 (by kernel_rfl) rfl
theorem en_32 : ∀ args w, (callFunc 32 args).run Try.prog w = .ok (.enter 32 args) w := enters_of Try.func32 (by kernel_rfl) rfl
theorem en_67 : ∀ args w, (callFunc 67 args).run Try.prog w = .ok (.enter 67 args) w := enters_of Try.func67 (by kernel_rfl) rfl
theorem en_68 : ∀ args w, (callFunc 68 args).run Try.prog w = .ok (.enter 68 args) w := enters_of Try.func68 (by kernel_rfl) rfl
theorem bd_30_  (w : World) : (Instr.build 30 #[]).run Try.prog w = .ok (.agg #[(Value.int .i64 0), (Value.int .i64 0)]) w := by kernel_rfl
theorem en_49 : ∀ args w, (callFunc 49 args).run Try.prog w = .ok (.enter 49 args) w := enters_of Try.func49 (by kernel_rfl) rfl
theorem en_50 : ∀ args w, (callFunc 50 args).run Try.prog w = .ok (.enter 50 args) w := enters_of Try.func50 (by kernel_rfl) rfl
theorem ze_103 : (Try.prog.info? 103).bind (·.zero) = some (Value.agg #[(Value.int .i64 0), (Value.slice none 0 0)]) := by kernel_rfl
theorem bs_3_1_0i (x0_0 : Int) : Instr.fill (fun i => some (i * 1, 1)) ((Array.range (1 * 1)).map ((Value.int .i64 0).cells[· % (Value.int .i64 0).cells.size]!)) [(0, (.int .i64 x0_0))] = some (([(.int .i64 x0_0)] : List Value).toArray) := by kernel_rfl
theorem el_3 : elK Try.prog 3 = some ((Value.int .i64 0), 1, 8) := by kernel_rfl
set_option maxHeartbeats 4000000 in
theorem rreads_ok (b : h_0) (vt vm : Value) (lr lb lk : Nat → Value) (w : World) (hT : j_6 w vt lr lb b.tabs) (hM : k_4 w vm lk b.macs) (hth : o_0 b) (l : List (Int × Int)) (xl : Value) (hxl : SlAt w xl 2 l.length (pairs l)) (hlb : l.length ≤ 1000000) :
  Calls Try.prog 59 #[(Value.agg #[(Value.int .i64 b.scales), vt, vm]), xl] w (Ret fun v w' => v = .int .i64 (n_5 b l) ∧ Ext NoB w w') := by
 refine a_8 Try.func59 rfl fun a0 p => ?_
 replace p : Fr 58 [] [(0, (Value.agg #[(Value.int .i64 b.scales), vt, vm])), (1, xl)] a0 := p
 have hml9 := hth.ml
 have A7 : Sep NoB w w [(c_9 false vt lr lb b.tabs), (d_2 false vm lk b.macs), (sl xl 2 l.length (pairs l))] := f_0 ⟨rfl, hT, rfl, hM, rfl, hxl, trivial⟩
 refine m2 ?_
 refine s2 p (f_3 A7 rfl (p.ev rfl) (cs := [(Value.int .i64 b.scales), vt, vm]) rfl) ?_
 rintro a1 _ w3 ⟨I, rfl, q⟩ A6; clear p A7 a0
 refine s1 A6 (a_1 rfl (evc _ _)) fun a6 Am => ?_; clear A6 a1
 refine n2 ?_
 refine m2 ?_
 refine s1 Am (c_4 rfl r_4 (Am.ev rfl) (q.bk 0 rfl) (l := [(Value.int .i64 b.scales), vt, vm]) rfl rfl) fun a8 Aq => ?_; clear Am a6
 refine s2 Aq (a_6 rfl en_21 (ev1 (Aq.ev rfl)) (rfault_ok b vt vm lr lb lk _ (b_6 (q.ok 1 _ rfl)) (b_8 (q.ok 2 _ rfl)) hth)) ?_
 rintro BU _ B4 ⟨rfl, Aw⟩ r; have P := q.step Aw; clear Aw Aq q a8
 refine s1 r (a_1 rfl (r.ev rfl)) fun BV s => ?_; clear r BU
 refine n4 ?_
 refine s1 s (a_0 rfl (s.ev rfl)) fun BW t => ?_; clear s BV
 refine s1 t (y_6 rfl (t.ev rfl) (evc _ _)) fun A3 D => ?_; clear t BW
 refine n1 ?_
 by_cases Az : (g_0 b) = 0
 ·skip
  rw [decide_eq_true Az] at D
  refine b_5 D rfl ?_
  refine d_1 ?_
  refine b_0 ?_
  refine b_7 ?_
  refine b_7 ?_
  have u := D.as [(2, (bptr I 0)), (1, xl)] rfl; clear D
  refine a_5 ?_
  refine s1 u (a_0 rfl (u.ev rfl)) fun BX x => ?_; clear u A3
  refine s1 x (c_0 rfl m_9 (x.ev rfl) (P.sk 3 rfl)) fun BY y => ?_; clear x BX
  refine s1 y (g_9 rfl (y.ev rfl) (evc _ _)) fun A4 E => ?_; clear y BY
  refine n1 ?_
  by_cases A0 : 8 < (l.length : Int)
  ·skip
   rw [decide_eq_true A0] at E
   refine c_6 E rfl ?_
   refine m2 ?_
   refine s1 E (a_1 rfl (evc _ _)) fun B1 Af => ?_; clear E A4
   refine n1 ?_
   refine c_8 ?_
   refine a_7 ?_
   refine a_9 Af (.inl rfl) (a_2 Af rfl (.tmp rfl)) ?_
   exact ⟨j_1 (Eq.symm (read_3 (by assumption) (by omega))), P.ext⟩
  skip
  rw [decide_eq_false A0] at E
  refine b_5 E rfl ?_
  refine d_1 ?_
  refine b_0 ?_
  refine b_7 ?_
  refine m2 ?_
  refine s1 E (a_1 rfl (evc _ _)) fun BZ Ag => ?_; clear E A4
  refine n1 ?_
  refine d_0 ?_
  have Ah := Ag.as [(6, (Value.int .i64 0)), (2, (bptr I 0)), (1, xl)] rfl; clear Ag
  refine h_3 (G := Nat) (fun (k : Nat) a_ w_ => Fr 58 [] [(6, (Value.int .i64 (k : Int))), (2, (bptr I 0)), (1, xl)] a_ ∧ Sep NoB w w_ [(blk I 25 [(Value.int .i64 b.scales), vt, vm]), (c_9 false vt lr lb b.tabs), (d_2 false vm lk b.macs), (sl xl 2 l.length (pairs l))] ∧ (k ≤ l.length) ∧ (∀ i, i < k → u_9 b (l.getD i (0, 0)) = true)) (fun k => l.length - k) 0 ⟨Ah.as _ rfl, P, by omega, (fun _ h => absurd h (Nat.not_lt_zero _))⟩ ?_
  clear Ah P BZ
  rintro k Ba B5 ⟨z, J, hkk, Ad⟩
  refine b_7 ?_
  refine m2 ?_
  refine s1 z (a_0 rfl (z.ev rfl)) fun Bb AA => ?_; clear z Ba
  refine s1 AA (a_0 rfl (AA.ev rfl)) fun Bc AB => ?_; clear AA Bb
  refine s1 AB (c_0 rfl m_9 (AB.ev rfl) (J.sk 3 rfl)) fun Bd d => ?_; clear AB Bc
  refine s1 d (f_9 rfl (d.ev rfl) (d.ev rfl)) fun Be F => ?_; clear d Bd
  refine n1 ?_
  by_cases A1 : (k : Int) < (l.length : Int)
  ·skip
   rw [decide_eq_true A1] at F
   refine c_6 F rfl ?_
   refine d_1 ?_
   refine b_0 ?_
   refine b_7 ?_
   refine d_0 ?_
   refine b_7 ?_
   have e := F.as [(6, (Value.int .i64 (k : Int))), (2, (bptr I 0)), (1, xl)] rfl; clear F
   rcases Bool.eq_false_or_eq_true ((inB ((l.getD k (0, 0)).1) 0 ((b.macs.length : Int) - 1))) with AJ | AJ
   ·skip
    have Ai := e.as [(6, (Value.int .i64 (k : Int))), (2, (bptr I 0)), (1, xl)] rfl; clear e
    refine g_6 mixed Ai J 14 [[], [], [0, 1], [2], [3], [], [5], [6], [7], [4, 8], [9], [10], [11], [11]] [(Yd.val xl), (Yd.val (Value.int .i64 (k : Int))), (Yd.val (eptr xl (k * 2))), (Yd.val (eptr xl (k * 2 + 0))), (Yd.val (Value.int .i64 ((l.getD k (0, 0)).1))), (Yd.val (bptr I 2)), (Yd.val vm), (Yd.val (Value.int .i64 (b.macs.length : Int))), (Yd.val (Value.int .i64 ((b.macs.length : Int) - 1))), (Yd.val (Value.bool true)), (Yd.val (Value.bool (!true))), (Yd.val (Value.bool (!true))), (Yd.val xl), (Yd.val (Value.int .i64 (k : Int)))] (by decide +kernel) rfl rfl ?_ ?_
    ·skip
     refine dq (fun a w hA hS hd => a_0 rfl (hA.ev rfl)) ?_
     refine dq (fun a w hA hS hd => a_0 rfl (hA.ev rfl)) ?_
     refine dq (fun a w hA hS hd => b_2 rfl m_9 ty_67 (hq hd 0) (i := k) (hq hd 1) (hS.sk 3 rfl) (by decide) (by omega)) ?_
     refine dq (fun a w hA hS hd => e_6 rfl fd_67_0 (hq hd 2) (hS.sk 3 rfl) (by rw [((hS.sk 3 rfl)).1]; omega)) ?_
     refine dq (fun a w hA hS hd => c_7 rfl ty_3 (hq hd 3) (hS.sk 3 rfl) (i_9 (by omega))) ?_
     refine dq (fun a w hA hS hd => a_4 rfl p_5 (hA.ev rfl)) ?_
     refine dq (fun a w hA hS hd => a_3 rfl ab_6 (hq hd 5) (hS.bk 0 rfl) rfl) ?_
     refine dq (fun a w hA hS hd => c_0 rfl ab_8 (hq hd 6) (b_8 (hS.ok 2 _ rfl)).macs) ?_
     refine dq (fun a w hA hS hd => g_1 rfl (hq hd 7) (evc _ _) (by omega) (by omega)) ?_
     refine ⟨fun a w hA hS hd => by have e4 := hx hd 4; have e8 := hx hd 8; exact d_9 rfl (dv (a_6 rfl v_5 (ev3 (b_9 e4) (evc _ _) (b_9 e8)) (v_4 _ _ _ _)) hS (by show Value.bool _ = _; simp only [AJ, decide_true, decide_false, Bool.not_true, Bool.not_false])), ?_⟩
     refine dq (fun a w hA hS hd => f_4 rfl (hq hd 9)) ?_
     refine dq (fun a w hA hS hd => a_0 rfl (hq hd 10)) ?_
     refine dy 11 (fun a w hA hS hd => a_0 rfl (hA.ev rfl)) ?_
     refine dy 11 (fun a w hA hS hd => a_0 rfl (hA.ev rfl)) ?_
     trivial
    intro Bf B6 Aj L m; clear Ai J
    have Ak := Aj.add (hz m 11); clear Aj
    have Al := Ak.add (hz m 12); clear Ak
    have f := Al.add (hz m 13); clear Al
    clear m
    refine s5 f (b_2 rfl m_9 ty_67 (f.ev rfl) (i := k) (f.ev rfl) (L.sk 3 rfl) (by decide) (by omega)) fun Bg AC => ?_; clear f Bf
    refine s5 AC (e_6 rfl fd_67_1 (AC.ev rfl) (L.sk 3 rfl) (by rw [((L.sk 3 rfl)).1]; omega)) fun Bh AD => ?_; clear AC Bg
    refine s5 AD (c_7 rfl ty_3 (AD.ev rfl) (L.sk 3 rfl) (k_6 (by omega))) fun Bi AE => ?_; clear AD Bh
    refine s6 AE (a_6 rfl en_53 (ev1 (AE.ev rfl)) (rvalue_ok _ _)) ?_
    rintro Bj _ B7 ⟨rfl, Ax⟩ AF; have Ay := L.step Ax; clear Ax AE L Bi
    refine s5 AF (f_4 rfl (AF.ev rfl)) fun Bk g => ?_; clear AF Bj
    refine s1 g (c_2 rfl (g.ev rfl) (g.ev rfl)) fun A5 H => ?_; clear g Bk
    refine n1 ?_
    rcases Bool.eq_false_or_eq_true ((inB ((l.getD k (0, 0)).2) 0 100000)) with AK | AK
    ·skip
     rw [AK] at H
     refine b_5 H rfl ?_
     refine d_1 ?_
     refine g_8 ?_
     refine b_0 ?_
     have AG := H.as [(6, (Value.int .i64 (k : Int))), (2, (bptr I 0)), (1, xl)] rfl; clear H
     refine a_5 ?_
     refine s1 AG (a_0 rfl (AG.ev rfl)) fun Bl AH => ?_; clear AG A5
     refine s1 AH (f_6 rfl (AH.ev rfl) (evc _ _) (by omega) (by omega)) fun Bm AI => ?_; clear AH Bl
     refine s1 AI (a_1 rfl (AI.ev rfl)) fun B2 BR => ?_; clear AI Bm
     refine e_8 ?_
     exact b_0 ⟨k + 1, ⟨BR.as _ rfl, Ay, by omega, (fun i hi => by rcases Nat.lt_succ_iff_lt_or_eq.1 hi with h | h; exact Ad i h; subst h; exact readB_y (by assumption) (by assumption))⟩, by omega⟩
    skip
    rw [AK] at H
    refine c_6 H rfl ?_
    refine b_7 ?_
    have An := H.as [] rfl; clear H
    refine a_5 ?_
    refine s1 An (a_1 rfl (evc _ _)) fun B3 Ao => ?_; clear An A5
    refine n1 ?_
    refine c_8 ?_
    refine d_3 ?_
    refine a_7 ?_
    refine a_7 ?_
    refine d_3 ?_
    refine a_7 ?_
    refine a_9 Ao (.inl rfl) (a_2 Ao rfl (.tmp rfl)) ?_
    exact ⟨j_1 (Eq.symm (read_2 (k := k) (by assumption) (by omega) (by omega) (readB_n (by first | exact .inl (by assumption) | exact .inr (by assumption))))), Ay.ext⟩
   skip
   have Ap := e.as [(6, (Value.int .i64 (k : Int))), (2, (bptr I 0)), (1, xl)] rfl; clear e
   refine g_6 mixed Ap J 14 [[], [], [0, 1], [2], [3], [], [5], [6], [7], [4, 8], [9], [10], [11], [11]] [(Yd.val xl), (Yd.val (Value.int .i64 (k : Int))), (Yd.val (eptr xl (k * 2))), (Yd.val (eptr xl (k * 2 + 0))), (Yd.val (Value.int .i64 ((l.getD k (0, 0)).1))), (Yd.val (bptr I 2)), (Yd.val vm), (Yd.val (Value.int .i64 (b.macs.length : Int))), (Yd.val (Value.int .i64 ((b.macs.length : Int) - 1))), (Yd.val (Value.bool false)), (Yd.val (Value.bool (!false))), (Yd.val (Value.bool (!false))), (Yd.val undef), (Yd.val undef)] (by decide +kernel) rfl rfl ?_ ?_
   ·skip
    refine dq (fun a w hA hS hd => a_0 rfl (hA.ev rfl)) ?_
    refine dq (fun a w hA hS hd => a_0 rfl (hA.ev rfl)) ?_
    refine dq (fun a w hA hS hd => b_2 rfl m_9 ty_67 (hq hd 0) (i := k) (hq hd 1) (hS.sk 3 rfl) (by decide) (by omega)) ?_
    refine dq (fun a w hA hS hd => e_6 rfl fd_67_0 (hq hd 2) (hS.sk 3 rfl) (by rw [((hS.sk 3 rfl)).1]; omega)) ?_
    refine dq (fun a w hA hS hd => c_7 rfl ty_3 (hq hd 3) (hS.sk 3 rfl) (i_9 (by omega))) ?_
    refine dq (fun a w hA hS hd => a_4 rfl p_5 (hA.ev rfl)) ?_
    refine dq (fun a w hA hS hd => a_3 rfl ab_6 (hq hd 5) (hS.bk 0 rfl) rfl) ?_
    refine dq (fun a w hA hS hd => c_0 rfl ab_8 (hq hd 6) (b_8 (hS.ok 2 _ rfl)).macs) ?_
    refine dq (fun a w hA hS hd => g_1 rfl (hq hd 7) (evc _ _) (by omega) (by omega)) ?_
    refine ⟨fun a w hA hS hd => by have e4 := hx hd 4; have e8 := hx hd 8; exact d_9 rfl (dv (a_6 rfl v_5 (ev3 (b_9 e4) (evc _ _) (b_9 e8)) (v_4 _ _ _ _)) hS (by show Value.bool _ = _; simp only [AJ, decide_true, decide_false, Bool.not_true, Bool.not_false])), ?_⟩
    refine dq (fun a w hA hS hd => f_4 rfl (hq hd 9)) ?_
    refine dq (fun a w hA hS hd => a_0 rfl (hq hd 10)) ?_
    refine dn 11 ?_
    refine dn 11 ?_
    trivial
   intro Bn B8 Ar BS n; clear Ap J
   have As := Ar.add (hz n 11); clear Ar
   have At := As.add (hz n 12); clear As
   have Au := At.add (hz n 13); clear At
   clear n
   refine s3 Au fun Bo Av => ?_; clear Au Bn
   refine s3 Av fun Bp AL => ?_; clear Av Bo
   refine s3 AL fun A9 AM => ?_; clear AL Bp
   refine s3 AM fun BA AN => ?_; clear AM A9
   refine s3 AN fun BB Q => ?_; clear AN BA
   refine s1 Q (b_3 rfl (Q.ev rfl) (evc _ _)) fun BC R => ?_; clear Q BB
   refine n1 ?_
   refine c_6 R rfl ?_
   refine b_7 ?_
   have AO := R.as [] rfl; clear R
   refine a_5 ?_
   refine s1 AO (a_1 rfl (evc _ _)) fun Br AP => ?_; clear AO BC
   refine n1 ?_
   refine c_8 ?_
   refine d_3 ?_
   refine a_7 ?_
   refine a_7 ?_
   refine d_3 ?_
   refine a_7 ?_
   refine a_9 AP (.inl rfl) (a_2 AP rfl (.tmp rfl)) ?_
   exact ⟨j_1 (Eq.symm (read_2 (k := k) (by assumption) (by omega) (by omega) (readB_n (by first | exact .inl (by assumption) | exact .inr (by assumption))))), BS.ext⟩
  skip
  rw [decide_eq_false A1] at F
  refine b_5 F rfl ?_
  refine h_1 ?_
  refine b_4 ?_
  refine b_4 ?_
  refine f_7 ?_
  refine b_0 ?_
  refine b_7 ?_
  refine m2 ?_
  refine s1 F (a_1 rfl (evc _ _)) fun BD AQ => ?_; clear F Be
  refine n1 ?_
  refine d_0 ?_
  have AR := AQ.as [(7, (Value.int .i64 0)), (2, (bptr I 0)), (1, xl)] rfl; clear AQ
  refine h_3 (G := Nat) (fun (C : Nat) a_ w_ => Fr 58 [] [(7, (Value.int .i64 (C : Int))), (2, (bptr I 0)), (1, xl)] a_ ∧ Sep NoB w w_ [(blk I 25 [(Value.int .i64 b.scales), vt, vm]), (c_9 false vt lr lb b.tabs), (d_2 false vm lk b.macs), (sl xl 2 l.length (pairs l))] ∧ (C ≤ l.length) ∧ (∀ i, i < C → offB (b.macs.getD (l.getD i (0, 0)).1.toNat mac0) = false)) (fun C => l.length - C) 0 ⟨AR.as _ rfl, J, by omega, (fun _ h => absurd h (Nat.not_lt_zero _))⟩ ?_
  clear AR J BD
  rintro C BE By ⟨S, O, hkk1, A8⟩
  refine b_7 ?_
  refine m2 ?_
  refine s1 S (a_0 rfl (S.ev rfl)) fun BF T => ?_; clear S BE
  refine s1 T (a_0 rfl (T.ev rfl)) fun BG U => ?_; clear T BF
  refine s1 U (c_0 rfl m_9 (U.ev rfl) (O.sk 3 rfl)) fun BH M => ?_; clear U BG
  refine s1 M (f_9 rfl (M.ev rfl) (M.ev rfl)) fun BI B => ?_; clear M BH
  refine n1 ?_
  by_cases Ac : (C : Int) < (l.length : Int)
  ·skip
   rw [decide_eq_true Ac] at B
   have hrb := readB_is (Ad C (by omega)); have hml := (x_5 (by assumption)).mlen
   refine c_6 B rfl ?_
   refine d_1 ?_
   refine b_0 ?_
   refine b_7 ?_
   refine d_0 ?_
   refine b_7 ?_
   have AS := B.as [(7, (Value.int .i64 (C : Int))), (2, (bptr I 0)), (1, xl)] rfl; clear B
   refine g_6 mixed AS O 7 [[], [0], [], [], [2, 3], [4], [5]] [(Yd.val (bptr I 2)), (Yd.val vm), (Yd.val xl), (Yd.val (Value.int .i64 (C : Int))), (Yd.val (eptr xl (C * 2))), (Yd.val (eptr xl (C * 2 + 0))), (Yd.val (Value.int .i64 ((l.getD C (0, 0)).1)))] (by decide +kernel) rfl rfl ?_ ?_
   ·skip
    refine dq (fun a w hA hS hd => a_4 rfl p_5 (hA.ev rfl)) ?_
    refine dq (fun a w hA hS hd => a_3 rfl ab_6 (hq hd 0) (hS.bk 0 rfl) rfl) ?_
    refine dq (fun a w hA hS hd => a_0 rfl (hA.ev rfl)) ?_
    refine dq (fun a w hA hS hd => a_0 rfl (hA.ev rfl)) ?_
    refine dq (fun a w hA hS hd => b_2 rfl m_9 ty_67 (hq hd 2) (i := C) (hq hd 3) (hS.sk 3 rfl) (by decide) (by omega)) ?_
    refine dq (fun a w hA hS hd => e_6 rfl fd_67_0 (hq hd 4) (hS.sk 3 rfl) (by rw [((hS.sk 3 rfl)).1]; omega)) ?_
    refine dq (fun a w hA hS hd => c_7 rfl ty_3 (hq hd 5) (hS.sk 3 rfl) (i_9 (by omega))) ?_
    trivial
   intro BJ Bz AT K j; clear AS O
   have AU := AT.add (hz j 1); clear AT
   have N := AU.add (hz j 6); clear AU
   clear j
   refine s1 N (b_2 rfl ab_8 ac_1 (N.ev rfl) (i := ((l.getD C (0, 0)).1).toNat) ((N.ev rfl).trans (k_3 (by omega))) (b_8 (K.ok 2 _ rfl)).macs (by decide) (by omega)) fun BK V => ?_; clear N BJ
   refine s1 V (f_2 rfl ac_1 (V.ev rfl) (b_8 (K.ok 2 _ rfl)).macs (x_7 (by omega)) rfl (by decide)) fun BL W => ?_; clear V BK
   refine s2 W (a_6 rfl en_35 (ev1 (W.ev rfl)) (roff_ok _ (b.macs.getD (((l.getD C (0, 0)).1).toNat) mac0) _ _ ((b_8 (K.ok 2 _ rfl)).blk (i := ((l.getD C (0, 0)).1).toNat) (by omega)) ((x_5 (by assumption)).mac (by omega)) (hth.kl _))) ?_
   rintro Ae _ B0 ⟨rfl, Aa⟩ A; have Ab := K.step Aa; clear Aa W K BL
   refine n1 ?_
   rcases Bool.eq_false_or_eq_true ((offB (b.macs.getD (((l.getD C (0, 0)).1).toNat) mac0))) with o | o
   ·skip
    rw [o] at A
    refine c_6 A rfl ?_
    refine b_7 ?_
    have AV := A.as [] rfl; clear A
    refine a_5 ?_
    refine s1 AV (a_1 rfl (evc _ _)) fun Bs AW => ?_; clear AV Ae
    refine n1 ?_
    refine c_8 ?_
    refine d_3 ?_
    refine a_7 ?_
    refine a_7 ?_
    refine d_3 ?_
    refine a_7 ?_
    refine a_9 AW (.inl rfl) (a_2 AW rfl (.tmp rfl)) ?_
    exact ⟨j_1 (Eq.symm (read_11 (k := C) (by assumption) (by omega) (fun i hi => Ad i (by omega)) (by omega) (by assumption))), Ab.ext⟩
   skip
   rw [o] at A
   refine b_5 A rfl ?_
   refine d_1 ?_
   refine g_8 ?_
   refine b_0 ?_
   refine a_5 ?_
   refine s1 A (a_0 rfl (A.ev rfl)) fun BM X => ?_; clear A Ae
   refine s1 X (f_6 rfl (X.ev rfl) (evc _ _) (by omega) (by omega)) fun BN Y => ?_; clear X BM
   refine s1 Y (a_1 rfl (Y.ev rfl)) fun Bt A2 => ?_; clear Y BN
   refine e_8 ?_
   exact b_0 ⟨C + 1, ⟨A2.as _ rfl, Ab, by omega, (fun i hi => by rcases Nat.lt_succ_iff_lt_or_eq.1 hi with h | h; exact A8 i h; subst h; assumption)⟩, by omega⟩
  skip
  rw [decide_eq_false Ac] at B
  refine b_5 B rfl ?_
  refine h_1 ?_
  refine b_4 ?_
  refine b_4 ?_
  refine f_7 ?_
  refine b_0 ?_
  refine b_7 ?_
  have AX := B.as [] rfl; clear B
  refine a_5 ?_
  refine s1 AX (a_1 rfl (evc _ _)) fun Bu AY => ?_; clear AX BI
  refine n1 ?_
  refine c_8 ?_
  refine a_9 AY (.inl rfl) (a_2 AY rfl (.tmp rfl)) ?_
  exact ⟨j_1 (Eq.symm (read_0 (by assumption) (by omega) (fun i hi => Ad i (by omega)) (fun i hi => A8 i (by omega)))), O.ext⟩
 skip
 rw [decide_eq_false Az] at D
 refine c_6 D rfl ?_
 refine b_7 ?_
 have Z := D.as [(5, (Value.int .i64 (g_0 b)))] rfl; clear D
 refine a_5 ?_
 refine s1 Z (a_0 rfl (Z.ev rfl)) fun BO c => ?_; clear Z A3
 refine s1 c (a_1 rfl (c.ev rfl)) fun Bv AZ => ?_; clear c BO
 refine n1 ?_
 refine c_8 ?_
 refine a_7 ?_
 refine a_9 AZ (.inl rfl) (a_2 AZ rfl (.tmp rfl)) ?_
 exact ⟨j_1 (Eq.symm (read_c (by assumption))), P.ext⟩
theorem fault_ok (b : h_0) (vt vm : Value) (lr lb lk : Nat → Value) (w : World) (hT : j_6 w vt lr lb b.tabs) (hM : k_4 w vm lk b.macs) (hth : o_0 b) (l : List (Int × Int)) (xl : Value) (hxl : SlAt w xl 2 l.length (pairs l)) (hlb : l.length ≤ 1000000) :
  Calls Try.prog 27 #[(Value.agg #[(Value.int .i64 b.scales), vt, vm]), xl] w (Ret fun v w' => v = .int .i64 (n_5 b l) ∧ Ext NoB w w') := by
 refine a_8 Try.func27 rfl fun L C => ?_
 replace C : Fr 8 [] [(0, (Value.agg #[(Value.int .i64 b.scales), vt, vm])), (1, xl)] L := C
 have J : Sep NoB w w [(c_9 false vt lr lb b.tabs), (d_2 false vm lk b.macs), (sl xl 2 l.length (pairs l))] := f_0 ⟨rfl, hT, rfl, hM, rfl, hxl, trivial⟩
 refine m2 ?_
 refine s2 C (f_3 J rfl (C.ev rfl) (cs := [(Value.int .i64 b.scales), vt, vm]) rfl) ?_
 rintro O _ U ⟨T, rfl, A⟩ I; clear C J L
 refine s1 I (a_1 rfl (evc _ _)) fun P F => ?_; clear I O
 refine n4 ?_
 refine s1 F (c_4 rfl r_4 (F.ev rfl) (A.bk 0 rfl) (l := [(Value.int .i64 b.scales), vt, vm]) rfl rfl) fun Q G => ?_; clear F P
 refine s1 G (a_0 rfl (G.ev rfl)) fun M B => ?_; clear G Q
 refine s2 B (a_6 rfl en_59 (ev2 (B.ev rfl) (B.ev rfl)) (rreads_ok b vt vm lr lb lk _ (b_6 (A.ok 1 _ rfl)) (b_8 (A.ok 2 _ rfl)) hth l _ (A.sk 3 rfl) hlb)) ?_
 rintro N _ S ⟨rfl, H⟩ D; have K := A.step H; clear H B A M
 refine s1 D (a_1 rfl (D.ev rfl)) fun R E => ?_; clear D N
 refine n1 ?_
 refine c_8 ?_
 refine a_9 E (.inl rfl) (a_2 E rfl (.tmp rfl)) ?_
 exact ⟨rfl, K.ext⟩
set_option maxHeartbeats 4000000 in
theorem Bias_ok (b : h_0) (vt vm : Value) (lr lb lk : Nat → Value) (w : World) (hT : j_6 w vt lr lb b.tabs) (hM : k_4 w vm lk b.macs) (hth : o_0 b) (i : Int) :
  Calls Try.prog 33 #[(Value.agg #[(Value.int .i64 b.scales), vt, vm]), (Value.int .i64 i)] w (Ret fun v w' => v = .tuple #[.agg #[.int .i64 (z_0 b i).1, .int .i64 (z_0 b i).2], .int .i64 (y_9 b i)] ∧ Ext NoB w w') := by
 refine a_8 Try.func33 rfl fun a0 R => ?_
 replace R : Fr 32 [] [(0, (Value.agg #[(Value.int .i64 b.scales), vt, vm])), (1, (Value.int .i64 i))] a0 := R
 have hml9 := hth.ml
 have AY : Sep NoB w w [(c_9 false vt lr lb b.tabs), (d_2 false vm lk b.macs)] := f_0 ⟨rfl, hT, rfl, hM, trivial⟩
 refine m2 ?_
 refine s2 R (f_3 AY rfl (R.ev rfl) (cs := [(Value.int .i64 b.scales), vt, vm]) rfl) ?_
 rintro a1 _ w3 ⟨S, rfl, AZ⟩ AW; clear R AY a0
 refine s2 AW (e_4 AZ rfl aa_2 (cs := [(Value.int .i64 0), (Value.int .i64 0)]) rfl) ?_
 rintro a6 _ w8 ⟨H, rfl, F⟩ AX; clear AW AZ a1
 refine s1 AX (a_1 rfl (evc _ _)) fun Ae T => ?_; clear AX a6
 refine n2 ?_
 refine m2 ?_
 refine s1 T (c_4 rfl y_4 (T.ev rfl) (F.bk 1 rfl) (l := [(Value.int .i64 b.scales), vt, vm]) rfl rfl) fun Af U => ?_; clear T Ae
 refine s2 U (a_6 rfl en_32 (ev1 (U.ev rfl)) (check_book b vt vm lr lb lk _ (b_6 (F.ok 2 _ rfl)) (b_8 (F.ok 3 _ rfl)) hth)) ?_
 rintro Ag _ BA ⟨rfl, AG⟩ V; have A := F.step AG; clear AG U F Af
 refine s1 V (a_1 rfl (V.ev rfl)) fun Ah W => ?_; clear V Ag
 refine n4 ?_
 refine s1 W (a_0 rfl (W.ev rfl)) fun Ai X => ?_; clear W Ah
 refine s1 X (y_6 rfl (X.ev rfl) (evc _ _)) fun AT C => ?_; clear X Ai
 refine n1 ?_
 by_cases AR : (g_0 b) = 0
 ·skip
  rw [decide_eq_true AR] at C
  refine b_5 C rfl ?_
  refine d_1 ?_
  refine b_0 ?_
  refine b_7 ?_
  refine b_7 ?_
  have Y := C.as [(4, (bptr H 0)), (2, (bptr S 0)), (1, (Value.int .i64 i))] rfl; clear C
  refine a_5 ?_
  refine s1 Y (a_0 rfl (Y.ev rfl)) fun Aj Z => ?_; clear Y AT
  refine s1 Z (a_4 rfl v_6 (Z.ev rfl)) fun Ak a => ?_; clear Z Aj
  refine s1 a (a_3 rfl ty_35 (a.ev rfl) (A.bk 1 rfl) rfl) fun Al c => ?_; clear a Ak
  refine s1 c (c_0 rfl ac_8 (c.ev rfl) (b_8 (A.ok 3 _ rfl)).macs) fun Am d => ?_; clear c Al
  refine s1 d (g_1 rfl (d.ev rfl) (evc _ _) (by omega) (by omega)) fun An K => ?_; clear d Am
  refine s2 K (a_6 rfl en_47 (ev3 (K.ev rfl) (evc _ _) (K.ev rfl)) (n_9 _ _ _ _)) ?_
  rintro Ao _ W_ ⟨rfl, hW_⟩ e; have hW2_ := hW_.symm; subst hW2_; clear hW_ K An
  refine s1 e (f_4 rfl (e.ev rfl)) fun AU D => ?_; clear e Ao
  refine n1 ?_
  rcases Bool.eq_false_or_eq_true ((inB i 0 ((b.macs.length : Int) - 1))) with Q | Q
  ·skip
   rw [Q] at D
   have hib := h_4.1 Q
   refine b_5 D rfl ?_
   refine d_1 ?_
   refine b_0 ?_
   refine b_7 ?_
   have f := D.as [(4, (bptr H 0)), (2, (bptr S 0)), (1, (Value.int .i64 i))] rfl; clear D
   refine a_5 ?_
   refine s1 f (a_4 rfl v_6 (f.ev rfl)) fun Ap g => ?_; clear f AU
   refine s1 g (a_3 rfl ty_35 (g.ev rfl) (A.bk 1 rfl) rfl) fun Aq h => ?_; clear g Ap
   refine s1 h (a_0 rfl (h.ev rfl)) fun Ar L => ?_; clear h Aq
   refine s1 L (b_2 rfl ac_8 u_7 (L.ev rfl) (i := i.toNat) ((L.ev rfl).trans (k_3 (by omega))) (b_8 (A.ok 3 _ rfl)).macs (by decide) (by omega)) fun As j => ?_; clear L Ar
   refine s1 j (f_2 rfl u_7 (j.ev rfl) (b_8 (A.ok 3 _ rfl)).macs (x_7 (by omega)) rfl (by decide)) fun At k => ?_; clear j As
   refine s2 k (a_6 rfl en_67 (ev1 (k.ev rfl)) (bias_ok _ (b.macs.getD i.toNat mac0) _ _ ((b_8 (A.ok 3 _ rfl)).blk (i := i.toNat) (by omega)) ((x_5 (by assumption)).mac (by omega)) (hth.kl _))) ?_
   rintro Au _ BB ⟨rfl, AH⟩ y; have AJ := A.step AH; clear AH k A At
   refine s2 y (e_4 AJ rfl aa_2 (cs := [(Value.int .i64 0), (Value.int .i64 0)]) rfl) ?_
   rintro Av _ BC ⟨p, rfl, AK⟩ M; clear y AJ Au
   refine s7 M (c_5 AK rfl g_5 (M.ev rfl) (M.ev rfl) (i := 0) rfl (vs := [(Value.int .i64 ((e_5 (b.macs.getD i.toNat mac0)).1)), (Value.int .i64 ((e_5 (b.macs.getD i.toNat mac0)).2))]) rfl rfl rfl (Nat.le_of_ble_eq_true rfl)) ?_
   intro _ A0 AL z; clear M
   have o : Sep NoB w A0 [(blk p 30 [(Value.int .i64 ((e_5 (b.macs.getD i.toNat mac0)).1)), (Value.int .i64 ((e_5 (b.macs.getD i.toNat mac0)).2))]), (blk H 30 [(Value.int .i64 0), (Value.int .i64 0)]), (blk S 37 [(Value.int .i64 b.scales), vt, vm]), (c_9 false vt lr lb b.tabs), (d_2 false vm lk b.macs)] := AL; clear AL AK
   refine n2 ?_
   refine b_7 ?_
   have m := z.as [(7, (bptr p 0)), (4, (bptr H 0))] rfl; clear z
   refine a_5 ?_
   refine s1 m (c_4 rfl g_5 (m.ev rfl) (o.bk 0 rfl) (l := [(Value.int .i64 ((e_5 (b.macs.getD i.toNat mac0)).1)), (Value.int .i64 ((e_5 (b.macs.getD i.toNat mac0)).2))]) rfl rfl) fun Aw n => ?_; clear m Av
   refine s2 n (a_6 rfl en_68 (ev1 (n.ev rfl)) (empty_ok _ _ _)) ?_
   rintro AV _ BD ⟨rfl, AI⟩ B; have G := o.step AI; clear AI n o Aw
   refine n1 ?_
   by_cases AS : ((e_5 (b.macs.getD i.toNat mac0)).2) < ((e_5 (b.macs.getD i.toNat mac0)).1)
   ·skip
    rw [decide_eq_true AS] at B
    refine c_6 B rfl ?_
    refine m2 ?_
    refine s1 B (e_7 rfl pv0 bd_30_) fun Ax N => ?_; clear B AV
    refine s7 N (c_5 G rfl g_5 (N.ev rfl) (N.ev rfl) (i := 1) rfl (vs := [(Value.int .i64 0), (Value.int .i64 0)]) rfl rfl rfl (Nat.le_of_ble_eq_true rfl)) ?_
    intro _ A1 AM AA; clear N
    have AN : Sep NoB w A1 [(blk p 30 [(Value.int .i64 ((e_5 (b.macs.getD i.toNat mac0)).1)), (Value.int .i64 ((e_5 (b.macs.getD i.toNat mac0)).2))]), (blk H 30 [(Value.int .i64 0), (Value.int .i64 0)]), (blk S 37 [(Value.int .i64 b.scales), vt, vm]), (c_9 false vt lr lb b.tabs), (d_2 false vm lk b.macs)] := AM; clear AM G
    refine s1 AA (a_1 rfl (evc _ _)) fun A8 AB => ?_; clear AA Ax
    refine n1 ?_
    refine c_8 ?_
    refine a_7 ?_
    refine a_9 AB (.inl rfl) (e_3 AB rfl (.cellA rfl g_5 (AN.bk 1 rfl) (l := [(Value.int .i64 0), (Value.int .i64 0)]) rfl rfl) (.tmp rfl)) ?_
    have he_ := (biasE_11 (i := i) (by assumption) (by assumption) (off_t (by assumption)))
    exact ⟨by rw [biasR_n (by rw [he_]; first | assumption | decide), he_], AN.ext⟩
   skip
   rw [decide_eq_false AS] at B
   refine b_5 B rfl ?_
   refine d_1 ?_
   refine b_0 ?_
   refine m2 ?_
   refine s1 B (c_4 rfl g_5 (B.ev rfl) (G.bk 0 rfl) (l := [(Value.int .i64 ((e_5 (b.macs.getD i.toNat mac0)).1)), (Value.int .i64 ((e_5 (b.macs.getD i.toNat mac0)).2))]) rfl rfl) fun Ay O => ?_; clear B AV
   refine s7 O (c_5 G rfl g_5 (O.ev rfl) (O.ev rfl) (i := 1) rfl (vs := [(Value.int .i64 ((e_5 (b.macs.getD i.toNat mac0)).1)), (Value.int .i64 ((e_5 (b.macs.getD i.toNat mac0)).2))]) rfl rfl rfl (Nat.le_of_ble_eq_true rfl)) ?_
   intro _ A2 AO AC; clear O
   have AP : Sep NoB w A2 [(blk p 30 [(Value.int .i64 ((e_5 (b.macs.getD i.toNat mac0)).1)), (Value.int .i64 ((e_5 (b.macs.getD i.toNat mac0)).2))]), (blk H 30 [(Value.int .i64 ((e_5 (b.macs.getD i.toNat mac0)).1)), (Value.int .i64 ((e_5 (b.macs.getD i.toNat mac0)).2))]), (blk S 37 [(Value.int .i64 b.scales), vt, vm]), (c_9 false vt lr lb b.tabs), (d_2 false vm lk b.macs)] := AO; clear AO G
   refine s1 AC (a_1 rfl (evc _ _)) fun A9 AD => ?_; clear AC Ay
   refine n1 ?_
   refine c_8 ?_
   refine a_9 AD (.inl rfl) (e_3 AD rfl (.cellA rfl g_5 (AP.bk 1 rfl) (l := [(Value.int .i64 ((e_5 (b.macs.getD i.toNat mac0)).1)), (Value.int .i64 ((e_5 (b.macs.getD i.toNat mac0)).2))]) rfl rfl) (.tmp rfl)) ?_
   have he_ := (biasE_0 (i := i) (by assumption) (by assumption) (off_f (by assumption)))
   exact ⟨by rw [biasR_y he_, he_], AP.ext⟩
  skip
  rw [Q] at D
  refine c_6 D rfl ?_
  refine b_7 ?_
  have AE := D.as [(4, (bptr H 0))] rfl; clear D
  refine a_5 ?_
  refine s1 AE (e_7 rfl pv0 bd_30_) fun Az P => ?_; clear AE AU
  refine s7 P (c_5 A rfl g_5 (P.ev rfl) (P.ev rfl) (i := 0) rfl (vs := [(Value.int .i64 0), (Value.int .i64 0)]) rfl rfl rfl (Nat.le_of_ble_eq_true rfl)) ?_
  intro _ A3 AQ AF; clear P
  have t : Sep NoB w A3 [(blk H 30 [(Value.int .i64 0), (Value.int .i64 0)]), (blk S 37 [(Value.int .i64 b.scales), vt, vm]), (c_9 false vt lr lb b.tabs), (d_2 false vm lk b.macs)] := AQ; clear AQ A
  refine s1 AF (a_1 rfl (evc _ _)) fun A5 q => ?_; clear AF Az
  refine n1 ?_
  refine c_8 ?_
  refine a_7 ?_
  refine a_9 q (.inl rfl) (e_3 q rfl (.cellA rfl g_5 (t.bk 0 rfl) (l := [(Value.int .i64 0), (Value.int .i64 0)]) rfl rfl) (.tmp rfl)) ?_
  have he_ := (biasE_2 (i := i) (by assumption) (by assumption))
  exact ⟨by rw [biasR_n (by rw [he_]; first | assumption | decide), he_], t.ext⟩
 skip
 rw [decide_eq_false AR] at C
 refine c_6 C rfl ?_
 refine b_7 ?_
 have r := C.as [(6, (Value.int .i64 (g_0 b))), (4, (bptr H 0))] rfl; clear C
 refine a_5 ?_
 refine s1 r (e_7 rfl pv0 bd_30_) fun Aa I => ?_; clear r AT
 refine s1 I (a_0 rfl (I.ev rfl)) fun Ab E => ?_; clear I Aa
 refine s7 E (c_5 A rfl g_5 (E.ev rfl) (E.ev rfl) (i := 0) rfl (vs := [(Value.int .i64 0), (Value.int .i64 0)]) rfl rfl rfl (Nat.le_of_ble_eq_true rfl)) ?_
 intro _ Ac u J; clear E
 have x : Sep NoB w Ac [(blk H 30 [(Value.int .i64 0), (Value.int .i64 0)]), (blk S 37 [(Value.int .i64 b.scales), vt, vm]), (c_9 false vt lr lb b.tabs), (d_2 false vm lk b.macs)] := u; clear u A
 refine s1 J (a_1 rfl (J.ev rfl)) fun A6 s => ?_; clear J Ab
 refine n1 ?_
 refine c_8 ?_
 refine a_7 ?_
 refine a_9 s (.inl rfl) (e_3 s rfl (.cellA rfl g_5 (x.bk 0 rfl) (l := [(Value.int .i64 0), (Value.int .i64 0)]) rfl rfl) (.tmp rfl)) ?_
 have he_ := (biasE_c (i := i) (by assumption))
 exact ⟨by rw [biasR_n (by rw [he_]; first | assumption | decide), he_], x.ext⟩
set_option maxHeartbeats 4000000 in
theorem Convert_ok (b : h_0) (vt vm : Value) (lr lb lk : Nat → Value) (w : World) (hT : j_6 w vt lr lb b.tabs) (hM : k_4 w vm lk b.macs) (hth : o_0 b) (i A B : Int) :
  Calls Try.prog 18 #[(Value.agg #[(Value.int .i64 b.scales), vt, vm]), (Value.int .i64 i), (Value.agg #[(Value.int .i64 A), (Value.int .i64 B)])] w (Ret fun v w' => v = .tuple #[.agg #[.int .i64 (z_9 b i (A, B)).1, .int .i64 (z_9 b i (A, B)).2], .int .i64 (z_4 b i (A, B))] ∧ Ext NoB w w') := by
 refine a_8 Try.func18 rfl fun a0 f => ?_
 replace f : Fr 47 [] [(0, (Value.agg #[(Value.int .i64 b.scales), vt, vm])), (1, (Value.int .i64 i)), (2, (Value.agg #[(Value.int .i64 A), (Value.int .i64 B)]))] a0 := f
 have htl9 := hth.tl
 have A1 : Sep NoB w w [(c_9 false vt lr lb b.tabs), (d_2 false vm lk b.macs)] := f_0 ⟨rfl, hT, rfl, hM, trivial⟩
 refine m2 ?_
 refine s2 f (f_3 A1 rfl (f.ev rfl) (cs := [(Value.int .i64 b.scales), vt, vm]) rfl) ?_
 rintro a1 _ w3 ⟨P, rfl, A2⟩ An; clear f A1 a0
 refine s2 An (f_3 A2 rfl (An.ev rfl) (cs := [(Value.int .i64 A), (Value.int .i64 B)]) rfl) ?_
 rintro a6 _ w8 ⟨Q, rfl, Av⟩ A0; clear An A2 a1
 refine s2 A0 (e_4 Av rfl aa_2 (cs := [(Value.int .i64 0), (Value.int .i64 0)]) rfl) ?_
 rintro BJ _ Bt ⟨D, rfl, O⟩ Am; clear A0 Av a6
 refine s1 Am (a_1 rfl (evc _ _)) fun BK g => ?_; clear Am BJ
 refine n2 ?_
 refine m2 ?_
 refine s1 g (c_4 rfl y_4 (g.ev rfl) (O.bk 2 rfl) (l := [(Value.int .i64 b.scales), vt, vm]) rfl rfl) fun BL h => ?_; clear g BK
 refine s2 h (a_6 rfl en_32 (ev1 (h.ev rfl)) (check_book b vt vm lr lb lk _ (b_6 (O.ok 3 _ rfl)) (b_8 (O.ok 4 _ rfl)) hth)) ?_
 rintro BM _ Bu ⟨rfl, As⟩ j; have E := O.step As; clear As h O BL
 refine s1 j (a_1 rfl (j.ev rfl)) fun BN k => ?_; clear j BM
 refine n4 ?_
 refine s1 k (a_0 rfl (k.ev rfl)) fun BO m => ?_; clear k BN
 refine s1 m (y_6 rfl (m.ev rfl) (evc _ _)) fun Ax F => ?_; clear m BO
 refine n1 ?_
 by_cases Aw : (g_0 b) = 0
 ·skip
  rw [decide_eq_true Aw] at F
  refine b_5 F rfl ?_
  refine d_1 ?_
  refine b_0 ?_
  refine b_7 ?_
  refine b_7 ?_
  have n := F.as [(6, (bptr D 0)), (5, (bptr Q 0)), (3, (bptr P 0)), (1, (Value.int .i64 i))] rfl; clear F
  refine a_5 ?_
  refine s1 n (a_0 rfl (n.ev rfl)) fun BP o => ?_; clear n Ax
  refine s1 o (a_4 rfl x_6 (o.ev rfl)) fun BQ p => ?_; clear o BP
  refine s1 p (a_3 rfl ty_34 (p.ev rfl) (E.bk 2 rfl) rfl) fun BR q => ?_; clear p BQ
  refine s1 q (c_0 rfl aa_9 (q.ev rfl) (b_6 (E.ok 3 _ rfl)).tabs) fun BS s => ?_; clear q BR
  refine s1 s (g_1 rfl (s.ev rfl) (evc _ _) (by omega) (by omega)) fun BT V => ?_; clear s BS
  refine s2 V (a_6 rfl en_47 (ev3 (V.ev rfl) (evc _ _) (V.ev rfl)) (n_9 _ _ _ _)) ?_
  rintro BU _ W_ ⟨rfl, hW_⟩ t; have hW2_ := hW_.symm; subst hW2_; clear hW_ V BT
  refine s1 t (f_4 rfl (t.ev rfl)) fun BV u => ?_; clear t BU
  refine s1 u (a_0 rfl (u.ev rfl)) fun Ay I => ?_; clear u BV
  rcases Bool.eq_false_or_eq_true ((inB i 0 ((b.tabs.length : Int) - 1))) with e | e
  ·skip
   rw [e] at I
   have hib := h_4.1 e
   refine s5 I (c_4 rfl g_5 (I.ev rfl) (E.bk 1 rfl) (l := [(Value.int .i64 A), (Value.int .i64 B)]) rfl rfl) fun BW x => ?_; clear I Ay
   refine s6 x (a_6 rfl en_48 (ev1 (x.ev rfl)) (values_ok _ _ _)) ?_
   rintro BX _ Bv ⟨rfl, At⟩ y; have C := E.step At; clear At x E BW
   refine s5 y (f_4 rfl (y.ev rfl)) fun BY W => ?_; clear y BX
   refine s1 W (c_2 rfl (W.ev rfl) (W.ev rfl)) fun Az G => ?_; clear W BY
   refine n1 ?_
   rcases Bool.eq_false_or_eq_true ((y_2 (A, B))) with AJ | AJ
   ·skip
    rw [AJ] at G
    refine b_5 G rfl ?_
    refine d_1 ?_
    refine b_0 ?_
    refine b_7 ?_
    refine b_7 ?_
    have z := G.as [(6, (bptr D 0)), (5, (bptr Q 0)), (3, (bptr P 0)), (1, (Value.int .i64 i))] rfl; clear G
    refine a_5 ?_
    refine s1 z (a_4 rfl x_6 (z.ev rfl)) fun BZ AA => ?_; clear z Az
    refine s1 AA (a_3 rfl ty_34 (AA.ev rfl) (C.bk 2 rfl) rfl) fun Ba AB => ?_; clear AA BZ
    refine s1 AB (a_0 rfl (AB.ev rfl)) fun Bb X => ?_; clear AB Ba
    refine s1 X (b_2 rfl aa_9 l_7 (X.ev rfl) (i := i.toNat) ((X.ev rfl).trans (k_3 (by omega))) (b_6 (C.ok 3 _ rfl)).tabs (by decide) (by omega)) fun Bc AC => ?_; clear X Bb
    refine s1 AC (f_2 rfl l_7 (AC.ev rfl) (b_6 (C.ok 3 _ rfl)).tabs (y_3 (by omega)) rfl (by decide)) fun Bd AD => ?_; clear AC Bc
    refine s1 AD (i_0 rfl (ev1 (AD.ev rfl)) ev0) fun Be AE => ?_; clear AD Bd
    refine s1 AE (a_1 rfl (AE.ev rfl)) fun Bf Ao => ?_; clear AE Be
    refine n2 ?_
    have AF := Ao.as [(9, (Value.func (.func 49) #[(Value.agg #[(Value.int .i64 ((b.tabs.getD i.toNat tab0).frm)), (Value.int .i64 ((b.tabs.getD i.toNat tab0).dst)), (lr i.toNat), (lb i.toNat), (Value.int .i64 ((b.tabs.getD i.toNat tab0).err))])] #[])), (6, (bptr D 0)), (5, (bptr Q 0)), (3, (bptr P 0)), (1, (Value.int .i64 i))] rfl; clear Ao
    refine a_5 ?_
    refine s1 AF (a_0 rfl (AF.ev rfl)) fun Bg AG => ?_; clear AF Bf
    refine s1 AG (c_4 rfl g_5 (AG.ev rfl) (C.bk 1 rfl) (l := [(Value.int .i64 A), (Value.int .i64 B)]) rfl rfl) fun Bh Y => ?_; clear AG Bg
    refine s2 Y (i_5 rfl (Y.ev rfl) en_49 (ev1 (Y.ev rfl)) (converts_ok A B (b.tabs.getD i.toNat tab0) _ _ _ ((b_6 (C.ok 3 _ rfl)).row (i := i.toNat) (by omega)) ((b_6 (C.ok 3 _ rfl)).brk (i := i.toNat) (by omega)) (hth.rl _) (hth.bl _) _ ((x_5 (by assumption)).tab (by omega)))) ?_
    rintro Bi _ Bw ⟨rfl, Au⟩ AH; have c := C.step Au; clear Au Y C Bh
    refine s1 AH (f_4 rfl (AH.ev rfl)) fun Bj H => ?_; clear AH Bi
    refine n1 ?_
    rcases Bool.eq_false_or_eq_true ((r_7 (b.tabs.getD i.toNat tab0) (A, B))) with AK | AK
    ·skip
     rw [AK] at H
     refine b_5 H rfl ?_
     refine d_1 ?_
     refine b_0 ?_
     refine b_7 ?_
     have Ap := H.as [(6, (bptr D 0)), (5, (bptr Q 0)), (3, (bptr P 0)), (1, (Value.int .i64 i))] rfl; clear H
     refine g_6 mixed Ap c 6 [[], [0], [], [1, 2], [3], []] [(Yd.val (bptr P 1)), (Yd.val vt), (Yd.val (Value.int .i64 i)), (Yd.val (eptr vt (i.toNat * 5))), (Yd.val (Value.agg #[(Value.int .i64 ((b.tabs.getD i.toNat tab0).frm)), (Value.int .i64 ((b.tabs.getD i.toNat tab0).dst)), (lr i.toNat), (lb i.toNat), (Value.int .i64 ((b.tabs.getD i.toNat tab0).err))])), (Yd.val (Value.agg #[(Value.int .i64 A), (Value.int .i64 B)]))] (by decide +kernel) rfl rfl ?_ ?_
     ·skip
      refine dq (fun a w hA hS hd => a_4 rfl x_6 (hA.ev rfl)) ?_
      refine dq (fun a w hA hS hd => a_3 rfl ty_34 (hq hd 0) (hS.bk 2 rfl) rfl) ?_
      refine dq (fun a w hA hS hd => a_0 rfl (hA.ev rfl)) ?_
      refine dq (fun a w hA hS hd => b_2 rfl aa_9 l_7 (hq hd 1) (i := i.toNat) ((hq hd 2).trans (k_3 (by omega))) (b_6 (hS.ok 3 _ rfl)).tabs (by decide) (by omega)) ?_
      refine dq (fun a w hA hS hd => f_2 rfl l_7 (hq hd 3) (b_6 (hS.ok 3 _ rfl)).tabs (y_3 (by omega)) rfl (by decide)) ?_
      refine dq (fun a w hA hS hd => c_4 rfl g_5 (hA.ev rfl) (hS.bk 1 rfl) (l := [(Value.int .i64 A), (Value.int .i64 B)]) rfl rfl) ?_
      trivial
     intro Bk Bx Aq d AI; clear Ap c
     have Ar := Aq.add (hz AI 4); clear Aq
     have Z := Ar.add (hz AI 5); clear Ar
     clear AI
     refine s2 Z (a_6 rfl en_50 (ev2 (Z.ev rfl) (Z.ev rfl)) (convert_ok A B (b.tabs.getD i.toNat tab0) _ _ _ ((b_6 (d.ok 3 _ rfl)).row (i := i.toNat) (by omega)) ((b_6 (d.ok 3 _ rfl)).brk (i := i.toNat) (by omega)) (hth.rl _) (hth.bl _) _ ((x_5 (by assumption)).tab (by omega)))) ?_
     rintro A3 _ Bs ⟨rfl, Aa⟩ J; have Ab := d.step Aa; clear Aa Z d Bk
     refine s7 J (c_5 Ab rfl g_5 (J.ev rfl) (J.ev rfl) (i := 0) rfl (vs := [(Value.int .i64 ((l_8 (b.tabs.getD i.toNat tab0) (A, B)).1)), (Value.int .i64 ((l_8 (b.tabs.getD i.toNat tab0) (A, B)).2))]) rfl rfl rfl (Nat.le_of_ble_eq_true rfl)) ?_
     intro _ BD Ac AL; clear J
     have Ad : Sep NoB w BD [(blk D 30 [(Value.int .i64 ((l_8 (b.tabs.getD i.toNat tab0) (A, B)).1)), (Value.int .i64 ((l_8 (b.tabs.getD i.toNat tab0) (A, B)).2))]), (blk Q 30 [(Value.int .i64 A), (Value.int .i64 B)]), (blk P 37 [(Value.int .i64 b.scales), vt, vm]), (c_9 false vt lr lb b.tabs), (d_2 false vm lk b.macs)] := Ac; clear Ac Ab
     refine s1 AL (a_1 rfl (evc _ _)) fun Bm AM => ?_; clear AL A3
     refine n1 ?_
     refine c_8 ?_
     refine a_9 AM (.inl rfl) (e_3 AM rfl (.cellA rfl g_5 (Ad.bk 0 rfl) (l := [(Value.int .i64 ((l_8 (b.tabs.getD i.toNat tab0) (A, B)).1)), (Value.int .i64 ((l_8 (b.tabs.getD i.toNat tab0) (A, B)).2))]) rfl rfl) (.tmp rfl)) ?_
     have he_ := (convE_0 (i := i) (r := (A, B)) (by assumption) (by assumption) (by assumption) (by assumption))
     exact ⟨by rw [convR_y he_, he_], Ad.ext⟩
    skip
    rw [AK] at H
    refine c_6 H rfl ?_
    refine b_7 ?_
    have AN := H.as [(6, (bptr D 0))] rfl; clear H
    refine a_5 ?_
    refine s1 AN (e_7 rfl pv0 bd_30_) fun A4 K => ?_; clear AN Bj
    refine s7 K (c_5 c rfl g_5 (K.ev rfl) (K.ev rfl) (i := 0) rfl (vs := [(Value.int .i64 0), (Value.int .i64 0)]) rfl rfl rfl (Nat.le_of_ble_eq_true rfl)) ?_
    intro _ BE Ae AO; clear K
    have Af : Sep NoB w BE [(blk D 30 [(Value.int .i64 0), (Value.int .i64 0)]), (blk Q 30 [(Value.int .i64 A), (Value.int .i64 B)]), (blk P 37 [(Value.int .i64 b.scales), vt, vm]), (c_9 false vt lr lb b.tabs), (d_2 false vm lk b.macs)] := Ae; clear Ae c
    refine s1 AO (a_1 rfl (evc _ _)) fun Bn AP => ?_; clear AO A4
    refine n1 ?_
    refine c_8 ?_
    refine a_7 ?_
    refine a_9 AP (.inl rfl) (e_3 AP rfl (.cellA rfl g_5 (Af.bk 0 rfl) (l := [(Value.int .i64 0), (Value.int .i64 0)]) rfl rfl) (.tmp rfl)) ?_
    have he_ := (convE_10 (i := i) (r := (A, B)) (by assumption) (by assumption) (by assumption) (by assumption))
    exact ⟨by rw [convR_n (by rw [he_]; first | assumption | decide), he_], Af.ext⟩
   skip
   rw [AJ] at G
   refine c_6 G rfl ?_
   refine b_7 ?_
   have AQ := G.as [(6, (bptr D 0))] rfl; clear G
   refine a_5 ?_
   refine s1 AQ (e_7 rfl pv0 bd_30_) fun A5 L => ?_; clear AQ Az
   refine s7 L (c_5 C rfl g_5 (L.ev rfl) (L.ev rfl) (i := 0) rfl (vs := [(Value.int .i64 0), (Value.int .i64 0)]) rfl rfl rfl (Nat.le_of_ble_eq_true rfl)) ?_
   intro _ BF Ag AR; clear L
   have Ah : Sep NoB w BF [(blk D 30 [(Value.int .i64 0), (Value.int .i64 0)]), (blk Q 30 [(Value.int .i64 A), (Value.int .i64 B)]), (blk P 37 [(Value.int .i64 b.scales), vt, vm]), (c_9 false vt lr lb b.tabs), (d_2 false vm lk b.macs)] := Ag; clear Ag C
   refine s1 AR (a_1 rfl (evc _ _)) fun Bo AS => ?_; clear AR A5
   refine n1 ?_
   refine c_8 ?_
   refine a_7 ?_
   refine a_9 AS (.inl rfl) (e_3 AS rfl (.cellA rfl g_5 (Ah.bk 0 rfl) (l := [(Value.int .i64 0), (Value.int .i64 0)]) rfl rfl) (.tmp rfl)) ?_
   have he_ := (convE_2 (i := i) (r := (A, B)) (by assumption) (by first | exact .inl (by assumption) | exact .inr (by assumption)))
   exact ⟨by rw [convR_n (by rw [he_]; first | assumption | decide), he_], Ah.ext⟩
  skip
  rw [e] at I
  refine s3 I fun A6 AT => ?_; clear I Ay
  refine s3 AT fun A7 AU => ?_; clear AT A6
  refine s3 AU fun A8 R => ?_; clear AU A7
  refine s1 R (b_3 rfl (R.ev rfl) (evc _ _)) fun A9 S => ?_; clear R A8
  refine n1 ?_
  refine c_6 S rfl ?_
  refine b_7 ?_
  have AV := S.as [(6, (bptr D 0))] rfl; clear S
  refine a_5 ?_
  refine s1 AV (e_7 rfl pv0 bd_30_) fun BA M => ?_; clear AV A9
  refine s7 M (c_5 E rfl g_5 (M.ev rfl) (M.ev rfl) (i := 0) rfl (vs := [(Value.int .i64 0), (Value.int .i64 0)]) rfl rfl rfl (Nat.le_of_ble_eq_true rfl)) ?_
  intro _ BG Ai AW; clear M
  have Aj : Sep NoB w BG [(blk D 30 [(Value.int .i64 0), (Value.int .i64 0)]), (blk Q 30 [(Value.int .i64 A), (Value.int .i64 B)]), (blk P 37 [(Value.int .i64 b.scales), vt, vm]), (c_9 false vt lr lb b.tabs), (d_2 false vm lk b.macs)] := Ai; clear Ai E
  refine s1 AW (a_1 rfl (evc _ _)) fun Bp AX => ?_; clear AW BA
  refine n1 ?_
  refine c_8 ?_
  refine a_7 ?_
  refine a_9 AX (.inl rfl) (e_3 AX rfl (.cellA rfl g_5 (Aj.bk 0 rfl) (l := [(Value.int .i64 0), (Value.int .i64 0)]) rfl rfl) (.tmp rfl)) ?_
  have he_ := (convE_2 (i := i) (r := (A, B)) (by assumption) (by first | exact .inl (by assumption) | exact .inr (by assumption)))
  exact ⟨by rw [convR_n (by rw [he_]; first | assumption | decide), he_], Aj.ext⟩
 skip
 rw [decide_eq_false Aw] at F
 refine c_6 F rfl ?_
 refine b_7 ?_
 have AY := F.as [(8, (Value.int .i64 (g_0 b))), (6, (bptr D 0))] rfl; clear F
 refine a_5 ?_
 refine s1 AY (e_7 rfl pv0 bd_30_) fun BB T => ?_; clear AY Ax
 refine s1 T (a_0 rfl (T.ev rfl)) fun BC N => ?_; clear T BB
 refine s7 N (c_5 E rfl g_5 (N.ev rfl) (N.ev rfl) (i := 0) rfl (vs := [(Value.int .i64 0), (Value.int .i64 0)]) rfl rfl rfl (Nat.le_of_ble_eq_true rfl)) ?_
 intro _ BH Ak U; clear N
 have Al : Sep NoB w BH [(blk D 30 [(Value.int .i64 0), (Value.int .i64 0)]), (blk Q 30 [(Value.int .i64 A), (Value.int .i64 B)]), (blk P 37 [(Value.int .i64 b.scales), vt, vm]), (c_9 false vt lr lb b.tabs), (d_2 false vm lk b.macs)] := Ak; clear Ak E
 refine s1 U (a_1 rfl (U.ev rfl)) fun Bq AZ => ?_; clear U BC
 refine n1 ?_
 refine c_8 ?_
 refine a_7 ?_
 refine a_9 AZ (.inl rfl) (e_3 AZ rfl (.cellA rfl g_5 (Al.bk 0 rfl) (l := [(Value.int .i64 0), (Value.int .i64 0)]) rfl rfl) (.tmp rfl)) ?_
 have he_ := (convE_c (i := i) (r := (A, B)) (by assumption))
 exact ⟨by rw [convR_n (by rw [he_]; first | assumption | decide), he_], Al.ext⟩
end Go.Proofs.Ytohgladndklciaa

namespace Go.Hard
open Go.RowKit Go.Eng
def selU (ts : List TabD) (k : Nat) (i j : Int) : List Nat := (List.range k).filter fun q => decide ((ts.getD q tab0).frm = i) && decide ((ts.getD q tab0).dst = j)
def selT (ts : List TabD) (l : List Nat) : List TabD := l.map fun q => ts.getD q tab0
def selV (v : Nat → Value) (l : List Nat) : Nat → Value := fun p => v (l.getD p 0)
def bN (ts : List TabD) (k : Nat) (i j : Int) : Nat := (selU ts k i j).length
def bC (lr lb : Nat → Value) (ts : List TabD) (k : Nat) (i j : Int) : List Value := n_6 (selV lr (selU ts k i j)) (selV lb (selU ts k i j)) (selT ts (selU ts k i j))
theorem t_0 (ts : List TabD) (l : List Nat) : (selT ts l).length = l.length := by simp [selT]
theorem y_1 {ts : List TabD} {k q : Nat} {i j : Int} (h : q ∈ selU ts k i j) : q < k := by
  unfold selU at h
  rw [List.mem_filter, List.mem_range] at h; exact h.1
section
variable {lr lb : Nat → Value} {ts : List TabD} {k : Nat} {i j : Int}
theorem bC_zero (h : bN ts k i j = 0) : bC lr lb ts k i j = [] := by
  have : selU ts k i j = [] := List.eq_nil_of_length_eq_zero h
  unfold bC; rw [this]; rfl
theorem sel_no (h : ¬ (i = (ts.getD k tab0).frm ∧ j = (ts.getD k tab0).dst)) : selU ts (k + 1) i j = selU ts k i j := by
  unfold selU; rw [List.range_succ, List.filter_append]
  have : (decide ((ts.getD k tab0).frm = i) && decide ((ts.getD k tab0).dst = j)) = false := by
    rw [Bool.and_eq_false_iff]
    rcases Decidable.em ((ts.getD k tab0).frm = i) with h1 | h1
    · exact .inr (decide_eq_false fun h2 => h ⟨h1.symm, h2.symm⟩)
    · exact .inl (decide_eq_false h1)
  rw [List.filter_cons, if_neg (by rw [this]; decide), List.filter_nil, List.append_nil]
theorem sel_yes : selU ts (k + 1) (ts.getD k tab0).frm (ts.getD k tab0).dst = selU ts k (ts.getD k tab0).frm (ts.getD k tab0).dst ++ [k] := by
  unfold selU; rw [List.range_succ, List.filter_append]; simp
theorem b_other (lr lb : Nat → Value) : ∀ a b, ¬ (a = (ts.getD k tab0).frm ∧ b = (ts.getD k tab0).dst) → bN ts (k + 1) a b = bN ts k a b ∧ bC lr lb ts (k + 1) a b = bC lr lb ts k a b := fun a b h => by
  unfold bN bC; rw [sel_no h]; exact ⟨rfl, rfl⟩
theorem bN_next : bN ts (k + 1) (ts.getD k tab0).frm (ts.getD k tab0).dst = bN ts k (ts.getD k tab0).frm (ts.getD k tab0).dst + 1 := by
  unfold bN; rw [sel_yes, List.length_append]; rfl
theorem bC_next : bC lr lb ts (k + 1) (ts.getD k tab0).frm (ts.getD k tab0).dst = bC lr lb ts k (ts.getD k tab0).frm (ts.getD k tab0).dst ++ [.int .i64 (ts.getD k tab0).frm, .int .i64 (ts.getD k tab0).dst, lr k, lb k, .int .i64 (ts.getD k tab0).err] := by
  unfold bC
  rw [sel_yes]
  generalize selU ts k (ts.getD k tab0).frm (ts.getD k tab0).dst = l
  rw [tabs_snoc]
  have e : selT ts (l ++ [k]) = selT ts l ++ [ts.getD k tab0] := by simp [selT]
  rw [e]
  unfold n_6
  refine u_1 fun p hp => ?_
  rw [List.length_append, List.length_singleton, t_0] at hp
  unfold tabC selV
  rw [t_0]
  rcases Nat.lt_or_ge p l.length with h | h
  · rw [y_0 _ _ h, y_0 _ _ h, getD_old h]
  · obtain rfl : p = l.length := by omega
    rw [x_9, x_9, getD_new]
theorem t_1 {w : World} {v u : Value} {l : List Nat} (h : j_6 w v lr lb ts) (hl : ∀ q ∈ l, q < ts.length) (hs : SlAt w u 5 l.length (n_6 (selV lr l) (selV lb l) (selT ts l))) : j_6 w u (selV lr l) (selV lb l) (selT ts l) := by
  have at' : ∀ p, p < (selT ts l).length → (selT ts l).getD p tab0 = ts.getD (l.getD p 0) tab0 ∧ l.getD p 0 < ts.length := fun p hp => by
    rw [t_0] at hp
    refine ⟨?_, hl _ ?_⟩
    · simp [selT, List.getD, List.getElem?_map, List.getElem?_eq_getElem hp]
    · simp only [List.getD, List.getElem?_eq_getElem hp, Option.getD_some]; exact List.getElem_mem hp
  refine ⟨by rw [t_0]; exact hs, fun p hp => ?_, fun p hp => ?_⟩
  · have := h.rows _ (at' p hp).2
    unfold m_3 m_2 at this ⊢
    rw [(at' p hp).1]; exact this
  · have := h.brks _ (at' p hp).2
    unfold brkN brkC at this ⊢
    rw [(at' p hp).1]; exact this
theorem sel_at {l : List Nat} {p : Nat} (hp : p < l.length) : (selT ts l).getD p tab0 = ts.getD (l.getD p 0) tab0 := by
  simp [selT, List.getD, List.getElem?_map, List.getElem?_eq_getElem hp]
theorem bN_le (ts : List TabD) (k : Nat) (i j : Int) : bN ts k i j ≤ k := by
  unfold bN selU
  have := List.length_filter_le (fun q => decide ((ts.getD q tab0).frm = i) && decide ((ts.getD q tab0).dst = j)) (List.range k)
  rw [List.length_range] at this; exact this
end
end Go.Hard

namespace Go.Proofs.Ytohgladndklciaa
open Go.RowKit Go.Shelf Go.Eng Go.Hard
theorem bd_146_0ivva_1m (x0_0 : Int) (x0_1 : Value) (x0_2 : Value) (x1_0 : Option Nat) (w : World) : (Instr.build 146 #[(0, .agg #[(.int .i64 x0_0), x0_1, x0_2]), (1, (.map x1_0))]).run Try.prog w = .ok (.agg #[(.int .i64 x0_0), x0_1, x0_2, (.map x1_0)]) w := by kernel_rfl
theorem ze_106 : (Try.prog.info? 106).bind (·.zero) = some (Value.agg #[(Value.int .i64 0), (Value.int .i64 0), (Value.slice none 0 0), (Value.slice none 0 0), (Value.int .i64 0)]) := by kernel_rfl
theorem bd_162_0i_1i (x0_0 : Int) (x1_0 : Int) (w : World) : (Instr.build 162 #[(0, (.int .i64 x0_0)), (1, (.int .i64 x1_0))]).run Try.prog w = .ok (.agg #[(.int .i64 x0_0), (.int .i64 x1_0)]) w := by kernel_rfl
theorem ze_162 : (Try.prog.info? 162).bind (·.zero) = some (Value.agg #[(Value.int .i64 0), (Value.int .i64 0)]) := by kernel_rfl
theorem ty_162 : tyK Try.prog 162 = some (true, 2) := by kernel_rfl
theorem fd_146_1 : fldK Try.prog 146 1 = some 3 := by kernel_rfl
theorem ty_144 : tyK Try.prog 144 = some (false, 1) := by kernel_rfl
theorem bs_106_1_0iivvia (x0_0 : Int) (x0_1 : Int) (x0_2 : Value) (x0_3 : Value) (x0_4 : Int) : Instr.fill (fun i => some (i * 5, 5)) ((Array.range (1 * 5)).map ((Value.agg #[(Value.int .i64 0), (Value.int .i64 0), (Value.slice none 0 0), (Value.slice none 0 0), (Value.int .i64 0)]).cells[· % (Value.agg #[(Value.int .i64 0), (Value.int .i64 0), (Value.slice none 0 0), (Value.slice none 0 0), (Value.int .i64 0)]).cells.size]!)) [(0, .agg #[(.int .i64 x0_0), (.int .i64 x0_1), x0_2, x0_3, (.int .i64 x0_4)])] = some (([(.int .i64 x0_0), (.int .i64 x0_1), x0_2, x0_3, (.int .i64 x0_4)] : List Value).toArray) := by kernel_rfl
theorem zs_34 : (Try.prog.info? 34).bind (·.zero) = some (.slice none 0 0) := by kernel_rfl
theorem pair_162 : k_1 Try.prog 162 = true := by kernel_rfl
theorem un_144 : Try.prog.underlying 144 = some (.map 162 34) := by kernel_rfl
theorem el_106 : elK Try.prog 106 = some ((Value.agg #[(Value.int .i64 0), (Value.int .i64 0), (Value.slice none 0 0), (Value.slice none 0 0), (Value.int .i64 0)]), 5, 72) := by kernel_rfl
theorem bench_ok (b : h_0) (vt vm : Value) (lr lb lk : Nat → Value) (w : World) (hT : j_6 w vt lr lb b.tabs) (hM : k_4 w vm lk b.macs) (hth : o_0 b) :
  Calls Try.prog 86 #[(Value.agg #[(Value.int .i64 b.scales), vt, vm])] w (Ret fun v w' => ∃ bx bm es ck, v = bptr bx 0 ∧ p_3 bm es ck (bN b.tabs b.tabs.length) ∧ Sep NoB w w' [blk bx 146 [.int .i64 b.scales, vt, vm, .map (some bm)], (mapX true bm es ck es.size 106 5 (bN b.tabs b.tabs.length) (bC lr lb b.tabs b.tabs.length))]) := by
 refine a_8 Try.func86 rfl fun a0 R => ?_
 replace R : Fr 36 [] [(0, (Value.agg #[(Value.int .i64 b.scales), vt, vm]))] a0 := R
 have htl9 := hth.tl
 have Ae : Sep NoB w w [(c_9 false vt lr lb b.tabs), (d_2 false vm lk b.macs)] := f_0 ⟨rfl, hT, rfl, hM, trivial⟩
 refine m2 ?_
 refine s2 R (f_3 Ae rfl (R.ev rfl) (cs := [(Value.int .i64 b.scales), vt, vm]) rfl) ?_
 rintro a1 _ w3 ⟨r, rfl, AJ⟩ Ac; clear R Ae a0
 refine s1 Ac (a_1 rfl (evc _ _)) fun a6 AA => ?_; clear Ac a1
 refine n4 ?_
 refine s1 AA (c_4 rfl y_4 (AA.ev rfl) (AJ.bk 0 rfl) (l := [(Value.int .i64 b.scales), vt, vm]) rfl rfl) fun a8 Ad => ?_; clear AA a6
 refine s2 Ad (op_makeMapX (te := 106) (sz := 5) (n := bN b.tabs 0) (c := bC lr lb b.tabs 0) AJ rfl) ?_
 rintro A7 _ CB ⟨bm, rfl, AI⟩ I; clear Ad AJ a8
 refine s1 I (e_7 rfl (pv2 (I.ev rfl) (I.ev rfl)) (bd_146_0ivva_1m _ _ _ _)) fun A8 S => ?_; clear I A7
 refine s2 S (f_3 AI rfl (S.ev rfl) (cs := [(Value.int .i64 b.scales), vt, vm, (Value.map (some bm))]) rfl) ?_
 rintro A9 _ CC ⟨B, rfl, N⟩ T; clear S AI A8
 refine s1 T (a_1 rfl (T.ev rfl)) fun BA s => ?_; clear T A9
 refine n2 ?_
 refine b_7 ?_
 have U := s.as [(3, (bptr B 0)), (1, (bptr r 0))] rfl; clear s
 refine a_5 ?_
 refine s1 U (a_4 rfl x_6 (U.ev rfl)) fun BB V => ?_; clear U BA
 refine s1 V (a_3 rfl ty_34 (V.ev rfl) (N.bk 2 rfl) rfl) fun BC W => ?_; clear V BB
 refine s1 W (c_0 rfl aa_9 (W.ev rfl) (b_6 (N.ok 3 _ rfl)).tabs) fun BD t => ?_; clear W BC
 refine s1 t (a_0 rfl (evc _ _)) fun BE u => ?_; clear t BD
 refine n1 ?_
 refine d_0 ?_
 have x := u.as [(14, (Value.int .i64 0)), (13, (Value.int .i64 (b.tabs.length : Int))), (12, vt), (3, (bptr B 0))] rfl; clear u
 refine h_3 (G := Nat) (fun (k : Nat) a_ w_ => ∃ es_ : Array MapEntry, ∃ ck_ : Nat, Fr 36 [] [(14, (Value.int .i64 (k : Int))), (13, (Value.int .i64 (b.tabs.length : Int))), (12, vt), (3, (bptr B 0))] a_ ∧ Sep NoB w w_ [(blk B 146 [(Value.int .i64 b.scales), vt, vm, (Value.map (some bm))]), (mapX true bm es_ ck_ es_.size 106 5 (bN b.tabs k) (bC lr lb b.tabs k)), (blk r 37 [(Value.int .i64 b.scales), vt, vm]), (c_9 false vt lr lb b.tabs), (d_2 false vm lk b.macs)] ∧ (k ≤ b.tabs.length) ∧ (p_3 bm es_ ck_ (bN b.tabs k))) (fun k => b.tabs.length - k) 0 ⟨#[], 0, x.as _ rfl, N, by omega, (p_3.none (fun _ _ => rfl))⟩ ?_
 clear x N BE
 rintro k BF CD ⟨es_, ck_, J, H, hk, hMO⟩
 refine m2 ?_
 refine s1 J (f_9 rfl (J.ev rfl) (J.ev rfl)) fun Ab C => ?_; clear J BF
 refine n2 ?_
 by_cases AT : (k : Int) < (b.tabs.length : Int)
 ·skip
  rw [decide_eq_true AT] at C
  refine c_6 C rfl ?_
  refine d_1 ?_
  refine b_0 ?_
  refine b_7 ?_
  refine d_0 ?_
  refine m2 ?_
  refine s1 C (b_2 rfl aa_9 l_7 (C.ev rfl) (i := k) (C.ev rfl) (b_6 (H.ok 3 _ rfl)).tabs (by decide) (by omega)) fun BG X => ?_; clear C Ab
  refine s1 X (f_2 rfl l_7 (X.ev rfl) (b_6 (H.ok 3 _ rfl)).tabs (y_3 (by omega)) rfl (by decide)) fun BH y => ?_; clear X BG
  refine s2 y (e_4 H rfl ze_106 (cs := [(Value.int .i64 0), (Value.int .i64 0), (Value.slice none 0 0), (Value.slice none 0 0), (Value.int .i64 0)]) rfl) ?_
  rintro BI _ CE ⟨D, rfl, O⟩ K; clear y H BH
  refine s7 K (c_5 O rfl l_7 (K.ev rfl) (K.ev rfl) (i := 0) rfl (vs := [(Value.int .i64 ((b.tabs.getD k tab0).frm)), (Value.int .i64 ((b.tabs.getD k tab0).dst)), (lr k), (lb k), (Value.int .i64 ((b.tabs.getD k tab0).err))]) rfl rfl (j_3 rfl (j_3 rfl (j_3 (SlAt.one ((b_6 (O.ok 4 _ rfl)).row (i := k) (by omega))) (j_3 (SlAt.one ((b_6 (O.ok 4 _ rfl)).brk (i := k) (by omega))) (j_3 rfl x_2))))) (Nat.le_of_ble_eq_true rfl)) ?_
  intro _ Bk AK Y; clear K
  have P : Sep NoB w Bk [(blk D 106 [(Value.int .i64 ((b.tabs.getD k tab0).frm)), (Value.int .i64 ((b.tabs.getD k tab0).dst)), (lr k), (lb k), (Value.int .i64 ((b.tabs.getD k tab0).err))]), (blk B 146 [(Value.int .i64 b.scales), vt, vm, (Value.map (some bm))]), (mapX true bm es_ ck_ es_.size 106 5 (bN b.tabs k) (bC lr lb b.tabs k)), (blk r 37 [(Value.int .i64 b.scales), vt, vm]), (c_9 false vt lr lb b.tabs), (d_2 false vm lk b.macs)] := AK; clear AK O
  refine n4 ?_
  refine s1 Y (a_4 rfl fd_106_0 (Y.ev rfl)) fun BJ Z => ?_; clear Y BI
  refine s1 Z (a_3 rfl ty_3 (Z.ev rfl) (P.bk 0 rfl) rfl) fun BK d => ?_; clear Z BJ
  refine s1 d (a_4 rfl fd_106_1 (d.ev rfl)) fun BL f => ?_; clear d BK
  refine s1 f (a_3 rfl ty_3 (f.ev rfl) (P.bk 0 rfl) rfl) fun BM L => ?_; clear f BL
  refine s1 L (e_7 rfl (pv2 (L.ev rfl) (L.ev rfl)) (bd_162_0i_1i _ _)) fun BN z => ?_; clear L BM
  refine s2 z (e_4 P rfl ze_162 (cs := [(Value.int .i64 0), (Value.int .i64 0)]) rfl) ?_
  rintro B0 _ CF ⟨E, rfl, AL⟩ M; clear z P BN
  refine s7 M (c_5 AL rfl ty_162 (M.ev rfl) (M.ev rfl) (i := 0) rfl (vs := [(Value.int .i64 ((b.tabs.getD k tab0).frm)), (Value.int .i64 ((b.tabs.getD k tab0).dst))]) rfl rfl rfl (Nat.le_of_ble_eq_true rfl)) ?_
  intro _ Bl AM AB; clear M
  have AN : Sep NoB w Bl [(blk E 162 [(Value.int .i64 ((b.tabs.getD k tab0).frm)), (Value.int .i64 ((b.tabs.getD k tab0).dst))]), (blk D 106 [(Value.int .i64 ((b.tabs.getD k tab0).frm)), (Value.int .i64 ((b.tabs.getD k tab0).dst)), (lr k), (lb k), (Value.int .i64 ((b.tabs.getD k tab0).err))]), (blk B 146 [(Value.int .i64 b.scales), vt, vm, (Value.map (some bm))]), (mapX true bm es_ ck_ es_.size 106 5 (bN b.tabs k) (bC lr lb b.tabs k)), (blk r 37 [(Value.int .i64 b.scales), vt, vm]), (c_9 false vt lr lb b.tabs), (d_2 false vm lk b.macs)] := AM; clear AM AL
  refine n1 ?_
  have AC := AB.as [(6, (bptr E 0)), (5, (bptr D 0)), (14, (Value.int .i64 (k : Int))), (13, (Value.int .i64 (b.tabs.length : Int))), (12, vt), (3, (bptr B 0))] rfl; clear AB
  have AD := AC.as [(6, (bptr E 0)), (5, (bptr D 0)), (14, (Value.int .i64 (k : Int))), (13, (Value.int .i64 (b.tabs.length : Int))), (12, vt), (3, (bptr B 0))] rfl; clear AC
  obtain ⟨es1, ck1, q, e, hMO1, AV, AU, hEn⟩ := map_entry ((b.tabs.getD k tab0).frm) ((b.tabs.getD k tab0).dst) hMO
  skip
  have AO := AN.gkp (gpc 3 (gpc 0 (gpc 1 (gpc 2 (gpc 4 (gpc 5 (gpc 6 gpn))))))); clear AN
  refine c_drawCE mixed AD (mapX true bm es_ ck_ es_.size 106 5 (bN b.tabs k) (bC lr lb b.tabs k)) AO 11 3 [(7, 3), (9, 7)] [[], [0], [1], [2], [], [], [5], [3, 4], [7], [6, 7, 8], [7]] [(fun (A : Nat → Value) (v_ : Value) (rs_ : List Res) => v_ = (bptr B 0) ∧ rs_ = []), (fun (A : Nat → Value) (v_ : Value) (rs_ : List Res) => v_ = (bptr B 0) ∧ rs_ = []), (fun (A : Nat → Value) (v_ : Value) (rs_ : List Res) => v_ = (bptr B 3) ∧ rs_ = []), (fun (A : Nat → Value) (v_ : Value) (rs_ : List Res) => v_ = (Value.map (some bm)) ∧ rs_ = [(mapX true bm es_ ck_ es_.size 106 5 (bN b.tabs k) (bC lr lb b.tabs k))]), (fun (A : Nat → Value) (v_ : Value) (rs_ : List Res) => v_ = (Value.agg #[(Value.int .i64 ((b.tabs.getD k tab0).frm)), (Value.int .i64 ((b.tabs.getD k tab0).dst))]) ∧ rs_ = []), (fun (A : Nat → Value) (v_ : Value) (rs_ : List Res) => v_ = (Value.agg #[(Value.int .i64 ((b.tabs.getD k tab0).frm)), (Value.int .i64 ((b.tabs.getD k tab0).dst)), (lr k), (lb k), (Value.int .i64 ((b.tabs.getD k tab0).err))]) ∧ rs_ = []), (fun (A : Nat → Value) (v_ : Value) (rs_ : List Res) => True ∧ rs_ = [(row v_ 106 5 1 [(Value.int .i64 ((b.tabs.getD k tab0).frm)), (Value.int .i64 ((b.tabs.getD k tab0).dst)), (lr k), (lb k), (Value.int .i64 ((b.tabs.getD k tab0).err))])]), (fun (A : Nat → Value) (v_ : Value) (rs_ : List Res) => v_ = (Value.tuple #[e.val, .int .i64 (e.born : Int)]) ∧ rs_ = [(row e.val 106 5 (bN b.tabs k (b.tabs.getD k tab0).frm (b.tabs.getD k tab0).dst) (bC lr lb b.tabs k (b.tabs.getD k tab0).frm (b.tabs.getD k tab0).dst)), (mapX true bm es1 ck1 q 106 5 (bN b.tabs k) (bC lr lb b.tabs k))]), (fun (A : Nat → Value) (v_ : Value) (rs_ : List Res) => v_ = e.val ∧ rs_ = []), (fun (A : Nat → Value) (v_ : Value) (rs_ : List Res) => True ∧ rs_ = [(row v_ 106 5 (bN b.tabs k (b.tabs.getD k tab0).frm (b.tabs.getD k tab0).dst + 1) (bC lr lb b.tabs k (b.tabs.getD k tab0).frm (b.tabs.getD k tab0).dst ++ [.int .i64 (b.tabs.getD k tab0).frm, .int .i64 (b.tabs.getD k tab0).dst, lr k, lb k, .int .i64 (b.tabs.getD k tab0).err])), (mapX true bm es1 ck1 q 106 5 (bN b.tabs k) (bC lr lb b.tabs k))]), (fun (A : Nat → Value) (v_ : Value) (rs_ : List Res) => v_ = (Value.int .i64 (e.born : Int)) ∧ rs_ = [])] (by decide +kernel) (by decide +kernel) (by decide +kernel) (by decide +kernel) (by decide +kernel) rfl rfl ⟨(fun _ _ _ _ _ h_ => h_), (fun _ _ _ _ _ h_ => h_), (fun _ _ _ _ _ h_ => h_), (fun _ _ _ _ _ h_ => h_), (fun _ _ _ _ _ h_ => h_), (fun _ _ _ _ _ h_ => h_), (fun _ _ _ _ _ h_ => h_), (fun _ _ _ _ _ h_ => h_), (fun _ _ _ _ _ h_ => h_), (fun _ _ _ _ _ h_ => h_), (fun _ _ _ _ _ h_ => h_), trivial⟩ ?_ ?_ ?_ ?_
  ·skip
   refine ⟨fun hj_ hj1_ a w A hA hS hd => gv1 (a_0 rfl (hA.ev rfl)), ?_⟩
   refine ⟨fun hj_ hj1_ a w A hA hS hd => gv1 (o_2 rfl (gu hd 0)), ?_⟩
   refine ⟨fun hj_ hj1_ a w A hA hS hd => gv1 (a_4 rfl fd_146_1 (gu hd 1)), ?_⟩
   refine ⟨fun _ hj_ => absurd rfl hj_, ?_⟩
   refine ⟨fun hj_ hj1_ a w A hA hS hd => gv1 (c_4 rfl ty_162 (hA.ev rfl) (hS.bk 0 rfl) (l := [(Value.int .i64 ((b.tabs.getD k tab0).frm)), (Value.int .i64 ((b.tabs.getD k tab0).dst))]) rfl rfl), ?_⟩
   refine ⟨fun hj_ hj1_ a w A hA hS hd => gv1 (c_4 rfl l_7 (hA.ev rfl) (hS.bk 1 rfl) (l := [(Value.int .i64 ((b.tabs.getD k tab0).frm)), (Value.int .i64 ((b.tabs.getD k tab0).dst)), (lr k), (lb k), (Value.int .i64 ((b.tabs.getD k tab0).err))]) rfl rfl), ?_⟩
   refine ⟨fun hj_ hj1_ a w A hA hS hd => d_9 rfl (vblt rfl (pv1 (gu hd 5)) aa_9 l_7 ze_106 (by decide) (cs := [(Value.int .i64 ((b.tabs.getD k tab0).frm)), (Value.int .i64 ((b.tabs.getD k tab0).dst)), (lr k), (lb k), (Value.int .i64 ((b.tabs.getD k tab0).err))]) (bs_106_1_0iivvia _ _ _ _ _) rfl (by decide) (fun _ => And.intro trivial rfl)), ?_⟩
   refine ⟨fun hj_ => absurd hj_ (by decide), ?_⟩
   refine ⟨fun hj_ hj1_ a w A hA hS hd => gv1 (c_3 rfl (gu hd 7) rfl), ?_⟩
   refine ⟨fun hj_ => absurd hj_ (by decide), ?_⟩
   refine ⟨fun hj_ hj1_ a w A hA hS hd => gv1 (c_3 rfl (gu hd 7) rfl), ?_⟩
   trivial
  ·skip
   intro o_ ho_ a w A Lr hA hd hL hS; obtain rfl := Option.some.inj ho_; clear ho_
   obtain ⟨e2, B7, Bf, B3⟩ := hd 2 (by decide)
   obtain ⟨Ba, BU⟩ := Bf; subst BU
   rw [Ba] at e2
   exact d_9 rfl (n_2 (a_3 rfl ty_144 (b_9 (i_1 e2 rfl)) (hL.bk 2 rfl) rfl) (fun v_ w_ h_ => by obtain ⟨rfl, rfl⟩ := h_; exact ⟨⟨rfl, rfl⟩, hS⟩))
  ·skip
   refine ⟨fun o_ ho_ => ?_, ⟨fun o_ ho_ => ?_, trivial⟩⟩
   ·skip
    obtain rfl := Option.some.inj ho_; clear ho_
    intro a w A Bj Lr hA p AX hd hL hS; obtain ⟨Bb, BV⟩ := AX; subst BV; rw [Bb] at p
    obtain ⟨e4, B8, Bg, B4⟩ := hd 4 (by decide) (by decide)
    obtain ⟨Bc, BW⟩ := Bg; subst BW
    rw [Bc] at e4
    exact d_9 rfl (n_2 (op_mapEntryF hS rfl un_144 pair_162 zs_34 (b_9 (i_1 p rfl)) (b_9 (i_1 e4 rfl)) hMO (fun _ _ => bC_zero) hEn AV AU) fun v_ w_ h_ => ⟨_, ⟨h_.1, rfl⟩, h_.2⟩)
   skip
   obtain rfl := Option.some.inj ho_; clear ho_
   intro a w A Bj Lr hA p AX hd hL hS; obtain ⟨Bd, BY⟩ := AX; subst BY; rw [Bd] at p
   obtain ⟨e6, B9, Bh, BT⟩ := hd 6 (by decide) (by decide)
   obtain ⟨B6, BX⟩ := Bh; subst BX
   have hp6_0 := BT (by decide) _ (List.mem_of_getElem? (i := 0) rfl)
   obtain ⟨e8, CA, Bi, B5⟩ := hd 8 (by decide) (by decide)
   obtain ⟨Be, BZ⟩ := Bi; subst BZ
   rw [Be] at e8
   exact d_9 rfl (n_2 (l_0 hS rfl aa_9 el_106 (b_9 (i_1 e8 rfl)) (b_9 (i_1 e6 rfl)) (i := 0) rfl (SlAt.d_4 hp6_0) (j_3 rfl (j_3 rfl (j_3 (((b_6 (hL.ok 4 _ rfl)).row (i := k) (by omega)).one) (j_3 (((b_6 (hL.ok 4 _ rfl)).brk (i := k) (by omega)).one) (j_3 rfl x_2))))) (by have := bN_le b.tabs k ((b.tabs.getD k tab0).frm) ((b.tabs.getD k tab0).dst); simp only [maxLen]; omega) (by have := bN_le b.tabs k ((b.tabs.getD k tab0).frm) ((b.tabs.getD k tab0).dst); omega)) fun v_ w_ h_ => ⟨_, And.intro trivial rfl, h_⟩)
  skip
  intro o Bm A rsf AE hH hrq AP; clear AD AO
  have hrq_3 := hrq (7, 3) (by decide); have hrq_7 := hrq (9, 7) (by decide)
  obtain ⟨Ap, rs_0, Ax, hf_0⟩ := hH 0 (by decide); obtain ⟨Bs, Ah⟩ := Ax; replace hf_0 := (hf_0 (by decide)).trans Ah
  obtain ⟨Aq, rs_1, Ay, hf_1⟩ := hH 1 (by decide); obtain ⟨Bt, Ai⟩ := Ay; replace hf_1 := (hf_1 (by decide)).trans Ai
  obtain ⟨Ar, rs_2, Az, hf_2⟩ := hH 2 (by decide); obtain ⟨Bu, Aj⟩ := Az; replace hf_2 := (hf_2 (by decide)).trans Aj
  obtain ⟨As, rs_4, A1, hf_4⟩ := hH 4 (by decide); obtain ⟨Bv, Ak⟩ := A1; replace hf_4 := (hf_4 (by decide)).trans Ak
  obtain ⟨At, rs_5, A2, hf_5⟩ := hH 5 (by decide); obtain ⟨Bw, Al⟩ := A2; replace hf_5 := (hf_5 (by decide)).trans Al
  obtain ⟨Au, rs_6, A3, hf_6⟩ := hH 6 (by decide); obtain ⟨Bx, Am⟩ := A3; replace hf_6 := (hf_6 (by decide)).trans Am
  obtain ⟨Av, rs_8, A4, hf_8⟩ := hH 8 (by decide); obtain ⟨By, An⟩ := A4; replace hf_8 := (hf_8 (by decide)).trans An
  obtain ⟨AW, rs_9, A5, hf_9⟩ := hH 9 (by decide); obtain ⟨Bz, Ao⟩ := A5; replace hf_9 := (hf_9 (by decide)).trans Ao
  obtain ⟨Q, rs_10, Aa, hf_10⟩ := hH 10 (by decide); obtain ⟨AZ, AY⟩ := Aa; replace hf_10 := (hf_10 (by decide)).trans AY
  obtain ⟨m, rs_3, A0, hf_3⟩ := hH 3 (by decide); obtain ⟨Aw, Br⟩ := A0
  have AQ : Sep NoB w Bm [(row (A 6) 106 5 1 [(Value.int .i64 ((b.tabs.getD k tab0).frm)), (Value.int .i64 ((b.tabs.getD k tab0).dst)), (lr k), (lb k), (Value.int .i64 ((b.tabs.getD k tab0).err))]), (row (A 9) 106 5 (bN b.tabs k (b.tabs.getD k tab0).frm (b.tabs.getD k tab0).dst + 1) (bC lr lb b.tabs k (b.tabs.getD k tab0).frm (b.tabs.getD k tab0).dst ++ [.int .i64 (b.tabs.getD k tab0).frm, .int .i64 (b.tabs.getD k tab0).dst, lr k, lb k, .int .i64 (b.tabs.getD k tab0).err])), (mapX true bm es1 ck1 q 106 5 (bN b.tabs k) (bC lr lb b.tabs k)), (blk E 162 [(Value.int .i64 ((b.tabs.getD k tab0).frm)), (Value.int .i64 ((b.tabs.getD k tab0).dst))]), (blk D 106 [(Value.int .i64 ((b.tabs.getD k tab0).frm)), (Value.int .i64 ((b.tabs.getD k tab0).dst)), (lr k), (lb k), (Value.int .i64 ((b.tabs.getD k tab0).err))]), (blk B 146 [(Value.int .i64 b.scales), vt, vm, (Value.map (some bm))]), (blk r 37 [(Value.int .i64 b.scales), vt, vm]), (c_9 false vt lr lb b.tabs), (d_2 false vm lk b.macs)] := by rw [show catR rsf 0 11 = ([(row (A 6) 106 5 1 [(Value.int .i64 ((b.tabs.getD k tab0).frm)), (Value.int .i64 ((b.tabs.getD k tab0).dst)), (lr k), (lb k), (Value.int .i64 ((b.tabs.getD k tab0).err))]), (row (A 9) 106 5 (bN b.tabs k (b.tabs.getD k tab0).frm (b.tabs.getD k tab0).dst + 1) (bC lr lb b.tabs k (b.tabs.getD k tab0).frm (b.tabs.getD k tab0).dst ++ [.int .i64 (b.tabs.getD k tab0).frm, .int .i64 (b.tabs.getD k tab0).dst, lr k, lb k, .int .i64 (b.tabs.getD k tab0).err])), (mapX true bm es1 ck1 q 106 5 (bN b.tabs k) (bC lr lb b.tabs k))] : List Res) by (try simp only [catR, hf_0, hf_1, hf_2, hf_4, hf_5, hf_6, hf_8, hf_9, hf_10, hrq_3, hrq_7]); (try rfl)] at AP; exact AP
  rw [Aw] at m
  have AF : Fr 36 [] [(26, (Value.map (some bm))), (6, (bptr E 0)), (5, (bptr D 0)), (14, (Value.int .i64 (k : Int))), (13, (Value.int .i64 (b.tabs.length : Int))), (12, vt), (3, (bptr B 0))] o := AE.add (i_1 m rfl); clear AE
  rw [AZ] at Q
  have AG : Fr 36 [] [(33, (Value.int .i64 (e.born : Int))), (26, (Value.map (some bm))), (6, (bptr E 0)), (5, (bptr D 0)), (14, (Value.int .i64 (k : Int))), (13, (Value.int .i64 (b.tabs.length : Int))), (12, vt), (3, (bptr B 0))] o := AF.add (i_1 Q rfl); clear AF
  have F : Fr 36 [] [(32, (A 9)), (33, (Value.int .i64 (e.born : Int))), (26, (Value.map (some bm))), (6, (bptr E 0)), (5, (bptr D 0)), (14, (Value.int .i64 (k : Int))), (13, (Value.int .i64 (b.tabs.length : Int))), (12, vt), (3, (bptr B 0))] o := AG.add (i_1 AW rfl); clear AG
  clear hH Ap Aq Ar As At Au Av AW Q m
  have AR := AQ.gkp (gpc 1 (gpc 2 (gpc 0 (gpc 3 (gpc 4 (gpc 5 (gpc 6 (gpc 7 (gpc 8 gpn))))))))); clear AQ
  refine s7 F (op_entryStore (n' := bN b.tabs (k + 1)) (c' := bC lr lb b.tabs (k + 1)) AR rfl (F.ev rfl) (F.ev rfl) (F.ev rfl) hMO1 AV AU bN_next bC_next (b_other lr lb)) ?_
  intro _ CG AS g; clear F AR
  refine e_8 ?_
  refine g_8 ?_
  refine b_0 ?_
  refine a_5 ?_
  refine s1 g (f_6 rfl (g.ev rfl) (evc _ _) (by omega) (by omega)) fun BO h => ?_; clear g o
  refine s1 h (a_0 rfl (h.ev rfl)) fun B1 Af => ?_; clear h BO
  refine e_8 ?_
  have Ag := AS.gkp (gpc 4 (gpc 0 (gpc 5 (gpc 6 (gpc 7 gpn))))); clear AS
  exact b_0 ⟨k + 1, ⟨(es1.modify q fun e => { e with val := (A 9) }), ck1, Af.as _ rfl, Ag, by omega, (hMO1.store AV AU (fun a_ b_ h_ => (b_other lr lb a_ b_ h_).1))⟩, by omega⟩
 skip
 rw [decide_eq_false AT] at C
 refine b_5 C rfl ?_
 refine h_1 ?_
 refine b_4 ?_
 refine b_4 ?_
 refine f_7 ?_
 refine b_0 ?_
 refine m2 ?_
 refine s1 C (a_0 rfl (C.ev rfl)) fun BP j => ?_; clear C Ab
 refine s1 j (a_1 rfl (j.ev rfl)) fun B2 AH => ?_; clear j BP
 refine n1 ?_
 refine c_8 ?_
 refine a_9 AH (.inl rfl) (a_2 AH rfl (.tmp rfl)) ?_
 have hkk : k = b.tabs.length := by omega
 subst hkk
 exact ⟨_, bm, es_, ck_, rfl, hMO, H.keep [0, 1] (by decide) _ rfl rfl⟩
end Go.Proofs.Ytohgladndklciaa

namespace Go.Hard
open Go.RowKit Go.Eng
def y_5 (ts : List TabD) (i j : Int) : List TabD := ts.filter fun t => decide (t.frm = i) && decide (t.dst = j)
def toL (n : Nat) (ts : List TabD) (k : Nat) : List TabD := (List.range n).flatMap fun (f : Nat) => y_5 ts (f : Int) (k : Int)
def rest0 (n : Nat) (ts : List TabD) (k : Nat) : List TabD := ((List.range n).drop k).flatMap (toL n ts)
def rest1 (n : Nat) (ts : List TabD) (k k2 : Nat) : List TabD := ((List.range n).drop k2).flatMap fun (f : Nat) => y_5 ts (f : Int) (k : Int)
theorem drop_range {n k : Nat} (h : k < n) : (List.range n).drop k = k :: (List.range n).drop (k + 1) := by
  rw [List.drop_eq_getElem_cons (by simpa using h), List.getElem_range]
theorem rest0_next {n k : Nat} {ts : List TabD} (h : k < n) : rest0 n ts k = toL n ts k ++ rest0 n ts (k + 1) := by
  unfold rest0; rw [drop_range h, List.flatMap_cons]
theorem rest0_end {n k : Nat} {ts : List TabD} (h : n ≤ k) : rest0 n ts k = [] := by
  unfold rest0; rw [List.drop_eq_nil_of_le (by simpa using h)]; rfl
theorem rest1_zero (n k : Nat) (ts : List TabD) : rest1 n ts k 0 = toL n ts k := rfl
theorem rest1_next {n k k2 : Nat} {ts : List TabD} (h : k2 < n) : rest1 n ts k k2 = y_5 ts (k2 : Int) (k : Int) ++ rest1 n ts k (k2 + 1) := by
  unfold rest1; rw [drop_range h, List.flatMap_cons]
theorem rest1_end {n k k2 : Nat} {ts : List TabD} (h : n ≤ k2) : rest1 n ts k k2 = [] := by
  unfold rest1; rw [List.drop_eq_nil_of_le (by simpa using h)]; rfl
theorem getD_range_map (ts : List TabD) : (List.range ts.length).map (fun q => ts.getD q tab0) = ts := by
  refine List.ext_getElem (by simp) fun i h1 h2 => ?_
  simp [List.getD, List.getElem?_eq_getElem h2]
theorem sel_is (ts : List TabD) (i j : Int) : selT ts (selU ts ts.length i j) = y_5 ts i j := by
  unfold selT selU y_5
  have h := getD_range_map ts
  conv => rhs; rw [← h]
  rw [List.filter_map]; rfl
theorem w_9 {ts : List TabD} {i j : Int} {p : Nat} (hp : p < bN ts ts.length i j) : ((selT ts (selU ts ts.length i j)).getD p tab0).frm = i ∧ ((selT ts (selU ts ts.length i j)).getD p tab0).dst = j ∧ (selT ts (selU ts ts.length i j)).getD p tab0 ∈ ts := by
  have hl : p < (selT ts (selU ts ts.length i j)).length := by rw [t_0]; exact hp
  have hm : (selT ts (selU ts ts.length i j)).getD p tab0 ∈ y_5 ts i j := by
    rw [← sel_is]; simp only [List.getD, List.getElem?_eq_getElem hl, Option.getD_some]; exact List.getElem_mem hl
  unfold y_5 at hm
  rw [List.mem_filter, Bool.and_eq_true, decide_eq_true_eq, decide_eq_true_eq] at hm
  exact ⟨hm.2.1, hm.2.2, hm.1⟩
theorem sel_rl {b : h_0} (h : o_0 b) (l : List Nat) (p : Nat) : ((selT b.tabs l).getD p tab0).rows.length ≤ 1000000 ∧ ((selT b.tabs l).getD p tab0).brk.length ≤ 1000000 := by
  rcases Nat.lt_or_ge p l.length with hp | hp
  · rw [sel_at hp]; exact ⟨h.rl _, h.bl _⟩
  · rw [getD_out (by rw [t_0]; exact hp)]; exact ⟨by decide, by decide⟩
def Cut0 (n : Nat) (ts : List TabD) (s : h_2) (k : Nat) (x : h_2) : Prop := (rest0 n ts k).foldl goS (x, false) = h_6 (g_2 n ts) s
def Cut1 (n : Nat) (ts : List TabD) (s : h_2) (k k2 : Nat) (x : h_2) : Prop := (rest1 n ts k k2 ++ rest0 n ts (k + 1)).foldl goS (x, false) = h_6 (g_2 n ts) s
def Cut2 (n : Nat) (ts : List TabD) (s : h_2) (k k2 k3 : Nat) (x : h_2) : Prop := ((y_5 ts (k2 : Int) (k : Int)).drop k3 ++ (rest1 n ts k (k2 + 1) ++ rest0 n ts (k + 1))).foldl goS (x, false) = h_6 (g_2 n ts) s
section
variable {n : Nat} {ts : List TabD} {s x : h_2} {k k2 k3 : Nat}
theorem cut_00 : Cut0 n ts s 0 s := rfl
theorem cut_01 (hk : k < n) (h : Cut0 n ts s k x) : Cut1 n ts s k 0 x := by
  unfold Cut1; rw [rest1_zero, ← rest0_next hk]; exact h
theorem cut_12 (hk : k2 < n) (h : Cut1 n ts s k k2 x) : Cut2 n ts s k k2 0 x := by
  unfold Cut2; rw [List.drop_zero, ← List.append_assoc, ← rest1_next hk]; exact h
theorem cut_21 (hk : bN ts ts.length (k2 : Int) (k : Int) ≤ k3) (h : Cut2 n ts s k k2 k3 x) : Cut1 n ts s k (k2 + 1) x := by
  unfold Cut2 at h
  rw [List.drop_eq_nil_of_le (by rw [← sel_is, t_0]; exact hk), List.nil_append] at h; exact h
theorem cut_10 (hk : n ≤ k2) (h : Cut1 n ts s k k2 x) : Cut0 n ts s (k + 1) x := by
  unfold Cut1 at h; rw [rest1_end hk, List.nil_append] at h; exact h
theorem cut_end (hk : n ≤ k) (h : Cut0 n ts s k x) : h_6 (g_2 n ts) s = (x, false) := by
  unfold Cut0 at h; rw [rest0_end hk] at h; exact h.symm
theorem cut_go (hk : k3 < bN ts ts.length (k2 : Int) (k : Int)) (h : Cut2 n ts s k k2 k3 x) : ((y_5 ts (k2 : Int) (k : Int)).drop (k3 + 1) ++ (rest1 n ts k (k2 + 1) ++ rest0 n ts (k + 1))).foldl goS (goS (x, false) ((selT ts (selU ts ts.length (k2 : Int) (k : Int))).getD k3 tab0)) = h_6 (g_2 n ts) s := by
  unfold Cut2 at h
  have hl : k3 < (y_5 ts (k2 : Int) (k : Int)).length := by rw [← sel_is, t_0]; exact hk
  rw [List.drop_eq_getElem_cons hl, List.cons_append, List.foldl_cons] at h
  rw [sel_is, show (y_5 ts (k2 : Int) (k : Int)).getD k3 tab0 = (y_5 ts (k2 : Int) (k : Int))[k3] by simp [List.getD, List.getElem?_eq_getElem hl]]
  exact h
theorem cut_brk (hk : k3 < bN ts ts.length (k2 : Int) (k : Int)) (h : Cut2 n ts s k k2 k3 x) (he : (at' x k).2 < (at' x k).1) : h_6 (g_2 n ts) s = (x, true) := by
  have h1 := cut_go hk h
  have hd := (w_9 hk).2.1
  have : goS (x, false) ((selT ts (selU ts ts.length (k2 : Int) (k : Int))).getD k3 tab0) = (x, true) := by
    unfold goS; rw [hd, Int.toNat_natCast, if_neg (show ¬ false = true by decide), if_pos he]
  rw [this, go_stop] at h1
  exact h1.symm
theorem cut_y (hk : k3 < bN ts ts.length (k2 : Int) (k : Int)) (h : Cut2 n ts s k k2 k3 x) (he : ¬ (at' x k).2 < (at' x k).1) (hc : r_7 ((selT ts (selU ts ts.length (k2 : Int) (k : Int))).getD k3 tab0) (at' x k2) = true) :
    Cut2 n ts s k k2 (k3 + 1) (x.set k (cutR (at' x k) (l_8 ((selT ts (selU ts ts.length (k2 : Int) (k : Int))).getD k3 tab0) (at' x k2)))) := by
  have h1 := cut_go hk h
  have hd := w_9 hk
  unfold Cut2
  rw [← h1]
  congr 1
  unfold goS w_0
  rw [hd.2.1, hd.1, Int.toNat_natCast, Int.toNat_natCast, if_neg (show ¬ false = true by decide), if_neg he, if_pos hc]
theorem cut_n (hk : k3 < bN ts ts.length (k2 : Int) (k : Int)) (h : Cut2 n ts s k k2 k3 x) (he : ¬ (at' x k).2 < (at' x k).1) (hc : r_7 ((selT ts (selU ts ts.length (k2 : Int) (k : Int))).getD k3 tab0) (at' x k2) = false) :
    Cut2 n ts s k k2 (k3 + 1) x := by
  have h1 := cut_go hk h
  have hd := w_9 hk
  unfold Cut2
  rw [← h1]
  congr 1
  unfold goS w_0
  rw [hd.2.1, hd.1, Int.toNat_natCast, Int.toNat_natCast, if_neg (show ¬ false = true by decide), if_neg he, if_neg (by rw [hc]; decide)]
end
theorem full_any {n : Nat} {s : h_2} (h : n ≤ s.length) : (!(List.range (s.take n).length).any fun i => decide (((s.take n).getD i (0, 0)).2 < ((s.take n).getD i (0, 0)).1)) = ac_4 n s := by
  rw [List.length_take, Nat.min_eq_left h, Bool.eq_iff_iff, Bool.not_eq_true', List.any_eq_false, s_5]
  have at'' : ∀ i, i < n → (s.take n).getD i (0, 0) = at' s i := fun i hi => by
    unfold at'; simp [List.getD, List.getElem?_take, hi]
  constructor
  · intro h1 i hi
    have := h1 i (List.mem_range.2 hi)
    rw [at'' i hi, decide_eq_true_eq] at this
    omega
  · intro h1 i hi
    have hi := List.mem_range.1 hi
    have := h1 i hi
    rw [at'' i hi, decide_eq_true_eq]
    omega
end Go.Hard

namespace Go.Proofs.Ytohgladndklciaa
open Go.RowKit Go.Shelf Go.Eng Go.Hard
theorem fd_98_0 : fldK Try.prog 98 0 = some 0 := by kernel_rfl
theorem fd_98_1 : fldK Try.prog 98 1 = some 1 := by kernel_rfl
theorem en_83 : ∀ args w, (callFunc 83 args).run Try.prog w = .ok (.enter 83 args) w := enters_of Try.func83 (by kernel_rfl) rfl
theorem en_84 : ∀ args w, (callFunc 84 args).run Try.prog w = .ok (.enter 84 args) w := enters_of Try.func84 (by kernel_rfl) rfl
theorem en_85 : ∀ args w, (callFunc 85 args).run Try.prog w = .ok (.enter 85 args) w := enters_of Try.func85 (by kernel_rfl) rfl
theorem en_86 : ∀ args w, (callFunc 86 args).run Try.prog w = .ok (.enter 86 args) w := enters_of Try.func86 (by kernel_rfl) rfl
theorem right_ok (b : h_0) (vt vm : Value) (lr lb lk : Nat → Value) (w : World) (hT : j_6 w vt lr lb b.tabs) (hM : k_4 w vm lk b.macs) (hth : o_0 b) (X Z : Int) (Y : Nat) (g2 : (blk Y 37 [.int .i64 b.scales, vt, vm]).p w) :
  Calls Try.prog 83 #[(Value.agg #[(Value.int .i64 X), (Value.int .i64 Z)]), (bptr Y 0)] w (Ret fun v w' => v = .bool (u_9 b (X, Z)) ∧ Ext NoB w w') := by
 refine a_8 Try.func83 rfl fun f E => ?_
 replace E : Fr 16 [] [(0, (Value.agg #[(Value.int .i64 X), (Value.int .i64 Z)])), (1, (bptr Y 0))] f := E
 have hml9 := hth.ml
 have d : Sep NoB w w [(rob Y 37 [(Value.int .i64 b.scales), vt, vm]), (c_9 false vt lr lb b.tabs), (d_2 false vm lk b.macs)] := f_0 ⟨rfl, g2, rfl, hT, rfl, hM, trivial⟩
 refine m2 ?_
 refine s2 E (f_3 d rfl (E.ev rfl) (cs := [(Value.int .i64 X), (Value.int .i64 Z)]) rfl) ?_
 rintro x _ w3 ⟨b4, rfl, B⟩ c; clear E d f
 refine s1 c (a_1 rfl (evc _ _)) fun y U => ?_; clear c x
 refine n4 ?_
 refine s1 U (a_4 rfl fd_98_0 (U.ev rfl)) fun z V => ?_; clear U y
 refine s1 V (a_3 rfl ty_3 (V.ev rfl) (B.bk 0 rfl) rfl) fun g F => ?_; clear V z
 refine s1 F (a_4 rfl v_6 (F.ev rfl)) fun h G => ?_; clear F g
 refine s1 G (a_3 rfl ty_35 (G.ev rfl) (B.rk 1 rfl) rfl) fun i H => ?_; clear G h
 refine s1 H (c_0 rfl ac_8 (H.ev rfl) (b_8 (B.ok 3 _ rfl)).macs) fun j I => ?_; clear H i
 refine s1 I (g_1 rfl (I.ev rfl) (evc _ _) (by omega) (by omega)) fun k C => ?_; clear I j
 refine s2 C (a_6 rfl en_47 (ev3 (C.ev rfl) (evc _ _) (C.ev rfl)) (n_9 _ _ _ _)) ?_
 rintro l _ W_ ⟨rfl, hW_⟩ J; have hW2_ := hW_.symm; subst hW2_; clear hW_ C k
 refine s1 J (a_0 rfl (J.ev rfl)) fun a A => ?_; clear J l
 rcases Bool.eq_false_or_eq_true ((inB X 0 ((b.macs.length : Int) - 1))) with P | P
 ·skip
  rw [P] at A
  refine s5 A (a_4 rfl fd_98_1 (A.ev rfl)) fun m K => ?_; clear A a
  refine s5 K (a_3 rfl ty_3 (K.ev rfl) (B.bk 0 rfl) rfl) fun n L => ?_; clear K m
  refine s6 L (a_6 rfl en_70 (ev1 (L.ev rfl)) (value_ok _ _)) ?_
  rintro o _ AD ⟨rfl, W⟩ D; have e := B.step W; clear W L B n
  refine s1 D (b_3 rfl (D.ev rfl) (D.ev rfl)) fun q M => ?_; clear D o
  refine s1 M (a_1 rfl (M.ev rfl)) fun AB Q => ?_; clear M q
  refine n1 ?_
  refine c_8 ?_
  refine a_9 Q (.inl rfl) (a_2 Q rfl (.tmp rfl)) ?_
  exact ⟨congrArg Value.bool (by unfold u_9; simp [*]), e.ext⟩
 skip
 rw [P] at A
 refine s3 A fun r R => ?_; clear A a
 refine s3 R fun s S => ?_; clear R r
 refine s3 S fun t N => ?_; clear S s
 refine s1 N (c_2 rfl (N.ev rfl) (evc _ _)) fun u O => ?_; clear N t
 refine s1 O (a_1 rfl (O.ev rfl)) fun AC T => ?_; clear O u
 refine n1 ?_
 refine c_8 ?_
 refine a_9 T (.inl rfl) (a_2 T rfl (.tmp rfl)) ?_
 exact ⟨congrArg Value.bool (by unfold u_9; simp [*]), B.ext⟩
theorem notoff_ok (b : h_0) (vt vm : Value) (lr lb lk : Nat → Value) (w : World) (hT : j_6 w vt lr lb b.tabs) (hM : k_4 w vm lk b.macs) (hth : o_0 b) (C V : Int) (R : Nat) (k : (blk R 37 [.int .i64 b.scales, vt, vm]).p w) (hb : l_3 b) (hx : 0 ≤ C ∧ C ≤ (b.macs.length : Int) - 1) :
  Calls Try.prog 85 #[(Value.agg #[(Value.int .i64 C), (Value.int .i64 V)]), (bptr R 0)] w (Ret fun v w' => v = .bool (!offB (b.macs.getD C.toNat mac0)) ∧ Ext NoB w w') := by
 refine a_8 Try.func85 rfl fun W D => ?_
 replace D : Fr 13 [] [(0, (Value.agg #[(Value.int .i64 C), (Value.int .i64 V)])), (1, (bptr R 0))] W := D
 have hml9 := hth.ml
 have T : Sep NoB w w [(rob R 37 [(Value.int .i64 b.scales), vt, vm]), (c_9 false vt lr lb b.tabs), (d_2 false vm lk b.macs)] := f_0 ⟨rfl, k, rfl, hT, rfl, hM, trivial⟩
 refine m2 ?_
 refine s2 D (f_3 T rfl (D.ev rfl) (cs := [(Value.int .i64 C), (Value.int .i64 V)]) rfl) ?_
 rintro g _ q ⟨o, rfl, A⟩ S; clear D T W
 refine s1 S (a_1 rfl (evc _ _)) fun h M => ?_; clear S g
 refine n4 ?_
 refine s1 M (a_4 rfl v_6 (M.ev rfl)) fun j N => ?_; clear M h
 refine s1 N (a_3 rfl ty_35 (N.ev rfl) (A.rk 1 rfl) rfl) fun X E => ?_; clear N j
 refine s1 E (a_4 rfl fd_98_0 (E.ev rfl)) fun Y F => ?_; clear E X
 refine s1 F (a_3 rfl ty_3 (F.ev rfl) (A.bk 0 rfl) rfl) fun Z B => ?_; clear F Y
 refine s1 B (b_2 rfl ac_8 u_7 (B.ev rfl) (i := C.toNat) ((B.ev rfl).trans (k_3 (by omega))) (b_8 (A.ok 3 _ rfl)).macs (by decide) (by omega)) fun a G => ?_; clear B Z
 refine s1 G (f_2 rfl u_7 (G.ev rfl) (b_8 (A.ok 3 _ rfl)).macs (x_7 (by omega)) rfl (by decide)) fun c H => ?_; clear G a
 refine s2 H (a_6 rfl en_67 (ev1 (H.ev rfl)) (bias_ok _ (b.macs.getD C.toNat mac0) _ _ ((b_8 (A.ok 3 _ rfl)).blk (i := C.toNat) (by omega)) (hb.mac (by omega)) (hth.kl _))) ?_
 rintro d _ m ⟨rfl, O⟩ I; have Q := A.step O; clear O H A c
 refine s2 I (a_6 rfl en_68 (ev1 (I.ev rfl)) (empty_ok _ _ _)) ?_
 rintro e _ n ⟨rfl, P⟩ J; have U := Q.step P; clear P I Q d
 refine s1 J (f_4 rfl (J.ev rfl)) fun f K => ?_; clear J e
 refine s1 K (a_1 rfl (K.ev rfl)) fun l L => ?_; clear K f
 refine n1 ?_
 refine c_8 ?_
 refine a_9 L (.inl rfl) (a_2 L rfl (.tmp rfl)) ?_
 exact ⟨rfl, U.ext⟩
theorem read_yes (b : h_0) (vt vm : Value) (lr lb lk : Nat → Value) (w : World) (hT : j_6 w vt lr lb b.tabs) (hM : k_4 w vm lk b.macs) (hth : o_0 b) (l : List (Int × Int)) (xl : Value) (hxl : SlAt w xl 2 l.length (pairs l)) (hlb : l.length ≤ 1000000) (he : g_0 b = 0) (hr : n_5 b l = 0) :
  Calls Try.prog 56 #[(Value.agg #[(Value.int .i64 b.scales), vt, vm]), xl] w (Ret fun v w' => ∃ bx bm es ck, v = .tuple #[bptr bx 0, .int .i64 0] ∧ p_3 bm es ck (bN b.tabs b.tabs.length) ∧ Sep NoB w w' [blk bx 146 [.int .i64 b.scales, vt, vm, .map (some bm)], (mapX true bm es ck es.size 106 5 (bN b.tabs b.tabs.length) (bC lr lb b.tabs b.tabs.length))]) := by
 refine a_8 Try.func56 rfl fun a0 J => ?_
 replace J : Fr 30 [] [(0, (Value.agg #[(Value.int .i64 b.scales), vt, vm])), (1, xl)] a0 := J
 have AK : Sep NoB w w [(c_9 false vt lr lb b.tabs), (d_2 false vm lk b.macs), (sl xl 2 l.length (pairs l))] := f_0 ⟨rfl, hT, rfl, hM, rfl, hxl, trivial⟩
 refine m2 ?_
 refine s2 J (f_3 AK rfl (J.ev rfl) (cs := [(Value.int .i64 b.scales), vt, vm]) rfl) ?_
 rintro a1 _ w3 ⟨L, rfl, K⟩ AI; clear J AK a0
 refine s1 AI (a_1 rfl (evc _ _)) fun a6 AJ => ?_; clear AI a1
 refine s1 AJ (a_1 rfl (evc _ _)) fun a8 s => ?_; clear AJ a6
 refine n2 ?_
 refine m2 ?_
 refine s1 s (c_4 rfl y_4 (s.ev rfl) (K.bk 0 rfl) (l := [(Value.int .i64 b.scales), vt, vm]) rfl rfl) fun AO M => ?_; clear s a8
 refine s2 M (a_6 rfl en_32 (ev1 (M.ev rfl)) (check_book b vt vm lr lb lk _ (b_6 (K.ok 1 _ rfl)) (b_8 (K.ok 2 _ rfl)) hth)) ?_
 rintro AP _ At ⟨rfl, AA⟩ N; have D := K.step AA; clear AA M K AO
 refine s1 N (a_1 rfl (N.ev rfl)) fun AQ O => ?_; clear N AP
 refine n4 ?_
 refine s1 O (a_0 rfl (O.ev rfl)) fun AR P => ?_; clear O AQ
 refine s1 P (y_6 rfl (P.ev rfl) (evc _ _)) fun AS G => ?_; clear P AR
 have AM : (g_0 b) = 0 := he
 rw [decide_eq_true AM] at G
 refine n1 ?_
 refine b_5 G rfl ?_
 refine d_1 ?_
 refine b_0 ?_
 refine b_7 ?_
 have Q := G.as [(2, (bptr L 0)), (1, xl)] rfl; clear G
 refine a_5 ?_
 refine s1 Q (i_0 rfl ev0 (ev1 (Q.ev rfl))) fun AT R => ?_; clear Q AS
 refine s1 R (a_1 rfl (R.ev rfl)) fun AU S => ?_; clear R AT
 refine n2 ?_
 refine d_0 ?_
 refine m2 ?_
 refine s1 S (a_0 rfl (S.ev rfl)) fun AV T => ?_; clear S AU
 refine s1 T (c_0 rfl p_0 (T.ev rfl) (D.sk 3 rfl)) fun AW U => ?_; clear T AV
 refine s1 U (g_9 rfl (U.ev rfl) (evc _ _)) fun AX V => ?_; clear U AW
 refine s1 V (a_1 rfl (V.ev rfl)) fun AF A => ?_; clear V AX
 refine n1 ?_
 by_cases AE : 8 < (l.length : Int)
 ·skip
  rw [decide_eq_true AE] at A
  refine c_6 A rfl ?_
  refine b_7 ?_
  have m := A.as [] rfl; clear A
  refine a_5 ?_
  refine s1 m (a_1 rfl (evc _ _)) fun AY n => ?_; clear m AF
  refine s1 n (a_1 rfl (evc _ _)) fun Ap o => ?_; clear n AY
  refine n1 ?_
  refine c_8 ?_
  refine d_3 ?_
  refine a_7 ?_
  refine a_9 o (.inl rfl) (e_3 o rfl (.tmp rfl) (.tmp rfl)) ?_
  exact absurd (hr.symm.trans (read_3 he (by omega))) (by decide)
 skip
 rw [decide_eq_false AE] at A
 refine b_5 A rfl ?_
 refine m2 ?_
 refine s1 A (a_0 rfl (A.ev rfl)) fun AZ X => ?_; clear A AF
 refine s1 X (a_0 rfl (X.ev rfl)) fun Aa H => ?_; clear X AZ
 refine s2 H (a_6 rfl en_84 (ev2 (H.ev rfl) (H.ev rfl)) (all_read l _ 83 #[] #[(bptr L 0)] (fun i => u_9 b (l.getD i (0, 0))) _ (D.sk 3 rfl) (by omega) ⟨en_83, fun i hi W hW => right_ok b vt vm lr lb lk W (b_6 ((D.step hW).ok 1 _ rfl)) (b_8 ((D.step hW).ok 2 _ rfl)) hth _ _ L ((D.step hW).bk 0 rfl)⟩)) ?_
 rintro Ab _ Au ⟨rfl, AB⟩ Y; have E := D.step AB; clear AB H D Aa
 refine s1 Y (f_4 rfl (Y.ev rfl)) fun Ac Z => ?_; clear Y Ab
 refine s1 Z (a_1 rfl (Z.ev rfl)) fun AG B => ?_; clear Z Ac
 refine n1 ?_
 rcases Bool.eq_false_or_eq_true (((List.range l.length).all (fun i => u_9 b (l.getD i (0, 0))))) with j | j
 ·skip
  rw [j] at B
  refine b_5 B rfl ?_
  refine b_7 ?_
  have a := B.as [(2, (bptr L 0)), (1, xl)] rfl; clear B
  refine a_5 ?_
  refine s1 a (a_0 rfl (a.ev rfl)) fun Ad c => ?_; clear a AG
  refine s1 c (i_0 rfl ev0 (ev1 (c.ev rfl))) fun Ae I => ?_; clear c Ad
  refine s2 I (a_6 rfl en_84 (ev2 (I.ev rfl) (I.ev rfl)) (all_read l _ 85 #[] #[(bptr L 0)] (fun i => !offB (b.macs.getD (l.getD i (0, 0)).1.toNat mac0)) _ (E.sk 3 rfl) (by omega) ⟨en_85, fun i hi W hW => notoff_ok b vt vm lr lb lk W (b_6 ((E.step hW).ok 1 _ rfl)) (b_8 ((E.step hW).ok 2 _ rfl)) hth _ _ L ((E.step hW).bk 0 rfl) (x_5 he) (readB_is (i_4.1 (show allI l.length (fun i => u_9 b (l.getD i (0, 0))) = true from (by assumption)) i hi)).1⟩)) ?_
  rintro Af _ Av ⟨rfl, AC⟩ d; have F := E.step AC; clear AC I E Ae
  refine s1 d (f_4 rfl (d.ev rfl)) fun Ag e => ?_; clear d Af
  refine s1 e (a_1 rfl (e.ev rfl)) fun AH C => ?_; clear e Ag
  refine n1 ?_
  rcases Bool.eq_false_or_eq_true (((List.range l.length).all (fun i => !offB (b.macs.getD (l.getD i (0, 0)).1.toNat mac0)))) with k | k
  ·skip
   rw [k] at C
   refine b_5 C rfl ?_
   refine d_1 ?_
   refine g_8 ?_
   refine b_0 ?_
   refine b_7 ?_
   have f := C.as [(2, (bptr L 0))] rfl; clear C
   refine a_5 ?_
   refine s1 f (c_4 rfl y_4 (f.ev rfl) (F.bk 0 rfl) (l := [(Value.int .i64 b.scales), vt, vm]) rfl rfl) fun Ah g => ?_; clear f AH
   refine s2 g (a_6 rfl en_86 (ev1 (g.ev rfl)) (bench_ok b vt vm lr lb lk _ (b_6 (F.ok 1 _ rfl)) (b_8 (F.ok 2 _ rfl)) hth)) ?_
   rintro Ai _ Aw ⟨bx80, bm81, es82, ck83, rfl, hMO84, AD⟩ h; have AL := F.l_5 AD rfl; clear AD g F Ah
   refine s1 h (a_1 rfl (h.ev rfl)) fun Aj p => ?_; clear h Ai
   refine s1 p (a_1 rfl (evc _ _)) fun Aq q => ?_; clear p Aj
   refine n1 ?_
   refine c_8 ?_
   refine a_9 q (.inl rfl) (e_3 q rfl (.tmp rfl) (.tmp rfl)) ?_
   exact ⟨_, bm81, es82, ck83, rfl, hMO84, AL.keep [0, 1] (by decide) _ rfl rfl⟩
  skip
  rw [k] at C
  refine c_6 C rfl ?_
  refine b_7 ?_
  have r := C.as [] rfl; clear C
  refine a_5 ?_
  refine s1 r (a_1 rfl (evc _ _)) fun Ak t => ?_; clear r AH
  refine s1 t (a_1 rfl (evc _ _)) fun Ar u => ?_; clear t Ak
  refine n1 ?_
  refine c_8 ?_
  refine d_3 ?_
  refine a_7 ?_
  refine a_9 u (.inl rfl) (e_3 u rfl (.tmp rfl) (.tmp rfl)) ?_
  exact absurd (hr.symm.trans (read_11' he (by omega) (by assumption) (by assumption))) (by decide)
 skip
 rw [j] at B
 refine c_6 B rfl ?_
 refine b_7 ?_
 have x := B.as [] rfl; clear B
 refine a_5 ?_
 refine s1 x (a_1 rfl (evc _ _)) fun Al y => ?_; clear x AG
 refine s1 y (a_1 rfl (evc _ _)) fun As z => ?_; clear y Al
 refine n1 ?_
 refine c_8 ?_
 refine d_3 ?_
 refine a_7 ?_
 refine a_9 z (.inl rfl) (e_3 z rfl (.tmp rfl) (.tmp rfl)) ?_
 exact absurd (hr.symm.trans (read_2' he (by omega) (by assumption))) (by decide)
end Go.Proofs.Ytohgladndklciaa

namespace Go.Proofs.Ytohgladndklciaa
open Go.RowKit Go.Shelf Go.Eng Go.Hard
theorem ze_120 : (Try.prog.info? 120).bind (·.zero) = some (Value.agg #[(Value.int .i64 0), (Value.int .i64 0), (Value.int .i64 0), (Value.int .i64 0), (Value.int .i64 0), (Value.int .i64 0), (Value.int .i64 0), (Value.int .i64 0)]) := by kernel_rfl
theorem fd_146_0 : fldK Try.prog 146 0 = some 0 := by kernel_rfl
theorem y_7 : Try.prog.underlying 120 = some (.array 4 30) := by kernel_rfl
theorem l_4 : tyK Try.prog 120 = some (true, 8) := by kernel_rfl
theorem en_108 : ∀ args w, (callFunc 108 args).run Try.prog w = .ok (.enter 108 args) w := enters_of Try.func108 (by kernel_rfl) rfl
set_option maxHeartbeats 4000000 in
theorem cutb_ok (b : h_0) (vt vm : Value) (lr lb lk : Nat → Value) (w : World) (hT : j_6 w vt lr lb b.tabs) (hM : k_4 w vm lk b.macs) (hth : o_0 b) (bx bm : Nat) (es : Array MapEntry) (ck : Nat) (hMO : p_3 bm es ck (bN b.tabs b.tabs.length)) (hbx : (blk bx 146 [.int .i64 b.scales, vt, vm, .map (some bm)]).p w) (hmx : (mapX false bm es ck es.size 106 5 (bN b.tabs b.tabs.length) (bC lr lb b.tabs b.tabs.length)).p w) (hb : l_3 b) (s : List (Int × Int)) (hs : s.length = 4) :
  Calls Try.prog 88 #[(bptr bx 0), (Value.agg (pairs s).toArray)] w (Ret fun v w' => v = .tuple #[.agg (pairs (h_6 (g_2 b.scales.toNat b.tabs) s).1).toArray, .bool (ac_4 b.scales.toNat (h_6 (g_2 b.scales.toNat b.tabs) s).1)] ∧ Ext NoB w w') := by
 refine a_8 Try.func88 rfl fun a0 AZ => ?_
 replace AZ : Fr 71 [] [(0, (bptr bx 0)), (1, (Value.agg (pairs s).toArray))] a0 := AZ
 have hsc := hb.scales; have htl9 := hth.tl
 have By : Sep NoB w w [(rob bx 146 [(Value.int .i64 b.scales), vt, vm, (Value.map (some bm))]), (mapX false bm es ck es.size 106 5 (bN b.tabs b.tabs.length) (bC lr lb b.tabs b.tabs.length)), (c_9 false vt lr lb b.tabs), (d_2 false vm lk b.macs)] := f_0 ⟨rfl, hbx, rfl, hmx, rfl, hT, rfl, hM, trivial⟩
 refine m2 ?_
 refine s2 AZ (f_3 By rfl (AZ.ev rfl) (cs := (pairs s)) rfl) ?_
 rintro a1 _ w3 ⟨L, rfl, Bz⟩ Bw; clear AZ By a0
 refine s2 Bw (e_4 Bz rfl ze_120 (cs := (pairs ([(0, 0), (0, 0), (0, 0), (0, 0)]))) rfl) ?_
 rintro a6 _ w8 ⟨Q, rfl, Av⟩ Bx; clear Bw Bz a1
 refine s1 Bx (a_1 rfl (evc _ _)) fun CO Ab => ?_; clear Bx a6
 refine n1 ?_
 refine c_scope ?_
 refine b_7 ?_
 refine c_label ?_
 refine b_0 ?_
 refine b_7 ?_
 refine m2 ?_
 refine s1 Ab (a_0 rfl (Ab.ev rfl)) fun CP Ac => ?_; clear Ab CO
 refine s1 Ac (o_2 rfl (Ac.ev rfl)) fun CQ Ad => ?_; clear Ac CP
 refine s1 Ad (a_4 rfl fd_146_0 (Ad.ev rfl)) fun CR Ae => ?_; clear Ad CQ
 refine s1 Ae (a_4 rfl fd_37_0 (Ae.ev rfl)) fun CS Af => ?_; clear Ae CR
 refine s1 Af (a_3 rfl ty_3 (Af.ev rfl) (Av.rk 2 rfl) rfl) fun CT BZ => ?_; clear Af CS
 refine s1 BZ (a_0 rfl (evc _ _)) fun CU Ba => ?_; clear BZ CT
 refine n1 ?_
 refine d_0 ?_
 have Bb := Ba.as [(15, (Value.int .i64 0)), (14, (Value.int .i64 b.scales)), (4, (bptr Q 0)), (3, (bptr L 0)), (0, (bptr bx 0))] rfl; clear Ba
 refine h_3 (G := Nat) (fun (k : Nat) a_ w_ => ∃ D : List (Int × Int), Fr 71 [] [(15, (Value.int .i64 (k : Int))), (14, (Value.int .i64 b.scales)), (4, (bptr Q 0)), (3, (bptr L 0)), (0, (bptr bx 0))] a_ ∧ Sep NoB w w_ [(blk Q 120 (pairs ([(0, 0), (0, 0), (0, 0), (0, 0)]))), (blk L 120 (pairs D)), (rob bx 146 [(Value.int .i64 b.scales), vt, vm, (Value.map (some bm))]), (mapX false bm es ck es.size 106 5 (bN b.tabs b.tabs.length) (bC lr lb b.tabs b.tabs.length)), (c_9 false vt lr lb b.tabs), (d_2 false vm lk b.macs)] ∧ (k ≤ b.scales.toNat) ∧ (D.length = 4) ∧ (Cut0 b.scales.toNat b.tabs s k D)) (fun k => b.scales.toNat - k) 0 ⟨s, Bb.as _ rfl, Av, by omega, hs, cut_00⟩ ?_
 clear Bb Av CU
 rintro k CV DO ⟨D, AL, X, hk, Cw, Bn⟩
 refine m2 ?_
 refine s1 AL (f_9 rfl (AL.ev rfl) (AL.ev rfl)) fun CW R => ?_; clear AL CV
 refine n2 ?_
 by_cases Bk : (k : Int) < b.scales
 ·skip
  rw [decide_eq_true Bk] at R
  refine c_6 R rfl ?_
  refine d_1 ?_
  refine b_0 ?_
  refine b_7 ?_
  refine d_0 ?_
  refine m2 ?_
  refine s1 R (a_0 rfl (R.ev rfl)) fun CX Ag => ?_; clear R CW
  refine s1 Ag (a_1 rfl (Ag.ev rfl)) fun CY Ah => ?_; clear Ag CX
  refine n4 ?_
  refine s1 Ah (a_0 rfl (Ah.ev rfl)) fun CZ Ai => ?_; clear Ah CY
  refine s1 Ai (o_2 rfl (Ai.ev rfl)) fun Ca Aj => ?_; clear Ai CZ
  refine s1 Aj (a_4 rfl fd_146_0 (Aj.ev rfl)) fun Cb Ak => ?_; clear Aj Ca
  refine s1 Ak (a_4 rfl fd_37_0 (Ak.ev rfl)) fun Cc Al => ?_; clear Ak Cb
  refine s1 Al (a_3 rfl ty_3 (Al.ev rfl) (X.rk 2 rfl) rfl) fun Cd Bc => ?_; clear Al Cc
  refine s1 Bc (a_0 rfl (evc _ _)) fun Ce Bd => ?_; clear Bc Cd
  refine n1 ?_
  refine d_0 ?_
  have Be := Bd.as [(23, (Value.int .i64 0)), (22, (Value.int .i64 b.scales)), (6, (Value.int .i64 (k : Int))), (15, (Value.int .i64 (k : Int))), (14, (Value.int .i64 b.scales)), (4, (bptr Q 0)), (3, (bptr L 0)), (0, (bptr bx 0))] rfl; clear Bd
  refine h_3 (G := Nat) (fun (A : Nat) a_ w_ => ∃ x1 : List (Int × Int), Fr 71 [] [(23, (Value.int .i64 (A : Int))), (22, (Value.int .i64 b.scales)), (6, (Value.int .i64 (k : Int))), (15, (Value.int .i64 (k : Int))), (14, (Value.int .i64 b.scales)), (4, (bptr Q 0)), (3, (bptr L 0)), (0, (bptr bx 0))] a_ ∧ Sep NoB w w_ [(blk Q 120 (pairs ([(0, 0), (0, 0), (0, 0), (0, 0)]))), (blk L 120 (pairs x1)), (rob bx 146 [(Value.int .i64 b.scales), vt, vm, (Value.map (some bm))]), (mapX false bm es ck es.size 106 5 (bN b.tabs b.tabs.length) (bC lr lb b.tabs b.tabs.length)), (c_9 false vt lr lb b.tabs), (d_2 false vm lk b.macs)] ∧ (A ≤ b.scales.toNat) ∧ (x1.length = 4) ∧ (Cut1 b.scales.toNat b.tabs s k A x1)) (fun A => b.scales.toNat - A) 0 ⟨D, Be.as _ rfl, X, by omega, Cw, (cut_01 (by omega) Bn)⟩ ?_
  clear Be X Ce
  rintro A Cf DP ⟨x1, AM, T, DM, B1, B0⟩
  refine m2 ?_
  refine s1 AM (f_9 rfl (AM.ev rfl) (AM.ev rfl)) fun Bu P => ?_; clear AM Cf
  refine n2 ?_
  by_cases Bl : (A : Int) < b.scales
  ·skip
   rw [decide_eq_true Bl] at P
   refine c_6 P rfl ?_
   refine d_1 ?_
   refine b_0 ?_
   refine b_7 ?_
   refine d_0 ?_
   refine m2 ?_
   refine s1 P (a_0 rfl (P.ev rfl)) fun Cg Am => ?_; clear P Bu
   refine s1 Am (a_1 rfl (Am.ev rfl)) fun Ch An => ?_; clear Am Cg
   refine n4 ?_
   refine s1 An (a_0 rfl (An.ev rfl)) fun Ci Ao => ?_; clear An Ch
   refine s1 Ao (o_2 rfl (Ao.ev rfl)) fun Cj Ap => ?_; clear Ao Ci
   refine s1 Ap (a_4 rfl fd_146_1 (Ap.ev rfl)) fun Ck Aq => ?_; clear Ap Cj
   refine s1 Aq (a_3 rfl ty_144 (Aq.ev rfl) (T.rk 2 rfl) rfl) fun Cl Ar => ?_; clear Aq Ck
   refine s1 Ar (a_0 rfl (Ar.ev rfl)) fun Cm As => ?_; clear Ar Cl
   refine s1 As (a_0 rfl (As.ev rfl)) fun Cn AN => ?_; clear As Cm
   refine s1 AN (e_7 rfl (pv2 (AN.ev rfl) (AN.ev rfl)) (bd_162_0i_1i _ _)) fun Co AO => ?_; clear AN Cn
   refine s2 AO (op_lookupF T rfl un_144 pair_162 zs_34 (AO.ev rfl) (AO.ev rfl) (ix := 3) rfl hMO (fun _ _ => bC_zero)) ?_
   rintro Cp u W_ ⟨hW_, hu⟩ At; have hW2_ := hW_.symm; subst hW2_; clear hW_ AO Co
   have hsl : (selT b.tabs (selU b.tabs b.tabs.length (A : Int) (k : Int))).length = bN b.tabs b.tabs.length (A : Int) (k : Int) := t_0 _ _; have hbn := bN_le b.tabs b.tabs.length (A : Int) (k : Int)
   refine s1 At (c_0 rfl aa_9 (At.ev rfl) (t_1 (b_6 (T.ok 4 _ rfl)) (fun q_ h_ => y_1 h_) (hu _ (T.ok 3 _ rfl))).tabs) fun Cq Bf => ?_; clear At Cp
   refine s1 Bf (a_0 rfl (evc _ _)) fun Cr Bg => ?_; clear Bf Cq
   refine n1 ?_
   refine d_0 ?_
   have Bh := Bg.as [(35, (Value.int .i64 0)), (34, (Value.int .i64 ((selT b.tabs (selU b.tabs b.tabs.length (A : Int) (k : Int))).length : Int))), (33, u), (7, (Value.int .i64 (A : Int))), (23, (Value.int .i64 (A : Int))), (22, (Value.int .i64 b.scales)), (6, (Value.int .i64 (k : Int))), (15, (Value.int .i64 (k : Int))), (14, (Value.int .i64 b.scales)), (4, (bptr Q 0)), (3, (bptr L 0)), (0, (bptr bx 0))] rfl; clear Bg
   refine h_3 (G := Nat) (fun (C : Nat) a_ w_ => ∃ B : List (Int × Int), Fr 71 [] [(35, (Value.int .i64 (C : Int))), (34, (Value.int .i64 ((selT b.tabs (selU b.tabs b.tabs.length (A : Int) (k : Int))).length : Int))), (33, u), (7, (Value.int .i64 (A : Int))), (23, (Value.int .i64 (A : Int))), (22, (Value.int .i64 b.scales)), (6, (Value.int .i64 (k : Int))), (15, (Value.int .i64 (k : Int))), (14, (Value.int .i64 b.scales)), (4, (bptr Q 0)), (3, (bptr L 0)), (0, (bptr bx 0))] a_ ∧ Sep NoB w w_ [(blk Q 120 (pairs ([(0, 0), (0, 0), (0, 0), (0, 0)]))), (blk L 120 (pairs B)), (rob bx 146 [(Value.int .i64 b.scales), vt, vm, (Value.map (some bm))]), (mapX false bm es ck es.size 106 5 (bN b.tabs b.tabs.length) (bC lr lb b.tabs b.tabs.length)), (c_9 false vt lr lb b.tabs), (d_2 false vm lk b.macs)] ∧ (C ≤ (selT b.tabs (selU b.tabs b.tabs.length (A : Int) (k : Int))).length) ∧ (B.length = 4) ∧ (Cut2 b.scales.toNat b.tabs s k A C B)) (fun C => (selT b.tabs (selU b.tabs b.tabs.length (A : Int) (k : Int))).length - C) 0 ⟨x1, Bh.as _ rfl, T, by omega, B1, (cut_12 (by omega) B0)⟩ ?_
   clear Bh T Cr
   rintro C Cs DQ ⟨B, AP, U, DN, Aa, o⟩
   refine m2 ?_
   refine s1 AP (f_9 rfl (AP.ev rfl) (AP.ev rfl)) fun Bv N => ?_; clear AP Cs
   refine n2 ?_
   by_cases Bm : (C : Int) < ((selT b.tabs (selU b.tabs b.tabs.length (A : Int) (k : Int))).length : Int)
   ·skip
    rw [decide_eq_true Bm] at N
    refine c_6 N rfl ?_
    refine d_1 ?_
    refine b_0 ?_
    refine b_7 ?_
    refine d_0 ?_
    refine m2 ?_
    refine s1 N (b_2 rfl aa_9 l_7 (N.ev rfl) (i := C) (N.ev rfl) (t_1 (b_6 (U.ok 4 _ rfl)) (fun q_ h_ => y_1 h_) (hu _ (U.ok 3 _ rfl))).tabs (by decide) (by omega)) fun Ct Au => ?_; clear N Bv
    refine s1 Au (f_2 rfl l_7 (Au.ev rfl) (t_1 (b_6 (U.ok 4 _ rfl)) (fun q_ h_ => y_1 h_) (hu _ (U.ok 3 _ rfl))).tabs (y_3 (by omega)) rfl (by decide)) fun Cu Bi => ?_; clear Au Ct
    refine s2 Bi (e_4 U rfl ze_106 (cs := [(Value.int .i64 0), (Value.int .i64 0), (Value.slice none 0 0), (Value.slice none 0 0), (Value.int .i64 0)]) rfl) ?_
    rintro Cv _ DR ⟨q, rfl, Y⟩ AQ; clear Bi U Cu
    refine s7 AQ (c_5 Y rfl l_7 (AQ.ev rfl) (AQ.ev rfl) (i := 0) rfl (vs := [(Value.int .i64 (((selT b.tabs (selU b.tabs b.tabs.length (A : Int) (k : Int))).getD C tab0).frm)), (Value.int .i64 (((selT b.tabs (selU b.tabs b.tabs.length (A : Int) (k : Int))).getD C tab0).dst)), ((selV lr (selU b.tabs b.tabs.length (A : Int) (k : Int))) C), ((selV lb (selU b.tabs b.tabs.length (A : Int) (k : Int))) C), (Value.int .i64 (((selT b.tabs (selU b.tabs b.tabs.length (A : Int) (k : Int))).getD C tab0).err))]) rfl rfl (j_3 rfl (j_3 rfl (j_3 (SlAt.one ((t_1 (b_6 (Y.ok 5 _ rfl)) (fun q_ h_ => y_1 h_) (hu _ (Y.ok 4 _ rfl))).row (i := C) (by omega))) (j_3 (SlAt.one ((t_1 (b_6 (Y.ok 5 _ rfl)) (fun q_ h_ => y_1 h_) (hu _ (Y.ok 4 _ rfl))).brk (i := C) (by omega))) (j_3 rfl x_2))))) (Nat.le_of_ble_eq_true rfl)) ?_
    intro _ Cx Bj r; clear AQ
    have AT : Sep NoB w Cx [(blk q 106 [(Value.int .i64 (((selT b.tabs (selU b.tabs b.tabs.length (A : Int) (k : Int))).getD C tab0).frm)), (Value.int .i64 (((selT b.tabs (selU b.tabs b.tabs.length (A : Int) (k : Int))).getD C tab0).dst)), ((selV lr (selU b.tabs b.tabs.length (A : Int) (k : Int))) C), ((selV lb (selU b.tabs b.tabs.length (A : Int) (k : Int))) C), (Value.int .i64 (((selT b.tabs (selU b.tabs b.tabs.length (A : Int) (k : Int))).getD C tab0).err))]), (blk Q 120 (pairs ([(0, 0), (0, 0), (0, 0), (0, 0)]))), (blk L 120 (pairs B)), (rob bx 146 [(Value.int .i64 b.scales), vt, vm, (Value.map (some bm))]), (mapX false bm es ck es.size 106 5 (bN b.tabs b.tabs.length) (bC lr lb b.tabs b.tabs.length)), (c_9 false vt lr lb b.tabs), (d_2 false vm lk b.macs)] := Bj; clear Bj Y
    refine n2 ?_
    refine m2 ?_
    refine s1 r (a_0 rfl (r.ev rfl)) fun B2 Z => ?_; clear r Cv
    refine s1 Z (o_8 rfl y_7 g_5 (Z.ev rfl) (i := k) (Z.ev rfl) (by omega)) fun B3 t => ?_; clear Z B2
    refine s1 t (c_4 rfl g_5 (t.ev rfl) (AT.bk 2 rfl) (l := [(Value.int .i64 ((B.getD k (0, 0)).1)), (Value.int .i64 ((B.getD k (0, 0)).2))]) (t_4 (xs := B) (i := k) (by omega)) rfl) fun B4 x => ?_; clear t B3
    refine s2 x (a_6 rfl en_68 (ev1 (x.ev rfl)) (empty_ok _ _ _)) ?_
    rintro Cz _ DD ⟨rfl, BG⟩ O; have V := AT.step BG; clear BG x AT B4
    refine n1 ?_
    by_cases BX : ((B.getD k (0, 0)).2) < ((B.getD k (0, 0)).1)
    ·skip
     rw [decide_eq_true BX] at O
     refine c_6 O rfl ?_
     refine h_1 ?_
     refine b_4 ?_
     refine blk_miss (by decide) ?_
     refine b_4 ?_
     refine b_4 ?_
     refine blk_miss (by decide) ?_
     refine blk_miss (by decide) ?_
     refine b_4 ?_
     refine b_4 ?_
     refine blk_miss (by decide) ?_
     refine blk_miss (by decide) ?_
     refine b_4 ?_
     refine b_4 ?_
     refine f_7 ?_
     refine b_0 ?_
     refine b_7 ?_
     have Aw := O.as [(4, (bptr Q 0)), (3, (bptr L 0)), (0, (bptr bx 0))] rfl; clear O
     have y := Aw.as [(4, (bptr Q 0)), (3, (bptr L 0)), (0, (bptr bx 0))] rfl; clear Aw
     refine c_drawF mixed y V 9 8 rfl rfl [[], [], [1], [2], [3], [4], [5], [6], [7]] [(yw (Value.agg (pairs B).toArray)), (yw (bptr bx 0)), (yw (bptr bx 0)), (yw (bptr bx 0)), (yw (bptr bx 0)), (yw (Value.int .i64 b.scales)), (yw (Value.slice (some ⟨L, 0, none⟩) b.scales.toNat 4)), (yw (Value.bool ((List.range (B.take b.scales.toNat).length).any fun i => decide (((B.take b.scales.toNat).getD i (0, 0)).2 < ((B.take b.scales.toNat).getD i (0, 0)).1)))), (yw (Value.bool (!((List.range (B.take b.scales.toNat).length).any fun i => decide (((B.take b.scales.toNat).getD i (0, 0)).2 < ((B.take b.scales.toNat).getD i (0, 0)).1)))))] (by decide +kernel) (by decide +kernel) (by decide +kernel) rfl rfl ⟨dw, dw, dw, dw, dw, dw, dw, dw, dw, trivial⟩ ?_ ?_ ?_
     ·skip
      refine ⟨fun a w J hA hS hd => gv1 (c_4 rfl l_4 (hA.ev rfl) (hS.bk 2 rfl) (l := (pairs B)) (g_3 _ _ (show (pairs B).length = 8 from by simp only [b_1, List.length_set]; omega)) (show (pairs B).length = 8 from by simp only [b_1, List.length_set]; omega)), ?_⟩
      refine ⟨fun a w J hA hS hd => gv1 (a_0 rfl (hA.ev rfl)), ?_⟩
      refine ⟨fun a w J hA hS hd => gv1 (o_2 rfl (gu hd 1)), ?_⟩
      refine ⟨fun a w J hA hS hd => gv1 (a_4 rfl fd_146_0 (gu hd 2)), ?_⟩
      refine ⟨fun a w J hA hS hd => gv1 (a_4 rfl fd_37_0 (gu hd 3)), ?_⟩
      refine ⟨fun a w J hA hS hd => gv1 (a_3 rfl ty_3 (gu hd 4) (hS.rk 3 rfl) rfl), ?_⟩
      refine ⟨fun a w J hA hS hd => gv1 (op_sliceArr rfl y_7 g_5 (hA.ev rfl) (h := b.scales.toNat) ((gu hd 5).trans (k_3 (by omega))) (by omega)), ?_⟩
      refine ⟨fun a w J hA hS hd => gx1 (a_6 rfl en_108 (ev2 (gu hd 6) (evf _ _)) (contf_rng (B.take b.scales.toNat) _ 68 #[] #[] (fun i => decide (((B.take b.scales.toNat).getD i (0, 0)).2 < ((B.take b.scales.toNat).getD i (0, 0)).1)) _ ((SlAt.of_blkCut (hS.bk 2 rfl) (by rw [b_1]; omega) (by omega) (by decide)).say (by rw [List.length_take]; omega) (pairs_takeH _ _)) (by rw [List.length_take]; omega) ⟨en_68, fun i hi W hW => empty_ok _ _ W⟩)), ?_⟩
      refine ⟨fun a w J hA hS hd => gv1 (f_4 rfl (gu hd 7)), ?_⟩
      trivial
     ·skip
      intro B5 CJ J rsf122 Ax E AU; clear y V
      have BI : Sep NoB w CJ [(blk q 106 [(Value.int .i64 (((selT b.tabs (selU b.tabs b.tabs.length (A : Int) (k : Int))).getD C tab0).frm)), (Value.int .i64 (((selT b.tabs (selU b.tabs b.tabs.length (A : Int) (k : Int))).getD C tab0).dst)), ((selV lr (selU b.tabs b.tabs.length (A : Int) (k : Int))) C), ((selV lb (selU b.tabs b.tabs.length (A : Int) (k : Int))) C), (Value.int .i64 (((selT b.tabs (selU b.tabs b.tabs.length (A : Int) (k : Int))).getD C tab0).err))]), (blk Q 120 (pairs ([(0, 0), (0, 0), (0, 0), (0, 0)]))), (blk L 120 (pairs B)), (rob bx 146 [(Value.int .i64 b.scales), vt, vm, (Value.map (some bm))]), (mapX false bm es ck es.size 106 5 (bN b.tabs b.tabs.length) (bC lr lb b.tabs b.tabs.length)), (c_9 false vt lr lb b.tabs), (d_2 false vm lk b.macs)] := by rw [show catR rsf122 0 9 = ([] : List Res) by (try simp only [catR, gr (E 0 (by decide)), gr (E 1 (by decide)), gr (E 2 (by decide)), gr (E 3 (by decide)), gr (E 4 (by decide)), gr (E 5 (by decide)), gr (E 6 (by decide)), gr (E 7 (by decide)), gr (E 8 (by decide))]); (try rfl)] at AU; exact AU
      have Ay := Ax.add (gs (E 0 (by decide))); clear Ax
      have c := Ay.add (gs (E 8 (by decide))); clear Ay
      clear E AU 
      refine s7 c (c_5 BI rfl l_4 (c.ev rfl) (c.ev rfl) (i := 1) rfl (vs := (pairs B)) rfl (show (pairs B).length = 8 from by simp only [b_1, List.length_set]; omega) (l_1 _) (by simp only [b_1, List.length_set, List.length_cons, List.length_nil]; omega)) ?_
      intro _ DE BJ z; have BK := BJ.n_4 (i := 1) rfl (cs' := (pairs B)) (k_0 _ _ (by first | (simp only [b_1, List.length_set, List.length_cons, List.length_nil]; done) | (simp only [b_1, List.length_set, List.length_cons, List.length_nil]; omega))); clear BJ c BI
      refine s1 z (a_1 rfl (z.ev rfl)) fun C0 Az => ?_; clear z B5
      refine n1 ?_
      refine c_8 ?_
      refine ng_ret ?_
      refine a_9 Az (.inl rfl) (e_3 Az rfl (.cellA rfl l_4 (BK.bk 1 rfl) (l := (pairs B)) (g_3 _ _ (show (pairs B).length = 8 from by simp only [b_1, List.length_set]; omega)) (show (pairs B).length = 8 from by simp only [b_1, List.length_set]; omega)) (.tmp rfl)) ?_
      have hz : h_6 (g_2 b.scales.toNat b.tabs) s = (B, true) := cut_brk (by omega) o (by assumption)
      exact ⟨by rw [hz, ← full_any (s := B) (by omega)], BK.ext⟩
     skip
     intro B6 CK J rsf137 A0 H hrq AV; clear y V
     have BL : Sep NoB w CK [(blk q 106 [(Value.int .i64 (((selT b.tabs (selU b.tabs b.tabs.length (A : Int) (k : Int))).getD C tab0).frm)), (Value.int .i64 (((selT b.tabs (selU b.tabs b.tabs.length (A : Int) (k : Int))).getD C tab0).dst)), ((selV lr (selU b.tabs b.tabs.length (A : Int) (k : Int))) C), ((selV lb (selU b.tabs b.tabs.length (A : Int) (k : Int))) C), (Value.int .i64 (((selT b.tabs (selU b.tabs b.tabs.length (A : Int) (k : Int))).getD C tab0).err))]), (blk Q 120 (pairs ([(0, 0), (0, 0), (0, 0), (0, 0)]))), (blk L 120 (pairs B)), (rob bx 146 [(Value.int .i64 b.scales), vt, vm, (Value.map (some bm))]), (mapX false bm es ck es.size 106 5 (bN b.tabs b.tabs.length) (bC lr lb b.tabs b.tabs.length)), (c_9 false vt lr lb b.tabs), (d_2 false vm lk b.macs)] := by rw [show catR rsf137 0 9 = ([] : List Res) by (try simp only [catR, gr (H 0 (by decide) (by decide)), gr (H 1 (by decide) (by decide)), gr (H 2 (by decide) (by decide)), gr (H 3 (by decide) (by decide)), gr (H 4 (by decide) (by decide)), gr (H 5 (by decide) (by decide)), gr (H 6 (by decide) (by decide)), gr (H 7 (by decide) (by decide)), hrq]); (try rfl)] at AV; exact AV
     have A1 := A0.add (gs (H 0 (by decide) (by decide))); clear A0
     have d := A1.add (gs (H 7 (by decide) (by decide))); clear A1
     clear H AV  hrq
     refine s7 d (c_5 BL rfl l_4 (d.ev rfl) (d.ev rfl) (i := 1) rfl (vs := (pairs B)) rfl (show (pairs B).length = 8 from by simp only [b_1, List.length_set]; omega) (l_1 _) (by simp only [b_1, List.length_set, List.length_cons, List.length_nil]; omega)) ?_
     intro _ DF BM AA; have BN := BM.n_4 (i := 1) rfl (cs' := (pairs B)) (k_0 _ _ (by first | (simp only [b_1, List.length_set, List.length_cons, List.length_nil]; done) | (simp only [b_1, List.length_set, List.length_cons, List.length_nil]; omega))); clear BM d BL
     refine s1 AA (f_4 rfl (AA.ev rfl)) fun B7 AB => ?_; clear AA B6
     refine s1 AB (a_1 rfl (AB.ev rfl)) fun C1 A2 => ?_; clear AB B7
     refine n1 ?_
     refine c_8 ?_
     refine ng_ret ?_
     refine a_9 A2 (.inl rfl) (e_3 A2 rfl (.cellA rfl l_4 (BN.bk 1 rfl) (l := (pairs B)) (g_3 _ _ (show (pairs B).length = 8 from by simp only [b_1, List.length_set]; omega)) (show (pairs B).length = 8 from by simp only [b_1, List.length_set]; omega)) (.tmp rfl)) ?_
     have hz : h_6 (g_2 b.scales.toNat b.tabs) s = (B, true) := cut_brk (by omega) o (by assumption)
     exact ⟨by rw [hz, ← full_any (s := B) (by omega)], BN.ext⟩
    skip
    rw [decide_eq_false BX] at O
    refine b_5 O rfl ?_
    refine d_1 ?_
    refine b_0 ?_
    refine b_7 ?_
    have A3 := O.as [(9, (bptr q 0)), (35, (Value.int .i64 (C : Int))), (34, (Value.int .i64 ((selT b.tabs (selU b.tabs b.tabs.length (A : Int) (k : Int))).length : Int))), (33, u), (7, (Value.int .i64 (A : Int))), (23, (Value.int .i64 (A : Int))), (22, (Value.int .i64 b.scales)), (6, (Value.int .i64 (k : Int))), (15, (Value.int .i64 (k : Int))), (14, (Value.int .i64 b.scales)), (4, (bptr Q 0)), (3, (bptr L 0)), (0, (bptr bx 0))] rfl; clear O
    have A4 := A3.as [(9, (bptr q 0)), (35, (Value.int .i64 (C : Int))), (34, (Value.int .i64 ((selT b.tabs (selU b.tabs b.tabs.length (A : Int) (k : Int))).length : Int))), (33, u), (7, (Value.int .i64 (A : Int))), (23, (Value.int .i64 (A : Int))), (22, (Value.int .i64 b.scales)), (6, (Value.int .i64 (k : Int))), (15, (Value.int .i64 (k : Int))), (14, (Value.int .i64 b.scales)), (4, (bptr Q 0)), (3, (bptr L 0)), (0, (bptr bx 0))] rfl; clear A3
    refine g_6 mixed A4 V 4 [[], [], [1], [2]] [(Yd.val (Value.agg #[(Value.int .i64 (((selT b.tabs (selU b.tabs b.tabs.length (A : Int) (k : Int))).getD C tab0).frm)), (Value.int .i64 (((selT b.tabs (selU b.tabs b.tabs.length (A : Int) (k : Int))).getD C tab0).dst)), ((selV lr (selU b.tabs b.tabs.length (A : Int) (k : Int))) C), ((selV lb (selU b.tabs b.tabs.length (A : Int) (k : Int))) C), (Value.int .i64 (((selT b.tabs (selU b.tabs b.tabs.length (A : Int) (k : Int))).getD C tab0).err))])), (Yd.val (Value.int .i64 (A : Int))), (Yd.val (bptr L (0 + A * 2))), (Yd.val (Value.agg #[(Value.int .i64 ((B.getD A (0, 0)).1)), (Value.int .i64 ((B.getD A (0, 0)).2))]))] (by decide +kernel) rfl rfl ?_ ?_
    ·skip
     refine dq (fun a w hA hS hd => c_4 rfl l_7 (hA.ev rfl) (hS.bk 0 rfl) (l := [(Value.int .i64 (((selT b.tabs (selU b.tabs b.tabs.length (A : Int) (k : Int))).getD C tab0).frm)), (Value.int .i64 (((selT b.tabs (selU b.tabs b.tabs.length (A : Int) (k : Int))).getD C tab0).dst)), ((selV lr (selU b.tabs b.tabs.length (A : Int) (k : Int))) C), ((selV lb (selU b.tabs b.tabs.length (A : Int) (k : Int))) C), (Value.int .i64 (((selT b.tabs (selU b.tabs b.tabs.length (A : Int) (k : Int))).getD C tab0).err))]) rfl rfl) ?_
     refine dq (fun a w hA hS hd => a_0 rfl (hA.ev rfl)) ?_
     refine dq (fun a w hA hS hd => o_8 rfl y_7 g_5 (hA.ev rfl) (i := A) (hq hd 1) (by omega)) ?_
     refine dq (fun a w hA hS hd => c_4 rfl g_5 (hq hd 2) (hS.bk 2 rfl) (l := [(Value.int .i64 ((B.getD A (0, 0)).1)), (Value.int .i64 ((B.getD A (0, 0)).2))]) (t_4 (xs := B) (i := A) (by omega)) rfl) ?_
     trivial
    intro B8 DG A5 S AR; clear A4 V
    have A6 := A5.add (hz AR 0); clear A5
    have e := A6.add (hz AR 3); clear A6
    clear AR
    refine s2 e (a_6 rfl en_49 (ev2 (e.ev rfl) (e.ev rfl)) (converts_ok ((B.getD A (0, 0)).1) ((B.getD A (0, 0)).2) ((selT b.tabs (selU b.tabs b.tabs.length (A : Int) (k : Int))).getD C tab0) _ _ _ ((t_1 (b_6 (S.ok 5 _ rfl)) (fun q_ h_ => y_1 h_) (hu _ (S.ok 4 _ rfl))).row (i := C) (by omega)) ((t_1 (b_6 (S.ok 5 _ rfl)) (fun q_ h_ => y_1 h_) (hu _ (S.ok 4 _ rfl))).brk (i := C) (by omega)) (sel_rl hth _ _).1 (sel_rl hth _ _).2 _ (hb.tabs _ (w_9 (by omega)).2.2))) ?_
    rintro B9 _ DH ⟨rfl, BH⟩ M; have n := S.step BH; clear BH e S B8
    refine n1 ?_
    rcases Bool.eq_false_or_eq_true ((r_7 ((selT b.tabs (selU b.tabs b.tabs.length (A : Int) (k : Int))).getD C tab0) ((B.getD A (0, 0)).1, (B.getD A (0, 0)).2))) with AY | AY
    ·skip
     rw [AY] at M
     refine c_6 M rfl ?_
     have A7 := M.as [(9, (bptr q 0)), (35, (Value.int .i64 (C : Int))), (34, (Value.int .i64 ((selT b.tabs (selU b.tabs b.tabs.length (A : Int) (k : Int))).length : Int))), (33, u), (7, (Value.int .i64 (A : Int))), (23, (Value.int .i64 (A : Int))), (22, (Value.int .i64 b.scales)), (6, (Value.int .i64 (k : Int))), (15, (Value.int .i64 (k : Int))), (14, (Value.int .i64 b.scales)), (4, (bptr Q 0)), (3, (bptr L 0)), (0, (bptr bx 0))] rfl; clear M
     refine g_6 mixed A7 n 10 [[], [], [1], [2], [], [], [5], [6], [4, 7], [3, 8]] [(Yd.val (Value.int .i64 (k : Int))), (Yd.val (Value.int .i64 (k : Int))), (Yd.val (bptr L (0 + k * 2))), (Yd.val (Value.agg #[(Value.int .i64 ((B.getD k (0, 0)).1)), (Value.int .i64 ((B.getD k (0, 0)).2))])), (Yd.val (Value.agg #[(Value.int .i64 (((selT b.tabs (selU b.tabs b.tabs.length (A : Int) (k : Int))).getD C tab0).frm)), (Value.int .i64 (((selT b.tabs (selU b.tabs b.tabs.length (A : Int) (k : Int))).getD C tab0).dst)), ((selV lr (selU b.tabs b.tabs.length (A : Int) (k : Int))) C), ((selV lb (selU b.tabs b.tabs.length (A : Int) (k : Int))) C), (Value.int .i64 (((selT b.tabs (selU b.tabs b.tabs.length (A : Int) (k : Int))).getD C tab0).err))])), (Yd.val (Value.int .i64 (A : Int))), (Yd.val (bptr L (0 + A * 2))), (Yd.val (Value.agg #[(Value.int .i64 ((B.getD A (0, 0)).1)), (Value.int .i64 ((B.getD A (0, 0)).2))])), (Yd.val (Value.agg #[(Value.int .i64 ((l_8 ((selT b.tabs (selU b.tabs b.tabs.length (A : Int) (k : Int))).getD C tab0) ((B.getD A (0, 0)).1, (B.getD A (0, 0)).2)).1)), (Value.int .i64 ((l_8 ((selT b.tabs (selU b.tabs b.tabs.length (A : Int) (k : Int))).getD C tab0) ((B.getD A (0, 0)).1, (B.getD A (0, 0)).2)).2))])), (Yd.val (Value.agg #[(Value.int .i64 ((cutR ((B.getD k (0, 0)).1, (B.getD k (0, 0)).2) ((l_8 ((selT b.tabs (selU b.tabs b.tabs.length (A : Int) (k : Int))).getD C tab0) ((B.getD A (0, 0)).1, (B.getD A (0, 0)).2)).1, (l_8 ((selT b.tabs (selU b.tabs b.tabs.length (A : Int) (k : Int))).getD C tab0) ((B.getD A (0, 0)).1, (B.getD A (0, 0)).2)).2)).1)), (Value.int .i64 ((cutR ((B.getD k (0, 0)).1, (B.getD k (0, 0)).2) ((l_8 ((selT b.tabs (selU b.tabs b.tabs.length (A : Int) (k : Int))).getD C tab0) ((B.getD A (0, 0)).1, (B.getD A (0, 0)).2)).1, (l_8 ((selT b.tabs (selU b.tabs b.tabs.length (A : Int) (k : Int))).getD C tab0) ((B.getD A (0, 0)).1, (B.getD A (0, 0)).2)).2)).2))]))] (by decide +kernel) rfl rfl ?_ ?_
     ·skip
      refine dq (fun a w hA hS hd => a_0 rfl (hA.ev rfl)) ?_
      refine dq (fun a w hA hS hd => a_0 rfl (hA.ev rfl)) ?_
      refine dq (fun a w hA hS hd => o_8 rfl y_7 g_5 (hA.ev rfl) (i := k) (hq hd 1) (by omega)) ?_
      refine dq (fun a w hA hS hd => c_4 rfl g_5 (hq hd 2) (hS.bk 2 rfl) (l := [(Value.int .i64 ((B.getD k (0, 0)).1)), (Value.int .i64 ((B.getD k (0, 0)).2))]) (t_4 (xs := B) (i := k) (by omega)) rfl) ?_
      refine dq (fun a w hA hS hd => c_4 rfl l_7 (hA.ev rfl) (hS.bk 0 rfl) (l := [(Value.int .i64 (((selT b.tabs (selU b.tabs b.tabs.length (A : Int) (k : Int))).getD C tab0).frm)), (Value.int .i64 (((selT b.tabs (selU b.tabs b.tabs.length (A : Int) (k : Int))).getD C tab0).dst)), ((selV lr (selU b.tabs b.tabs.length (A : Int) (k : Int))) C), ((selV lb (selU b.tabs b.tabs.length (A : Int) (k : Int))) C), (Value.int .i64 (((selT b.tabs (selU b.tabs b.tabs.length (A : Int) (k : Int))).getD C tab0).err))]) rfl rfl) ?_
      refine dq (fun a w hA hS hd => a_0 rfl (hA.ev rfl)) ?_
      refine dq (fun a w hA hS hd => o_8 rfl y_7 g_5 (hA.ev rfl) (i := A) (hq hd 5) (by omega)) ?_
      refine dq (fun a w hA hS hd => c_4 rfl g_5 (hq hd 6) (hS.bk 2 rfl) (l := [(Value.int .i64 ((B.getD A (0, 0)).1)), (Value.int .i64 ((B.getD A (0, 0)).2))]) (t_4 (xs := B) (i := A) (by omega)) rfl) ?_
      refine ⟨fun a w hA hS hd => by have e4 := hx hd 4; have e7 := hx hd 7; exact d_9 rfl (dx (a_6 rfl en_50 (ev2 (b_9 e4) (b_9 e7)) (convert_ok ((B.getD A (0, 0)).1) ((B.getD A (0, 0)).2) ((selT b.tabs (selU b.tabs b.tabs.length (A : Int) (k : Int))).getD C tab0) _ _ _ ((t_1 (b_6 (hS.ok 5 _ rfl)) (fun q_ h_ => y_1 h_) (hu _ (hS.ok 4 _ rfl))).row (i := C) (by omega)) ((t_1 (b_6 (hS.ok 5 _ rfl)) (fun q_ h_ => y_1 h_) (hu _ (hS.ok 4 _ rfl))).brk (i := C) (by omega)) (sel_rl hth _ _).1 (sel_rl hth _ _).2 _ (hb.tabs _ (w_9 (by omega)).2.2))) hS (fun _ => rfl)), ?_⟩
      refine ⟨fun a w hA hS hd => by have e3 := hx hd 3; have e8 := hx hd 8; exact d_9 rfl (dx (a_6 rfl en_87 (ev2 (b_9 e3) (b_9 e8)) (cut_ok _ _ _ _ _)) hS (fun _ => rfl)), ?_⟩
      trivial
     intro CA DI A8 BO AS; clear A7 n
     have A9 := A8.add (hz AS 0); clear A8
     have f := A9.add (hz AS 9); clear A9
     clear AS
     refine s1 f (o_8 rfl y_7 g_5 (f.ev rfl) (i := k) (f.ev rfl) (by omega)) fun CB g => ?_; clear f CA
     refine s7 g (c_5 BO rfl g_5 (g.ev rfl) (g.ev rfl) (i := 2) rfl (vs := [(Value.int .i64 ((cutR ((B.getD k (0, 0)).1, (B.getD k (0, 0)).2) ((l_8 ((selT b.tabs (selU b.tabs b.tabs.length (A : Int) (k : Int))).getD C tab0) ((B.getD A (0, 0)).1, (B.getD A (0, 0)).2)).1, (l_8 ((selT b.tabs (selU b.tabs b.tabs.length (A : Int) (k : Int))).getD C tab0) ((B.getD A (0, 0)).1, (B.getD A (0, 0)).2)).2)).1)), (Value.int .i64 ((cutR ((B.getD k (0, 0)).1, (B.getD k (0, 0)).2) ((l_8 ((selT b.tabs (selU b.tabs b.tabs.length (A : Int) (k : Int))).getD C tab0) ((B.getD A (0, 0)).1, (B.getD A (0, 0)).2)).1, (l_8 ((selT b.tabs (selU b.tabs b.tabs.length (A : Int) (k : Int))).getD C tab0) ((B.getD A (0, 0)).1, (B.getD A (0, 0)).2)).2)).2))]) rfl rfl rfl (by simp only [b_1, List.length_set, List.length_cons, List.length_nil]; omega)) ?_
     intro _ DJ BP AC; have BQ := BP.n_4 (i := 2) rfl (cs' := (pairs (B.set k ((cutR ((B.getD k (0, 0)).1, (B.getD k (0, 0)).2) ((l_8 ((selT b.tabs (selU b.tabs b.tabs.length (A : Int) (k : Int))).getD C tab0) ((B.getD A (0, 0)).1, (B.getD A (0, 0)).2)).1, (l_8 ((selT b.tabs (selU b.tabs b.tabs.length (A : Int) (k : Int))).getD C tab0) ((B.getD A (0, 0)).1, (B.getD A (0, 0)).2)).2)).1, (cutR ((B.getD k (0, 0)).1, (B.getD k (0, 0)).2) ((l_8 ((selT b.tabs (selU b.tabs b.tabs.length (A : Int) (k : Int))).getD C tab0) ((B.getD A (0, 0)).1, (B.getD A (0, 0)).2)).1, (l_8 ((selT b.tabs (selU b.tabs b.tabs.length (A : Int) (k : Int))).getD C tab0) ((B.getD A (0, 0)).1, (B.getD A (0, 0)).2)).2)).2)))) (pairs_setZ _ _ _ _); clear BP g BO
     refine e_8 ?_
     refine g_8 ?_
     refine b_0 ?_
     refine a_5 ?_
     refine s1 AC (f_6 rfl (AC.ev rfl) (evc _ _) (by omega) (by omega)) fun CC AD => ?_; clear AC CB
     refine s1 AD (a_0 rfl (AD.ev rfl)) fun C2 Bo => ?_; clear AD CC
     refine e_8 ?_
     have Bs := BQ.gkp (gpc 1 (gpc 2 (gpc 3 (gpc 4 (gpc 5 (gpc 6 gpn)))))); clear BQ
     exact b_0 ⟨C + 1, ⟨(B.set k ((cutR ((B.getD k (0, 0)).1, (B.getD k (0, 0)).2) ((l_8 ((selT b.tabs (selU b.tabs b.tabs.length (A : Int) (k : Int))).getD C tab0) ((B.getD A (0, 0)).1, (B.getD A (0, 0)).2)).1, (l_8 ((selT b.tabs (selU b.tabs b.tabs.length (A : Int) (k : Int))).getD C tab0) ((B.getD A (0, 0)).1, (B.getD A (0, 0)).2)).2)).1, (cutR ((B.getD k (0, 0)).1, (B.getD k (0, 0)).2) ((l_8 ((selT b.tabs (selU b.tabs b.tabs.length (A : Int) (k : Int))).getD C tab0) ((B.getD A (0, 0)).1, (B.getD A (0, 0)).2)).1, (l_8 ((selT b.tabs (selU b.tabs b.tabs.length (A : Int) (k : Int))).getD C tab0) ((B.getD A (0, 0)).1, (B.getD A (0, 0)).2)).2)).2)), Bo.as _ rfl, Bs, by omega, (by first | exact Aa | (rw [List.length_set]; exact Aa)), (by first | exact cut_n (by omega) o (by assumption) (by assumption) | exact cut_y (by omega) o (by assumption) (by assumption))⟩, by omega⟩
    skip
    rw [AY] at M
    refine b_5 M rfl ?_
    refine d_1 ?_
    refine g_8 ?_
    refine b_0 ?_
    refine a_5 ?_
    refine s1 M (f_6 rfl (M.ev rfl) (evc _ _) (by omega) (by omega)) fun CD AE => ?_; clear M B9
    refine s1 AE (a_0 rfl (AE.ev rfl)) fun C3 Bp => ?_; clear AE CD
    refine e_8 ?_
    have Bt := n.gkp (gpc 1 (gpc 2 (gpc 3 (gpc 4 (gpc 5 (gpc 6 gpn)))))); clear n
    exact b_0 ⟨C + 1, ⟨B, Bp.as _ rfl, Bt, by omega, (by first | exact Aa | (rw [List.length_set]; exact Aa)), (by first | exact cut_n (by omega) o (by assumption) (by assumption) | exact cut_y (by omega) o (by assumption) (by assumption))⟩, by omega⟩
   skip
   rw [decide_eq_false Bm] at N
   refine b_5 N rfl ?_
   refine h_1 ?_
   refine b_4 ?_
   refine b_4 ?_
   refine f_7 ?_
   refine g_8 ?_
   refine b_0 ?_
   refine a_5 ?_
   refine s1 N (f_6 rfl (N.ev rfl) (evc _ _) (by omega) (by omega)) fun CE AF => ?_; clear N Bv
   refine s1 AF (a_0 rfl (AF.ev rfl)) fun C4 Bq => ?_; clear AF CE
   refine e_8 ?_
   exact b_0 ⟨A + 1, ⟨B, Bq.as _ rfl, U, by omega, Aa, (cut_21 (by omega) o)⟩, by omega⟩
  skip
  rw [decide_eq_false Bl] at P
  refine b_5 P rfl ?_
  refine h_1 ?_
  refine b_4 ?_
  refine b_4 ?_
  refine f_7 ?_
  refine g_8 ?_
  refine b_0 ?_
  refine a_5 ?_
  refine s1 P (f_6 rfl (P.ev rfl) (evc _ _) (by omega) (by omega)) fun CF AG => ?_; clear P Bu
  refine s1 AG (a_0 rfl (AG.ev rfl)) fun C5 Br => ?_; clear AG CF
  refine e_8 ?_
  exact b_0 ⟨k + 1, ⟨x1, Br.as _ rfl, T, by omega, B1, (cut_10 (by omega) B0)⟩, by omega⟩
 skip
 rw [decide_eq_false Bk] at R
 refine b_5 R rfl ?_
 refine h_1 ?_
 refine b_4 ?_
 refine b_4 ?_
 refine f_7 ?_
 refine b_0 ?_
 refine b_7 ?_
 have AH := R.as [(4, (bptr Q 0)), (3, (bptr L 0)), (0, (bptr bx 0))] rfl; clear R
 refine c_drawF mixed AH X 9 8 rfl rfl [[], [], [1], [2], [3], [4], [5], [6], [7]] [(yw (Value.agg (pairs D).toArray)), (yw (bptr bx 0)), (yw (bptr bx 0)), (yw (bptr bx 0)), (yw (bptr bx 0)), (yw (Value.int .i64 b.scales)), (yw (Value.slice (some ⟨L, 0, none⟩) b.scales.toNat 4)), (yw (Value.bool ((List.range (D.take b.scales.toNat).length).any fun i => decide (((D.take b.scales.toNat).getD i (0, 0)).2 < ((D.take b.scales.toNat).getD i (0, 0)).1)))), (yw (Value.bool (!((List.range (D.take b.scales.toNat).length).any fun i => decide (((D.take b.scales.toNat).getD i (0, 0)).2 < ((D.take b.scales.toNat).getD i (0, 0)).1)))))] (by decide +kernel) (by decide +kernel) (by decide +kernel) rfl rfl ⟨dw, dw, dw, dw, dw, dw, dw, dw, dw, trivial⟩ ?_ ?_ ?_
 ·skip
  refine ⟨fun a w K hA hS hd => gv1 (c_4 rfl l_4 (hA.ev rfl) (hS.bk 1 rfl) (l := (pairs D)) (g_3 _ _ (show (pairs D).length = 8 from by simp only [b_1, List.length_set]; omega)) (show (pairs D).length = 8 from by simp only [b_1, List.length_set]; omega)), ?_⟩
  refine ⟨fun a w K hA hS hd => gv1 (a_0 rfl (hA.ev rfl)), ?_⟩
  refine ⟨fun a w K hA hS hd => gv1 (o_2 rfl (gu hd 1)), ?_⟩
  refine ⟨fun a w K hA hS hd => gv1 (a_4 rfl fd_146_0 (gu hd 2)), ?_⟩
  refine ⟨fun a w K hA hS hd => gv1 (a_4 rfl fd_37_0 (gu hd 3)), ?_⟩
  refine ⟨fun a w K hA hS hd => gv1 (a_3 rfl ty_3 (gu hd 4) (hS.rk 2 rfl) rfl), ?_⟩
  refine ⟨fun a w K hA hS hd => gv1 (op_sliceArr rfl y_7 g_5 (hA.ev rfl) (h := b.scales.toNat) ((gu hd 5).trans (k_3 (by omega))) (by omega)), ?_⟩
  refine ⟨fun a w K hA hS hd => gx1 (a_6 rfl en_108 (ev2 (gu hd 6) (evf _ _)) (contf_rng (D.take b.scales.toNat) _ 68 #[] #[] (fun i => decide (((D.take b.scales.toNat).getD i (0, 0)).2 < ((D.take b.scales.toNat).getD i (0, 0)).1)) _ ((SlAt.of_blkCut (hS.bk 1 rfl) (by rw [b_1]; omega) (by omega) (by decide)).say (by rw [List.length_take]; omega) (pairs_takeH _ _)) (by rw [List.length_take]; omega) ⟨en_68, fun i hi W hW => empty_ok _ _ W⟩)), ?_⟩
  refine ⟨fun a w K hA hS hd => gv1 (f_4 rfl (gu hd 7)), ?_⟩
  trivial
 ·skip
  intro CG CL K rsf205 BA F AW; clear AH X
  have BR : Sep NoB w CL [(blk Q 120 (pairs ([(0, 0), (0, 0), (0, 0), (0, 0)]))), (blk L 120 (pairs D)), (rob bx 146 [(Value.int .i64 b.scales), vt, vm, (Value.map (some bm))]), (mapX false bm es ck es.size 106 5 (bN b.tabs b.tabs.length) (bC lr lb b.tabs b.tabs.length)), (c_9 false vt lr lb b.tabs), (d_2 false vm lk b.macs)] := by rw [show catR rsf205 0 9 = ([] : List Res) by (try simp only [catR, gr (F 0 (by decide)), gr (F 1 (by decide)), gr (F 2 (by decide)), gr (F 3 (by decide)), gr (F 4 (by decide)), gr (F 5 (by decide)), gr (F 6 (by decide)), gr (F 7 (by decide)), gr (F 8 (by decide))]); (try rfl)] at AW; exact AW
  have BB := BA.add (gs (F 0 (by decide))); clear BA
  have j := BB.add (gs (F 8 (by decide))); clear BB
  clear F AW 
  refine s7 j (c_5 BR rfl l_4 (j.ev rfl) (j.ev rfl) (i := 0) rfl (vs := (pairs D)) rfl (show (pairs D).length = 8 from by simp only [b_1, List.length_set]; omega) (l_1 _) (by simp only [b_1, List.length_set, List.length_cons, List.length_nil]; omega)) ?_
  intro _ DK BS AI; have BT := BS.n_4 (i := 0) rfl (cs' := (pairs D)) (k_0 _ _ (by first | (simp only [b_1, List.length_set, List.length_cons, List.length_nil]; done) | (simp only [b_1, List.length_set, List.length_cons, List.length_nil]; omega))); clear BS j BR
  refine s1 AI (a_1 rfl (AI.ev rfl)) fun C6 BC => ?_; clear AI CG
  refine n1 ?_
  refine c_8 ?_
  refine ng_ret ?_
  refine a_9 BC (.inl rfl) (e_3 BC rfl (.cellA rfl l_4 (BT.bk 0 rfl) (l := (pairs D)) (g_3 _ _ (show (pairs D).length = 8 from by simp only [b_1, List.length_set]; omega)) (show (pairs D).length = 8 from by simp only [b_1, List.length_set]; omega)) (.tmp rfl)) ?_
  have hz : h_6 (g_2 b.scales.toNat b.tabs) s = (D, false) := cut_end (by omega) Bn
  exact ⟨by rw [hz, ← full_any (s := D) (by omega)], BT.ext⟩
 skip
 intro CH CM K rsf220 BD I hrq AX; clear AH X
 have BU : Sep NoB w CM [(blk Q 120 (pairs ([(0, 0), (0, 0), (0, 0), (0, 0)]))), (blk L 120 (pairs D)), (rob bx 146 [(Value.int .i64 b.scales), vt, vm, (Value.map (some bm))]), (mapX false bm es ck es.size 106 5 (bN b.tabs b.tabs.length) (bC lr lb b.tabs b.tabs.length)), (c_9 false vt lr lb b.tabs), (d_2 false vm lk b.macs)] := by rw [show catR rsf220 0 9 = ([] : List Res) by (try simp only [catR, gr (I 0 (by decide) (by decide)), gr (I 1 (by decide) (by decide)), gr (I 2 (by decide) (by decide)), gr (I 3 (by decide) (by decide)), gr (I 4 (by decide) (by decide)), gr (I 5 (by decide) (by decide)), gr (I 6 (by decide) (by decide)), gr (I 7 (by decide) (by decide)), hrq]); (try rfl)] at AX; exact AX
 have BE := BD.add (gs (I 0 (by decide) (by decide))); clear BD
 have m := BE.add (gs (I 7 (by decide) (by decide))); clear BE
 clear I AX  hrq
 refine s7 m (c_5 BU rfl l_4 (m.ev rfl) (m.ev rfl) (i := 0) rfl (vs := (pairs D)) rfl (show (pairs D).length = 8 from by simp only [b_1, List.length_set]; omega) (l_1 _) (by simp only [b_1, List.length_set, List.length_cons, List.length_nil]; omega)) ?_
 intro _ DL BV AJ; have BW := BV.n_4 (i := 0) rfl (cs' := (pairs D)) (k_0 _ _ (by first | (simp only [b_1, List.length_set, List.length_cons, List.length_nil]; done) | (simp only [b_1, List.length_set, List.length_cons, List.length_nil]; omega))); clear BV m BU
 refine s1 AJ (f_4 rfl (AJ.ev rfl)) fun CI AK => ?_; clear AJ CH
 refine s1 AK (a_1 rfl (AK.ev rfl)) fun C7 BF => ?_; clear AK CI
 refine n1 ?_
 refine c_8 ?_
 refine ng_ret ?_
 refine a_9 BF (.inl rfl) (e_3 BF rfl (.cellA rfl l_4 (BW.bk 0 rfl) (l := (pairs D)) (g_3 _ _ (show (pairs D).length = 8 from by simp only [b_1, List.length_set]; omega)) (show (pairs D).length = 8 from by simp only [b_1, List.length_set]; omega)) (.tmp rfl)) ?_
 have hz : h_6 (g_2 b.scales.toNat b.tabs) s = (D, false) := cut_end (by omega) Bn
 exact ⟨by rw [hz, ← full_any (s := D) (by omega)], BW.ext⟩
end Go.Proofs.Ytohgladndklciaa

namespace Go.Hard
open Go.RowKit Go.Eng
theorem biasU_bd {n : Int} {m : MacD} (h : MacV n m) : ∀ k, k ≤ m.blocks.length → (-100000 ≤ (k_2 m.blocks k).1 ∧ (k_2 m.blocks k).1 ≤ 100000) ∧ -100000 ≤ (k_2 m.blocks k).2 ∧ (k_2 m.blocks k).2 ≤ 100000
  | 0, _ => by unfold k_2; exact ⟨⟨by decide, by decide⟩, by decide, by decide⟩
  | k + 1, hk => by
    have ih := biasU_bd h k (by omega)
    have hb := h.blocks k (by omega)
    rw [k_2]; dsimp only [cutR]; omega
theorem biasF_bd {n : Int} {m : MacD} (h : MacV n m) : (-100000 ≤ (e_5 m).1 ∧ (e_5 m).1 ≤ 100000) ∧ -100000 ≤ (e_5 m).2 ∧ (e_5 m).2 ≤ 100000 := biasU_bd h _ (Nat.le_refl _)
def zero4 : h_2 := [(0, 0), (0, 0), (0, 0), (0, 0)]
def fillU : Nat → h_2
  | 0 => zero4
  | k + 1 => (fillU k).set k rng0
theorem fillU_len : ∀ k, (fillU k).length = 4
  | 0 => rfl
  | k + 1 => by rw [fillU, List.length_set]; exact fillU_len k
theorem fill4 : fillU 4 = e_9 := by decide
theorem full_free {n : Nat} (hn : n ≤ 4) : Full n e_9 := fun i hi => by
  match i, hi with
  | 0, _ => decide
  | 1, _ => decide
  | 2, _ => decide
  | 3, _ => decide
  | i + 4, hi => omega
section
variable {b : h_0} {l : List (Int × Int)} {k : Nat}
theorem start_mono (hb : l_3 b) (hl : t_6 b l) {s : h_2} (hs : b.scales.toNat ≤ s.length) {k m : Nat} (h : k ≤ m) (hm : m ≤ l.length) : Sub b.scales.toNat (d_5 b l s m) (d_5 b l s k) := by
  have h1 := (start_iff hb hl rfl hs (s' := d_5 b l s m) m hm).1 (Sub.refl _ _)
  exact (start_iff hb hl rfl hs (s' := d_5 b l s m) k (by omega)).2 ⟨h1.1, fun j hj => h1.2 j (by omega)⟩
theorem spans_none (h : ¬ Full b.scales.toNat (s_2 b l)) : i_7 b l = none := by
  unfold i_7; rw [if_neg]; rw [s_5]; exact h
theorem spans_go (h : Full b.scales.toNat (s_2 b l)) : i_7 b l = r_2 b.scales.toNat (g_2 b.scales.toNat b.tabs) 400001 (s_2 b l) := by
  unfold i_7; rw [if_pos (s_5.2 h)]
theorem start_empty (hb : l_3 b) (hl : t_6 b l) (hk : k < l.length) (he : (at' (d_5 b l e_9 (k + 1)) (o_4 b l k)).2 < (at' (d_5 b l e_9 (k + 1)) (o_4 b l k)).1) : i_7 b l = none := by
  refine spans_none fun hf => ?_
  have hsc := scale_lt hb hl hk
  have h1 := start_mono hb hl (s := e_9) hb.four (show k + 1 ≤ l.length by omega) (Nat.le_refl _) _ hsc
  have h2 := hf _ hsc
  unfold s_2 at h2
  omega
theorem start_next (hb : l_3 b) (hl : t_6 b l) (hk : k < l.length) (hf : Full b.scales.toNat (d_5 b l e_9 k)) (he : ¬ (at' (d_5 b l e_9 (k + 1)) (o_4 b l k)).2 < (at' (d_5 b l e_9 (k + 1)) (o_4 b l k)).1) : Full b.scales.toNat (d_5 b l e_9 (k + 1)) := fun i hi => by
  have hsc := scale_lt hb hl hk
  have hlen := u_6 b l e_9 k
  have h4 : e_9.length = 4 := rfl
  have hn := hb.four
  by_cases e : o_4 b l k = i
  · subst e; omega
  · rw [startU_succ, at_set (by omega), if_neg e]; exact hf i hi
variable {n : Nat} {ts : List TabD} {s : h_2} {g : Nat}
theorem k_fail (h : ac_4 n (h_6 ts s).1 = false) : r_2 n ts g s = none := by
  cases g with
  | zero => rfl
  | succ g => rw [r_2, if_neg (by rw [h]; decide)]
theorem k_done (hg : 0 < g) (h : ac_4 n (h_6 ts s).1 = true) (he : (h_6 ts s).1 = s) : r_2 n ts g s = some (s.take n) := by
  obtain ⟨g, rfl⟩ : ∃ g', g = g' + 1 := ⟨g - 1, by omega⟩
  rw [r_2, if_pos h, if_pos he]
theorem k_next (hg : 0 < g) (h : ac_4 n (h_6 ts s).1 = true) (he : ¬ (h_6 ts s).1 = s) : r_2 n ts g s = r_2 n ts (g - 1) (h_6 ts s).1 := by
  obtain ⟨g, rfl⟩ : ∃ g', g = g' + 1 := ⟨g - 1, by omega⟩
  rw [r_2, if_pos h, if_neg he]; rfl
end
end Go.Hard
