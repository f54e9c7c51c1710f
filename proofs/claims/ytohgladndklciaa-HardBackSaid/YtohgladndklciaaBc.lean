/-
  The errors of readings, of a machine's bias, of what a table makes of a range; which machines are off.
  The tables of a book by the scales that they convert: what the map of a bench holds.
  One pass over the tables, in the order of the scales that they lead to, and from: what is left to do.
  How the program finds the spans: the first ranges reading by reading, then pass by pass.
  Books built in memory: slices of slices, one more; tables and machines as one thing.
-/
import Derived.Test.YtohgladndklciaaBb
import Derived.Test.YtohgladndklciaaEngb
import Derived.Test.YtohgladndklciaaEnga
set_option linter.unusedSimpArgs false
set_option linter.unusedVariables false
namespace Go.Proofs.Ytohgladndklciaa
open Go.RowKit Go.Shelf Go.Eng Go.Hard
theorem p_1 : fldK Try.prog 25 1 = some 1 := by kernel_rfl
theorem z_3 : tyK Try.prog 22 = some (false, 1) := by kernel_rfl
theorem y_7 : Try.prog.underlying 22 = some (.slice 46) := by kernel_rfl
theorem t_9 : fldK Try.prog 25 2 = some 2 := by kernel_rfl
theorem ty_23 : tyK Try.prog 23 = some (false, 1) := by kernel_rfl
theorem un_23 : Try.prog.underlying 23 = some (.slice 61) := by kernel_rfl
theorem un_49 : Try.prog.underlying 49 = some (.slice 67) := by kernel_rfl
theorem fd_25_0 : fldK Try.prog 25 0 = some 0 := by kernel_rfl
theorem en_51 : ∀ args w, (callFunc 51 args).run Try.prog w = .ok (.enter 51 args) w := enters_of Try.func51 (by kernel_rfl) rfl
theorem ze_61 : (Try.prog.info? 61).bind (·.zero) = some (Value.agg #[(iv 0), (Value.slice none 0 0)]) := by kernel_rfl
theorem fd_61_0 : fldK Try.prog 61 0 = some 0 := by kernel_rfl
theorem en_52 : ∀ args w, (callFunc 52 args).run Try.prog w = .ok (.enter 52 args) w := enters_of Try.func52 (by kernel_rfl) rfl
theorem v_6 : fldK Try.prog 37 1 = some 1 := by kernel_rfl
theorem ty_34 : tyK Try.prog 34 = some (false, 1) := by kernel_rfl
theorem u_0 : fldK Try.prog 37 2 = some 2 := by kernel_rfl
theorem ty_35 : tyK Try.prog 35 = some (false, 1) := by kernel_rfl
theorem en_62 : ∀ args w, (callFunc 62 args).run Try.prog w = .ok (.enter 62 args) w := enters_of Try.func62 (by kernel_rfl) rfl
theorem en_61 : ∀ args w, (callFunc 61 args).run Try.prog w = .ok (.enter 61 args) w := enters_of Try.func61 (by kernel_rfl) rfl
theorem en_64 : ∀ args w, (callFunc 64 args).run Try.prog w = .ok (.enter 64 args) w := enters_of Try.func64 (by kernel_rfl) rfl
theorem en_63 : ∀ args w, (callFunc 63 args).run Try.prog w = .ok (.enter 63 args) w := enters_of Try.func63 (by kernel_rfl) rfl
theorem en_65 : ∀ args w, (callFunc 65 args).run Try.prog w = .ok (.enter 65 args) w := enters_of Try.func65 (by kernel_rfl) rfl
theorem en_66 : ∀ args w, (callFunc 66 args).run Try.prog w = .ok (.enter 66 args) w := enters_of Try.func66 (by kernel_rfl) rfl
theorem thin_ok (b : h_5) (vt vm : Value) (lr lb lk : Nat → Value) (w : World) (hT : n_1 w vt lr lb b.tabs) (hM : o_4 w vm lk b.macs) (l : List (Int × Int)) (xl : Value) (hxl : SlAt w xl 2 l.length (pairs l)) :
  Calls Try.prog 16 #[(Value.agg #[(iv b.scales), vt, vm]), xl] w (Ret fun v w' => v = .bool (z_5 b l.length) ∧ Ext NoB w w') := by
 refine b_0 Try.func16 rfl fun a0 AI => ?_
 replace AI : Fr 62 [] [(0, (Value.agg #[(iv b.scales), vt, vm])), (1, xl)] a0 := AI
 have BX : Sep NoB w w [(d_5 false vt lr lb b.tabs), (f_0 false vm lk b.macs), (sl xl 2 l.length (pairs l))] := f_1 ⟨rfl, hT, rfl, hM, rfl, hxl, trivial⟩
 refine m2 (s2 AI (f_2 BX rfl AI.e (cs := [(iv b.scales), vt, vm]) rfl) ?_)
 rintro a1 _ w3 ⟨S, rfl, K⟩ BW; clear AI BX a0
 refine s1 BW (a_0 rfl (evc _ _)) fun a6 BF => ?_; clear BW a1
 refine n2 (m2 (s1 BF (a_3 rfl p_1 BF.e) fun a8 BL => ?_)); clear BF a6
 refine s1 BL (a_4 rfl z_3 BL.e (K.bk 0 rfl) rfl) fun CF AJ => ?_; clear BL a8
 refine s1 AJ (e_0 rfl y_7 AJ.e (b_7 (K.ok 1 _ rfl)).tabs) fun CG AK => ?_; clear AJ CF
 refine s1 AK (l_1 rfl AK.e (evc _ _)) fun CH AL => ?_; clear AK CG
 refine s1 AL (a_1 rfl AL.e) fun BS L => ?_; clear AL CH
 by_cases BM : 9 < (b.tabs.length : Int)
 ·skip
  rw [decide_eq_true BM] at L
  refine s3 L fun CI A3 => ?_; clear L BS
  refine s3 A3 fun CJ A4 => ?_; clear A3 CI
  refine s3 A4 fun CK A5 => ?_; clear A4 CJ
  refine s3 A5 fun CL AM => ?_; clear A5 CK
  refine s1 AM (b_3 rfl AM.e (evc _ _)) fun CM AN => ?_; clear AM CL
  refine s1 AN (a_1 rfl AN.e) fun CN A6 => ?_; clear AN CM
  refine s3 A6 fun CO A7 => ?_; clear A6 CN
  refine s3 A7 fun CP A8 => ?_; clear A7 CO
  refine s3 A8 fun CQ AO => ?_; clear A8 CP
  refine s1 AO (b_3 rfl AO.e (evc _ _)) fun CR AP => ?_; clear AO CQ
  refine n1 (c_0 AP rfl (b_9 ?_))
  have A9 := AP.as [] rfl; clear AP
  refine a_5 (s1 A9 (a_0 rfl (evc _ _)) fun Cw BA => ?_); clear A9 CR
  exact n1 (c_2 (a_6 (a_8 BA (.inl rfl) (a_2 BA rfl (.tmp rfl)) (⟨congrArg Value.bool (Eq.symm (by first | exact thin_n1 (by omega) | exact thin_n2 (k := k) (by omega) | exact thin_n3 (k := I) (by omega))), K.ext⟩))))
 skip
 rw [decide_eq_false BM] at L
 refine s5 L (a_3 rfl t_9 L.e) fun CS AQ => ?_; clear L BS
 refine s5 AQ (a_4 rfl ty_23 AQ.e (K.bk 0 rfl) rfl) fun CT AR => ?_; clear AQ CS
 refine s5 AR (e_0 rfl un_23 AR.e (c_9 (K.ok 2 _ rfl)).macs) fun CU AS => ?_; clear AR CT
 refine s5 AS (l_1 rfl AS.e (evc _ _)) fun CV AF => ?_; clear AS CU
 refine s1 AF (d_1 rfl AF.e AF.e) fun CW AT => ?_; clear AF CV
 refine s1 AT (a_1 rfl AT.e) fun BT M => ?_; clear AT CW
 by_cases BN : 9 < (b.macs.length : Int)
 ·skip
  rw [decide_eq_true BN] at M
  refine s3 M fun CX BB => ?_; clear M BT
  refine s3 BB fun CY BC => ?_; clear BB CX
  refine s3 BC fun CZ AU => ?_; clear BC CY
  refine s1 AU (b_3 rfl AU.e (evc _ _)) fun Ca AV => ?_; clear AU CZ
  refine n1 (c_0 AV rfl (b_9 ?_))
  have BD := AV.as [] rfl; clear AV
  refine a_5 (s1 BD (a_0 rfl (evc _ _)) fun Cx BE => ?_); clear BD Ca
  exact n1 (c_2 (a_6 (a_8 BE (.inl rfl) (a_2 BE rfl (.tmp rfl)) (⟨congrArg Value.bool (Eq.symm (by first | exact thin_n1 (by omega) | exact thin_n2 (k := k) (by omega) | exact thin_n3 (k := I) (by omega))), K.ext⟩))))
 skip
 rw [decide_eq_false BN] at M
 refine s5 M (a_1 rfl M.e) fun Cb AW => ?_; clear M BT
 refine s5 AW (e_0 rfl un_49 AW.e (K.sk 3 rfl)) fun Cc AX => ?_; clear AW Cb
 refine s5 AX (l_1 rfl AX.e (evc _ _)) fun Cd AG => ?_; clear AX Cc
 refine s1 AG (d_1 rfl AG.e AG.e) fun BU J => ?_; clear AG Cd
 refine n1 ?_
 by_cases BO : 12 < (l.length : Int)
 ·skip
  rw [decide_eq_true BO] at J
  refine c_0 J rfl (b_9 ?_)
  have BG := J.as [] rfl; clear J
  refine a_5 (s1 BG (a_0 rfl (evc _ _)) fun Cy BH => ?_); clear BG BU
  exact n1 (c_2 (a_6 (a_8 BH (.inl rfl) (a_2 BH rfl (.tmp rfl)) (⟨congrArg Value.bool (Eq.symm (by first | exact thin_n1 (by omega) | exact thin_n2 (k := k) (by omega) | exact thin_n3 (k := I) (by omega))), K.ext⟩))))
 skip
 rw [decide_eq_false BO] at J
 refine b_8 J rfl (d_4 (b_1 (b_9 (b_9 ?_))))
 have BI := J.as [(2, (bptr S 0))] rfl; clear J
 refine a_5 (s1 BI (a_0 rfl (evc _ _)) fun Ce BJ => ?_); clear BI BU
 refine n1 (c_6 ?_)
 have BK := BJ.as [(5, (iv 0)), (2, (bptr S 0))] rfl; clear BJ
 refine h_7 (G := Nat) (fun (k : Nat) a_ w_ => Fr 62 [] [(5, (iv (k : Int))), (2, (bptr S 0))] a_ ∧ Sep NoB w w_ [(blk S 25 [(iv b.scales), vt, vm]), (d_5 false vt lr lb b.tabs), (f_0 false vm lk b.macs), (sl xl 2 l.length (pairs l))] ∧ (k ≤ b.tabs.length) ∧ (∀ i, i < k → (b.tabs.getD i tab0).rows.length ≤ 12 ∧ (b.tabs.getD i tab0).brk.length ≤ 12)) (fun k => b.tabs.length - k) 0 ⟨BK.as _ rfl, K, by omega, (fun _ h => absurd h (Nat.not_lt_zero _))⟩ ?_
 clear BK K Ce
 rintro k Cf Cz ⟨AY, A, hkk, BY⟩
 refine b_9 (m2 (s1 AY (a_1 rfl AY.e) fun Cg AZ => ?_)); clear AY Cf
 refine s1 AZ (a_3 rfl p_1 AZ.e) fun Ch Aa => ?_; clear AZ Cg
 refine s1 Aa (a_4 rfl z_3 Aa.e (A.bk 0 rfl) rfl) fun Ci Ab => ?_; clear Aa Ch
 refine s1 Ab (e_0 rfl y_7 Ab.e (b_7 (A.ok 1 _ rfl)).tabs) fun Cj AH => ?_; clear Ab Ci
 refine s1 AH (g_2 rfl AH.e AH.e) fun BV H => ?_; clear AH Cj
 refine n1 ?_
 by_cases BP : (k : Int) < (b.tabs.length : Int)
 ·skip
  rw [decide_eq_true BP] at H
  refine c_0 H rfl (d_4 (b_1 (b_9 (c_6 (m2 (s1 H (a_3 rfl p_1 H.e) fun Ck Ac => ?_)))))); clear H BV
  refine s1 Ac (a_4 rfl z_3 Ac.e (A.bk 0 rfl) rfl) fun Cl T => ?_; clear Ac Ck
  refine s1 T (a_1 rfl T.e) fun Ba N => ?_; clear T Cl
  refine s1 N (b_4 rfl y_7 z_4 N.e (i := k) N.e (b_7 (A.ok 1 _ rfl)).tabs (by decide) (by omega)) fun Bb U => ?_; clear N Ba
  refine s1 U (e_2 rfl g_0 U.e (b_7 (A.ok 1 _ rfl)).tabs (by rw [((b_7 (A.ok 1 _ rfl)).tabs).1]; omega)) fun Bc V => ?_; clear U Bb
  refine s1 V (d_0 rfl l_8 V.e (b_7 (A.ok 1 _ rfl)).tabs (tabs_at2 (by omega))) fun Bd W => ?_; clear V Bc
  refine s1 W (e_0 rfl l_9 W.e ((b_7 (A.ok 1 _ rfl)).row (i := k) (by omega))) fun Be X => ?_; clear W Bd
  refine s1 X (l_1 rfl X.e (evc _ _)) fun Bf Y => ?_; clear X Be
  refine s1 Y (a_1 rfl Y.e) fun Az F => ?_; clear Y Bf
  by_cases Av : 12 < ((b.tabs.getD k tab0).rows.length : Int)
  ·skip
   rw [decide_eq_true Av] at F
   refine s3 F fun Bg Ad => ?_; clear F Az
   refine s3 Ad fun Bh Ae => ?_; clear Ad Bg
   refine s3 Ae fun Bi Af => ?_; clear Ae Bh
   refine s3 Af fun Bj Ag => ?_; clear Af Bi
   refine s3 Ag fun Bk Ah => ?_; clear Ag Bj
   refine s3 Ah fun Bl Ai => ?_; clear Ah Bk
   refine s3 Ai fun Bm Aj => ?_; clear Ai Bl
   refine s3 Aj fun Bn Z => ?_; clear Aj Bm
   refine s1 Z (b_3 rfl Z.e (evc _ _)) fun Bo a => ?_; clear Z Bn
   refine n1 (c_0 a rfl (b_9 ?_))
   have Ak := a.as [] rfl; clear a
   refine a_5 (s1 Ak (a_0 rfl (evc _ _)) fun Cn Al => ?_); clear Ak Bo
   exact n1 (c_2 (c_4 (a_6 (a_6 (c_4 (a_6 (a_8 Al (.inl rfl) (a_2 Al rfl (.tmp rfl)) (⟨congrArg Value.bool (Eq.symm (by first | exact thin_n1 (by omega) | exact thin_n2 (k := k) (by omega) | exact thin_n3 (k := I) (by omega))), A.ext⟩))))))))
  skip
  rw [decide_eq_false Av] at F
  refine s5 F (a_3 rfl p_1 F.e) fun Bp c => ?_; clear F Az
  refine s5 c (a_4 rfl z_3 c.e (A.bk 0 rfl) rfl) fun Bq d => ?_; clear c Bp
  refine s5 d (a_1 rfl d.e) fun Br O => ?_; clear d Bq
  refine s5 O (b_4 rfl y_7 z_4 O.e (i := k) O.e (b_7 (A.ok 1 _ rfl)).tabs (by decide) (by omega)) fun Bs f => ?_; clear O Br
  refine s5 f (e_2 rfl n_9 f.e (b_7 (A.ok 1 _ rfl)).tabs (by rw [((b_7 (A.ok 1 _ rfl)).tabs).1]; omega)) fun Bt g => ?_; clear f Bs
  refine s5 g (d_0 rfl w_1 g.e (b_7 (A.ok 1 _ rfl)).tabs (tabs_at3 (by omega))) fun Bu j => ?_; clear g Bt
  refine s5 j (e_0 rfl n_0 j.e ((b_7 (A.ok 1 _ rfl)).brk (i := k) (by omega))) fun Bv m => ?_; clear j Bu
  refine s5 m (l_1 rfl m.e (evc _ _)) fun Bw P => ?_; clear m Bv
  refine s1 P (d_1 rfl P.e P.e) fun A0 D => ?_; clear P Bw
  refine n1 ?_
  by_cases Aw : 12 < ((b.tabs.getD k tab0).brk.length : Int)
  ·skip
   rw [decide_eq_true Aw] at D
   refine c_0 D rfl (b_9 ?_)
   have Am := D.as [] rfl; clear D
   refine a_5 (s1 Am (a_0 rfl (evc _ _)) fun Co An => ?_); clear Am A0
   exact n1 (c_2 (c_4 (a_6 (a_6 (c_4 (a_6 (a_8 An (.inl rfl) (a_2 An rfl (.tmp rfl)) (⟨congrArg Value.bool (Eq.symm (by first | exact thin_n1 (by omega) | exact thin_n2 (k := k) (by omega) | exact thin_n3 (k := I) (by omega))), A.ext⟩))))))))
  skip
  rw [decide_eq_false Aw] at D
  refine b_8 D rfl (d_4 (h_0 (b_1 ?_)))
  have n := D.as [(5, (iv (k : Int))), (2, (bptr S 0))] rfl; clear D
  refine a_5 (s1 n (a_1 rfl n.e) fun Bx o => ?_); clear n A0
  refine s1 o (g_1 rfl o.e (evc _ _) (by omega) (by omega)) fun By p => ?_; clear o Bx
  refine s1 p (a_0 rfl p.e) fun Cp BQ => ?_; clear p By
  refine e_8 ?_
  exact b_1 ⟨k + 1, ⟨BQ.as _ rfl, A, by omega, (fun i hi => by rcases Nat.lt_succ_iff_lt_or_eq.1 hi with h | h; exact BY i h; subst h; omega)⟩, by omega⟩
 skip
 rw [decide_eq_false BP] at H
 refine b_8 H rfl (h_6 (b_5 (b_5 (f_9 (b_1 (b_9 (b_9 ?_)))))))
 have Ao := H.as [(2, (bptr S 0))] rfl; clear H
 refine a_5 (s1 Ao (a_0 rfl (evc _ _)) fun Bz Ap => ?_); clear Ao BV
 refine n1 (c_6 ?_)
 have Aq := Ap.as [(6, (iv 0)), (2, (bptr S 0))] rfl; clear Ap
 refine h_7 (G := Nat) (fun (I : Nat) a_ w_ => Fr 62 [] [(6, (iv (I : Int))), (2, (bptr S 0))] a_ ∧ Sep NoB w w_ [(blk S 25 [(iv b.scales), vt, vm]), (d_5 false vt lr lb b.tabs), (f_0 false vm lk b.macs), (sl xl 2 l.length (pairs l))] ∧ (I ≤ b.macs.length) ∧ (∀ i, i < I → (b.macs.getD i mac0).blocks.length ≤ 8)) (fun I => b.macs.length - I) 0 ⟨Aq.as _ rfl, A, by omega, (fun _ h => absurd h (Nat.not_lt_zero _))⟩ ?_
 clear Aq A Bz
 rintro I B0 Cv ⟨q, B, hkk1, BZ⟩
 refine b_9 (m2 (s1 q (a_1 rfl q.e) fun B1 r => ?_)); clear q B0
 refine s1 r (a_3 rfl t_9 r.e) fun B2 s => ?_; clear r B1
 refine s1 s (a_4 rfl ty_23 s.e (B.bk 0 rfl) rfl) fun B3 t => ?_; clear s B2
 refine s1 t (e_0 rfl un_23 t.e (c_9 (B.ok 2 _ rfl)).macs) fun B4 Q => ?_; clear t B3
 refine s1 Q (g_2 rfl Q.e Q.e) fun A1 C => ?_; clear Q B4
 refine n1 ?_
 by_cases Ax : (I : Int) < (b.macs.length : Int)
 ·skip
  rw [decide_eq_true Ax] at C
  refine c_0 C rfl (d_4 (b_1 (b_9 (c_6 (m2 (s1 C (a_3 rfl t_9 C.e) fun B5 u => ?_)))))); clear C A1
  refine s1 u (a_4 rfl ty_23 u.e (B.bk 0 rfl) rfl) fun B6 x => ?_; clear u B5
  refine s1 x (a_1 rfl x.e) fun B7 R => ?_; clear x B6
  refine s1 R (b_4 rfl un_23 ty_61 R.e (i := I) R.e (c_9 (B.ok 2 _ rfl)).macs (by decide) (by omega)) fun B8 y => ?_; clear R B7
  refine s1 y (e_2 rfl x_3 y.e (c_9 (B.ok 2 _ rfl)).macs (by rw [((c_9 (B.ok 2 _ rfl)).macs).1]; omega)) fun B9 z => ?_; clear y B8
  refine s1 z (d_0 rfl ty_59 z.e (c_9 (B.ok 2 _ rfl)).macs (macs_at1 (by omega))) fun CA AA => ?_; clear z B9
  refine s1 AA (e_0 rfl un_59 AA.e ((c_9 (B.ok 2 _ rfl)).blk (i := I) (by omega))) fun CB AB => ?_; clear AA CA
  refine s1 AB (l_1 rfl AB.e (evc _ _)) fun A2 E => ?_; clear AB CB
  refine n1 ?_
  by_cases Ay : 8 < ((b.macs.getD I mac0).blocks.length : Int)
  ·skip
   rw [decide_eq_true Ay] at E
   refine c_0 E rfl (b_9 ?_)
   have Ar := E.as [] rfl; clear E
   refine a_5 (s1 Ar (a_0 rfl (evc _ _)) fun Cq As => ?_); clear Ar A2
   exact n1 (c_2 (c_4 (a_6 (a_6 (c_4 (a_6 (a_8 As (.inl rfl) (a_2 As rfl (.tmp rfl)) (⟨congrArg Value.bool (Eq.symm (by first | exact thin_n1 (by omega) | exact thin_n2 (k := k) (by omega) | exact thin_n3 (k := I) (by omega))), B.ext⟩))))))))
  skip
  rw [decide_eq_false Ay] at E
  refine b_8 E rfl (d_4 (h_0 (b_1 ?_)))
  have AC := E.as [(6, (iv (I : Int))), (2, (bptr S 0))] rfl; clear E
  refine a_5 (s1 AC (a_1 rfl AC.e) fun CC AD => ?_); clear AC A2
  refine s1 AD (g_1 rfl AD.e (evc _ _) (by omega) (by omega)) fun CD AE => ?_; clear AD CC
  refine s1 AE (a_0 rfl AE.e) fun Cr BR => ?_; clear AE CD
  refine e_8 ?_
  exact b_1 ⟨I + 1, ⟨BR.as _ rfl, B, by omega, (fun i hi => by rcases Nat.lt_succ_iff_lt_or_eq.1 hi with h | h; exact BZ i h; subst h; omega)⟩, by omega⟩
 skip
 rw [decide_eq_false Ax] at C
 refine b_8 C rfl (h_6 (b_5 (b_5 (f_9 (b_1 (b_9 ?_))))))
 have At := C.as [] rfl; clear C
 refine a_5 (s1 At (a_0 rfl (evc _ _)) fun Cs Au => ?_); clear At A1
 exact n1 (c_2 (a_8 Au (.inl rfl) (a_2 Au rfl (.tmp rfl)) (⟨congrArg Value.bool (Eq.symm (thin_y (by omega) (by omega) (by omega) (fun i hi => BY i (by omega)) (fun i hi => BZ i (by omega)))), B.ext⟩)))
set_option maxHeartbeats 4000000 in
theorem rfault_ok (b : h_5) (vt vm : Value) (lr lb lk : Nat → Value) (w : World) (hT : n_1 w vt lr lb b.tabs) (hM : o_4 w vm lk b.macs) (hth : q_8 b) :
  Calls Try.prog 21 #[(Value.agg #[(iv b.scales), vt, vm])] w (Ret fun v w' => v = .int .i64 (f_6 b) ∧ Ext NoB w w') := by
 refine b_0 Try.func21 rfl fun a0 BM => ?_
 replace BM : Fr 113 [] [(0, (Value.agg #[(iv b.scales), vt, vm]))] a0 := BM
 have htl := hth.tl; have hml := hth.ml
 have C5 : Sep NoB w w [(d_5 false vt lr lb b.tabs), (f_0 false vm lk b.macs)] := f_1 ⟨rfl, hT, rfl, hM, trivial⟩
 refine m2 (s2 BM (f_2 C5 rfl BM.e (cs := [(iv b.scales), vt, vm]) rfl) ?_)
 rintro a1 _ w3 ⟨E, rfl, n⟩ C4; clear BM C5 a0
 refine s1 C4 (a_0 rfl (evc _ _)) fun a6 Ck => ?_; clear C4 a1
 refine n2 (m2 (s1 Ck (a_3 rfl p_1 Ck.e) fun a8 Cn => ?_)); clear Ck a6
 refine s1 Cn (a_4 rfl z_3 Cn.e (n.bk 0 rfl) rfl) fun ES BN => ?_; clear Cn a8
 refine s1 BN (e_0 rfl y_7 BN.e (b_7 (n.ok 1 _ rfl)).tabs) fun ET BO => ?_; clear BN ES
 refine s1 BO (l_1 rfl BO.e (evc _ _)) fun EU BP => ?_; clear BO ET
 refine s1 BP (a_1 rfl BP.e) fun C0 l => ?_; clear BP EU
 by_cases Cr : 6 < (b.tabs.length : Int)
 ·skip
  rw [decide_eq_true Cr] at l
  refine s3 l fun EV Ca => ?_; clear l C0
  refine s3 Ca fun EW Cb => ?_; clear Ca EV
  refine s3 Cb fun EX Cc => ?_; clear Cb EW
  refine s3 Cc fun EY BQ => ?_; clear Cc EX
  refine s1 BQ (b_3 rfl BQ.e (evc _ _)) fun EZ BR => ?_; clear BQ EY
  refine n1 (c_0 BR rfl (b_9 ?_))
  have Cd := BR.as [] rfl; clear BR
  refine a_5 (s1 Cd (a_0 rfl (evc _ _)) fun FI Ce => ?_); clear Cd EZ
  refine n1 (c_2 (a_6 (a_8 Ce (.inl rfl) (a_2 Ce rfl (.tmp rfl)) ?_)))
  exact ⟨k_1 (Eq.symm (by first | exact m_0 (by omega) | exact p_9 (k := k) (by omega) (by omega) | exact q_0 (k := O) (by omega) (by omega) | exact m_8 (⟨by omega, by omega, fun i hi => A i (by omega), fun i hi => B i (by omega)⟩ : e_9 b) (by assumption) | exact p_8 (k := D) (⟨by omega, by omega, fun i hi => A i (by omega), fun i hi => B i (by omega)⟩ : e_9 b) (by omega) (by assumption) | exact i_7 (k := C) (⟨by omega, by omega, fun i hi => A i (by omega), fun i hi => B i (by omega)⟩ : e_9 b) (by omega) (x_9 (by assumption)) | exact i_7 (k := C) (⟨by omega, by omega, fun i hi => A i (by omega), fun i hi => B i (by omega)⟩ : e_9 b) (by omega) (y_0 (k := N) (by omega) (h_0 (by first | exact .inl (by assumption) | exact .inr (by assumption)))) | exact r_0 (⟨by omega, by omega, fun i hi => A i (by omega), fun i hi => B i (by omega)⟩ : e_9 b) (by assumption) (fun i hi => c i (by omega)) (fun i hi => d i (by omega)))), n.ext⟩
 skip
 rw [decide_eq_false Cr] at l
 refine s5 l (a_3 rfl t_9 l.e) fun Ea BS => ?_; clear l C0
 refine s5 BS (a_4 rfl ty_23 BS.e (n.bk 0 rfl) rfl) fun Eb BT => ?_; clear BS Ea
 refine s5 BT (e_0 rfl un_23 BT.e (c_9 (n.ok 2 _ rfl)).macs) fun Ec BU => ?_; clear BT Eb
 refine s5 BU (l_1 rfl BU.e (evc _ _)) fun Ed BC => ?_; clear BU Ec
 refine s1 BC (d_1 rfl BC.e BC.e) fun C1 Y => ?_; clear BC Ed
 refine n1 ?_
 by_cases Cs : 6 < (b.macs.length : Int)
 ·skip
  rw [decide_eq_true Cs] at Y
  refine c_0 Y rfl (b_9 ?_)
  have Cf := Y.as [] rfl; clear Y
  refine a_5 (s1 Cf (a_0 rfl (evc _ _)) fun FJ Cg => ?_); clear Cf C1
  refine n1 (c_2 (a_6 (a_8 Cg (.inl rfl) (a_2 Cg rfl (.tmp rfl)) ?_)))
  exact ⟨k_1 (Eq.symm (by first | exact m_0 (by omega) | exact p_9 (k := k) (by omega) (by omega) | exact q_0 (k := O) (by omega) (by omega) | exact m_8 (⟨by omega, by omega, fun i hi => A i (by omega), fun i hi => B i (by omega)⟩ : e_9 b) (by assumption) | exact p_8 (k := D) (⟨by omega, by omega, fun i hi => A i (by omega), fun i hi => B i (by omega)⟩ : e_9 b) (by omega) (by assumption) | exact i_7 (k := C) (⟨by omega, by omega, fun i hi => A i (by omega), fun i hi => B i (by omega)⟩ : e_9 b) (by omega) (x_9 (by assumption)) | exact i_7 (k := C) (⟨by omega, by omega, fun i hi => A i (by omega), fun i hi => B i (by omega)⟩ : e_9 b) (by omega) (y_0 (k := N) (by omega) (h_0 (by first | exact .inl (by assumption) | exact .inr (by assumption)))) | exact r_0 (⟨by omega, by omega, fun i hi => A i (by omega), fun i hi => B i (by omega)⟩ : e_9 b) (by assumption) (fun i hi => c i (by omega)) (fun i hi => d i (by omega)))), n.ext⟩
 skip
 rw [decide_eq_false Cs] at Y
 refine b_8 Y rfl (d_4 (b_1 (b_9 (b_9 ?_))))
 have Ch := Y.as [(1, (bptr E 0))] rfl; clear Y
 refine a_5 (s1 Ch (a_0 rfl (evc _ _)) fun Ee Ci => ?_); clear Ch C1
 refine n1 (c_6 ?_)
 have Cj := Ci.as [(3, (iv 0)), (1, (bptr E 0))] rfl; clear Ci
 refine h_7 (G := Nat) (fun (k : Nat) a_ w_ => Fr 113 [] [(3, (iv (k : Int))), (1, (bptr E 0))] a_ ∧ Sep NoB w w_ [(blk E 25 [(iv b.scales), vt, vm]), (d_5 false vt lr lb b.tabs), (f_0 false vm lk b.macs)] ∧ (k ≤ b.tabs.length) ∧ (∀ i, i < k → (b.tabs.getD i tab0).rows.length ≤ 8)) (fun k => b.tabs.length - k) 0 ⟨Cj.as _ rfl, n, by omega, (fun _ h => absurd h (Nat.not_lt_zero _))⟩ ?_
 clear Cj n Ee
 rintro k Ef FM ⟨BV, I, hkk, A⟩
 refine b_9 (m2 (s1 BV (a_1 rfl BV.e) fun Eg BW => ?_)); clear BV Ef
 refine s1 BW (a_3 rfl p_1 BW.e) fun Eh BX => ?_; clear BW Eg
 refine s1 BX (a_4 rfl z_3 BX.e (I.bk 0 rfl) rfl) fun Ei BY => ?_; clear BX Eh
 refine s1 BY (e_0 rfl y_7 BY.e (b_7 (I.ok 1 _ rfl)).tabs) fun Ej BD => ?_; clear BY Ei
 refine s1 BD (g_2 rfl BD.e BD.e) fun C2 X => ?_; clear BD Ej
 refine n1 ?_
 by_cases Ct : (k : Int) < (b.tabs.length : Int)
 ·skip
  rw [decide_eq_true Ct] at X
  refine c_0 X rfl (d_4 (b_1 (b_9 (c_6 (m2 (s1 X (a_3 rfl p_1 X.e) fun Ek BZ => ?_)))))); clear X C2
  refine s1 BZ (a_4 rfl z_3 BZ.e (I.bk 0 rfl) rfl) fun El Ba => ?_; clear BZ Ek
  refine s1 Ba (a_1 rfl Ba.e) fun Em BE => ?_; clear Ba El
  refine s1 BE (b_4 rfl y_7 z_4 BE.e (i := k) BE.e (b_7 (I.ok 1 _ rfl)).tabs (by decide) (by omega)) fun En Bb => ?_; clear BE Em
  refine s1 Bb (e_2 rfl g_0 Bb.e (b_7 (I.ok 1 _ rfl)).tabs (by rw [((b_7 (I.ok 1 _ rfl)).tabs).1]; omega)) fun Eo Bc => ?_; clear Bb En
  refine s1 Bc (d_0 rfl l_8 Bc.e (b_7 (I.ok 1 _ rfl)).tabs (tabs_at2 (by omega))) fun Ep Bd => ?_; clear Bc Eo
  refine s1 Bd (e_0 rfl l_9 Bd.e ((b_7 (I.ok 1 _ rfl)).row (i := k) (by omega))) fun Er Be => ?_; clear Bd Ep
  refine s1 Be (l_1 rfl Be.e (evc _ _)) fun C3 Z => ?_; clear Be Er
  refine n1 ?_
  by_cases Cu : 8 < ((b.tabs.getD k tab0).rows.length : Int)
  ·skip
   rw [decide_eq_true Cu] at Z
   refine c_0 Z rfl (b_9 ?_)
   have Cl := Z.as [] rfl; clear Z
   refine a_5 (s1 Cl (a_0 rfl (evc _ _)) fun FK Cm => ?_); clear Cl C3
   refine n1 (c_2 (c_4 (a_6 (a_6 (c_4 (a_6 (a_8 Cm (.inl rfl) (a_2 Cm rfl (.tmp rfl)) ?_)))))))
   exact ⟨k_1 (Eq.symm (by first | exact m_0 (by omega) | exact p_9 (k := k) (by omega) (by omega) | exact q_0 (k := O) (by omega) (by omega) | exact m_8 (⟨by omega, by omega, fun i hi => A i (by omega), fun i hi => B i (by omega)⟩ : e_9 b) (by assumption) | exact p_8 (k := D) (⟨by omega, by omega, fun i hi => A i (by omega), fun i hi => B i (by omega)⟩ : e_9 b) (by omega) (by assumption) | exact i_7 (k := C) (⟨by omega, by omega, fun i hi => A i (by omega), fun i hi => B i (by omega)⟩ : e_9 b) (by omega) (x_9 (by assumption)) | exact i_7 (k := C) (⟨by omega, by omega, fun i hi => A i (by omega), fun i hi => B i (by omega)⟩ : e_9 b) (by omega) (y_0 (k := N) (by omega) (h_0 (by first | exact .inl (by assumption) | exact .inr (by assumption)))) | exact r_0 (⟨by omega, by omega, fun i hi => A i (by omega), fun i hi => B i (by omega)⟩ : e_9 b) (by assumption) (fun i hi => c i (by omega)) (fun i hi => d i (by omega)))), I.ext⟩
  skip
  rw [decide_eq_false Cu] at Z
  refine b_8 Z rfl (d_4 (h_0 (b_1 ?_)))
  have Bf := Z.as [(3, (iv (k : Int))), (1, (bptr E 0))] rfl; clear Z
  refine a_5 (s1 Bf (a_1 rfl Bf.e) fun Es Bg => ?_); clear Bf C3
  refine s1 Bg (g_1 rfl Bg.e (evc _ _) (by omega) (by omega)) fun Et Bh => ?_; clear Bg Es
  refine s1 Bh (a_0 rfl Bh.e) fun FL EP => ?_; clear Bh Et
  refine e_8 ?_
  exact b_1 ⟨k + 1, ⟨EP.as _ rfl, I, by omega, (fun i hi => by rcases Nat.lt_succ_iff_lt_or_eq.1 hi with h | h; exact A i h; subst h; omega)⟩, by omega⟩
 skip
 rw [decide_eq_false Ct] at X
 refine b_8 X rfl (h_6 (b_5 (b_5 (f_9 (b_1 (b_9 (b_9 ?_)))))))
 have Co := X.as [(1, (bptr E 0))] rfl; clear X
 refine a_5 (s1 Co (a_0 rfl (evc _ _)) fun Eu Cp => ?_); clear Co C2
 refine n1 (c_6 ?_)
 have Cq := Cp.as [(4, (iv 0)), (1, (bptr E 0))] rfl; clear Cp
 refine h_7 (G := Nat) (fun (O : Nat) a_ w_ => Fr 113 [] [(4, (iv (O : Int))), (1, (bptr E 0))] a_ ∧ Sep NoB w w_ [(blk E 25 [(iv b.scales), vt, vm]), (d_5 false vt lr lb b.tabs), (f_0 false vm lk b.macs)] ∧ (O ≤ b.macs.length) ∧ (∀ i, i < O → (b.macs.getD i mac0).blocks.length ≤ 5)) (fun O => b.macs.length - O) 0 ⟨Cq.as _ rfl, I, by omega, (fun _ h => absurd h (Nat.not_lt_zero _))⟩ ?_
 clear Cq I Eu
 rintro O Ev FN ⟨Bi, H, hkk1, B⟩
 refine b_9 (m2 (s1 Bi (a_1 rfl Bi.e) fun C7 AD => ?_)); clear Bi Ev
 refine s1 AD (a_3 rfl t_9 AD.e) fun C8 AE => ?_; clear AD C7
 refine s1 AE (a_4 rfl ty_23 AE.e (H.bk 0 rfl) rfl) fun C9 AF => ?_; clear AE C8
 refine s1 AF (e_0 rfl un_23 AF.e (c_9 (H.ok 2 _ rfl)).macs) fun DA o => ?_; clear AF C9
 refine s1 o (g_2 rfl o.e o.e) fun CR J => ?_; clear o DA
 refine n1 ?_
 by_cases CM : (O : Int) < (b.macs.length : Int)
 ·skip
  rw [decide_eq_true CM] at J
  refine c_0 J rfl (d_4 (b_1 (b_9 (c_6 (m2 (s1 J (a_3 rfl t_9 J.e) fun DB AG => ?_)))))); clear J CR
  refine s1 AG (a_4 rfl ty_23 AG.e (H.bk 0 rfl) rfl) fun DC AH => ?_; clear AG DB
  refine s1 AH (a_1 rfl AH.e) fun DD p => ?_; clear AH DC
  refine s1 p (b_4 rfl un_23 ty_61 p.e (i := O) p.e (c_9 (H.ok 2 _ rfl)).macs (by decide) (by omega)) fun DE AI => ?_; clear p DD
  refine s1 AI (e_2 rfl x_3 AI.e (c_9 (H.ok 2 _ rfl)).macs (by rw [((c_9 (H.ok 2 _ rfl)).macs).1]; omega)) fun DF AJ => ?_; clear AI DE
  refine s1 AJ (d_0 rfl ty_59 AJ.e (c_9 (H.ok 2 _ rfl)).macs (macs_at1 (by omega))) fun DG AK => ?_; clear AJ DF
  refine s1 AK (e_0 rfl un_59 AK.e ((c_9 (H.ok 2 _ rfl)).blk (i := O) (by omega))) fun DH AL => ?_; clear AK DG
  refine s1 AL (l_1 rfl AL.e (evc _ _)) fun CS P => ?_; clear AL DH
  refine n1 ?_
  by_cases CN : 5 < ((b.macs.getD O mac0).blocks.length : Int)
  ·skip
   rw [decide_eq_true CN] at P
   refine c_0 P rfl (b_9 ?_)
   have Bj := P.as [] rfl; clear P
   refine a_5 (s1 Bj (a_0 rfl (evc _ _)) fun Ex Bk => ?_); clear Bj CS
   refine n1 (c_2 (c_4 (a_6 (a_6 (c_4 (a_6 (a_8 Bk (.inl rfl) (a_2 Bk rfl (.tmp rfl)) ?_)))))))
   exact ⟨k_1 (Eq.symm (by first | exact m_0 (by omega) | exact p_9 (k := k) (by omega) (by omega) | exact q_0 (k := O) (by omega) (by omega) | exact m_8 (⟨by omega, by omega, fun i hi => A i (by omega), fun i hi => B i (by omega)⟩ : e_9 b) (by assumption) | exact p_8 (k := D) (⟨by omega, by omega, fun i hi => A i (by omega), fun i hi => B i (by omega)⟩ : e_9 b) (by omega) (by assumption) | exact i_7 (k := C) (⟨by omega, by omega, fun i hi => A i (by omega), fun i hi => B i (by omega)⟩ : e_9 b) (by omega) (x_9 (by assumption)) | exact i_7 (k := C) (⟨by omega, by omega, fun i hi => A i (by omega), fun i hi => B i (by omega)⟩ : e_9 b) (by omega) (y_0 (k := N) (by omega) (h_0 (by first | exact .inl (by assumption) | exact .inr (by assumption)))) | exact r_0 (⟨by omega, by omega, fun i hi => A i (by omega), fun i hi => B i (by omega)⟩ : e_9 b) (by assumption) (fun i hi => c i (by omega)) (fun i hi => d i (by omega)))), H.ext⟩
  skip
  rw [decide_eq_false CN] at P
  refine b_8 P rfl (d_4 (h_0 (b_1 ?_)))
  have AM := P.as [(4, (iv (O : Int))), (1, (bptr E 0))] rfl; clear P
  refine a_5 (s1 AM (a_1 rfl AM.e) fun DI AN => ?_); clear AM CS
  refine s1 AN (g_1 rfl AN.e (evc _ _) (by omega) (by omega)) fun DJ AO => ?_; clear AN DI
  refine s1 AO (a_0 rfl AO.e) fun Ey Cv => ?_; clear AO DJ
  refine e_8 ?_
  exact b_1 ⟨O + 1, ⟨Cv.as _ rfl, H, by omega, (fun i hi => by rcases Nat.lt_succ_iff_lt_or_eq.1 hi with h | h; exact B i h; subst h; omega)⟩, by omega⟩
 skip
 rw [decide_eq_false CM] at J
 refine b_8 J rfl (h_6 (b_5 (b_5 (f_9 (b_1 (b_9 (b_9 ?_)))))))
 have AP := J.as [(1, (bptr E 0))] rfl; clear J
 refine a_5 (s1 AP (a_3 rfl fd_25_0 AP.e) fun DK AQ => ?_); clear AP CR
 refine s1 AQ (a_4 rfl ty_3 AQ.e (H.bk 0 rfl) rfl) fun DL AR => ?_; clear AQ DK
 refine s2 AR (b_2 rfl aa_0 (ev3 AR.e (evc _ _) (evc _ _)) (z_7 _ _ _ _)) ?_
 rintro DM _ W_ ⟨rfl, hW_⟩ AS; have hW2_ := hW_.symm; subst hW2_; clear hW_ AR DL
 refine s1 AS (f_7 rfl AS.e) fun CT Q => ?_; clear AS DM
 refine n1 ?_
 rcases Bool.eq_false_or_eq_true ((inB b.scales 1 4)) with BH | BH
 ·skip
  rw [BH] at Q
  refine b_8 Q rfl (d_4 (b_1 (b_9 (m2 (s1 Q (a_0 rfl (evc _ _)) fun DN Bl => ?_))))); clear Q CT
  refine n1 (c_6 ?_)
  have Bm := Bl.as [(5, (iv 0)), (1, (bptr E 0))] rfl; clear Bl
  refine h_7 (G := Nat) (fun (D : Nat) a_ w_ => Fr 113 [] [(5, (iv (D : Int))), (1, (bptr E 0))] a_ ∧ Sep NoB w w_ [(blk E 25 [(iv b.scales), vt, vm]), (d_5 false vt lr lb b.tabs), (f_0 false vm lk b.macs)] ∧ (D ≤ b.tabs.length) ∧ (∀ i, i < D → tabB b.scales (b.tabs.getD i tab0) = true)) (fun D => b.tabs.length - D) 0 ⟨Bm.as _ rfl, H, by omega, (fun _ h => absurd h (Nat.not_lt_zero _))⟩ ?_
  clear Bm H DN
  rintro D DO FA ⟨AT, f, hkk2, c⟩
  refine b_9 (m2 (s1 AT (a_1 rfl AT.e) fun DP AU => ?_)); clear AT DO
  refine s1 AU (a_3 rfl p_1 AU.e) fun DQ AV => ?_; clear AU DP
  refine s1 AV (a_4 rfl z_3 AV.e (f.bk 0 rfl) rfl) fun DR AW => ?_; clear AV DQ
  refine s1 AW (e_0 rfl y_7 AW.e (b_7 (f.ok 1 _ rfl)).tabs) fun DS q => ?_; clear AW DR
  refine s1 q (g_2 rfl q.e q.e) fun DT R => ?_; clear q DS
  refine n1 ?_
  by_cases CO : (D : Int) < (b.tabs.length : Int)
  ·skip
   rw [decide_eq_true CO] at R
   refine c_0 R rfl (d_4 (b_1 (b_9 (c_6 (b_9 ?_)))))
   have Bn := R.as [(5, (iv (D : Int))), (1, (bptr E 0))] rfl; clear R
   refine i_2 mixed Bn f 7 [[], [0], [], [2], [], [3, 4], [5]] [(Yd.val (bptr E 0)), (Yd.val (iv b.scales)), (Yd.val (bptr E 1)), (Yd.val vt), (Yd.val (iv (D : Int))), (Yd.val (eptr vt (D * 5))), (Yd.val (Value.agg #[(iv ((b.tabs.getD D tab0).frm)), (iv ((b.tabs.getD D tab0).dst)), (lr D), (lb D), (iv ((b.tabs.getD D tab0).err))]))] (by decide +kernel) rfl rfl ?_ ?_
   ·skip
    refine dq (fun a w hA hS hd => a_3 rfl fd_25_0 hA.e) ?_
    refine dq (fun a w hA hS hd => a_4 rfl ty_3 (hq hd 0) (hS.bk 0 rfl) rfl) ?_
    refine dq (fun a w hA hS hd => a_3 rfl p_1 hA.e) ?_
    refine dq (fun a w hA hS hd => a_4 rfl z_3 (hq hd 2) (hS.bk 0 rfl) rfl) ?_
    refine dq (fun a w hA hS hd => a_1 rfl hA.e) ?_
    refine dq (fun a w hA hS hd => b_4 rfl y_7 z_4 (hq hd 3) (i := D) (hq hd 4) (b_7 (hS.ok 1 _ rfl)).tabs (by decide) (by omega)) ?_
    refine dq (fun a w hA hS hd => e_6 rfl z_4 (hq hd 5) (b_7 (hS.ok 1 _ rfl)).tabs (w_0 (by omega)) rfl (by decide)) ?_
    trivial
   intro DU FB Bo AC BF; clear Bn f
   have Bp := Bo.add (hz BF 1); clear Bo
   have r := Bp.add (hz BF 6); clear Bp
   clear BF
   refine s2 r (b_2 rfl en_51 (ev2 r.e r.e) (istable_ok b.scales (g_7.1 (by assumption)) (b.tabs.getD D tab0) _ _ _ ((b_7 (AC.ok 1 _ rfl)).row (i := D) (by omega)) ((b_7 (AC.ok 1 _ rfl)).brk (i := D) (by omega)) (hth.rl _) (hth.bl _))) ?_
   rintro DV _ FC ⟨rfl, CG⟩ AX; have CJ := AC.step CG; clear CG r AC DU
   refine s1 AX (f_7 rfl AX.e) fun CU K => ?_; clear AX DV
   refine n1 ?_
   rcases Bool.eq_false_or_eq_true ((tabB b.scales (b.tabs.getD D tab0))) with BI | BI
   ·skip
    rw [BI] at K
    refine b_8 K rfl (d_4 (h_0 (b_1 (a_5 (s1 K (a_1 rfl K.e) fun DW AY => ?_))))); clear K CU
    refine s1 AY (g_1 rfl AY.e (evc _ _) (by omega) (by omega)) fun DX AZ => ?_; clear AY DW
    refine s1 AZ (a_0 rfl AZ.e) fun Ez Cw => ?_; clear AZ DX
    refine e_8 ?_
    exact b_1 ⟨D + 1, ⟨Cw.as _ rfl, CJ, by omega, (fun i hi => by rcases Nat.lt_succ_iff_lt_or_eq.1 hi with h | h; exact c i h; subst h; assumption)⟩, by omega⟩
   skip
   rw [BI] at K
   refine c_0 K rfl (b_9 ?_)
   have Bq := K.as [] rfl; clear K
   refine a_5 (s1 Bq (a_0 rfl (evc _ _)) fun E0 Br => ?_); clear Bq CU
   refine n1 (c_2 (c_4 (a_6 (a_6 (c_4 (a_6 (a_8 Br (.inl rfl) (a_2 Br rfl (.tmp rfl)) ?_)))))))
   exact ⟨k_1 (Eq.symm (by first | exact m_0 (by omega) | exact p_9 (k := k) (by omega) (by omega) | exact q_0 (k := O) (by omega) (by omega) | exact m_8 (⟨by omega, by omega, fun i hi => A i (by omega), fun i hi => B i (by omega)⟩ : e_9 b) (by assumption) | exact p_8 (k := D) (⟨by omega, by omega, fun i hi => A i (by omega), fun i hi => B i (by omega)⟩ : e_9 b) (by omega) (by assumption) | exact i_7 (k := C) (⟨by omega, by omega, fun i hi => A i (by omega), fun i hi => B i (by omega)⟩ : e_9 b) (by omega) (x_9 (by assumption)) | exact i_7 (k := C) (⟨by omega, by omega, fun i hi => A i (by omega), fun i hi => B i (by omega)⟩ : e_9 b) (by omega) (y_0 (k := N) (by omega) (h_0 (by first | exact .inl (by assumption) | exact .inr (by assumption)))) | exact r_0 (⟨by omega, by omega, fun i hi => A i (by omega), fun i hi => B i (by omega)⟩ : e_9 b) (by assumption) (fun i hi => c i (by omega)) (fun i hi => d i (by omega)))), CJ.ext⟩
  skip
  rw [decide_eq_false CO] at R
  refine b_8 R rfl (h_6 (b_5 (b_5 (f_9 (b_1 (b_9 (b_9 ?_)))))))
  have Bs := R.as [(1, (bptr E 0))] rfl; clear R
  refine a_5 (s1 Bs (a_0 rfl (evc _ _)) fun DY Bt => ?_); clear Bs DT
  refine n1 (c_6 ?_)
  have Bu := Bt.as [(6, (iv 0)), (1, (bptr E 0))] rfl; clear Bt
  refine h_7 (G := Nat) (fun (C : Nat) a_ w_ => Fr 113 [] [(6, (iv (C : Int))), (1, (bptr E 0))] a_ ∧ Sep NoB w w_ [(blk E 25 [(iv b.scales), vt, vm]), (d_5 false vt lr lb b.tabs), (f_0 false vm lk b.macs)] ∧ (C ≤ b.macs.length) ∧ (∀ i, i < C → macB b.scales (b.macs.getD i mac0) = true)) (fun C => b.macs.length - C) 0 ⟨Bu.as _ rfl, f, by omega, (fun _ h => absurd h (Nat.not_lt_zero _))⟩ ?_
  clear Bu f DY
  rintro C DZ FD ⟨Aa, U, hkk3, d⟩
  have hkl3 := hth.kl C; have hsc_ := g_7.1 (show inB b.scales 1 4 = true by assumption)
  refine b_9 (m2 (s1 Aa (a_1 rfl Aa.e) fun Da Ab => ?_)); clear Aa DZ
  refine s1 Ab (a_3 rfl t_9 Ab.e) fun Db Ac => ?_; clear Ab Da
  refine s1 Ac (a_4 rfl ty_23 Ac.e (U.bk 0 rfl) rfl) fun Dc Ad => ?_; clear Ac Db
  refine s1 Ad (e_0 rfl un_23 Ad.e (c_9 (U.ok 2 _ rfl)).macs) fun Dd s => ?_; clear Ad Dc
  refine s1 s (g_2 rfl s.e s.e) fun CV L => ?_; clear s Dd
  refine n1 ?_
  by_cases CP : (C : Int) < (b.macs.length : Int)
  ·skip
   rw [decide_eq_true CP] at L
   refine c_0 L rfl (d_4 (b_1 (b_9 (c_6 (m2 (s1 L (a_3 rfl t_9 L.e) fun De Ae => ?_)))))); clear L CV
   refine s1 Ae (a_4 rfl ty_23 Ae.e (U.bk 0 rfl) rfl) fun Df Af => ?_; clear Ae De
   refine s1 Af (a_1 rfl Af.e) fun Dg t => ?_; clear Af Df
   refine s1 t (b_4 rfl un_23 ty_61 t.e (i := C) t.e (c_9 (U.ok 2 _ rfl)).macs (by decide) (by omega)) fun Dh Ag => ?_; clear t Dg
   refine s1 Ag (e_6 rfl ty_61 Ag.e (c_9 (U.ok 2 _ rfl)).macs (macs_all (by omega)) rfl (by decide)) fun Di Bv => ?_; clear Ag Dh
   refine s2 Bv (d_8 U rfl ze_61 (cs := [(iv 0), (Value.slice none 0 0)]) rfl) ?_
   rintro Dj _ FE ⟨g, rfl, BG⟩ u; clear Bv U Di
   refine s7 u (b_6 BG rfl ty_61 u.e u.e (i := 0) rfl (vs := [(iv ((b.macs.getD C mac0).scale)), (lk C)]) rfl rfl (g_8 rfl (g_8 (SlAt.one ((c_9 (BG.ok 3 _ rfl)).blk (i := C) (by omega))) q_9)) (Nat.le_of_ble_eq_true rfl)) ?_
   intro _ EQ CK Bw; clear u
   have m : Sep NoB w EQ [(blk g 61 [(iv ((b.macs.getD C mac0).scale)), (lk C)]), (blk E 25 [(iv b.scales), vt, vm]), (d_5 false vt lr lb b.tabs), (f_0 false vm lk b.macs)] := CK; clear CK BG
   refine n2 (b_9 ?_)
   have Ah := Bw.as [(7, (bptr g 0)), (6, (iv (C : Int))), (1, (bptr E 0))] rfl; clear Bw
   refine a_5 (s1 Ah (a_3 rfl fd_61_0 Ah.e) fun Dk Ai => ?_); clear Ah Dj
   refine s1 Ai (a_4 rfl ty_3 Ai.e (m.bk 0 rfl) rfl) fun Dl Aj => ?_; clear Ai Dk
   refine s1 Aj (a_3 rfl fd_25_0 Aj.e) fun Dm Ak => ?_; clear Aj Dl
   refine s1 Ak (a_4 rfl ty_3 Ak.e (m.bk 1 rfl) rfl) fun Dn Al => ?_; clear Ak Dm
   refine s1 Al (i_5 rfl Al.e (evc _ _) (by omega) (by omega)) fun Do x => ?_; clear Al Dn
   refine s2 x (b_2 rfl aa_0 (ev3 x.e (evc _ _) x.e) (z_7 _ _ _ _)) ?_
   rintro Dp _ W_ ⟨rfl, hW_⟩ Am; have hW2_ := hW_.symm; subst hW2_; clear hW_ x Do
   refine s1 Am (f_7 rfl Am.e) fun CW S => ?_; clear Am Dp
   refine n1 ?_
   rcases Bool.eq_false_or_eq_true ((inB ((b.macs.getD C mac0).scale) 0 (b.scales - 1))) with BJ | BJ
   ·skip
    rw [BJ] at S
    refine b_8 S rfl (d_4 (b_1 (b_9 ?_)))
    have Bx := S.as [(7, (bptr g 0)), (6, (iv (C : Int))), (1, (bptr E 0))] rfl; clear S
    refine a_5 (s1 Bx (a_0 rfl (evc _ _)) fun Dq By => ?_); clear Bx CW
    refine n1 (c_6 ?_)
    have Bz := By.as [(8, (iv 0)), (7, (bptr g 0)), (6, (iv (C : Int))), (1, (bptr E 0))] rfl; clear By
    refine h_7 (G := Nat) (fun (N : Nat) a_ w_ => Fr 113 [] [(8, (iv (N : Int))), (7, (bptr g 0)), (6, (iv (C : Int))), (1, (bptr E 0))] a_ ∧ Sep NoB w w_ [(blk g 61 [(iv ((b.macs.getD C mac0).scale)), (lk C)]), (blk E 25 [(iv b.scales), vt, vm]), (d_5 false vt lr lb b.tabs), (f_0 false vm lk b.macs)] ∧ (N ≤ (b.macs.getD C mac0).blocks.length) ∧ (∀ i, i < N → blkB ((b.macs.getD C mac0).blocks.getD i (0, 0, 0)) = true)) (fun N => (b.macs.getD C mac0).blocks.length - N) 0 ⟨Bz.as _ rfl, m, by omega, (fun _ h => absurd h (Nat.not_lt_zero _))⟩ ?_
    clear Bz m Dq
    rintro N Dr FF ⟨An, F, hkk4, C6⟩
    refine b_9 (m2 (s1 An (a_1 rfl An.e) fun Ds Ao => ?_)); clear An Dr
    refine s1 Ao (a_3 rfl x_3 Ao.e) fun Dt Ap => ?_; clear Ao Ds
    refine s1 Ap (a_4 rfl ty_59 Ap.e (F.bk 0 rfl) rfl) fun Du Aq => ?_; clear Ap Dt
    refine s1 Aq (e_0 rfl un_59 Aq.e ((c_9 (F.ok 3 _ rfl)).blk (i := C) (by omega))) fun Dv y => ?_; clear Aq Du
    refine s1 y (g_2 rfl y.e y.e) fun CX M => ?_; clear y Dv
    refine n1 ?_
    by_cases CQ : (N : Int) < ((b.macs.getD C mac0).blocks.length : Int)
    ·skip
     rw [decide_eq_true CQ] at M
     refine c_0 M rfl (d_4 (b_1 (b_9 (c_6 (m2 (s1 M (a_3 rfl x_3 M.e) fun Dw Ar => ?_)))))); clear M CX
     refine s1 Ar (a_4 rfl ty_59 Ar.e (F.bk 0 rfl) rfl) fun Dx As => ?_; clear Ar Dw
     refine s1 As (a_1 rfl As.e) fun Dy z => ?_; clear As Dx
     refine s1 z (b_4 rfl un_59 ty_63 z.e (i := N) z.e ((c_9 (F.ok 3 _ rfl)).blk (i := C) (by omega)) (by decide) (by omega)) fun Dz At => ?_; clear z Dy
     refine s1 At (e_2 rfl fd_63_0 At.e ((c_9 (F.ok 3 _ rfl)).blk (i := C) (by omega)) (by rw [(((c_9 (F.ok 3 _ rfl)).blk (i := C) (by omega))).1]; omega)) fun D0 Au => ?_; clear At Dz
     refine s1 Au (e_6 rfl ty_27 Au.e ((c_9 (F.ok 3 _ rfl)).blk (i := C) (by omega)) (trips_sub0 (by omega)) rfl (by decide)) fun D1 Av => ?_; clear Au D0
     refine s2 Av (b_2 rfl en_52 (ev1 Av.e) (span_ok _ _ _)) ?_
     rintro D2 _ FG ⟨rfl, CH⟩ Aw; have V := F.step CH; clear CH Av F D1
     refine s1 Aw (f_7 rfl Aw.e) fun D3 Ax => ?_; clear Aw D2
     refine s1 Ax (a_1 rfl Ax.e) fun CY W => ?_; clear Ax D3
     rcases Bool.eq_false_or_eq_true ((u_3 ((((b.macs.getD C mac0).blocks).getD N (0, 0, 0)).1, (((b.macs.getD C mac0).blocks).getD N (0, 0, 0)).2.1))) with BK | BK
     ·skip
      rw [BK] at W
      refine s5 W (a_3 rfl x_3 W.e) fun D4 Ay => ?_; clear W CY
      refine s5 Ay (a_4 rfl ty_59 Ay.e (V.bk 0 rfl) rfl) fun D5 Az => ?_; clear Ay D4
      refine s5 Az (a_1 rfl Az.e) fun D6 AA => ?_; clear Az D5
      refine s5 AA (b_4 rfl un_59 ty_63 AA.e (i := N) AA.e ((c_9 (V.ok 3 _ rfl)).blk (i := C) (by omega)) (by decide) (by omega)) fun D7 A0 => ?_; clear AA D6
      refine s5 A0 (e_2 rfl fd_63_1 A0.e ((c_9 (V.ok 3 _ rfl)).blk (i := C) (by omega)) (by rw [(((c_9 (V.ok 3 _ rfl)).blk (i := C) (by omega))).1]; omega)) fun D8 A1 => ?_; clear A0 D7
      refine s5 A1 (d_0 rfl ty_3 A1.e ((c_9 (V.ok 3 _ rfl)).blk (i := C) (by omega)) (trips_at2 (by omega))) fun D9 A2 => ?_; clear A1 D8
      refine s6 A2 (b_2 rfl en_53 (ev1 A2.e) (rvalue_ok _ _)) ?_
      rintro EA _ FH ⟨rfl, CI⟩ A3; have CL := V.step CI; clear CI A2 V D9
      refine s5 A3 (f_7 rfl A3.e) fun EB AB => ?_; clear A3 EA
      refine s1 AB (d_1 rfl AB.e AB.e) fun CZ T => ?_; clear AB EB
      refine n1 ?_
      rcases Bool.eq_false_or_eq_true ((inB ((((b.macs.getD C mac0).blocks).getD N (0, 0, 0)).2.2) 0 100000)) with BL | BL
      ·skip
       rw [BL] at T
       refine b_8 T rfl (d_4 (h_0 (b_1 ?_)))
       have A4 := T.as [(8, (iv (N : Int))), (7, (bptr g 0)), (6, (iv (C : Int))), (1, (bptr E 0))] rfl; clear T
       refine a_5 (s1 A4 (a_1 rfl A4.e) fun EC A5 => ?_); clear A4 CZ
       refine s1 A5 (g_1 rfl A5.e (evc _ _) (by omega) (by omega)) fun ED A6 => ?_; clear A5 EC
       refine s1 A6 (a_0 rfl A6.e) fun E1 Cx => ?_; clear A6 ED
       refine e_8 ?_
       exact b_1 ⟨N + 1, ⟨Cx.as _ rfl, CL, by omega, (fun i hi => by rcases Nat.lt_succ_iff_lt_or_eq.1 hi with h | h; exact C6 i h; subst h; exact blk_y (by assumption) (by assumption))⟩, by omega⟩
      skip
      rw [BL] at T
      refine c_0 T rfl (b_9 ?_)
      have B0 := T.as [] rfl; clear T
      refine a_5 (s1 B0 (a_0 rfl (evc _ _)) fun E2 B1 => ?_); clear B0 CZ
      refine n1 (c_2 (c_4 (a_6 (a_6 (c_4 (c_4 (a_6 (a_6 (c_4 (a_6 (a_8 B1 (.inl rfl) (a_2 B1 rfl (.tmp rfl)) ?_)))))))))))
      exact ⟨k_1 (Eq.symm (by first | exact m_0 (by omega) | exact p_9 (k := k) (by omega) (by omega) | exact q_0 (k := O) (by omega) (by omega) | exact m_8 (⟨by omega, by omega, fun i hi => A i (by omega), fun i hi => B i (by omega)⟩ : e_9 b) (by assumption) | exact p_8 (k := D) (⟨by omega, by omega, fun i hi => A i (by omega), fun i hi => B i (by omega)⟩ : e_9 b) (by omega) (by assumption) | exact i_7 (k := C) (⟨by omega, by omega, fun i hi => A i (by omega), fun i hi => B i (by omega)⟩ : e_9 b) (by omega) (x_9 (by assumption)) | exact i_7 (k := C) (⟨by omega, by omega, fun i hi => A i (by omega), fun i hi => B i (by omega)⟩ : e_9 b) (by omega) (y_0 (k := N) (by omega) (h_0 (by first | exact .inl (by assumption) | exact .inr (by assumption)))) | exact r_0 (⟨by omega, by omega, fun i hi => A i (by omega), fun i hi => B i (by omega)⟩ : e_9 b) (by assumption) (fun i hi => c i (by omega)) (fun i hi => d i (by omega)))), CL.ext⟩
     skip
     rw [BK] at W
     refine s3 W fun EE B2 => ?_; clear W CY
     refine s3 B2 fun EF B3 => ?_; clear B2 EE
     refine s3 B3 fun EG B4 => ?_; clear B3 EF
     refine s3 B4 fun EH B5 => ?_; clear B4 EG
     refine s3 B5 fun EI B6 => ?_; clear B5 EH
     refine s3 B6 fun EJ B7 => ?_; clear B6 EI
     refine s3 B7 fun EK B8 => ?_; clear B7 EJ
     refine s3 B8 fun EL A7 => ?_; clear B8 EK
     refine s1 A7 (b_3 rfl A7.e (evc _ _)) fun EM A8 => ?_; clear A7 EL
     refine n1 (c_0 A8 rfl (b_9 ?_))
     have B9 := A8.as [] rfl; clear A8
     refine a_5 (s1 B9 (a_0 rfl (evc _ _)) fun E3 CA => ?_); clear B9 EM
     refine n1 (c_2 (c_4 (a_6 (a_6 (c_4 (c_4 (a_6 (a_6 (c_4 (a_6 (a_8 CA (.inl rfl) (a_2 CA rfl (.tmp rfl)) ?_)))))))))))
     exact ⟨k_1 (Eq.symm (by first | exact m_0 (by omega) | exact p_9 (k := k) (by omega) (by omega) | exact q_0 (k := O) (by omega) (by omega) | exact m_8 (⟨by omega, by omega, fun i hi => A i (by omega), fun i hi => B i (by omega)⟩ : e_9 b) (by assumption) | exact p_8 (k := D) (⟨by omega, by omega, fun i hi => A i (by omega), fun i hi => B i (by omega)⟩ : e_9 b) (by omega) (by assumption) | exact i_7 (k := C) (⟨by omega, by omega, fun i hi => A i (by omega), fun i hi => B i (by omega)⟩ : e_9 b) (by omega) (x_9 (by assumption)) | exact i_7 (k := C) (⟨by omega, by omega, fun i hi => A i (by omega), fun i hi => B i (by omega)⟩ : e_9 b) (by omega) (y_0 (k := N) (by omega) (h_0 (by first | exact .inl (by assumption) | exact .inr (by assumption)))) | exact r_0 (⟨by omega, by omega, fun i hi => A i (by omega), fun i hi => B i (by omega)⟩ : e_9 b) (by assumption) (fun i hi => c i (by omega)) (fun i hi => d i (by omega)))), V.ext⟩
    skip
    rw [decide_eq_false CQ] at M
    refine b_8 M rfl (h_6 (b_5 (b_5 (f_9 (h_0 (b_1 ?_))))))
    have A9 := M.as [(6, (iv (C : Int))), (1, (bptr E 0))] rfl; clear M
    refine a_5 (s1 A9 (a_1 rfl A9.e) fun EN BA => ?_); clear A9 CX
    refine s1 BA (g_1 rfl BA.e (evc _ _) (by omega) (by omega)) fun EO BB => ?_; clear BA EN
    refine s1 BB (a_0 rfl BB.e) fun E4 Cy => ?_; clear BB EO
    refine e_8 ?_
    have Cz := F.gkp (gpc 1 (gpc 2 (gpc 3 gpn))); clear F
    exact b_1 ⟨C + 1, ⟨Cy.as _ rfl, Cz, by omega, (fun i hi => by rcases Nat.lt_succ_iff_lt_or_eq.1 hi with h | h; exact d i h; subst h; exact mac_y (by assumption) (fun j hj => C6 j (by omega)))⟩, by omega⟩
   skip
   rw [BJ] at S
   refine c_0 S rfl (b_9 ?_)
   have CB := S.as [] rfl; clear S
   refine a_5 (s1 CB (a_0 rfl (evc _ _)) fun E5 CC => ?_); clear CB CW
   refine n1 (c_2 (a_6 (c_4 (a_6 (a_6 (c_4 (a_6 (a_8 CC (.inl rfl) (a_2 CC rfl (.tmp rfl)) ?_))))))))
   exact ⟨k_1 (Eq.symm (by first | exact m_0 (by omega) | exact p_9 (k := k) (by omega) (by omega) | exact q_0 (k := O) (by omega) (by omega) | exact m_8 (⟨by omega, by omega, fun i hi => A i (by omega), fun i hi => B i (by omega)⟩ : e_9 b) (by assumption) | exact p_8 (k := D) (⟨by omega, by omega, fun i hi => A i (by omega), fun i hi => B i (by omega)⟩ : e_9 b) (by omega) (by assumption) | exact i_7 (k := C) (⟨by omega, by omega, fun i hi => A i (by omega), fun i hi => B i (by omega)⟩ : e_9 b) (by omega) (x_9 (by assumption)) | exact i_7 (k := C) (⟨by omega, by omega, fun i hi => A i (by omega), fun i hi => B i (by omega)⟩ : e_9 b) (by omega) (y_0 (k := N) (by omega) (h_0 (by first | exact .inl (by assumption) | exact .inr (by assumption)))) | exact r_0 (⟨by omega, by omega, fun i hi => A i (by omega), fun i hi => B i (by omega)⟩ : e_9 b) (by assumption) (fun i hi => c i (by omega)) (fun i hi => d i (by omega)))), m.ext⟩
  skip
  rw [decide_eq_false CP] at L
  refine b_8 L rfl (h_6 (b_5 (b_5 (f_9 (b_1 (b_9 ?_))))))
  have CD := L.as [] rfl; clear L
  refine a_5 (s1 CD (a_0 rfl (evc _ _)) fun E6 CE => ?_); clear CD CV
  refine n1 (c_2 (a_8 CE (.inl rfl) (a_2 CE rfl (.tmp rfl)) ?_))
  exact ⟨k_1 (Eq.symm (by first | exact m_0 (by omega) | exact p_9 (k := k) (by omega) (by omega) | exact q_0 (k := O) (by omega) (by omega) | exact m_8 (⟨by omega, by omega, fun i hi => A i (by omega), fun i hi => B i (by omega)⟩ : e_9 b) (by assumption) | exact p_8 (k := D) (⟨by omega, by omega, fun i hi => A i (by omega), fun i hi => B i (by omega)⟩ : e_9 b) (by omega) (by assumption) | exact i_7 (k := C) (⟨by omega, by omega, fun i hi => A i (by omega), fun i hi => B i (by omega)⟩ : e_9 b) (by omega) (x_9 (by assumption)) | exact i_7 (k := C) (⟨by omega, by omega, fun i hi => A i (by omega), fun i hi => B i (by omega)⟩ : e_9 b) (by omega) (y_0 (k := N) (by omega) (h_0 (by first | exact .inl (by assumption) | exact .inr (by assumption)))) | exact r_0 (⟨by omega, by omega, fun i hi => A i (by omega), fun i hi => B i (by omega)⟩ : e_9 b) (by assumption) (fun i hi => c i (by omega)) (fun i hi => d i (by omega)))), U.ext⟩
 skip
 rw [BH] at Q
 refine c_0 Q rfl (m2 (s1 Q (a_0 rfl (evc _ _)) fun E7 CF => ?_)); clear Q CT
 refine n1 (c_2 (a_6 (a_8 CF (.inl rfl) (a_2 CF rfl (.tmp rfl)) ?_)))
 exact ⟨k_1 (Eq.symm (by first | exact m_0 (by omega) | exact p_9 (k := k) (by omega) (by omega) | exact q_0 (k := O) (by omega) (by omega) | exact m_8 (⟨by omega, by omega, fun i hi => A i (by omega), fun i hi => B i (by omega)⟩ : e_9 b) (by assumption) | exact p_8 (k := D) (⟨by omega, by omega, fun i hi => A i (by omega), fun i hi => B i (by omega)⟩ : e_9 b) (by omega) (by assumption) | exact i_7 (k := C) (⟨by omega, by omega, fun i hi => A i (by omega), fun i hi => B i (by omega)⟩ : e_9 b) (by omega) (x_9 (by assumption)) | exact i_7 (k := C) (⟨by omega, by omega, fun i hi => A i (by omega), fun i hi => B i (by omega)⟩ : e_9 b) (by omega) (y_0 (k := N) (by omega) (h_0 (by first | exact .inl (by assumption) | exact .inr (by assumption)))) | exact r_0 (⟨by omega, by omega, fun i hi => A i (by omega), fun i hi => B i (by omega)⟩ : e_9 b) (by assumption) (fun i hi => c i (by omega)) (fun i hi => d i (by omega)))), H.ext⟩
set_option maxHeartbeats 4000000 in
theorem u_5 (b : h_5) (vt vm : Value) (lr lb lk : Nat → Value) (w : World) (hT : n_1 w vt lr lb b.tabs) (hM : o_4 w vm lk b.macs) (hth : q_8 b) :
  Calls Try.prog 32 #[(Value.agg #[(iv b.scales), vt, vm])] w (Ret fun v w' => v = .int .i64 (f_6 b) ∧ Ext NoB w w') := by
 refine b_0 Try.func32 rfl fun a0 m => ?_
 replace m : Fr 45 [] [(0, (Value.agg #[(iv b.scales), vt, vm]))] a0 := m
 have BJ : Sep NoB w w [(d_5 false vt lr lb b.tabs), (f_0 false vm lk b.macs)] := f_1 ⟨rfl, hT, rfl, hM, trivial⟩
 refine m2 (s2 m (f_2 BJ rfl m.e (cs := [(iv b.scales), vt, vm]) rfl) ?_)
 rintro a1 _ w3 ⟨b4, rfl, D⟩ BI; clear m BJ a0
 refine s1 BI (a_0 rfl (evc _ _)) fun a6 A7 => ?_; clear BI a1
 refine n2 (c_6 (m2 (s1 A7 (a_3 rfl v_6 A7.e) fun a8 A8 => ?_))); clear A7 a6
 refine s1 A8 (a_4 rfl ty_34 A8.e (D.bk 0 rfl) rfl) fun Bt n => ?_; clear A8 a8
 refine s1 n (e_0 rfl y_2 n.e (b_7 (D.ok 1 _ rfl)).tabs) fun Bu o => ?_; clear n Bt
 refine s1 o (l_1 rfl o.e (evc _ _)) fun Bv p => ?_; clear o Bu
 refine s1 p (a_1 rfl p.e) fun BD I => ?_; clear p Bv
 by_cases BB : 6 < (b.tabs.length : Int)
 ·skip
  rw [decide_eq_true BB] at I
  refine s3 I fun Bw A0 => ?_; clear I BD
  refine s3 A0 fun Bx A1 => ?_; clear A0 Bw
  refine s3 A1 fun By A2 => ?_; clear A1 Bx
  refine s3 A2 fun Bz q => ?_; clear A2 By
  refine s1 q (b_3 rfl q.e (evc _ _)) fun B0 r => ?_; clear q Bz
  refine s1 r (a_0 rfl r.e) fun B1 s => ?_; clear r B0
  refine n1 (c_0 s rfl (b_9 ?_))
  have A3 := s.as [] rfl; clear s
  refine a_5 (s1 A3 (a_0 rfl (evc _ _)) fun CZ A4 => ?_); clear A3 B1
  exact n1 (c_2 (c_4 (a_6 (a_8 A4 (.inl rfl) (a_2 A4 rfl (.tmp rfl)) (⟨k_1 (Eq.symm (by first | exact m_0 (by omega) | exact check_3b' (by assumption) | exact check_3c' (by assumption))), D.ext⟩)))))
 skip
 rw [decide_eq_false BB] at I
 refine s5 I (a_3 rfl u_0 I.e) fun B2 t => ?_; clear I BD
 refine s5 t (a_4 rfl ty_35 t.e (D.bk 0 rfl) rfl) fun B3 u => ?_; clear t B2
 refine s5 u (e_0 rfl aa_3 u.e (c_9 (D.ok 2 _ rfl)).macs) fun B4 x => ?_; clear u B3
 refine s5 x (l_1 rfl x.e (evc _ _)) fun B5 g => ?_; clear x B4
 refine s1 g (d_1 rfl g.e g.e) fun B6 y => ?_; clear g B5
 refine s1 y (a_0 rfl y.e) fun BE G => ?_; clear y B6
 refine n1 ?_
 by_cases BC : 6 < (b.macs.length : Int)
 ·skip
  rw [decide_eq_true BC] at G
  refine c_0 G rfl (b_9 ?_)
  have A5 := G.as [] rfl; clear G
  refine a_5 (s1 A5 (a_0 rfl (evc _ _)) fun Ca A6 => ?_); clear A5 BE
  exact n1 (c_2 (c_4 (a_6 (a_8 A6 (.inl rfl) (a_2 A6 rfl (.tmp rfl)) (⟨k_1 (Eq.symm (by first | exact m_0 (by omega) | exact check_3b' (by assumption) | exact check_3c' (by assumption))), D.ext⟩)))))
 skip
 rw [decide_eq_false BC] at G
 refine b_8 G rfl (b_9 ?_)
 have z := G.as [(1, (bptr b4 0))] rfl; clear G
 refine a_5 (s1 z (a_3 rfl v_6 z.e) fun B7 AA => ?_); clear z BE
 refine s1 AA (a_4 rfl ty_34 AA.e (D.bk 0 rfl) rfl) fun B8 AB => ?_; clear AA B7
 refine s2 AB (b_2 rfl en_61 (ev2 AB.e (evf _ _)) (all_tab b.tabs lr lb _ 62 #[] #[] (fun i => decide (((b.tabs.getD i tab0).rows.length : Int) ≤ 8)) _ (b_7 (D.ok 1 _ rfl)).tabs (by have := hth.tl; omega) ⟨en_62, fun i hi W hW => tshort_ok (b.tabs.getD i tab0) _ _ W ((b_7 ((D.step hW).ok 1 _ rfl)).row hi) ((b_7 ((D.step hW).ok 1 _ rfl)).brk hi) (hth.rl i) (hth.bl i)⟩ (fun i hi => ⟨((b_7 (D.ok 1 _ rfl)).row hi).one, ((b_7 (D.ok 1 _ rfl)).brk hi).one⟩))) ?_
 rintro B9 _ Cb ⟨rfl, A9⟩ AC; have K := D.step A9; clear A9 AB D B8
 refine s1 AC (f_7 rfl AC.e) fun CA AD => ?_; clear AC B9
 refine s1 AD (a_0 rfl AD.e) fun BF F => ?_; clear AD CA
 refine n1 ?_
 rcases Bool.eq_false_or_eq_true (((List.range b.tabs.length).all (fun i => decide (((b.tabs.getD i tab0).rows.length : Int) ≤ 8)))) with AQ | AQ
 ·skip
  rw [AQ] at F
  refine b_8 F rfl (m2 (s1 F (a_3 rfl u_0 F.e) fun CB AE => ?_)); clear F BF
  refine s1 AE (a_4 rfl ty_35 AE.e (K.bk 0 rfl) rfl) fun CC AF => ?_; clear AE CB
  refine s2 AF (b_2 rfl en_63 (ev2 AF.e (evf _ _)) (all_mac b.macs lk _ 64 #[] #[] (fun i => decide (((b.macs.getD i mac0).blocks.length : Int) ≤ 5)) _ (c_9 (K.ok 2 _ rfl)).macs (by have := hth.ml; omega) ⟨en_64, fun i hi W hW => mshort_ok (b.macs.getD i mac0) _ W ((c_9 ((K.step hW).ok 2 _ rfl)).blk hi)⟩ (fun i hi => ((c_9 (K.ok 2 _ rfl)).blk hi).one))) ?_
  rintro CD _ Cc ⟨rfl, BA⟩ AG; have A := K.step BA; clear BA AF K CC
  refine s1 AG (f_7 rfl AG.e) fun CE AH => ?_; clear AG CD
  refine s1 AH (a_0 rfl AH.e) fun BG H => ?_; clear AH CE
  refine n1 ?_
  rcases Bool.eq_false_or_eq_true (((List.range b.macs.length).all (fun i => decide (((b.macs.getD i mac0).blocks.length : Int) ≤ 5)))) with AR | AR
  ·skip
   rw [AR] at H
   refine b_8 H rfl (b_9 ?_)
   have AI := H.as [(1, (bptr b4 0))] rfl; clear H
   refine a_5 (s1 AI (a_3 rfl fd_37_0 AI.e) fun CF AJ => ?_); clear AI BG
   refine s1 AJ (a_4 rfl ty_3 AJ.e (A.bk 0 rfl) rfl) fun CG AK => ?_; clear AJ CF
   refine s2 AK (b_2 rfl en_47 (ev3 AK.e (evc _ _) (evc _ _)) (n_7 _ _ _ _)) ?_
   rintro CH _ W_ ⟨rfl, hW_⟩ AL; have hW2_ := hW_.symm; subst hW2_; clear hW_ AK CG
   refine s1 AL (f_7 rfl AL.e) fun CI AM => ?_; clear AL CH
   refine s1 AM (a_1 rfl AM.e) fun BH J => ?_; clear AM CI
   rcases Bool.eq_false_or_eq_true ((inB b.scales 1 4)) with AS | AS
   ·skip
    rw [AS] at J
    refine s5 J (a_3 rfl v_6 J.e) fun CJ AN => ?_; clear J BH
    refine s5 AN (a_4 rfl ty_34 AN.e (A.bk 0 rfl) rfl) fun CK AO => ?_; clear AN CJ
    refine s5 AO (c_5 rfl x_6 (AO.ev rfl) (A.bk 0 rfl) (l := [(iv b.scales), vt, vm]) rfl rfl) fun CL AP => ?_; clear AO CK
    refine s5 AP (h_1 rfl (ev1 AP.e) ev0) fun CM h => ?_; clear AP CL
    refine s6 h (b_2 rfl en_61 (ev2 h.e h.e) (all_tab b.tabs lr lb _ 65 #[(Value.agg #[(iv b.scales), vt, vm])] #[] (fun i => tabB b.scales (b.tabs.getD i tab0)) _ (b_7 (A.ok 1 _ rfl)).tabs (by have := hth.tl; omega) ⟨en_65, fun i hi W hW => table_ok b.scales vt vm (b_7 (A.ok 1 _ rfl)).tabs.one (c_9 (A.ok 2 _ rfl)).macs.one (g_7.1 (by assumption)) (b.tabs.getD i tab0) _ _ W ((b_7 ((A.step hW).ok 1 _ rfl)).row hi) ((b_7 ((A.step hW).ok 1 _ rfl)).brk hi) (hth.rl i) (hth.bl i)⟩ (fun i hi => ⟨((b_7 (A.ok 1 _ rfl)).row hi).one, ((b_7 (A.ok 1 _ rfl)).brk hi).one⟩))) ?_
    rintro BK _ CX ⟨rfl, Av⟩ O; have B := A.step Av; clear Av h A CM
    refine s5 O (f_7 rfl O.e) fun BL L => ?_; clear O BK
    refine s1 L (d_1 rfl L.e L.e) fun BM P => ?_; clear L BL
    refine s1 P (a_1 rfl P.e) fun Ay E => ?_; clear P BM
    rcases Bool.eq_false_or_eq_true (((List.range b.tabs.length).all (fun i => tabB b.scales (b.tabs.getD i tab0)))) with j | j
    ·skip
     rw [j] at E
     refine s5 E (a_3 rfl u_0 E.e) fun BN Q => ?_; clear E Ay
     refine s5 Q (a_4 rfl ty_35 Q.e (B.bk 0 rfl) rfl) fun BO R => ?_; clear Q BN
     refine s5 R (c_5 rfl x_6 (R.ev rfl) (B.bk 0 rfl) (l := [(iv b.scales), vt, vm]) rfl rfl) fun BP S => ?_; clear R BO
     refine s5 S (h_1 rfl (ev1 S.e) ev0) fun BQ M => ?_; clear S BP
     refine s6 M (b_2 rfl en_63 (ev2 M.e M.e) (all_mac b.macs lk _ 66 #[(Value.agg #[(iv b.scales), vt, vm])] #[] (fun i => macB b.scales (b.macs.getD i mac0)) _ (c_9 (B.ok 2 _ rfl)).macs (by have := hth.ml; omega) ⟨en_66, fun i hi W hW => machine_ok b.scales vt vm W (b_7 (B.ok 1 _ rfl)).tabs.one (c_9 (B.ok 2 _ rfl)).macs.one (g_7.1 (by assumption)) (b.macs.getD i mac0) _ ((c_9 ((B.step hW).ok 2 _ rfl)).blk hi) (hth.kl i)⟩ (fun i hi => ((c_9 (B.ok 2 _ rfl)).blk hi).one))) ?_
     rintro BR _ CY ⟨rfl, Aw⟩ T; have Ax := B.step Aw; clear Aw M B BQ
     refine s5 T (f_7 rfl T.e) fun BS N => ?_; clear T BR
     refine s1 N (d_1 rfl N.e N.e) fun BT U => ?_; clear N BS
     refine s1 U (a_0 rfl U.e) fun Az C => ?_; clear U BT
     refine n1 ?_
     rcases Bool.eq_false_or_eq_true (((List.range b.macs.length).all (fun i => macB b.scales (b.macs.getD i mac0)))) with k | k
     ·skip
      rw [k] at C
      refine b_8 C rfl (d_4 (h_0 (b_1 (b_9 ?_))))
      have AT := C.as [] rfl; clear C
      refine a_5 (s1 AT (a_0 rfl (evc _ _)) fun CP AU => ?_); clear AT Az
      exact n1 (c_2 (a_8 AU (.inl rfl) (a_2 AU rfl (.tmp rfl)) (⟨k_1 (Eq.symm (check_0' (q_3 (by omega) (by omega) (by assumption) (by assumption)) (by assumption) (by assumption) (by assumption))), Ax.ext⟩)))
     skip
     rw [k] at C
     refine c_0 C rfl (b_9 ?_)
     have AV := C.as [] rfl; clear C
     refine a_5 (s1 AV (a_0 rfl (evc _ _)) fun CQ AW => ?_); clear AV Az
     exact n1 (c_2 (c_4 (a_6 (a_8 AW (.inl rfl) (a_2 AW rfl (.tmp rfl)) (⟨k_1 (Eq.symm (by first | exact m_8 (q_3 (by omega) (by omega) (by assumption) (by assumption)) (by assumption) | exact check_1b' (q_3 (by omega) (by omega) (by assumption) (by assumption)) (by assumption) | exact check_1c' (q_3 (by omega) (by omega) (by assumption) (by assumption)) (by assumption))), Ax.ext⟩)))))
    skip
    rw [j] at E
    refine s3 E fun BU AX => ?_; clear E Ay
    refine s3 AX fun BV AY => ?_; clear AX BU
    refine s3 AY fun BW AZ => ?_; clear AY BV
    refine s3 AZ fun BX Aa => ?_; clear AZ BW
    refine s3 Aa fun BY Ab => ?_; clear Aa BX
    refine s3 Ab fun BZ V => ?_; clear Ab BY
    refine s1 V (b_3 rfl V.e (evc _ _)) fun Ba X => ?_; clear V BZ
    refine s1 X (a_0 rfl X.e) fun Bb Y => ?_; clear X Ba
    refine n1 (c_0 Y rfl (b_9 ?_))
    have Ac := Y.as [] rfl; clear Y
    refine a_5 (s1 Ac (a_0 rfl (evc _ _)) fun CR Ad => ?_); clear Ac Bb
    exact n1 (c_2 (c_4 (a_6 (a_8 Ad (.inl rfl) (a_2 Ad rfl (.tmp rfl)) (⟨k_1 (Eq.symm (by first | exact m_8 (q_3 (by omega) (by omega) (by assumption) (by assumption)) (by assumption) | exact check_1b' (q_3 (by omega) (by omega) (by assumption) (by assumption)) (by assumption) | exact check_1c' (q_3 (by omega) (by omega) (by assumption) (by assumption)) (by assumption))), B.ext⟩)))))
   skip
   rw [AS] at J
   refine s3 J fun Bc Ae => ?_; clear J BH
   refine s3 Ae fun Bd Af => ?_; clear Ae Bc
   refine s3 Af fun Be Ag => ?_; clear Af Bd
   refine s3 Ag fun Bf Ah => ?_; clear Ag Be
   refine s3 Ah fun Bg Ai => ?_; clear Ah Bf
   refine s3 Ai fun Bh Z => ?_; clear Ai Bg
   refine s1 Z (b_3 rfl Z.e (evc _ _)) fun Bi a => ?_; clear Z Bh
   refine s1 a (a_1 rfl a.e) fun Bj Aj => ?_; clear a Bi
   refine s3 Aj fun Bk Ak => ?_; clear Aj Bj
   refine s3 Ak fun Bl Al => ?_; clear Ak Bk
   refine s3 Al fun Bm Am => ?_; clear Al Bl
   refine s3 Am fun Bn An => ?_; clear Am Bm
   refine s3 An fun Bo Ao => ?_; clear An Bn
   refine s3 Ao fun Bp c => ?_; clear Ao Bo
   refine s1 c (b_3 rfl c.e (evc _ _)) fun Bq d => ?_; clear c Bp
   refine s1 d (a_0 rfl d.e) fun Br f => ?_; clear d Bq
   refine n1 (c_0 f rfl (b_9 ?_))
   have Ap := f.as [] rfl; clear f
   refine a_5 (s1 Ap (a_0 rfl (evc _ _)) fun CS Aq => ?_); clear Ap Br
   exact n1 (c_2 (c_4 (a_6 (a_8 Aq (.inl rfl) (a_2 Aq rfl (.tmp rfl)) (⟨k_1 (Eq.symm (by first | exact m_8 (q_3 (by omega) (by omega) (by assumption) (by assumption)) (by assumption) | exact check_1b' (q_3 (by omega) (by omega) (by assumption) (by assumption)) (by assumption) | exact check_1c' (q_3 (by omega) (by omega) (by assumption) (by assumption)) (by assumption))), A.ext⟩)))))
  skip
  rw [AR] at H
  refine c_0 H rfl (b_9 ?_)
  have Ar := H.as [] rfl; clear H
  refine a_5 (s1 Ar (a_0 rfl (evc _ _)) fun CT As => ?_); clear Ar BG
  exact n1 (c_2 (c_4 (a_6 (a_8 As (.inl rfl) (a_2 As rfl (.tmp rfl)) (⟨k_1 (Eq.symm (by first | exact m_0 (by omega) | exact check_3b' (by assumption) | exact check_3c' (by assumption))), A.ext⟩)))))
 skip
 rw [AQ] at F
 refine c_0 F rfl (b_9 ?_)
 have At := F.as [] rfl; clear F
 refine a_5 (s1 At (a_0 rfl (evc _ _)) fun CU Au => ?_); clear At BF
 exact n1 (c_2 (c_4 (a_6 (a_8 Au (.inl rfl) (a_2 Au rfl (.tmp rfl)) (⟨k_1 (Eq.symm (by first | exact m_0 (by omega) | exact check_3b' (by assumption) | exact check_3c' (by assumption))), K.ext⟩)))))
end Go.Proofs.Ytohgladndklciaa

namespace Go.Hard
section
variable {b : h_5} {l : List (Int × Int)} {k : Nat} {i : Int}
theorem q_7.mac (h : q_7 b) (hi : k < b.macs.length) : MacV b.scales (b.macs.getD k mac0) := h.macs _ (by simp only [List.getD, List.getElem?_eq_getElem hi, Option.getD_some]; exact List.getElem_mem hi)
theorem q_7.tab (h : q_7 b) (hi : k < b.tabs.length) : TabV b.scales (b.tabs.getD k tab0) := h.tabs _ (by simp only [List.getD, List.getElem?_eq_getElem hi, Option.getD_some]; exact List.getElem_mem hi)
theorem read_3 (h : f_6 b = 0) (h2 : 8 < l.length) : z_2 b l = 3 := by unfold z_2; rw [if_neg (not_not_intro h), if_pos h2]
theorem read_2' (h : f_6 b = 0) (h2 : ¬ 8 < l.length) (h3 : (List.range l.length).all (fun i => y_4 b (l.getD i (0, 0))) = false) : z_2 b l = 2 := by
  unfold z_2; rw [if_neg (not_not_intro h), if_neg h2, if_pos (show allI l.length (fun i => y_4 b (l.getD i (0, 0))) = false from h3)]
theorem read_11' (h : f_6 b = 0) (h2 : ¬ 8 < l.length) (h3 : (List.range l.length).all (fun i => y_4 b (l.getD i (0, 0))) = true) (h4 : (List.range l.length).all (fun i => !offB (b.macs.getD (l.getD i (0, 0)).1.toNat mac0)) = false) : z_2 b l = 11 := by
  unfold z_2; rw [if_neg (not_not_intro h), if_neg h2, if_neg (by rw [show allI l.length (fun i => y_4 b (l.getD i (0, 0))) = true from h3]; decide), if_pos (show allI l.length (fun i => !offB (b.macs.getD (l.getD i (0, 0)).1.toNat mac0)) = false from h4)]
theorem read_check (h : z_2 b l = 0) : f_6 b = 0 := by
  unfold z_2 at h
  split at h
  · rename_i h1; exact absurd h h1
  · rename_i h1; exact Decidable.not_not.1 h1
theorem readB_is (h : y_4 b (l.getD k (0, 0)) = true) : (0 ≤ (l.getD k (0, 0)).1 ∧ (l.getD k (0, 0)).1 ≤ (b.macs.length : Int) - 1) ∧ 0 ≤ (l.getD k (0, 0)).2 ∧ (l.getD k (0, 0)).2 ≤ 100000 := by
  unfold y_4 at h; rwa [Bool.and_eq_true, g_7, g_7] at h
end
def w_7 (b : h_5) (i : Int) : Int := if f_6 b ≠ 0 then f_6 b else if inB i 0 ((b.macs.length : Int) - 1) = false then 2 else if offB (b.macs.getD i.toNat mac0) = true then 11 else 0
def w_8 (b : h_5) (i : Int) : Rng := if w_7 b i = 0 then d_9 (b.macs.getD i.toNat mac0) else (0, 0)
theorem biasE_c {b : h_5} {i : Int} (h : f_6 b ≠ 0) : w_7 b i = f_6 b := by unfold w_7; rw [if_pos h]
theorem biasE_2 {b : h_5} {i : Int} (h : f_6 b = 0) (h2 : inB i 0 ((b.macs.length : Int) - 1) = false) : w_7 b i = 2 := by unfold w_7; rw [if_neg (not_not_intro h), if_pos h2]
theorem biasE_11 {b : h_5} {i : Int} (h : f_6 b = 0) (h2 : inB i 0 ((b.macs.length : Int) - 1) = true) (h3 : offB (b.macs.getD i.toNat mac0) = true) : w_7 b i = 11 := by unfold w_7; rw [if_neg (not_not_intro h), if_neg (by rw [h2]; decide), if_pos h3]
theorem biasE_0 {b : h_5} {i : Int} (h : f_6 b = 0) (h2 : inB i 0 ((b.macs.length : Int) - 1) = true) (h3 : offB (b.macs.getD i.toNat mac0) = false) : w_7 b i = 0 := by unfold w_7; rw [if_neg (not_not_intro h), if_neg (by rw [h2]; decide), if_neg (by rw [h3]; decide)]
theorem biasR_n {b : h_5} {i : Int} (h : w_7 b i ≠ 0) : w_8 b i = (0, 0) := if_neg h
theorem biasR_y {b : h_5} {i : Int} (h : w_7 b i = 0) : w_8 b i = d_9 (b.macs.getD i.toNat mac0) := if_pos h
theorem off_t {m : MacD} (h : (d_9 m).2 < (d_9 m).1) : offB m = true := decide_eq_true h
theorem off_f {m : MacD} (h : ¬ (d_9 m).2 < (d_9 m).1) : offB m = false := decide_eq_false h
def l_0 (b : h_5) (i : Int) (r : Rng) : Int := if f_6 b ≠ 0 then f_6 b else if inB i 0 ((b.tabs.length : Int) - 1) = false ∨ u_3 r = false then 2 else if o_9 (b.tabs.getD i.toNat tab0) r = false then 10 else 0
def c_7 (b : h_5) (i : Int) (r : Rng) : Rng := if l_0 b i r = 0 then k_2 (b.tabs.getD i.toNat tab0) r else (0, 0)
section
variable {b : h_5} {i : Int} {r : Rng}
theorem convE_c (h : f_6 b ≠ 0) : l_0 b i r = f_6 b := by unfold l_0; rw [if_pos h]
theorem convE_2 (h : f_6 b = 0) (h2 : inB i 0 ((b.tabs.length : Int) - 1) = false ∨ u_3 r = false) : l_0 b i r = 2 := by unfold l_0; rw [if_neg (not_not_intro h), if_pos h2]
theorem convE_10 (h : f_6 b = 0) (h2 : inB i 0 ((b.tabs.length : Int) - 1) = true) (h3 : u_3 r = true) (h4 : o_9 (b.tabs.getD i.toNat tab0) r = false) : l_0 b i r = 10 := by unfold l_0; rw [if_neg (not_not_intro h), if_neg (by rw [h2, h3]; decide), if_pos h4]
theorem convE_0 (h : f_6 b = 0) (h2 : inB i 0 ((b.tabs.length : Int) - 1) = true) (h3 : u_3 r = true) (h4 : o_9 (b.tabs.getD i.toNat tab0) r = true) : l_0 b i r = 0 := by unfold l_0; rw [if_neg (not_not_intro h), if_neg (by rw [h2, h3]; decide), if_neg (by rw [h4]; decide)]
theorem convR_n (h : l_0 b i r ≠ 0) : c_7 b i r = (0, 0) := if_neg h
theorem convR_y (h : l_0 b i r = 0) : c_7 b i r = k_2 (b.tabs.getD i.toNat tab0) r := if_pos h
end
end Go.Hard

namespace Go.Proofs.Ytohgladndklciaa
open Go.RowKit Go.Shelf Go.Eng Go.Hard
theorem ty_25 : tyK Try.prog 25 = some (true, 3) := by kernel_rfl
theorem en_21 : ∀ args w, (callFunc 21 args).run Try.prog w = .ok (.enter 21 args) w := enters_of Try.func21 (by kernel_rfl) rfl
theorem en_32 : ∀ args w, (callFunc 32 args).run Try.prog w = .ok (.enter 32 args) w := enters_of Try.func32 (by kernel_rfl) rfl
theorem en_67 : ∀ args w, (callFunc 67 args).run Try.prog w = .ok (.enter 67 args) w := enters_of Try.func67 (by kernel_rfl) rfl
theorem en_68 : ∀ args w, (callFunc 68 args).run Try.prog w = .ok (.enter 68 args) w := enters_of Try.func68 (by kernel_rfl) rfl
theorem bd_30_  (w : World) : (Instr.build 30 #[]).run Try.prog w = .ok (.agg #[(iv 0), (iv 0)]) w := by kernel_rfl
theorem en_49 : ∀ args w, (callFunc 49 args).run Try.prog w = .ok (.enter 49 args) w := enters_of Try.func49 (by kernel_rfl) rfl
theorem en_50 : ∀ args w, (callFunc 50 args).run Try.prog w = .ok (.enter 50 args) w := enters_of Try.func50 (by kernel_rfl) rfl
theorem ze_103 : (Try.prog.info? 103).bind (·.zero) = some (Value.agg #[(iv 0), (Value.slice none 0 0)]) := by kernel_rfl
theorem bs_3_1_0i (x0_0 : Int) : Instr.fill (fun i => some (i * 1, 1)) ((Array.range (1 * 1)).map ((iv 0).cells[· % (iv 0).cells.size]!)) [(0, (.int .i64 x0_0))] = some (([(.int .i64 x0_0)] : List Value).toArray) := by kernel_rfl
theorem el_3 : elK Try.prog 3 = some ((iv 0), 1, 8) := by kernel_rfl
set_option maxHeartbeats 4000000 in
theorem Bias_ok (b : h_5) (vt vm : Value) (lr lb lk : Nat → Value) (w : World) (hT : n_1 w vt lr lb b.tabs) (hM : o_4 w vm lk b.macs) (hth : q_8 b) (i : Int) :
  Calls Try.prog 33 #[(Value.agg #[(iv b.scales), vt, vm]), (iv i)] w (Ret fun v w' => v = .tuple #[.agg #[.int .i64 (w_8 b i).1, .int .i64 (w_8 b i).2], .int .i64 (w_7 b i)] ∧ Ext NoB w w') := by
 refine b_0 Try.func33 rfl fun a0 R => ?_
 replace R : Fr 32 [] [(0, (Value.agg #[(iv b.scales), vt, vm])), (1, (iv i))] a0 := R
 have hml9 := hth.ml
 have AZ : Sep NoB w w [(d_5 false vt lr lb b.tabs), (f_0 false vm lk b.macs)] := f_1 ⟨rfl, hT, rfl, hM, trivial⟩
 refine m2 (s2 R (f_2 AZ rfl R.e (cs := [(iv b.scales), vt, vm]) rfl) ?_)
 rintro a1 _ w3 ⟨S, rfl, Aa⟩ AX; clear R AZ a0
 refine s2 AX (d_8 Aa rfl w_9 (cs := [(iv 0), (iv 0)]) rfl) ?_
 rintro a6 _ w8 ⟨H, rfl, F⟩ AY; clear AX Aa a1
 refine s1 AY (a_0 rfl (evc _ _)) fun Af T => ?_; clear AY a6
 refine n2 (m2 (s1 T (c_5 rfl x_6 (T.ev rfl) (F.bk 1 rfl) (l := [(iv b.scales), vt, vm]) rfl rfl) fun Ag U => ?_)); clear T Af
 refine s2 U (b_2 rfl en_32 (ev1 U.e) (u_5 b vt vm lr lb lk _ (b_7 (F.ok 2 _ rfl)) (c_9 (F.ok 3 _ rfl)) hth)) ?_
 rintro Ah _ BB ⟨rfl, AH⟩ V; have A := F.step AH; clear AH U F Ag
 refine s1 V (a_0 rfl V.e) fun Ai W => ?_; clear V Ah
 refine n4 (s1 W (a_1 rfl W.e) fun Aj X => ?_); clear W Ai
 refine s1 X (y_1 rfl X.e (evc _ _)) fun AU C => ?_; clear X Aj
 refine n1 ?_
 by_cases AS : (f_6 b) = 0
 ·skip
  rw [decide_eq_true AS] at C
  refine b_8 C rfl (d_4 (b_1 (b_9 (b_9 ?_))))
  have Y := C.as [(4, (bptr H 0)), (2, (bptr S 0)), (1, (iv i))] rfl; clear C
  refine a_5 (s1 Y (a_1 rfl Y.e) fun Ak Z => ?_); clear Y AU
  refine s1 Z (a_3 rfl u_0 Z.e) fun Al a => ?_; clear Z Ak
  refine s1 a (a_4 rfl ty_35 a.e (A.bk 1 rfl) rfl) fun Am c => ?_; clear a Al
  refine s1 c (e_0 rfl aa_3 c.e (c_9 (A.ok 3 _ rfl)).macs) fun An d => ?_; clear c Am
  refine s1 d (i_5 rfl d.e (evc _ _) (by omega) (by omega)) fun Ao K => ?_; clear d An
  refine s2 K (b_2 rfl en_47 (ev3 K.e (evc _ _) K.e) (n_7 _ _ _ _)) ?_
  rintro Ap _ W_ ⟨rfl, hW_⟩ f; have hW2_ := hW_.symm; subst hW2_; clear hW_ K Ao
  refine s1 f (f_7 rfl f.e) fun AV D => ?_; clear f Ap
  refine n1 ?_
  rcases Bool.eq_false_or_eq_true ((inB i 0 ((b.macs.length : Int) - 1))) with Q | Q
  ·skip
   rw [Q] at D
   have hib := g_7.1 Q
   refine b_8 D rfl (d_4 (b_1 (b_9 ?_)))
   have g := D.as [(4, (bptr H 0)), (2, (bptr S 0)), (1, (iv i))] rfl; clear D
   refine a_5 (s1 g (a_3 rfl u_0 g.e) fun Aq h => ?_); clear g AV
   refine s1 h (a_4 rfl ty_35 h.e (A.bk 1 rfl) rfl) fun Ar j => ?_; clear h Aq
   refine s1 j (a_1 rfl j.e) fun As L => ?_; clear j Ar
   refine s1 L (b_4 rfl aa_3 t_0 L.e (i := i.toNat) (L.e.trans (k_8 (by omega))) (c_9 (A.ok 3 _ rfl)).macs (by decide) (by omega)) fun At k => ?_; clear L As
   refine s1 k (e_6 rfl t_0 k.e (c_9 (A.ok 3 _ rfl)).macs (macs_all (by omega)) rfl (by decide)) fun Au m => ?_; clear k At
   refine s2 m (b_2 rfl en_67 (ev1 m.e) (bias_ok _ (b.macs.getD i.toNat mac0) _ _ ((c_9 (A.ok 3 _ rfl)).blk (i := i.toNat) (by omega)) ((q_1 (by assumption)).mac (by omega)) (hth.kl _))) ?_
   rintro Av _ BC ⟨rfl, AI⟩ z; have AK := A.step AI; clear AI m A Au
   refine s2 z (d_8 AK rfl w_9 (cs := [(iv 0), (iv 0)]) rfl) ?_
   rintro Aw _ BD ⟨q, rfl, AL⟩ M; clear z AK Av
   refine s7 M (b_6 AL rfl f_5 M.e M.e (i := 0) rfl (vs := [(iv ((d_9 (b.macs.getD i.toNat mac0)).1)), (iv ((d_9 (b.macs.getD i.toNat mac0)).2))]) rfl rfl rfl (Nat.le_of_ble_eq_true rfl)) ?_
   intro _ A1 AM AA; clear M
   have p : Sep NoB w A1 [(blk q 30 [(iv ((d_9 (b.macs.getD i.toNat mac0)).1)), (iv ((d_9 (b.macs.getD i.toNat mac0)).2))]), (blk H 30 [(iv 0), (iv 0)]), (blk S 37 [(iv b.scales), vt, vm]), (d_5 false vt lr lb b.tabs), (f_0 false vm lk b.macs)] := AM; clear AM AL
   refine n2 (b_9 ?_)
   have n := AA.as [(7, (bptr q 0)), (4, (bptr H 0))] rfl; clear AA
   refine a_5 (s1 n (c_5 rfl f_5 (n.ev rfl) (p.bk 0 rfl) (l := [(iv ((d_9 (b.macs.getD i.toNat mac0)).1)), (iv ((d_9 (b.macs.getD i.toNat mac0)).2))]) rfl rfl) fun Ax o => ?_); clear n Aw
   refine s2 o (b_2 rfl en_68 (ev1 o.e) (empty_ok _ _ _)) ?_
   rintro AW _ BE ⟨rfl, AJ⟩ B; have G := p.step AJ; clear AJ o p Ax
   refine n1 ?_
   by_cases AT : ((d_9 (b.macs.getD i.toNat mac0)).2) < ((d_9 (b.macs.getD i.toNat mac0)).1)
   ·skip
    rw [decide_eq_true AT] at B
    refine c_0 B rfl (m2 (s1 B (e_1 rfl pv0 bd_30_) fun Ay N => ?_)); clear B AW
    refine s7 N (b_6 G rfl f_5 N.e N.e (i := 1) rfl (vs := [(iv 0), (iv 0)]) rfl rfl rfl (Nat.le_of_ble_eq_true rfl)) ?_
    intro _ A2 AN AB; clear N
    have AO : Sep NoB w A2 [(blk q 30 [(iv ((d_9 (b.macs.getD i.toNat mac0)).1)), (iv ((d_9 (b.macs.getD i.toNat mac0)).2))]), (blk H 30 [(iv 0), (iv 0)]), (blk S 37 [(iv b.scales), vt, vm]), (d_5 false vt lr lb b.tabs), (f_0 false vm lk b.macs)] := AN; clear AN G
    refine s1 AB (a_0 rfl (evc _ _)) fun A9 AC => ?_; clear AB Ay
    refine n1 (c_2 (a_6 (a_8 AC (.inl rfl) (d_7 AC rfl (.cellA rfl f_5 (AO.bk 1 rfl) (l := [(iv 0), (iv 0)]) rfl rfl) (.tmp rfl)) ?_)))
    have he_ := (biasE_11 (i := i) (by assumption) (by assumption) (off_t (by assumption)))
    exact ⟨by rw [biasR_n (by rw [he_]; first | assumption | decide), he_], AO.ext⟩
   skip
   rw [decide_eq_false AT] at B
   refine b_8 B rfl (d_4 (b_1 (m2 (s1 B (c_5 rfl f_5 (B.ev rfl) (G.bk 0 rfl) (l := [(iv ((d_9 (b.macs.getD i.toNat mac0)).1)), (iv ((d_9 (b.macs.getD i.toNat mac0)).2))]) rfl rfl) fun Az O => ?_)))); clear B AW
   refine s7 O (b_6 G rfl f_5 O.e O.e (i := 1) rfl (vs := [(iv ((d_9 (b.macs.getD i.toNat mac0)).1)), (iv ((d_9 (b.macs.getD i.toNat mac0)).2))]) rfl rfl rfl (Nat.le_of_ble_eq_true rfl)) ?_
   intro _ A3 AP AD; clear O
   have AQ : Sep NoB w A3 [(blk q 30 [(iv ((d_9 (b.macs.getD i.toNat mac0)).1)), (iv ((d_9 (b.macs.getD i.toNat mac0)).2))]), (blk H 30 [(iv ((d_9 (b.macs.getD i.toNat mac0)).1)), (iv ((d_9 (b.macs.getD i.toNat mac0)).2))]), (blk S 37 [(iv b.scales), vt, vm]), (d_5 false vt lr lb b.tabs), (f_0 false vm lk b.macs)] := AP; clear AP G
   refine s1 AD (a_0 rfl (evc _ _)) fun BA AE => ?_; clear AD Az
   refine n1 (c_2 (a_8 AE (.inl rfl) (d_7 AE rfl (.cellA rfl f_5 (AQ.bk 1 rfl) (l := [(iv ((d_9 (b.macs.getD i.toNat mac0)).1)), (iv ((d_9 (b.macs.getD i.toNat mac0)).2))]) rfl rfl) (.tmp rfl)) ?_))
   have he_ := (biasE_0 (i := i) (by assumption) (by assumption) (off_f (by assumption)))
   exact ⟨by rw [biasR_y he_, he_], AQ.ext⟩
  skip
  rw [Q] at D
  refine c_0 D rfl (b_9 ?_)
  have AF := D.as [(4, (bptr H 0))] rfl; clear D
  refine a_5 (s1 AF (e_1 rfl pv0 bd_30_) fun A0 P => ?_); clear AF AV
  refine s7 P (b_6 A rfl f_5 P.e P.e (i := 0) rfl (vs := [(iv 0), (iv 0)]) rfl rfl rfl (Nat.le_of_ble_eq_true rfl)) ?_
  intro _ A4 AR AG; clear P
  have u : Sep NoB w A4 [(blk H 30 [(iv 0), (iv 0)]), (blk S 37 [(iv b.scales), vt, vm]), (d_5 false vt lr lb b.tabs), (f_0 false vm lk b.macs)] := AR; clear AR A
  refine s1 AG (a_0 rfl (evc _ _)) fun A6 r => ?_; clear AG A0
  refine n1 (c_2 (a_6 (a_8 r (.inl rfl) (d_7 r rfl (.cellA rfl f_5 (u.bk 0 rfl) (l := [(iv 0), (iv 0)]) rfl rfl) (.tmp rfl)) ?_)))
  have he_ := (biasE_2 (i := i) (by assumption) (by assumption))
  exact ⟨by rw [biasR_n (by rw [he_]; first | assumption | decide), he_], u.ext⟩
 skip
 rw [decide_eq_false AS] at C
 refine c_0 C rfl (b_9 ?_)
 have s := C.as [(6, (iv (f_6 b))), (4, (bptr H 0))] rfl; clear C
 refine a_5 (s1 s (e_1 rfl pv0 bd_30_) fun Ab I => ?_); clear s AU
 refine s1 I (a_1 rfl I.e) fun Ac E => ?_; clear I Ab
 refine s7 E (b_6 A rfl f_5 E.e E.e (i := 0) rfl (vs := [(iv 0), (iv 0)]) rfl rfl rfl (Nat.le_of_ble_eq_true rfl)) ?_
 intro _ Ad x J; clear E
 have y : Sep NoB w Ad [(blk H 30 [(iv 0), (iv 0)]), (blk S 37 [(iv b.scales), vt, vm]), (d_5 false vt lr lb b.tabs), (f_0 false vm lk b.macs)] := x; clear x A
 refine s1 J (a_0 rfl J.e) fun A7 t => ?_; clear J Ac
 refine n1 (c_2 (a_6 (a_8 t (.inl rfl) (d_7 t rfl (.cellA rfl f_5 (y.bk 0 rfl) (l := [(iv 0), (iv 0)]) rfl rfl) (.tmp rfl)) ?_)))
 have he_ := (biasE_c (i := i) (by assumption))
 exact ⟨by rw [biasR_n (by rw [he_]; first | assumption | decide), he_], y.ext⟩
set_option maxHeartbeats 4000000 in
theorem Convert_ok (b : h_5) (vt vm : Value) (lr lb lk : Nat → Value) (w : World) (hT : n_1 w vt lr lb b.tabs) (hM : o_4 w vm lk b.macs) (hth : q_8 b) (i A B : Int) :
  Calls Try.prog 18 #[(Value.agg #[(iv b.scales), vt, vm]), (iv i), (Value.agg #[(iv A), (iv B)])] w (Ret fun v w' => v = .tuple #[.agg #[.int .i64 (c_7 b i (A, B)).1, .int .i64 (c_7 b i (A, B)).2], .int .i64 (l_0 b i (A, B))] ∧ Ext NoB w w') := by
 refine b_0 Try.func18 rfl fun a0 g => ?_
 replace g : Fr 47 [] [(0, (Value.agg #[(iv b.scales), vt, vm])), (1, (iv i)), (2, (Value.agg #[(iv A), (iv B)]))] a0 := g
 have htl9 := hth.tl
 have A2 : Sep NoB w w [(d_5 false vt lr lb b.tabs), (f_0 false vm lk b.macs)] := f_1 ⟨rfl, hT, rfl, hM, trivial⟩
 refine m2 (s2 g (f_2 A2 rfl g.e (cs := [(iv b.scales), vt, vm]) rfl) ?_)
 rintro a1 _ w3 ⟨P, rfl, A3⟩ Ao; clear g A2 a0
 refine s2 Ao (f_2 A3 rfl Ao.e (cs := [(iv A), (iv B)]) rfl) ?_
 rintro a6 _ w8 ⟨Q, rfl, Aw⟩ A1; clear Ao A3 a1
 refine s2 A1 (d_8 Aw rfl w_9 (cs := [(iv 0), (iv 0)]) rfl) ?_
 rintro BK _ Bu ⟨D, rfl, O⟩ An; clear A1 Aw a6
 refine s1 An (a_0 rfl (evc _ _)) fun BL h => ?_; clear An BK
 refine n2 (m2 (s1 h (c_5 rfl x_6 (h.ev rfl) (O.bk 2 rfl) (l := [(iv b.scales), vt, vm]) rfl rfl) fun BM j => ?_)); clear h BL
 refine s2 j (b_2 rfl en_32 (ev1 j.e) (u_5 b vt vm lr lb lk _ (b_7 (O.ok 3 _ rfl)) (c_9 (O.ok 4 _ rfl)) hth)) ?_
 rintro BN _ Bv ⟨rfl, At⟩ k; have E := O.step At; clear At j O BM
 refine s1 k (a_0 rfl k.e) fun BO m => ?_; clear k BN
 refine n4 (s1 m (a_1 rfl m.e) fun BP n => ?_); clear m BO
 refine s1 n (y_1 rfl n.e (evc _ _)) fun Ay F => ?_; clear n BP
 refine n1 ?_
 by_cases Ax : (f_6 b) = 0
 ·skip
  rw [decide_eq_true Ax] at F
  refine b_8 F rfl (d_4 (b_1 (b_9 (b_9 ?_))))
  have o := F.as [(6, (bptr D 0)), (5, (bptr Q 0)), (3, (bptr P 0)), (1, (iv i))] rfl; clear F
  refine a_5 (s1 o (a_1 rfl o.e) fun BQ p => ?_); clear o Ay
  refine s1 p (a_3 rfl v_6 p.e) fun BR q => ?_; clear p BQ
  refine s1 q (a_4 rfl ty_34 q.e (E.bk 2 rfl) rfl) fun BS s => ?_; clear q BR
  refine s1 s (e_0 rfl y_2 s.e (b_7 (E.ok 3 _ rfl)).tabs) fun BT t => ?_; clear s BS
  refine s1 t (i_5 rfl t.e (evc _ _) (by omega) (by omega)) fun BU V => ?_; clear t BT
  refine s2 V (b_2 rfl en_47 (ev3 V.e (evc _ _) V.e) (n_7 _ _ _ _)) ?_
  rintro BV _ W_ ⟨rfl, hW_⟩ u; have hW2_ := hW_.symm; subst hW2_; clear hW_ V BU
  refine s1 u (f_7 rfl u.e) fun BW x => ?_; clear u BV
  refine s1 x (a_1 rfl x.e) fun Az I => ?_; clear x BW
  rcases Bool.eq_false_or_eq_true ((inB i 0 ((b.tabs.length : Int) - 1))) with f | f
  ·skip
   rw [f] at I
   have hib := g_7.1 f
   refine s5 I (c_5 rfl f_5 (I.ev rfl) (E.bk 1 rfl) (l := [(iv A), (iv B)]) rfl rfl) fun BX y => ?_; clear I Az
   refine s6 y (b_2 rfl en_48 (ev1 y.e) (values_ok _ _ _)) ?_
   rintro BY _ Bw ⟨rfl, Au⟩ z; have C := E.step Au; clear Au y E BX
   refine s5 z (f_7 rfl z.e) fun BZ W => ?_; clear z BY
   refine s1 W (d_1 rfl W.e W.e) fun A0 G => ?_; clear W BZ
   refine n1 ?_
   rcases Bool.eq_false_or_eq_true ((u_3 (A, B))) with AK | AK
   ·skip
    rw [AK] at G
    refine b_8 G rfl (d_4 (b_1 (b_9 (b_9 ?_))))
    have AA := G.as [(6, (bptr D 0)), (5, (bptr Q 0)), (3, (bptr P 0)), (1, (iv i))] rfl; clear G
    refine a_5 (s1 AA (a_3 rfl v_6 AA.e) fun Ba AB => ?_); clear AA A0
    refine s1 AB (a_4 rfl ty_34 AB.e (C.bk 2 rfl) rfl) fun Bb AC => ?_; clear AB Ba
    refine s1 AC (a_1 rfl AC.e) fun Bc X => ?_; clear AC Bb
    refine s1 X (b_4 rfl y_2 k_9 X.e (i := i.toNat) (X.e.trans (k_8 (by omega))) (b_7 (C.ok 3 _ rfl)).tabs (by decide) (by omega)) fun Bd AD => ?_; clear X Bc
    refine s1 AD (e_6 rfl k_9 AD.e (b_7 (C.ok 3 _ rfl)).tabs (w_0 (by omega)) rfl (by decide)) fun Be AE => ?_; clear AD Bd
    refine s1 AE (h_1 rfl (ev1 AE.e) ev0) fun Bf AF => ?_; clear AE Be
    refine s1 AF (a_0 rfl AF.e) fun Bg Ap => ?_; clear AF Bf
    refine n2 ?_
    have AG := Ap.as [(9, (Value.func (.func 49) #[(Value.agg #[(iv ((b.tabs.getD i.toNat tab0).frm)), (iv ((b.tabs.getD i.toNat tab0).dst)), (lr i.toNat), (lb i.toNat), (iv ((b.tabs.getD i.toNat tab0).err))])] #[])), (6, (bptr D 0)), (5, (bptr Q 0)), (3, (bptr P 0)), (1, (iv i))] rfl; clear Ap
    refine a_5 (s1 AG (a_1 rfl AG.e) fun Bh AH => ?_); clear AG Bg
    refine s1 AH (c_5 rfl f_5 (AH.ev rfl) (C.bk 1 rfl) (l := [(iv A), (iv B)]) rfl rfl) fun Bi Y => ?_; clear AH Bh
    refine s2 Y (j_8 rfl (Y.ev rfl) en_49 (ev1 Y.e) (converts_ok A B (b.tabs.getD i.toNat tab0) _ _ _ ((b_7 (C.ok 3 _ rfl)).row (i := i.toNat) (by omega)) ((b_7 (C.ok 3 _ rfl)).brk (i := i.toNat) (by omega)) (hth.rl _) (hth.bl _) _ ((q_1 (by assumption)).tab (by omega)))) ?_
    rintro Bj _ Bx ⟨rfl, Av⟩ AI; have c := C.step Av; clear Av Y C Bi
    refine s1 AI (f_7 rfl AI.e) fun Bk H => ?_; clear AI Bj
    refine n1 ?_
    rcases Bool.eq_false_or_eq_true ((o_9 (b.tabs.getD i.toNat tab0) (A, B))) with AL | AL
    ·skip
     rw [AL] at H
     refine b_8 H rfl (d_4 (b_1 (b_9 ?_)))
     have Aq := H.as [(6, (bptr D 0)), (5, (bptr Q 0)), (3, (bptr P 0)), (1, (iv i))] rfl; clear H
     refine i_2 mixed Aq c 6 [[], [0], [], [1, 2], [3], []] [(Yd.val (bptr P 1)), (Yd.val vt), (Yd.val (iv i)), (Yd.val (eptr vt (i.toNat * 5))), (Yd.val (Value.agg #[(iv ((b.tabs.getD i.toNat tab0).frm)), (iv ((b.tabs.getD i.toNat tab0).dst)), (lr i.toNat), (lb i.toNat), (iv ((b.tabs.getD i.toNat tab0).err))])), (Yd.val (Value.agg #[(iv A), (iv B)]))] (by decide +kernel) rfl rfl ?_ ?_
     ·skip
      refine dq (fun a w hA hS hd => a_3 rfl v_6 hA.e) ?_
      refine dq (fun a w hA hS hd => a_4 rfl ty_34 (hq hd 0) (hS.bk 2 rfl) rfl) ?_
      refine dq (fun a w hA hS hd => a_1 rfl hA.e) ?_
      refine dq (fun a w hA hS hd => b_4 rfl y_2 k_9 (hq hd 1) (i := i.toNat) ((hq hd 2).trans (k_8 (by omega))) (b_7 (hS.ok 3 _ rfl)).tabs (by decide) (by omega)) ?_
      refine dq (fun a w hA hS hd => e_6 rfl k_9 (hq hd 3) (b_7 (hS.ok 3 _ rfl)).tabs (w_0 (by omega)) rfl (by decide)) ?_
      refine dq (fun a w hA hS hd => c_5 rfl f_5 (hA.ev rfl) (hS.bk 1 rfl) (l := [(iv A), (iv B)]) rfl rfl) ?_
      trivial
     intro Bl By Ar d AJ; clear Aq c
     have As := Ar.add (hz AJ 4); clear Ar
     have Z := As.add (hz AJ 5); clear As
     clear AJ
     refine s2 Z (b_2 rfl en_50 (ev2 Z.e Z.e) (convert_ok A B (b.tabs.getD i.toNat tab0) _ _ _ ((b_7 (d.ok 3 _ rfl)).row (i := i.toNat) (by omega)) ((b_7 (d.ok 3 _ rfl)).brk (i := i.toNat) (by omega)) (hth.rl _) (hth.bl _) _ ((q_1 (by assumption)).tab (by omega)))) ?_
     rintro A4 _ Bt ⟨rfl, Ab⟩ J; have Ac := d.step Ab; clear Ab Z d Bl
     refine s7 J (b_6 Ac rfl f_5 J.e J.e (i := 0) rfl (vs := [(iv ((k_2 (b.tabs.getD i.toNat tab0) (A, B)).1)), (iv ((k_2 (b.tabs.getD i.toNat tab0) (A, B)).2))]) rfl rfl rfl (Nat.le_of_ble_eq_true rfl)) ?_
     intro _ BE Ad AM; clear J
     have Ae : Sep NoB w BE [(blk D 30 [(iv ((k_2 (b.tabs.getD i.toNat tab0) (A, B)).1)), (iv ((k_2 (b.tabs.getD i.toNat tab0) (A, B)).2))]), (blk Q 30 [(iv A), (iv B)]), (blk P 37 [(iv b.scales), vt, vm]), (d_5 false vt lr lb b.tabs), (f_0 false vm lk b.macs)] := Ad; clear Ad Ac
     refine s1 AM (a_0 rfl (evc _ _)) fun Bn AN => ?_; clear AM A4
     refine n1 (c_2 (a_8 AN (.inl rfl) (d_7 AN rfl (.cellA rfl f_5 (Ae.bk 0 rfl) (l := [(iv ((k_2 (b.tabs.getD i.toNat tab0) (A, B)).1)), (iv ((k_2 (b.tabs.getD i.toNat tab0) (A, B)).2))]) rfl rfl) (.tmp rfl)) ?_))
     have he_ := (convE_0 (i := i) (r := (A, B)) (by assumption) (by assumption) (by assumption) (by assumption))
     exact ⟨by rw [convR_y he_, he_], Ae.ext⟩
    skip
    rw [AL] at H
    refine c_0 H rfl (b_9 ?_)
    have AO := H.as [(6, (bptr D 0))] rfl; clear H
    refine a_5 (s1 AO (e_1 rfl pv0 bd_30_) fun A5 K => ?_); clear AO Bk
    refine s7 K (b_6 c rfl f_5 K.e K.e (i := 0) rfl (vs := [(iv 0), (iv 0)]) rfl rfl rfl (Nat.le_of_ble_eq_true rfl)) ?_
    intro _ BF Af AP; clear K
    have Ag : Sep NoB w BF [(blk D 30 [(iv 0), (iv 0)]), (blk Q 30 [(iv A), (iv B)]), (blk P 37 [(iv b.scales), vt, vm]), (d_5 false vt lr lb b.tabs), (f_0 false vm lk b.macs)] := Af; clear Af c
    refine s1 AP (a_0 rfl (evc _ _)) fun Bo AQ => ?_; clear AP A5
    refine n1 (c_2 (a_6 (a_8 AQ (.inl rfl) (d_7 AQ rfl (.cellA rfl f_5 (Ag.bk 0 rfl) (l := [(iv 0), (iv 0)]) rfl rfl) (.tmp rfl)) ?_)))
    have he_ := (convE_10 (i := i) (r := (A, B)) (by assumption) (by assumption) (by assumption) (by assumption))
    exact ⟨by rw [convR_n (by rw [he_]; first | assumption | decide), he_], Ag.ext⟩
   skip
   rw [AK] at G
   refine c_0 G rfl (b_9 ?_)
   have AR := G.as [(6, (bptr D 0))] rfl; clear G
   refine a_5 (s1 AR (e_1 rfl pv0 bd_30_) fun A6 L => ?_); clear AR A0
   refine s7 L (b_6 C rfl f_5 L.e L.e (i := 0) rfl (vs := [(iv 0), (iv 0)]) rfl rfl rfl (Nat.le_of_ble_eq_true rfl)) ?_
   intro _ BG Ah AS; clear L
   have Ai : Sep NoB w BG [(blk D 30 [(iv 0), (iv 0)]), (blk Q 30 [(iv A), (iv B)]), (blk P 37 [(iv b.scales), vt, vm]), (d_5 false vt lr lb b.tabs), (f_0 false vm lk b.macs)] := Ah; clear Ah C
   refine s1 AS (a_0 rfl (evc _ _)) fun Bp AT => ?_; clear AS A6
   refine n1 (c_2 (a_6 (a_8 AT (.inl rfl) (d_7 AT rfl (.cellA rfl f_5 (Ai.bk 0 rfl) (l := [(iv 0), (iv 0)]) rfl rfl) (.tmp rfl)) ?_)))
   have he_ := (convE_2 (i := i) (r := (A, B)) (by assumption) (by first | exact .inl (by assumption) | exact .inr (by assumption)))
   exact ⟨by rw [convR_n (by rw [he_]; first | assumption | decide), he_], Ai.ext⟩
  skip
  rw [f] at I
  refine s3 I fun A7 AU => ?_; clear I Az
  refine s3 AU fun A8 AV => ?_; clear AU A7
  refine s3 AV fun A9 R => ?_; clear AV A8
  refine s1 R (b_3 rfl R.e (evc _ _)) fun BA S => ?_; clear R A9
  refine n1 (c_0 S rfl (b_9 ?_))
  have AW := S.as [(6, (bptr D 0))] rfl; clear S
  refine a_5 (s1 AW (e_1 rfl pv0 bd_30_) fun BB M => ?_); clear AW BA
  refine s7 M (b_6 E rfl f_5 M.e M.e (i := 0) rfl (vs := [(iv 0), (iv 0)]) rfl rfl rfl (Nat.le_of_ble_eq_true rfl)) ?_
  intro _ BH Aj AX; clear M
  have Ak : Sep NoB w BH [(blk D 30 [(iv 0), (iv 0)]), (blk Q 30 [(iv A), (iv B)]), (blk P 37 [(iv b.scales), vt, vm]), (d_5 false vt lr lb b.tabs), (f_0 false vm lk b.macs)] := Aj; clear Aj E
  refine s1 AX (a_0 rfl (evc _ _)) fun Bq AY => ?_; clear AX BB
  refine n1 (c_2 (a_6 (a_8 AY (.inl rfl) (d_7 AY rfl (.cellA rfl f_5 (Ak.bk 0 rfl) (l := [(iv 0), (iv 0)]) rfl rfl) (.tmp rfl)) ?_)))
  have he_ := (convE_2 (i := i) (r := (A, B)) (by assumption) (by first | exact .inl (by assumption) | exact .inr (by assumption)))
  exact ⟨by rw [convR_n (by rw [he_]; first | assumption | decide), he_], Ak.ext⟩
 skip
 rw [decide_eq_false Ax] at F
 refine c_0 F rfl (b_9 ?_)
 have AZ := F.as [(8, (iv (f_6 b))), (6, (bptr D 0))] rfl; clear F
 refine a_5 (s1 AZ (e_1 rfl pv0 bd_30_) fun BC T => ?_); clear AZ Ay
 refine s1 T (a_1 rfl T.e) fun BD N => ?_; clear T BC
 refine s7 N (b_6 E rfl f_5 N.e N.e (i := 0) rfl (vs := [(iv 0), (iv 0)]) rfl rfl rfl (Nat.le_of_ble_eq_true rfl)) ?_
 intro _ BI Al U; clear N
 have Am : Sep NoB w BI [(blk D 30 [(iv 0), (iv 0)]), (blk Q 30 [(iv A), (iv B)]), (blk P 37 [(iv b.scales), vt, vm]), (d_5 false vt lr lb b.tabs), (f_0 false vm lk b.macs)] := Al; clear Al E
 refine s1 U (a_0 rfl U.e) fun Br Aa => ?_; clear U BD
 refine n1 (c_2 (a_6 (a_8 Aa (.inl rfl) (d_7 Aa rfl (.cellA rfl f_5 (Am.bk 0 rfl) (l := [(iv 0), (iv 0)]) rfl rfl) (.tmp rfl)) ?_)))
 have he_ := (convE_c (i := i) (r := (A, B)) (by assumption))
 exact ⟨by rw [convR_n (by rw [he_]; first | assumption | decide), he_], Am.ext⟩
end Go.Proofs.Ytohgladndklciaa

namespace Go.Hard
open Go.RowKit Go.Eng
def selU (ts : List TabD) (k : Nat) (i j : Int) : List Nat := (List.range k).filter fun q => decide ((ts.getD q tab0).frm = i) && decide ((ts.getD q tab0).dst = j)
def selT (ts : List TabD) (l : List Nat) : List TabD := l.map fun q => ts.getD q tab0
def selV (v : Nat → Value) (l : List Nat) : Nat → Value := fun p => v (l.getD p 0)
def bN (ts : List TabD) (k : Nat) (i j : Int) : Nat := (selU ts k i j).length
def bC (lr lb : Nat → Value) (ts : List TabD) (k : Nat) (i j : Int) : List Value := m_1 (selV lr (selU ts k i j)) (selV lb (selU ts k i j)) (selT ts (selU ts k i j))
theorem r_8 (ts : List TabD) (l : List Nat) : (selT ts l).length = l.length := by simp [selT]
theorem v_9 {ts : List TabD} {k q : Nat} {i j : Int} (h : q ∈ selU ts k i j) : q < k := by
  unfold selU at h
  rw [List.mem_filter, List.mem_range] at h; exact h.1
section
variable {lr lb : Nat → Value} {ts : List TabD} {k : Nat} {i j : Int}
theorem bC_zero (h : bN ts k i j = 0) : bC lr lb ts k i j = [] := by
  have : selU ts k i j = [] := List.eq_nil_of_length_eq_zero h
  unfold bC; rw [this]; rfl
theorem sel_no (h : ¬ (i = (ts.getD k tab0).frm ∧ j = (ts.getD k tab0).dst)) : selU ts (k + 1) i j = selU ts k i j := by
  unfold selU; rw [List.range_succ, List.filter_append]
  have : (decide ((ts.getD k tab0).frm = i) && decide ((ts.getD k tab0).dst = j)) = false := by
    rw [Bool.and_eq_false_iff]
    rcases Decidable.em ((ts.getD k tab0).frm = i) with h1 | h1
    · exact .inr (decide_eq_false fun h2 => h ⟨h1.symm, h2.symm⟩)
    · exact .inl (decide_eq_false h1)
  rw [List.filter_cons, if_neg (by rw [this]; decide), List.filter_nil, List.append_nil]
theorem sel_yes : selU ts (k + 1) (ts.getD k tab0).frm (ts.getD k tab0).dst = selU ts k (ts.getD k tab0).frm (ts.getD k tab0).dst ++ [k] := by
  unfold selU; rw [List.range_succ, List.filter_append]; simp
theorem b_other (lr lb : Nat → Value) : ∀ a b, ¬ (a = (ts.getD k tab0).frm ∧ b = (ts.getD k tab0).dst) → bN ts (k + 1) a b = bN ts k a b ∧ bC lr lb ts (k + 1) a b = bC lr lb ts k a b := fun a b h => by
  unfold bN bC; rw [sel_no h]; exact ⟨rfl, rfl⟩
theorem bN_next : bN ts (k + 1) (ts.getD k tab0).frm (ts.getD k tab0).dst = bN ts k (ts.getD k tab0).frm (ts.getD k tab0).dst + 1 := by
  unfold bN; rw [sel_yes, List.length_append]; rfl
theorem bC_next : bC lr lb ts (k + 1) (ts.getD k tab0).frm (ts.getD k tab0).dst = bC lr lb ts k (ts.getD k tab0).frm (ts.getD k tab0).dst ++ [.int .i64 (ts.getD k tab0).frm, .int .i64 (ts.getD k tab0).dst, lr k, lb k, .int .i64 (ts.getD k tab0).err] := by
  unfold bC
  rw [sel_yes]
  generalize selU ts k (ts.getD k tab0).frm (ts.getD k tab0).dst = l
  rw [tabs_snoc]
  have e : selT ts (l ++ [k]) = selT ts l ++ [ts.getD k tab0] := by simp [selT]
  rw [e]
  unfold m_1
  refine flatI_congr fun p hp => ?_
  rw [List.length_append, List.length_singleton, r_8] at hp
  unfold tabC selV
  rw [r_8]
  rcases Nat.lt_or_ge p l.length with h | h
  · rw [v_8 _ _ h, v_8 _ _ h, getD_old h]
  · obtain rfl : p = l.length := by omega
    rw [r_6, r_6, getD_new]
theorem r_9 {w : World} {v u : Value} {l : List Nat} (h : n_1 w v lr lb ts) (hl : ∀ q ∈ l, q < ts.length) (hs : SlAt w u 5 l.length (m_1 (selV lr l) (selV lb l) (selT ts l))) : n_1 w u (selV lr l) (selV lb l) (selT ts l) := by
  have at' : ∀ p, p < (selT ts l).length → (selT ts l).getD p tab0 = ts.getD (l.getD p 0) tab0 ∧ l.getD p 0 < ts.length := fun p hp => by
    rw [r_8] at hp
    refine ⟨?_, hl _ ?_⟩
    · simp [selT, List.getD, List.getElem?_map, List.getElem?_eq_getElem hp]
    · simp only [List.getD, List.getElem?_eq_getElem hp, Option.getD_some]; exact List.getElem_mem hp
  refine ⟨by rw [r_8]; exact hs, fun p hp => ?_, fun p hp => ?_⟩
  · have := h.rows _ (at' p hp).2
    unfold j_6 j_5 at this ⊢
    rw [(at' p hp).1]; exact this
  · have := h.brks _ (at' p hp).2
    unfold brkN brkC at this ⊢
    rw [(at' p hp).1]; exact this
theorem sel_at {l : List Nat} {p : Nat} (hp : p < l.length) : (selT ts l).getD p tab0 = ts.getD (l.getD p 0) tab0 := by
  simp [selT, List.getD, List.getElem?_map, List.getElem?_eq_getElem hp]
theorem bN_le (ts : List TabD) (k : Nat) (i j : Int) : bN ts k i j ≤ k := by
  unfold bN selU
  have := List.length_filter_le (fun q => decide ((ts.getD q tab0).frm = i) && decide ((ts.getD q tab0).dst = j)) (List.range k)
  rw [List.length_range] at this; exact this
end
end Go.Hard

namespace Go.Proofs.Ytohgladndklciaa
open Go.RowKit Go.Shelf Go.Eng Go.Hard
theorem bd_146_0ivva_1m (x0_0 : Int) (x0_1 : Value) (x0_2 : Value) (x1_0 : Option Nat) (w : World) : (Instr.build 146 #[(0, .agg #[(.int .i64 x0_0), x0_1, x0_2]), (1, (.map x1_0))]).run Try.prog w = .ok (.agg #[(.int .i64 x0_0), x0_1, x0_2, (.map x1_0)]) w := by kernel_rfl
theorem ze_106 : (Try.prog.info? 106).bind (·.zero) = some (Value.agg #[(iv 0), (iv 0), (Value.slice none 0 0), (Value.slice none 0 0), (iv 0)]) := by kernel_rfl
theorem bd_162_0i_1i (x0_0 : Int) (x1_0 : Int) (w : World) : (Instr.build 162 #[(0, (.int .i64 x0_0)), (1, (.int .i64 x1_0))]).run Try.prog w = .ok (.agg #[(.int .i64 x0_0), (.int .i64 x1_0)]) w := by kernel_rfl
theorem ze_162 : (Try.prog.info? 162).bind (·.zero) = some (Value.agg #[(iv 0), (iv 0)]) := by kernel_rfl
theorem ty_162 : tyK Try.prog 162 = some (true, 2) := by kernel_rfl
theorem fd_146_1 : fldK Try.prog 146 1 = some 3 := by kernel_rfl
theorem ty_144 : tyK Try.prog 144 = some (false, 1) := by kernel_rfl
theorem bs_106_1_0iivvia (x0_0 : Int) (x0_1 : Int) (x0_2 : Value) (x0_3 : Value) (x0_4 : Int) : Instr.fill (fun i => some (i * 5, 5)) ((Array.range (1 * 5)).map ((Value.agg #[(iv 0), (iv 0), (Value.slice none 0 0), (Value.slice none 0 0), (iv 0)]).cells[· % (Value.agg #[(iv 0), (iv 0), (Value.slice none 0 0), (Value.slice none 0 0), (iv 0)]).cells.size]!)) [(0, .agg #[(.int .i64 x0_0), (.int .i64 x0_1), x0_2, x0_3, (.int .i64 x0_4)])] = some (([(.int .i64 x0_0), (.int .i64 x0_1), x0_2, x0_3, (.int .i64 x0_4)] : List Value).toArray) := by kernel_rfl
theorem zs_34 : (Try.prog.info? 34).bind (·.zero) = some (.slice none 0 0) := by kernel_rfl
theorem pair_162 : i_8 Try.prog 162 = true := by kernel_rfl
theorem un_144 : Try.prog.underlying 144 = some (.map 162 34) := by kernel_rfl
theorem el_106 : elK Try.prog 106 = some ((Value.agg #[(iv 0), (iv 0), (Value.slice none 0 0), (Value.slice none 0 0), (iv 0)]), 5, 72) := by kernel_rfl
theorem bench_ok (b : h_5) (vt vm : Value) (lr lb lk : Nat → Value) (w : World) (hT : n_1 w vt lr lb b.tabs) (hM : o_4 w vm lk b.macs) (hth : q_8 b) :
  Calls Try.prog 86 #[(Value.agg #[(iv b.scales), vt, vm])] w (Ret fun v w' => ∃ bx bm es ck, v = bptr bx 0 ∧ s_4 bm es ck (bN b.tabs b.tabs.length) ∧ Sep NoB w w' [blk bx 146 [.int .i64 b.scales, vt, vm, .map (some bm)], (mapX true bm es ck es.size 106 5 (bN b.tabs b.tabs.length) (bC lr lb b.tabs b.tabs.length))]) := by
 refine b_0 Try.func86 rfl fun a0 R => ?_
 replace R : Fr 36 [] [(0, (Value.agg #[(iv b.scales), vt, vm]))] a0 := R
 have htl9 := hth.tl
 have Ae : Sep NoB w w [(d_5 false vt lr lb b.tabs), (f_0 false vm lk b.macs)] := f_1 ⟨rfl, hT, rfl, hM, trivial⟩
 refine m2 (s2 R (f_2 Ae rfl R.e (cs := [(iv b.scales), vt, vm]) rfl) ?_)
 rintro a1 _ w3 ⟨r, rfl, AJ⟩ Ac; clear R Ae a0
 refine s1 Ac (a_0 rfl (evc _ _)) fun a6 AA => ?_; clear Ac a1
 refine n4 (s1 AA (c_5 rfl x_6 (AA.ev rfl) (AJ.bk 0 rfl) (l := [(iv b.scales), vt, vm]) rfl rfl) fun a8 Ad => ?_); clear AA a6
 refine s2 Ad (op_makeMapX (te := 106) (sz := 5) (n := bN b.tabs 0) (c := bC lr lb b.tabs 0) AJ rfl) ?_
 rintro A7 _ CB ⟨bm, rfl, AI⟩ I; clear Ad AJ a8
 refine s1 I (e_1 rfl (pv2 I.e I.e) (bd_146_0ivva_1m _ _ _ _)) fun A8 S => ?_; clear I A7
 refine s2 S (f_2 AI rfl S.e (cs := [(iv b.scales), vt, vm, (Value.map (some bm))]) rfl) ?_
 rintro A9 _ CC ⟨B, rfl, N⟩ T; clear S AI A8
 refine s1 T (a_0 rfl T.e) fun BA s => ?_; clear T A9
 refine n2 (b_9 ?_)
 have U := s.as [(3, (bptr B 0)), (1, (bptr r 0))] rfl; clear s
 refine a_5 (s1 U (a_3 rfl v_6 U.e) fun BB V => ?_); clear U BA
 refine s1 V (a_4 rfl ty_34 V.e (N.bk 2 rfl) rfl) fun BC W => ?_; clear V BB
 refine s1 W (e_0 rfl y_2 W.e (b_7 (N.ok 3 _ rfl)).tabs) fun BD t => ?_; clear W BC
 refine s1 t (a_1 rfl (evc _ _)) fun BE u => ?_; clear t BD
 refine n1 (c_6 ?_)
 have x := u.as [(14, (iv 0)), (13, (iv (b.tabs.length : Int))), (12, vt), (3, (bptr B 0))] rfl; clear u
 refine h_7 (G := Nat) (fun (k : Nat) a_ w_ => ∃ es_ : Array MapEntry, ∃ ck_ : Nat, Fr 36 [] [(14, (iv (k : Int))), (13, (iv (b.tabs.length : Int))), (12, vt), (3, (bptr B 0))] a_ ∧ Sep NoB w w_ [(blk B 146 [(iv b.scales), vt, vm, (Value.map (some bm))]), (mapX true bm es_ ck_ es_.size 106 5 (bN b.tabs k) (bC lr lb b.tabs k)), (blk r 37 [(iv b.scales), vt, vm]), (d_5 false vt lr lb b.tabs), (f_0 false vm lk b.macs)] ∧ (k ≤ b.tabs.length) ∧ (s_4 bm es_ ck_ (bN b.tabs k))) (fun k => b.tabs.length - k) 0 ⟨#[], 0, x.as _ rfl, N, by omega, (s_4.none (fun _ _ => rfl))⟩ ?_
 clear x N BE
 rintro k BF CD ⟨es_, ck_, J, H, hk, hMO⟩
 refine m2 (s1 J (g_2 rfl J.e J.e) fun Ab C => ?_); clear J BF
 refine n2 ?_
 by_cases AT : (k : Int) < (b.tabs.length : Int)
 ·skip
  rw [decide_eq_true AT] at C
  refine c_0 C rfl (d_4 (b_1 (b_9 (c_6 (m2 (s1 C (b_4 rfl y_2 k_9 C.e (i := k) C.e (b_7 (H.ok 3 _ rfl)).tabs (by decide) (by omega)) fun BG X => ?_)))))); clear C Ab
  refine s1 X (e_6 rfl k_9 X.e (b_7 (H.ok 3 _ rfl)).tabs (w_0 (by omega)) rfl (by decide)) fun BH y => ?_; clear X BG
  refine s2 y (d_8 H rfl ze_106 (cs := [(iv 0), (iv 0), (Value.slice none 0 0), (Value.slice none 0 0), (iv 0)]) rfl) ?_
  rintro BI _ CE ⟨D, rfl, O⟩ K; clear y H BH
  refine s7 K (b_6 O rfl k_9 K.e K.e (i := 0) rfl (vs := [(iv ((b.tabs.getD k tab0).frm)), (iv ((b.tabs.getD k tab0).dst)), (lr k), (lb k), (iv ((b.tabs.getD k tab0).err))]) rfl rfl (g_8 rfl (g_8 rfl (g_8 (SlAt.one ((b_7 (O.ok 4 _ rfl)).row (i := k) (by omega))) (g_8 (SlAt.one ((b_7 (O.ok 4 _ rfl)).brk (i := k) (by omega))) (g_8 rfl q_9))))) (Nat.le_of_ble_eq_true rfl)) ?_
  intro _ Bk AK Y; clear K
  have P : Sep NoB w Bk [(blk D 106 [(iv ((b.tabs.getD k tab0).frm)), (iv ((b.tabs.getD k tab0).dst)), (lr k), (lb k), (iv ((b.tabs.getD k tab0).err))]), (blk B 146 [(iv b.scales), vt, vm, (Value.map (some bm))]), (mapX true bm es_ ck_ es_.size 106 5 (bN b.tabs k) (bC lr lb b.tabs k)), (blk r 37 [(iv b.scales), vt, vm]), (d_5 false vt lr lb b.tabs), (f_0 false vm lk b.macs)] := AK; clear AK O
  refine n4 (s1 Y (a_3 rfl fd_106_0 Y.e) fun BJ Z => ?_); clear Y BI
  refine s1 Z (a_4 rfl ty_3 Z.e (P.bk 0 rfl) rfl) fun BK d => ?_; clear Z BJ
  refine s1 d (a_3 rfl fd_106_1 d.e) fun BL f => ?_; clear d BK
  refine s1 f (a_4 rfl ty_3 f.e (P.bk 0 rfl) rfl) fun BM L => ?_; clear f BL
  refine s1 L (e_1 rfl (pv2 L.e L.e) (bd_162_0i_1i _ _)) fun BN z => ?_; clear L BM
  refine s2 z (d_8 P rfl ze_162 (cs := [(iv 0), (iv 0)]) rfl) ?_
  rintro B0 _ CF ⟨E, rfl, AL⟩ M; clear z P BN
  refine s7 M (b_6 AL rfl ty_162 M.e M.e (i := 0) rfl (vs := [(iv ((b.tabs.getD k tab0).frm)), (iv ((b.tabs.getD k tab0).dst))]) rfl rfl rfl (Nat.le_of_ble_eq_true rfl)) ?_
  intro _ Bl AM AB; clear M
  have AN : Sep NoB w Bl [(blk E 162 [(iv ((b.tabs.getD k tab0).frm)), (iv ((b.tabs.getD k tab0).dst))]), (blk D 106 [(iv ((b.tabs.getD k tab0).frm)), (iv ((b.tabs.getD k tab0).dst)), (lr k), (lb k), (iv ((b.tabs.getD k tab0).err))]), (blk B 146 [(iv b.scales), vt, vm, (Value.map (some bm))]), (mapX true bm es_ ck_ es_.size 106 5 (bN b.tabs k) (bC lr lb b.tabs k)), (blk r 37 [(iv b.scales), vt, vm]), (d_5 false vt lr lb b.tabs), (f_0 false vm lk b.macs)] := AM; clear AM AL
  refine n1 ?_
  have AC := AB.as [(6, (bptr E 0)), (5, (bptr D 0)), (14, (iv (k : Int))), (13, (iv (b.tabs.length : Int))), (12, vt), (3, (bptr B 0))] rfl; clear AB
  have AD := AC.as [(6, (bptr E 0)), (5, (bptr D 0)), (14, (iv (k : Int))), (13, (iv (b.tabs.length : Int))), (12, vt), (3, (bptr B 0))] rfl; clear AC
  obtain ⟨es1, ck1, q, e, hMO1, AV, AU, hEn⟩ := map_entry ((b.tabs.getD k tab0).frm) ((b.tabs.getD k tab0).dst) hMO
  skip
  have AO := AN.gkp (gpc 3 (gpc 0 (gpc 1 (gpc 2 (gpc 4 (gpc 5 (gpc 6 gpn))))))); clear AN
  refine c_drawCE mixed AD (mapX true bm es_ ck_ es_.size 106 5 (bN b.tabs k) (bC lr lb b.tabs k)) AO 11 3 [(7, 3), (9, 7)] [[], [0], [1], [2], [], [], [5], [3, 4], [7], [6, 7, 8], [7]] [(fun (A : Nat → Value) (v_ : Value) (rs_ : List Res) => v_ = (bptr B 0) ∧ rs_ = []), (fun (A : Nat → Value) (v_ : Value) (rs_ : List Res) => v_ = (bptr B 0) ∧ rs_ = []), (fun (A : Nat → Value) (v_ : Value) (rs_ : List Res) => v_ = (bptr B 3) ∧ rs_ = []), (fun (A : Nat → Value) (v_ : Value) (rs_ : List Res) => v_ = (Value.map (some bm)) ∧ rs_ = [(mapX true bm es_ ck_ es_.size 106 5 (bN b.tabs k) (bC lr lb b.tabs k))]), (fun (A : Nat → Value) (v_ : Value) (rs_ : List Res) => v_ = (Value.agg #[(iv ((b.tabs.getD k tab0).frm)), (iv ((b.tabs.getD k tab0).dst))]) ∧ rs_ = []), (fun (A : Nat → Value) (v_ : Value) (rs_ : List Res) => v_ = (Value.agg #[(iv ((b.tabs.getD k tab0).frm)), (iv ((b.tabs.getD k tab0).dst)), (lr k), (lb k), (iv ((b.tabs.getD k tab0).err))]) ∧ rs_ = []), (fun (A : Nat → Value) (v_ : Value) (rs_ : List Res) => True ∧ rs_ = [(row v_ 106 5 1 [(iv ((b.tabs.getD k tab0).frm)), (iv ((b.tabs.getD k tab0).dst)), (lr k), (lb k), (iv ((b.tabs.getD k tab0).err))])]), (fun (A : Nat → Value) (v_ : Value) (rs_ : List Res) => v_ = (Value.tuple #[e.val, .int .i64 (e.born : Int)]) ∧ rs_ = [(row e.val 106 5 (bN b.tabs k (b.tabs.getD k tab0).frm (b.tabs.getD k tab0).dst) (bC lr lb b.tabs k (b.tabs.getD k tab0).frm (b.tabs.getD k tab0).dst)), (mapX true bm es1 ck1 q 106 5 (bN b.tabs k) (bC lr lb b.tabs k))]), (fun (A : Nat → Value) (v_ : Value) (rs_ : List Res) => v_ = e.val ∧ rs_ = []), (fun (A : Nat → Value) (v_ : Value) (rs_ : List Res) => True ∧ rs_ = [(row v_ 106 5 (bN b.tabs k (b.tabs.getD k tab0).frm (b.tabs.getD k tab0).dst + 1) (bC lr lb b.tabs k (b.tabs.getD k tab0).frm (b.tabs.getD k tab0).dst ++ [.int .i64 (b.tabs.getD k tab0).frm, .int .i64 (b.tabs.getD k tab0).dst, lr k, lb k, .int .i64 (b.tabs.getD k tab0).err])), (mapX true bm es1 ck1 q 106 5 (bN b.tabs k) (bC lr lb b.tabs k))]), (fun (A : Nat → Value) (v_ : Value) (rs_ : List Res) => v_ = (iv (e.born : Int)) ∧ rs_ = [])] (by decide +kernel) (by decide +kernel) (by decide +kernel) (by decide +kernel) (by decide +kernel) rfl rfl ⟨(fun _ _ _ _ _ h_ => h_), (fun _ _ _ _ _ h_ => h_), (fun _ _ _ _ _ h_ => h_), (fun _ _ _ _ _ h_ => h_), (fun _ _ _ _ _ h_ => h_), (fun _ _ _ _ _ h_ => h_), (fun _ _ _ _ _ h_ => h_), (fun _ _ _ _ _ h_ => h_), (fun _ _ _ _ _ h_ => h_), (fun _ _ _ _ _ h_ => h_), (fun _ _ _ _ _ h_ => h_), trivial⟩ ?_ ?_ ?_ ?_
  ·skip
   refine ⟨fun hj_ hj1_ a w A hA hS hd => gv1 (a_1 rfl hA.e), ?_⟩
   refine ⟨fun hj_ hj1_ a w A hA hS hd => gv1 (o_0 rfl (gu hd 0)), ?_⟩
   refine ⟨fun hj_ hj1_ a w A hA hS hd => gv1 (a_3 rfl fd_146_1 (gu hd 1)), ?_⟩
   refine ⟨fun _ hj_ => absurd rfl hj_, ?_⟩
   refine ⟨fun hj_ hj1_ a w A hA hS hd => gv1 (c_5 rfl ty_162 (hA.ev rfl) (hS.bk 0 rfl) (l := [(iv ((b.tabs.getD k tab0).frm)), (iv ((b.tabs.getD k tab0).dst))]) rfl rfl), ?_⟩
   refine ⟨fun hj_ hj1_ a w A hA hS hd => gv1 (c_5 rfl k_9 (hA.ev rfl) (hS.bk 1 rfl) (l := [(iv ((b.tabs.getD k tab0).frm)), (iv ((b.tabs.getD k tab0).dst)), (lr k), (lb k), (iv ((b.tabs.getD k tab0).err))]) rfl rfl), ?_⟩
   refine ⟨fun hj_ hj1_ a w A hA hS hd => d_6 rfl (vblt rfl (pv1 (gu hd 5)) y_2 k_9 ze_106 (by decide) (cs := [(iv ((b.tabs.getD k tab0).frm)), (iv ((b.tabs.getD k tab0).dst)), (lr k), (lb k), (iv ((b.tabs.getD k tab0).err))]) (bs_106_1_0iivvia _ _ _ _ _) rfl (by decide) (fun _ => And.intro trivial rfl)), ?_⟩
   refine ⟨fun hj_ => absurd hj_ (by decide), ?_⟩
   refine ⟨fun hj_ hj1_ a w A hA hS hd => gv1 (e_7 rfl (gu hd 7) rfl), ?_⟩
   refine ⟨fun hj_ => absurd hj_ (by decide), ?_⟩
   refine ⟨fun hj_ hj1_ a w A hA hS hd => gv1 (e_7 rfl (gu hd 7) rfl), ?_⟩
   trivial
  ·skip
   intro o_ ho_ a w A Lr hA hd hL hS; obtain rfl := Option.some.inj ho_; clear ho_
   obtain ⟨e2, B7, Bf, B3⟩ := hd 2 (by decide)
   obtain ⟨Ba, BU⟩ := Bf; subst BU
   rw [Ba] at e2
   exact d_6 rfl (r_5 (a_4 rfl ty_144 (c_1 (j_0 e2 rfl)) (hL.bk 2 rfl) rfl) (fun v_ w_ h_ => by obtain ⟨rfl, rfl⟩ := h_; exact ⟨⟨rfl, rfl⟩, hS⟩))
  ·skip
   refine ⟨fun o_ ho_ => ?_, ⟨fun o_ ho_ => ?_, trivial⟩⟩
   ·skip
    obtain rfl := Option.some.inj ho_; clear ho_
    intro a w A Bj Lr hA p AX hd hL hS; obtain ⟨Bb, BV⟩ := AX; subst BV; rw [Bb] at p
    obtain ⟨e4, B8, Bg, B4⟩ := hd 4 (by decide) (by decide)
    obtain ⟨Bc, BW⟩ := Bg; subst BW
    rw [Bc] at e4
    exact d_6 rfl (r_5 (op_mapEntryF hS rfl un_144 pair_162 zs_34 (c_1 (j_0 p rfl)) (c_1 (j_0 e4 rfl)) hMO (fun _ _ => bC_zero) hEn AV AU) fun v_ w_ h_ => ⟨_, ⟨h_.1, rfl⟩, h_.2⟩)
   skip
   obtain rfl := Option.some.inj ho_; clear ho_
   intro a w A Bj Lr hA p AX hd hL hS; obtain ⟨Bd, BY⟩ := AX; subst BY; rw [Bd] at p
   obtain ⟨e6, B9, Bh, BT⟩ := hd 6 (by decide) (by decide)
   obtain ⟨B6, BX⟩ := Bh; subst BX
   have hp6_0 := BT (by decide) _ (List.mem_of_getElem? (i := 0) rfl)
   obtain ⟨e8, CA, Bi, B5⟩ := hd 8 (by decide) (by decide)
   obtain ⟨Be, BZ⟩ := Bi; subst BZ
   rw [Be] at e8
   exact d_6 rfl (r_5 (m_6 hS rfl y_2 el_106 (c_1 (j_0 e8 rfl)) (c_1 (j_0 e6 rfl)) (i := 0) rfl (SlAt.g_9 hp6_0) (g_8 rfl (g_8 rfl (g_8 (((b_7 (hL.ok 4 _ rfl)).row (i := k) (by omega)).one) (g_8 (((b_7 (hL.ok 4 _ rfl)).brk (i := k) (by omega)).one) (g_8 rfl q_9))))) (by have := bN_le b.tabs k ((b.tabs.getD k tab0).frm) ((b.tabs.getD k tab0).dst); simp only [maxLen]; omega) (by have := bN_le b.tabs k ((b.tabs.getD k tab0).frm) ((b.tabs.getD k tab0).dst); omega)) fun v_ w_ h_ => ⟨_, And.intro trivial rfl, h_⟩)
  skip
  intro o Bm A rsf AE hH hrq AP; clear AD AO
  have hrq_3 := hrq (7, 3) (by decide); have hrq_7 := hrq (9, 7) (by decide)
  obtain ⟨Ap, rs_0, Ax, hf_0⟩ := hH 0 (by decide); obtain ⟨Bs, Ah⟩ := Ax; replace hf_0 := (hf_0 (by decide)).trans Ah
  obtain ⟨Aq, rs_1, Ay, hf_1⟩ := hH 1 (by decide); obtain ⟨Bt, Ai⟩ := Ay; replace hf_1 := (hf_1 (by decide)).trans Ai
  obtain ⟨Ar, rs_2, Az, hf_2⟩ := hH 2 (by decide); obtain ⟨Bu, Aj⟩ := Az; replace hf_2 := (hf_2 (by decide)).trans Aj
  obtain ⟨As, rs_4, A1, hf_4⟩ := hH 4 (by decide); obtain ⟨Bv, Ak⟩ := A1; replace hf_4 := (hf_4 (by decide)).trans Ak
  obtain ⟨At, rs_5, A2, hf_5⟩ := hH 5 (by decide); obtain ⟨Bw, Al⟩ := A2; replace hf_5 := (hf_5 (by decide)).trans Al
  obtain ⟨Au, rs_6, A3, hf_6⟩ := hH 6 (by decide); obtain ⟨Bx, Am⟩ := A3; replace hf_6 := (hf_6 (by decide)).trans Am
  obtain ⟨Av, rs_8, A4, hf_8⟩ := hH 8 (by decide); obtain ⟨By, An⟩ := A4; replace hf_8 := (hf_8 (by decide)).trans An
  obtain ⟨AW, rs_9, A5, hf_9⟩ := hH 9 (by decide); obtain ⟨Bz, Ao⟩ := A5; replace hf_9 := (hf_9 (by decide)).trans Ao
  obtain ⟨Q, rs_10, Aa, hf_10⟩ := hH 10 (by decide); obtain ⟨AZ, AY⟩ := Aa; replace hf_10 := (hf_10 (by decide)).trans AY
  obtain ⟨m, rs_3, A0, hf_3⟩ := hH 3 (by decide); obtain ⟨Aw, Br⟩ := A0
  have AQ : Sep NoB w Bm [(row (A 6) 106 5 1 [(iv ((b.tabs.getD k tab0).frm)), (iv ((b.tabs.getD k tab0).dst)), (lr k), (lb k), (iv ((b.tabs.getD k tab0).err))]), (row (A 9) 106 5 (bN b.tabs k (b.tabs.getD k tab0).frm (b.tabs.getD k tab0).dst + 1) (bC lr lb b.tabs k (b.tabs.getD k tab0).frm (b.tabs.getD k tab0).dst ++ [.int .i64 (b.tabs.getD k tab0).frm, .int .i64 (b.tabs.getD k tab0).dst, lr k, lb k, .int .i64 (b.tabs.getD k tab0).err])), (mapX true bm es1 ck1 q 106 5 (bN b.tabs k) (bC lr lb b.tabs k)), (blk E 162 [(iv ((b.tabs.getD k tab0).frm)), (iv ((b.tabs.getD k tab0).dst))]), (blk D 106 [(iv ((b.tabs.getD k tab0).frm)), (iv ((b.tabs.getD k tab0).dst)), (lr k), (lb k), (iv ((b.tabs.getD k tab0).err))]), (blk B 146 [(iv b.scales), vt, vm, (Value.map (some bm))]), (blk r 37 [(iv b.scales), vt, vm]), (d_5 false vt lr lb b.tabs), (f_0 false vm lk b.macs)] := by rw [show catR rsf 0 11 = ([(row (A 6) 106 5 1 [(iv ((b.tabs.getD k tab0).frm)), (iv ((b.tabs.getD k tab0).dst)), (lr k), (lb k), (iv ((b.tabs.getD k tab0).err))]), (row (A 9) 106 5 (bN b.tabs k (b.tabs.getD k tab0).frm (b.tabs.getD k tab0).dst + 1) (bC lr lb b.tabs k (b.tabs.getD k tab0).frm (b.tabs.getD k tab0).dst ++ [.int .i64 (b.tabs.getD k tab0).frm, .int .i64 (b.tabs.getD k tab0).dst, lr k, lb k, .int .i64 (b.tabs.getD k tab0).err])), (mapX true bm es1 ck1 q 106 5 (bN b.tabs k) (bC lr lb b.tabs k))] : List Res) by (try simp only [catR, hf_0, hf_1, hf_2, hf_4, hf_5, hf_6, hf_8, hf_9, hf_10, hrq_3, hrq_7]); (try rfl)] at AP; exact AP
  rw [Aw] at m
  have AF : Fr 36 [] [(26, (Value.map (some bm))), (6, (bptr E 0)), (5, (bptr D 0)), (14, (iv (k : Int))), (13, (iv (b.tabs.length : Int))), (12, vt), (3, (bptr B 0))] o := AE.add (j_0 m rfl); clear AE
  rw [AZ] at Q
  have AG : Fr 36 [] [(33, (iv (e.born : Int))), (26, (Value.map (some bm))), (6, (bptr E 0)), (5, (bptr D 0)), (14, (iv (k : Int))), (13, (iv (b.tabs.length : Int))), (12, vt), (3, (bptr B 0))] o := AF.add (j_0 Q rfl); clear AF
  have F : Fr 36 [] [(32, (A 9)), (33, (iv (e.born : Int))), (26, (Value.map (some bm))), (6, (bptr E 0)), (5, (bptr D 0)), (14, (iv (k : Int))), (13, (iv (b.tabs.length : Int))), (12, vt), (3, (bptr B 0))] o := AG.add (j_0 AW rfl); clear AG
  clear hH Ap Aq Ar As At Au Av AW Q m
  have AR := AQ.gkp (gpc 1 (gpc 2 (gpc 0 (gpc 3 (gpc 4 (gpc 5 (gpc 6 (gpc 7 (gpc 8 gpn))))))))); clear AQ
  refine s7 F (op_entryStore (n' := bN b.tabs (k + 1)) (c' := bC lr lb b.tabs (k + 1)) AR rfl F.e F.e F.e hMO1 AV AU bN_next bC_next (b_other lr lb)) ?_
  intro _ CG AS g; clear F AR
  refine e_8 (h_0 (b_1 (a_5 (s1 g (g_1 rfl g.e (evc _ _) (by omega) (by omega)) fun BO h => ?_)))); clear g o
  refine s1 h (a_1 rfl h.e) fun B1 Af => ?_; clear h BO
  refine e_8 ?_
  have Ag := AS.gkp (gpc 4 (gpc 0 (gpc 5 (gpc 6 (gpc 7 gpn))))); clear AS
  exact b_1 ⟨k + 1, ⟨(es1.modify q fun e => { e with val := (A 9) }), ck1, Af.as _ rfl, Ag, by omega, (hMO1.store AV AU (fun a_ b_ h_ => (b_other lr lb a_ b_ h_).1))⟩, by omega⟩
 skip
 rw [decide_eq_false AT] at C
 refine b_8 C rfl (h_6 (b_5 (b_5 (f_9 (b_1 (m2 (s1 C (a_1 rfl C.e) fun BP j => ?_))))))); clear C Ab
 refine s1 j (a_0 rfl j.e) fun B2 AH => ?_; clear j BP
 refine n1 (c_2 (a_8 AH (.inl rfl) (a_2 AH rfl (.tmp rfl)) ?_))
 have hkk : k = b.tabs.length := by omega
 subst hkk
 exact ⟨_, bm, es_, ck_, rfl, hMO, H.keep [0, 1] (by decide) _ rfl rfl⟩
end Go.Proofs.Ytohgladndklciaa

namespace Go.Hard
open Go.RowKit Go.Eng
def w_2 (ts : List TabD) (i j : Int) : List TabD := ts.filter fun t => decide (t.frm = i) && decide (t.dst = j)
def toL (n : Nat) (ts : List TabD) (k : Nat) : List TabD := (List.range n).flatMap fun (f : Nat) => w_2 ts (f : Int) (k : Int)
def rest0 (n : Nat) (ts : List TabD) (k : Nat) : List TabD := ((List.range n).drop k).flatMap (toL n ts)
def rest1 (n : Nat) (ts : List TabD) (k k2 : Nat) : List TabD := ((List.range n).drop k2).flatMap fun (f : Nat) => w_2 ts (f : Int) (k : Int)
theorem drop_range {n k : Nat} (h : k < n) : (List.range n).drop k = k :: (List.range n).drop (k + 1) := by
  rw [List.drop_eq_getElem_cons (by simpa using h), List.getElem_range]
theorem rest0_next {n k : Nat} {ts : List TabD} (h : k < n) : rest0 n ts k = toL n ts k ++ rest0 n ts (k + 1) := by
  unfold rest0; rw [drop_range h, List.flatMap_cons]
theorem rest0_end {n k : Nat} {ts : List TabD} (h : n ≤ k) : rest0 n ts k = [] := by
  unfold rest0; rw [List.drop_eq_nil_of_le (by simpa using h)]; rfl
theorem rest1_zero (n k : Nat) (ts : List TabD) : rest1 n ts k 0 = toL n ts k := rfl
theorem rest1_next {n k k2 : Nat} {ts : List TabD} (h : k2 < n) : rest1 n ts k k2 = w_2 ts (k2 : Int) (k : Int) ++ rest1 n ts k (k2 + 1) := by
  unfold rest1; rw [drop_range h, List.flatMap_cons]
theorem rest1_end {n k k2 : Nat} {ts : List TabD} (h : n ≤ k2) : rest1 n ts k k2 = [] := by
  unfold rest1; rw [List.drop_eq_nil_of_le (by simpa using h)]; rfl
theorem getD_range_map (ts : List TabD) : (List.range ts.length).map (fun q => ts.getD q tab0) = ts := by
  refine List.ext_getElem (by simp) fun i h1 h2 => ?_
  simp [List.getD, List.getElem?_eq_getElem h2]
theorem sel_is (ts : List TabD) (i j : Int) : selT ts (selU ts ts.length i j) = w_2 ts i j := by
  unfold selT selU w_2
  have h := getD_range_map ts
  conv => rhs; rw [← h]
  rw [List.filter_map]; rfl
theorem v_1 {ts : List TabD} {i j : Int} {p : Nat} (hp : p < bN ts ts.length i j) : ((selT ts (selU ts ts.length i j)).getD p tab0).frm = i ∧ ((selT ts (selU ts ts.length i j)).getD p tab0).dst = j ∧ (selT ts (selU ts ts.length i j)).getD p tab0 ∈ ts := by
  have hl : p < (selT ts (selU ts ts.length i j)).length := by rw [r_8]; exact hp
  have hm : (selT ts (selU ts ts.length i j)).getD p tab0 ∈ w_2 ts i j := by
    rw [← sel_is]; simp only [List.getD, List.getElem?_eq_getElem hl, Option.getD_some]; exact List.getElem_mem hl
  unfold w_2 at hm
  rw [List.mem_filter, Bool.and_eq_true, decide_eq_true_eq, decide_eq_true_eq] at hm
  exact ⟨hm.2.1, hm.2.2, hm.1⟩
theorem sel_rl {b : h_5} (h : q_8 b) (l : List Nat) (p : Nat) : ((selT b.tabs l).getD p tab0).rows.length ≤ 1000000 ∧ ((selT b.tabs l).getD p tab0).brk.length ≤ 1000000 := by
  rcases Nat.lt_or_ge p l.length with hp | hp
  · rw [sel_at hp]; exact ⟨h.rl _, h.bl _⟩
  · rw [getD_out (by rw [r_8]; exact hp)]; exact ⟨by decide, by decide⟩
def Cut0 (n : Nat) (ts : List TabD) (s : g_6) (k : Nat) (x : g_6) : Prop := (rest0 n ts k).foldl goS (x, false) = g_5 (f_8 n ts) s
def Cut1 (n : Nat) (ts : List TabD) (s : g_6) (k k2 : Nat) (x : g_6) : Prop := (rest1 n ts k k2 ++ rest0 n ts (k + 1)).foldl goS (x, false) = g_5 (f_8 n ts) s
def Cut2 (n : Nat) (ts : List TabD) (s : g_6) (k k2 k3 : Nat) (x : g_6) : Prop := ((w_2 ts (k2 : Int) (k : Int)).drop k3 ++ (rest1 n ts k (k2 + 1) ++ rest0 n ts (k + 1))).foldl goS (x, false) = g_5 (f_8 n ts) s
section
variable {n : Nat} {ts : List TabD} {s x : g_6} {k k2 k3 : Nat}
theorem cut_00 : Cut0 n ts s 0 s := rfl
theorem cut_01 (hk : k < n) (h : Cut0 n ts s k x) : Cut1 n ts s k 0 x := by
  unfold Cut1; rw [rest1_zero, ← rest0_next hk]; exact h
theorem cut_12 (hk : k2 < n) (h : Cut1 n ts s k k2 x) : Cut2 n ts s k k2 0 x := by
  unfold Cut2; rw [List.drop_zero, ← List.append_assoc, ← rest1_next hk]; exact h
theorem cut_21 (hk : bN ts ts.length (k2 : Int) (k : Int) ≤ k3) (h : Cut2 n ts s k k2 k3 x) : Cut1 n ts s k (k2 + 1) x := by
  unfold Cut2 at h
  rw [List.drop_eq_nil_of_le (by rw [← sel_is, r_8]; exact hk), List.nil_append] at h; exact h
theorem cut_10 (hk : n ≤ k2) (h : Cut1 n ts s k k2 x) : Cut0 n ts s (k + 1) x := by
  unfold Cut1 at h; rw [rest1_end hk, List.nil_append] at h; exact h
theorem cut_end (hk : n ≤ k) (h : Cut0 n ts s k x) : g_5 (f_8 n ts) s = (x, false) := by
  unfold Cut0 at h; rw [rest0_end hk] at h; exact h.symm
theorem cut_go (hk : k3 < bN ts ts.length (k2 : Int) (k : Int)) (h : Cut2 n ts s k k2 k3 x) : ((w_2 ts (k2 : Int) (k : Int)).drop (k3 + 1) ++ (rest1 n ts k (k2 + 1) ++ rest0 n ts (k + 1))).foldl goS (goS (x, false) ((selT ts (selU ts ts.length (k2 : Int) (k : Int))).getD k3 tab0)) = g_5 (f_8 n ts) s := by
  unfold Cut2 at h
  have hl : k3 < (w_2 ts (k2 : Int) (k : Int)).length := by rw [← sel_is, r_8]; exact hk
  rw [List.drop_eq_getElem_cons hl, List.cons_append, List.foldl_cons] at h
  rw [sel_is, show (w_2 ts (k2 : Int) (k : Int)).getD k3 tab0 = (w_2 ts (k2 : Int) (k : Int))[k3] by simp [List.getD, List.getElem?_eq_getElem hl]]
  exact h
theorem cut_brk (hk : k3 < bN ts ts.length (k2 : Int) (k : Int)) (h : Cut2 n ts s k k2 k3 x) (he : (at' x k).2 < (at' x k).1) : g_5 (f_8 n ts) s = (x, true) := by
  have h1 := cut_go hk h
  have hd := (v_1 hk).2.1
  have : goS (x, false) ((selT ts (selU ts ts.length (k2 : Int) (k : Int))).getD k3 tab0) = (x, true) := by
    unfold goS; rw [hd, Int.toNat_natCast, if_neg (show ¬ false = true by decide), if_pos he]
  rw [this, go_stop] at h1
  exact h1.symm
theorem cut_y (hk : k3 < bN ts ts.length (k2 : Int) (k : Int)) (h : Cut2 n ts s k k2 k3 x) (he : ¬ (at' x k).2 < (at' x k).1) (hc : o_9 ((selT ts (selU ts ts.length (k2 : Int) (k : Int))).getD k3 tab0) (at' x k2) = true) :
    Cut2 n ts s k k2 (k3 + 1) (x.set k (cutR (at' x k) (k_2 ((selT ts (selU ts ts.length (k2 : Int) (k : Int))).getD k3 tab0) (at' x k2)))) := by
  have h1 := cut_go hk h
  have hd := v_1 hk
  unfold Cut2
  rw [← h1]
  congr 1
  unfold goS u_4
  rw [hd.2.1, hd.1, Int.toNat_natCast, Int.toNat_natCast, if_neg (show ¬ false = true by decide), if_neg he, if_pos hc]
theorem cut_n (hk : k3 < bN ts ts.length (k2 : Int) (k : Int)) (h : Cut2 n ts s k k2 k3 x) (he : ¬ (at' x k).2 < (at' x k).1) (hc : o_9 ((selT ts (selU ts ts.length (k2 : Int) (k : Int))).getD k3 tab0) (at' x k2) = false) :
    Cut2 n ts s k k2 (k3 + 1) x := by
  have h1 := cut_go hk h
  have hd := v_1 hk
  unfold Cut2
  rw [← h1]
  congr 1
  unfold goS u_4
  rw [hd.2.1, hd.1, Int.toNat_natCast, Int.toNat_natCast, if_neg (show ¬ false = true by decide), if_neg he, if_neg (by rw [hc]; decide)]
end
theorem full_any {n : Nat} {s : g_6} (h : n ≤ s.length) : (!(List.range (s.take n).length).any fun i => decide (((s.take n).getD i (0, 0)).2 < ((s.take n).getD i (0, 0)).1)) = aa_1 n s := by
  rw [List.length_take, Nat.min_eq_left h, Bool.eq_iff_iff, Bool.not_eq_true', List.any_eq_false, full_iff]
  have at'' : ∀ i, i < n → (s.take n).getD i (0, 0) = at' s i := fun i hi => by
    unfold at'; simp [List.getD, List.getElem?_take, hi]
  constructor
  · intro h1 i hi
    have := h1 i (List.mem_range.2 hi)
    rw [at'' i hi, decide_eq_true_eq] at this
    omega
  · intro h1 i hi
    have hi := List.mem_range.1 hi
    have := h1 i hi
    rw [at'' i hi, decide_eq_true_eq]
    omega
end Go.Hard

namespace Go.Proofs.Ytohgladndklciaa
open Go.RowKit Go.Shelf Go.Eng Go.Hard
theorem fd_98_0 : fldK Try.prog 98 0 = some 0 := by kernel_rfl
theorem fd_98_1 : fldK Try.prog 98 1 = some 1 := by kernel_rfl
theorem en_83 : ∀ args w, (callFunc 83 args).run Try.prog w = .ok (.enter 83 args) w := enters_of Try.func83 (by kernel_rfl) rfl
theorem en_84 : ∀ args w, (callFunc 84 args).run Try.prog w = .ok (.enter 84 args) w := enters_of Try.func84 (by kernel_rfl) rfl
theorem en_85 : ∀ args w, (callFunc 85 args).run Try.prog w = .ok (.enter 85 args) w := enters_of Try.func85 (by kernel_rfl) rfl
theorem en_86 : ∀ args w, (callFunc 86 args).run Try.prog w = .ok (.enter 86 args) w := enters_of Try.func86 (by kernel_rfl) rfl
theorem right_ok (b : h_5) (vt vm : Value) (lr lb lk : Nat → Value) (w : World) (hT : n_1 w vt lr lb b.tabs) (hM : o_4 w vm lk b.macs) (hth : q_8 b) (X Z : Int) (Y : Nat) (g2 : (blk Y 37 [.int .i64 b.scales, vt, vm]).p w) :
  Calls Try.prog 83 #[(Value.agg #[(iv X), (iv Z)]), (bptr Y 0)] w (Ret fun v w' => v = .bool (y_4 b (X, Z)) ∧ Ext NoB w w') := by
 refine b_0 Try.func83 rfl fun g E => ?_
 replace E : Fr 16 [] [(0, (Value.agg #[(iv X), (iv Z)])), (1, (bptr Y 0))] g := E
 have hml9 := hth.ml
 have d : Sep NoB w w [(rob Y 37 [(iv b.scales), vt, vm]), (d_5 false vt lr lb b.tabs), (f_0 false vm lk b.macs)] := f_1 ⟨rfl, g2, rfl, hT, rfl, hM, trivial⟩
 refine m2 (s2 E (f_2 d rfl E.e (cs := [(iv X), (iv Z)]) rfl) ?_)
 rintro y _ w3 ⟨b4, rfl, B⟩ c; clear E d g
 refine s1 c (a_0 rfl (evc _ _)) fun z U => ?_; clear c y
 refine n4 (s1 U (a_3 rfl fd_98_0 U.e) fun a8 V => ?_); clear U z
 refine s1 V (a_4 rfl ty_3 V.e (B.bk 0 rfl) rfl) fun h F => ?_; clear V a8
 refine s1 F (a_3 rfl u_0 F.e) fun i G => ?_; clear F h
 refine s1 G (a_4 rfl ty_35 G.e (B.rk 1 rfl) rfl) fun j H => ?_; clear G i
 refine s1 H (e_0 rfl aa_3 H.e (c_9 (B.ok 3 _ rfl)).macs) fun k I => ?_; clear H j
 refine s1 I (i_5 rfl I.e (evc _ _) (by omega) (by omega)) fun l C => ?_; clear I k
 refine s2 C (b_2 rfl en_47 (ev3 C.e (evc _ _) C.e) (n_7 _ _ _ _)) ?_
 rintro m _ W_ ⟨rfl, hW_⟩ J; have hW2_ := hW_.symm; subst hW2_; clear hW_ C l
 refine s1 J (a_1 rfl J.e) fun a A => ?_; clear J m
 rcases Bool.eq_false_or_eq_true ((inB X 0 ((b.macs.length : Int) - 1))) with P | P
 ·skip
  rw [P] at A
  refine s5 A (a_3 rfl fd_98_1 A.e) fun n K => ?_; clear A a
  refine s5 K (a_4 rfl ty_3 K.e (B.bk 0 rfl) rfl) fun o L => ?_; clear K n
  refine s6 L (b_2 rfl en_70 (ev1 L.e) (value_ok _ _)) ?_
  rintro q _ AE ⟨rfl, W⟩ D; have f := B.step W; clear W L B o
  refine s1 D (b_3 rfl D.e D.e) fun r M => ?_; clear D q
  refine s1 M (a_0 rfl M.e) fun AC Q => ?_; clear M r
  refine n1 (c_2 (a_8 Q (.inl rfl) (a_2 Q rfl (.tmp rfl)) ?_))
  exact ⟨congrArg Value.bool (by unfold y_4; simp [*]), f.ext⟩
 skip
 rw [P] at A
 refine s3 A fun s R => ?_; clear A a
 refine s3 R fun t S => ?_; clear R s
 refine s3 S fun u N => ?_; clear S t
 refine s1 N (d_1 rfl N.e (evc _ _)) fun x O => ?_; clear N u
 refine s1 O (a_0 rfl O.e) fun AD T => ?_; clear O x
 refine n1 (c_2 (a_8 T (.inl rfl) (a_2 T rfl (.tmp rfl)) ?_))
 exact ⟨congrArg Value.bool (by unfold y_4; simp [*]), B.ext⟩
theorem notoff_ok (b : h_5) (vt vm : Value) (lr lb lk : Nat → Value) (w : World) (hT : n_1 w vt lr lb b.tabs) (hM : o_4 w vm lk b.macs) (hth : q_8 b) (C V : Int) (R : Nat) (l : (blk R 37 [.int .i64 b.scales, vt, vm]).p w) (hb : q_7 b) (hx : 0 ≤ C ∧ C ≤ (b.macs.length : Int) - 1) :
  Calls Try.prog 85 #[(Value.agg #[(iv C), (iv V)]), (bptr R 0)] w (Ret fun v w' => v = .bool (!offB (b.macs.getD C.toNat mac0)) ∧ Ext NoB w w') := by
 refine b_0 Try.func85 rfl fun W D => ?_
 replace D : Fr 13 [] [(0, (Value.agg #[(iv C), (iv V)])), (1, (bptr R 0))] W := D
 have hml9 := hth.ml
 have T : Sep NoB w w [(rob R 37 [(iv b.scales), vt, vm]), (d_5 false vt lr lb b.tabs), (f_0 false vm lk b.macs)] := f_1 ⟨rfl, l, rfl, hT, rfl, hM, trivial⟩
 refine m2 (s2 D (f_2 T rfl D.e (cs := [(iv C), (iv V)]) rfl) ?_)
 rintro h _ r ⟨q, rfl, A⟩ S; clear D T W
 refine s1 S (a_0 rfl (evc _ _)) fun j M => ?_; clear S h
 refine n4 (s1 M (a_3 rfl u_0 M.e) fun k N => ?_); clear M j
 refine s1 N (a_4 rfl ty_35 N.e (A.rk 1 rfl) rfl) fun X E => ?_; clear N k
 refine s1 E (a_3 rfl fd_98_0 E.e) fun Y F => ?_; clear E X
 refine s1 F (a_4 rfl ty_3 F.e (A.bk 0 rfl) rfl) fun Z B => ?_; clear F Y
 refine s1 B (b_4 rfl aa_3 t_0 B.e (i := C.toNat) (B.e.trans (k_8 (by omega))) (c_9 (A.ok 3 _ rfl)).macs (by decide) (by omega)) fun a G => ?_; clear B Z
 refine s1 G (e_6 rfl t_0 G.e (c_9 (A.ok 3 _ rfl)).macs (macs_all (by omega)) rfl (by decide)) fun c H => ?_; clear G a
 refine s2 H (b_2 rfl en_67 (ev1 H.e) (bias_ok _ (b.macs.getD C.toNat mac0) _ _ ((c_9 (A.ok 3 _ rfl)).blk (i := C.toNat) (by omega)) (hb.mac (by omega)) (hth.kl _))) ?_
 rintro d _ n ⟨rfl, O⟩ I; have Q := A.step O; clear O H A c
 refine s2 I (b_2 rfl en_68 (ev1 I.e) (empty_ok _ _ _)) ?_
 rintro f _ o ⟨rfl, P⟩ J; have U := Q.step P; clear P I Q d
 refine s1 J (f_7 rfl J.e) fun g K => ?_; clear J f
 refine s1 K (a_0 rfl K.e) fun m L => ?_; clear K g
 exact n1 (c_2 (a_8 L (.inl rfl) (a_2 L rfl (.tmp rfl)) (⟨rfl, U.ext⟩)))
theorem read_yes (b : h_5) (vt vm : Value) (lr lb lk : Nat → Value) (w : World) (hT : n_1 w vt lr lb b.tabs) (hM : o_4 w vm lk b.macs) (hth : q_8 b) (l : List (Int × Int)) (xl : Value) (hxl : SlAt w xl 2 l.length (pairs l)) (hlb : l.length ≤ 1000000) (he : f_6 b = 0) (hr : z_2 b l = 0) :
  Calls Try.prog 56 #[(Value.agg #[(iv b.scales), vt, vm]), xl] w (Ret fun v w' => ∃ bx bm es ck, v = .tuple #[bptr bx 0, .int .i64 0] ∧ s_4 bm es ck (bN b.tabs b.tabs.length) ∧ Sep NoB w w' [blk bx 146 [.int .i64 b.scales, vt, vm, .map (some bm)], (mapX true bm es ck es.size 106 5 (bN b.tabs b.tabs.length) (bC lr lb b.tabs b.tabs.length))]) := by
 refine b_0 Try.func56 rfl fun a0 J => ?_
 replace J : Fr 30 [] [(0, (Value.agg #[(iv b.scales), vt, vm])), (1, xl)] a0 := J
 have AL : Sep NoB w w [(d_5 false vt lr lb b.tabs), (f_0 false vm lk b.macs), (sl xl 2 l.length (pairs l))] := f_1 ⟨rfl, hT, rfl, hM, rfl, hxl, trivial⟩
 refine m2 (s2 J (f_2 AL rfl J.e (cs := [(iv b.scales), vt, vm]) rfl) ?_)
 rintro a1 _ w3 ⟨L, rfl, K⟩ AJ; clear J AL a0
 refine s1 AJ (a_0 rfl (evc _ _)) fun a6 AK => ?_; clear AJ a1
 refine s1 AK (a_0 rfl (evc _ _)) fun a8 t => ?_; clear AK a6
 refine n2 (m2 (s1 t (c_5 rfl x_6 (t.ev rfl) (K.bk 0 rfl) (l := [(iv b.scales), vt, vm]) rfl rfl) fun AP M => ?_)); clear t a8
 refine s2 M (b_2 rfl en_32 (ev1 M.e) (u_5 b vt vm lr lb lk _ (b_7 (K.ok 1 _ rfl)) (c_9 (K.ok 2 _ rfl)) hth)) ?_
 rintro AQ _ Au ⟨rfl, AB⟩ N; have D := K.step AB; clear AB M K AP
 refine s1 N (a_0 rfl N.e) fun AR O => ?_; clear N AQ
 refine n4 (s1 O (a_1 rfl O.e) fun AS P => ?_); clear O AR
 refine s1 P (y_1 rfl P.e (evc _ _)) fun AT G => ?_; clear P AS
 have AN : (f_6 b) = 0 := he
 rw [decide_eq_true AN] at G
 refine n1 (b_8 G rfl (d_4 (b_1 (b_9 ?_))))
 have Q := G.as [(2, (bptr L 0)), (1, xl)] rfl; clear G
 refine a_5 (s1 Q (h_1 rfl ev0 (ev1 Q.e)) fun AU R => ?_); clear Q AT
 refine s1 R (a_0 rfl R.e) fun AV S => ?_; clear R AU
 refine n2 (c_6 (m2 (s1 S (a_1 rfl S.e) fun AW T => ?_))); clear S AV
 refine s1 T (e_0 rfl un_53 T.e (D.sk 3 rfl)) fun AX U => ?_; clear T AW
 refine s1 U (l_1 rfl U.e (evc _ _)) fun AY V => ?_; clear U AX
 refine s1 V (a_0 rfl V.e) fun AG A => ?_; clear V AY
 refine n1 ?_
 by_cases AF : 8 < (l.length : Int)
 ·skip
  rw [decide_eq_true AF] at A
  refine c_0 A rfl (b_9 ?_)
  have n := A.as [] rfl; clear A
  refine a_5 (s1 n (a_0 rfl (evc _ _)) fun AZ o => ?_); clear n AG
  refine s1 o (a_0 rfl (evc _ _)) fun Aq p => ?_; clear o AZ
  exact n1 (c_2 (c_4 (a_6 (a_8 p (.inl rfl) (d_7 p rfl (.tmp rfl) (.tmp rfl)) (absurd (hr.symm.trans (read_3 he (by omega))) (by decide))))))
 skip
 rw [decide_eq_false AF] at A
 refine b_8 A rfl (m2 (s1 A (a_1 rfl A.e) fun Aa X => ?_)); clear A AG
 refine s1 X (a_1 rfl X.e) fun Ab H => ?_; clear X Aa
 refine s2 H (b_2 rfl en_84 (ev2 H.e H.e) (all_read l _ 83 #[] #[(bptr L 0)] (fun i => y_4 b (l.getD i (0, 0))) _ (D.sk 3 rfl) (by omega) ⟨en_83, fun i hi W hW => right_ok b vt vm lr lb lk W (b_7 ((D.step hW).ok 1 _ rfl)) (c_9 ((D.step hW).ok 2 _ rfl)) hth _ _ L ((D.step hW).bk 0 rfl)⟩)) ?_
 rintro Ac _ Av ⟨rfl, AC⟩ Y; have E := D.step AC; clear AC H D Ab
 refine s1 Y (f_7 rfl Y.e) fun Ad Z => ?_; clear Y Ac
 refine s1 Z (a_0 rfl Z.e) fun AH B => ?_; clear Z Ad
 refine n1 ?_
 rcases Bool.eq_false_or_eq_true (((List.range l.length).all (fun i => y_4 b (l.getD i (0, 0))))) with k | k
 ·skip
  rw [k] at B
  refine b_8 B rfl (b_9 ?_)
  have a := B.as [(2, (bptr L 0)), (1, xl)] rfl; clear B
  refine a_5 (s1 a (a_1 rfl a.e) fun Ae c => ?_); clear a AH
  refine s1 c (h_1 rfl ev0 (ev1 c.e)) fun Af I => ?_; clear c Ae
  refine s2 I (b_2 rfl en_84 (ev2 I.e I.e) (all_read l _ 85 #[] #[(bptr L 0)] (fun i => !offB (b.macs.getD (l.getD i (0, 0)).1.toNat mac0)) _ (E.sk 3 rfl) (by omega) ⟨en_85, fun i hi W hW => notoff_ok b vt vm lr lb lk W (b_7 ((E.step hW).ok 1 _ rfl)) (c_9 ((E.step hW).ok 2 _ rfl)) hth _ _ L ((E.step hW).bk 0 rfl) (q_1 he) (readB_is (h_9.1 (show allI l.length (fun i => y_4 b (l.getD i (0, 0))) = true from (by assumption)) i hi)).1⟩)) ?_
  rintro Ag _ Aw ⟨rfl, AD⟩ d; have F := E.step AD; clear AD I E Af
  refine s1 d (f_7 rfl d.e) fun Ah f => ?_; clear d Ag
  refine s1 f (a_0 rfl f.e) fun AI C => ?_; clear f Ah
  refine n1 ?_
  rcases Bool.eq_false_or_eq_true (((List.range l.length).all (fun i => !offB (b.macs.getD (l.getD i (0, 0)).1.toNat mac0)))) with m | m
  ·skip
   rw [m] at C
   refine b_8 C rfl (d_4 (h_0 (b_1 (b_9 ?_))))
   have g := C.as [(2, (bptr L 0))] rfl; clear C
   refine a_5 (s1 g (c_5 rfl x_6 (g.ev rfl) (F.bk 0 rfl) (l := [(iv b.scales), vt, vm]) rfl rfl) fun Ai h => ?_); clear g AI
   refine s2 h (b_2 rfl en_86 (ev1 h.e) (bench_ok b vt vm lr lb lk _ (b_7 (F.ok 1 _ rfl)) (c_9 (F.ok 2 _ rfl)) hth)) ?_
   rintro Aj _ Ax ⟨bx80, bm81, es82, ck83, rfl, hMO84, AE⟩ j; have AM := F.y_3 AE rfl; clear AE h F Ai
   refine s1 j (a_0 rfl j.e) fun Ak q => ?_; clear j Aj
   refine s1 q (a_0 rfl (evc _ _)) fun Ar r => ?_; clear q Ak
   exact n1 (c_2 (a_8 r (.inl rfl) (d_7 r rfl (.tmp rfl) (.tmp rfl)) (⟨_, bm81, es82, ck83, rfl, hMO84, AM.keep [0, 1] (by decide) _ rfl rfl⟩)))
  skip
  rw [m] at C
  refine c_0 C rfl (b_9 ?_)
  have s := C.as [] rfl; clear C
  refine a_5 (s1 s (a_0 rfl (evc _ _)) fun Al u => ?_); clear s AI
  refine s1 u (a_0 rfl (evc _ _)) fun As x => ?_; clear u Al
  exact n1 (c_2 (c_4 (a_6 (a_8 x (.inl rfl) (d_7 x rfl (.tmp rfl) (.tmp rfl)) (absurd (hr.symm.trans (read_11' he (by omega) (by assumption) (by assumption))) (by decide))))))
 skip
 rw [k] at B
 refine c_0 B rfl (b_9 ?_)
 have y := B.as [] rfl; clear B
 refine a_5 (s1 y (a_0 rfl (evc _ _)) fun Am z => ?_); clear y AH
 refine s1 z (a_0 rfl (evc _ _)) fun At AA => ?_; clear z Am
 exact n1 (c_2 (c_4 (a_6 (a_8 AA (.inl rfl) (d_7 AA rfl (.tmp rfl) (.tmp rfl)) (absurd (hr.symm.trans (read_2' he (by omega) (by assumption))) (by decide))))))
end Go.Proofs.Ytohgladndklciaa

namespace Go.Proofs.Ytohgladndklciaa
open Go.RowKit Go.Shelf Go.Eng Go.Hard
theorem ze_120 : (Try.prog.info? 120).bind (·.zero) = some (Value.agg #[(iv 0), (iv 0), (iv 0), (iv 0), (iv 0), (iv 0), (iv 0), (iv 0)]) := by kernel_rfl
theorem fd_146_0 : fldK Try.prog 146 0 = some 0 := by kernel_rfl
theorem w_5 : Try.prog.underlying 120 = some (.array 4 30) := by kernel_rfl
theorem l_2 : tyK Try.prog 120 = some (true, 8) := by kernel_rfl
theorem en_108 : ∀ args w, (callFunc 108 args).run Try.prog w = .ok (.enter 108 args) w := enters_of Try.func108 (by kernel_rfl) rfl
set_option maxHeartbeats 4000000 in
theorem cutb_ok (b : h_5) (vt vm : Value) (lr lb lk : Nat → Value) (w : World) (hT : n_1 w vt lr lb b.tabs) (hM : o_4 w vm lk b.macs) (hth : q_8 b) (bx bm : Nat) (es : Array MapEntry) (ck : Nat) (hMO : s_4 bm es ck (bN b.tabs b.tabs.length)) (hbx : (blk bx 146 [.int .i64 b.scales, vt, vm, .map (some bm)]).p w) (hmx : (mapX false bm es ck es.size 106 5 (bN b.tabs b.tabs.length) (bC lr lb b.tabs b.tabs.length)).p w) (hb : q_7 b) (s : List (Int × Int)) (hs : s.length = 4) :
  Calls Try.prog 88 #[(bptr bx 0), (Value.agg (pairs s).toArray)] w (Ret fun v w' => v = .tuple #[.agg (pairs (g_5 (f_8 b.scales.toNat b.tabs) s).1).toArray, .bool (aa_1 b.scales.toNat (g_5 (f_8 b.scales.toNat b.tabs) s).1)] ∧ Ext NoB w w') := by
 refine b_0 Try.func88 rfl fun a0 Aa => ?_
 replace Aa : Fr 71 [] [(0, (bptr bx 0)), (1, (Value.agg (pairs s).toArray))] a0 := Aa
 have hsc := hb.scales; have htl9 := hth.tl
 have Bz : Sep NoB w w [(rob bx 146 [(iv b.scales), vt, vm, (Value.map (some bm))]), (mapX false bm es ck es.size 106 5 (bN b.tabs b.tabs.length) (bC lr lb b.tabs b.tabs.length)), (d_5 false vt lr lb b.tabs), (f_0 false vm lk b.macs)] := f_1 ⟨rfl, hbx, rfl, hmx, rfl, hT, rfl, hM, trivial⟩
 refine m2 (s2 Aa (f_2 Bz rfl Aa.e (cs := (pairs s)) rfl) ?_)
 rintro a1 _ w3 ⟨L, rfl, B0⟩ Bx; clear Aa Bz a0
 refine s2 Bx (d_8 B0 rfl ze_120 (cs := (pairs ([(0, 0), (0, 0), (0, 0), (0, 0)]))) rfl) ?_
 rintro a6 _ w8 ⟨Q, rfl, Aw⟩ By; clear Bx B0 a1
 refine s1 By (a_0 rfl (evc _ _)) fun CP Ac => ?_; clear By a6
 refine n1 (c_scope (b_9 (c_label (b_1 (b_9 (m2 (s1 Ac (a_1 rfl Ac.e) fun CQ Ad => ?_))))))); clear Ac CP
 refine s1 Ad (o_0 rfl Ad.e) fun CR Ae => ?_; clear Ad CQ
 refine s1 Ae (a_3 rfl fd_146_0 Ae.e) fun CS Af => ?_; clear Ae CR
 refine s1 Af (a_3 rfl fd_37_0 Af.e) fun CT Ag => ?_; clear Af CS
 refine s1 Ag (a_4 rfl ty_3 Ag.e (Aw.rk 2 rfl) rfl) fun CU Ba => ?_; clear Ag CT
 refine s1 Ba (a_1 rfl (evc _ _)) fun CV Bb => ?_; clear Ba CU
 refine n1 (c_6 ?_)
 have Bc := Bb.as [(15, (iv 0)), (14, (iv b.scales)), (4, (bptr Q 0)), (3, (bptr L 0)), (0, (bptr bx 0))] rfl; clear Bb
 refine h_7 (G := Nat) (fun (k : Nat) a_ w_ => ∃ D : List (Int × Int), Fr 71 [] [(15, (iv (k : Int))), (14, (iv b.scales)), (4, (bptr Q 0)), (3, (bptr L 0)), (0, (bptr bx 0))] a_ ∧ Sep NoB w w_ [(blk Q 120 (pairs ([(0, 0), (0, 0), (0, 0), (0, 0)]))), (blk L 120 (pairs D)), (rob bx 146 [(iv b.scales), vt, vm, (Value.map (some bm))]), (mapX false bm es ck es.size 106 5 (bN b.tabs b.tabs.length) (bC lr lb b.tabs b.tabs.length)), (d_5 false vt lr lb b.tabs), (f_0 false vm lk b.macs)] ∧ (k ≤ b.scales.toNat) ∧ (D.length = 4) ∧ (Cut0 b.scales.toNat b.tabs s k D)) (fun k => b.scales.toNat - k) 0 ⟨s, Bc.as _ rfl, Aw, by omega, hs, cut_00⟩ ?_
 clear Bc Aw CV
 rintro k CW DP ⟨D, AM, X, hk, Cx, Bo⟩
 refine m2 (s1 AM (g_2 rfl AM.e AM.e) fun CX R => ?_); clear AM CW
 refine n2 ?_
 by_cases Bl : (k : Int) < b.scales
 ·skip
  rw [decide_eq_true Bl] at R
  refine c_0 R rfl (d_4 (b_1 (b_9 (c_6 (m2 (s1 R (a_1 rfl R.e) fun CY Ah => ?_)))))); clear R CX
  refine s1 Ah (a_0 rfl Ah.e) fun CZ Ai => ?_; clear Ah CY
  refine n4 (s1 Ai (a_1 rfl Ai.e) fun Ca Aj => ?_); clear Ai CZ
  refine s1 Aj (o_0 rfl Aj.e) fun Cb Ak => ?_; clear Aj Ca
  refine s1 Ak (a_3 rfl fd_146_0 Ak.e) fun Cc Al => ?_; clear Ak Cb
  refine s1 Al (a_3 rfl fd_37_0 Al.e) fun Cd Am => ?_; clear Al Cc
  refine s1 Am (a_4 rfl ty_3 Am.e (X.rk 2 rfl) rfl) fun Ce Bd => ?_; clear Am Cd
  refine s1 Bd (a_1 rfl (evc _ _)) fun Cf Be => ?_; clear Bd Ce
  refine n1 (c_6 ?_)
  have Bf := Be.as [(23, (iv 0)), (22, (iv b.scales)), (6, (iv (k : Int))), (15, (iv (k : Int))), (14, (iv b.scales)), (4, (bptr Q 0)), (3, (bptr L 0)), (0, (bptr bx 0))] rfl; clear Be
  refine h_7 (G := Nat) (fun (A : Nat) a_ w_ => ∃ x1 : List (Int × Int), Fr 71 [] [(23, (iv (A : Int))), (22, (iv b.scales)), (6, (iv (k : Int))), (15, (iv (k : Int))), (14, (iv b.scales)), (4, (bptr Q 0)), (3, (bptr L 0)), (0, (bptr bx 0))] a_ ∧ Sep NoB w w_ [(blk Q 120 (pairs ([(0, 0), (0, 0), (0, 0), (0, 0)]))), (blk L 120 (pairs x1)), (rob bx 146 [(iv b.scales), vt, vm, (Value.map (some bm))]), (mapX false bm es ck es.size 106 5 (bN b.tabs b.tabs.length) (bC lr lb b.tabs b.tabs.length)), (d_5 false vt lr lb b.tabs), (f_0 false vm lk b.macs)] ∧ (A ≤ b.scales.toNat) ∧ (x1.length = 4) ∧ (Cut1 b.scales.toNat b.tabs s k A x1)) (fun A => b.scales.toNat - A) 0 ⟨D, Bf.as _ rfl, X, by omega, Cx, (cut_01 (by omega) Bo)⟩ ?_
  clear Bf X Cf
  rintro A Cg DQ ⟨x1, AN, T, DN, B2, B1⟩
  refine m2 (s1 AN (g_2 rfl AN.e AN.e) fun Bv P => ?_); clear AN Cg
  refine n2 ?_
  by_cases Bm : (A : Int) < b.scales
  ·skip
   rw [decide_eq_true Bm] at P
   refine c_0 P rfl (d_4 (b_1 (b_9 (c_6 (m2 (s1 P (a_1 rfl P.e) fun Ch An => ?_)))))); clear P Bv
   refine s1 An (a_0 rfl An.e) fun Ci Ao => ?_; clear An Ch
   refine n4 (s1 Ao (a_1 rfl Ao.e) fun Cj Ap => ?_); clear Ao Ci
   refine s1 Ap (o_0 rfl Ap.e) fun Ck Aq => ?_; clear Ap Cj
   refine s1 Aq (a_3 rfl fd_146_1 Aq.e) fun Cl Ar => ?_; clear Aq Ck
   refine s1 Ar (a_4 rfl ty_144 Ar.e (T.rk 2 rfl) rfl) fun Cm As => ?_; clear Ar Cl
   refine s1 As (a_1 rfl As.e) fun Cn At => ?_; clear As Cm
   refine s1 At (a_1 rfl At.e) fun Co AO => ?_; clear At Cn
   refine s1 AO (e_1 rfl (pv2 AO.e AO.e) (bd_162_0i_1i _ _)) fun Cp AP => ?_; clear AO Co
   refine s2 AP (op_lookupF T rfl un_144 pair_162 zs_34 AP.e AP.e (ix := 3) rfl hMO (fun _ _ => bC_zero)) ?_
   rintro Cq u W_ ⟨hW_, hu⟩ Au; have hW2_ := hW_.symm; subst hW2_; clear hW_ AP Cp
   have hsl : (selT b.tabs (selU b.tabs b.tabs.length (A : Int) (k : Int))).length = bN b.tabs b.tabs.length (A : Int) (k : Int) := r_8 _ _; have hbn := bN_le b.tabs b.tabs.length (A : Int) (k : Int)
   refine s1 Au (e_0 rfl y_2 Au.e (r_9 (b_7 (T.ok 4 _ rfl)) (fun q_ h_ => v_9 h_) (hu _ (T.ok 3 _ rfl))).tabs) fun Cr Bg => ?_; clear Au Cq
   refine s1 Bg (a_1 rfl (evc _ _)) fun Cs Bh => ?_; clear Bg Cr
   refine n1 (c_6 ?_)
   have Bi := Bh.as [(35, (iv 0)), (34, (iv ((selT b.tabs (selU b.tabs b.tabs.length (A : Int) (k : Int))).length : Int))), (33, u), (7, (iv (A : Int))), (23, (iv (A : Int))), (22, (iv b.scales)), (6, (iv (k : Int))), (15, (iv (k : Int))), (14, (iv b.scales)), (4, (bptr Q 0)), (3, (bptr L 0)), (0, (bptr bx 0))] rfl; clear Bh
   refine h_7 (G := Nat) (fun (C : Nat) a_ w_ => ∃ B : List (Int × Int), Fr 71 [] [(35, (iv (C : Int))), (34, (iv ((selT b.tabs (selU b.tabs b.tabs.length (A : Int) (k : Int))).length : Int))), (33, u), (7, (iv (A : Int))), (23, (iv (A : Int))), (22, (iv b.scales)), (6, (iv (k : Int))), (15, (iv (k : Int))), (14, (iv b.scales)), (4, (bptr Q 0)), (3, (bptr L 0)), (0, (bptr bx 0))] a_ ∧ Sep NoB w w_ [(blk Q 120 (pairs ([(0, 0), (0, 0), (0, 0), (0, 0)]))), (blk L 120 (pairs B)), (rob bx 146 [(iv b.scales), vt, vm, (Value.map (some bm))]), (mapX false bm es ck es.size 106 5 (bN b.tabs b.tabs.length) (bC lr lb b.tabs b.tabs.length)), (d_5 false vt lr lb b.tabs), (f_0 false vm lk b.macs)] ∧ (C ≤ (selT b.tabs (selU b.tabs b.tabs.length (A : Int) (k : Int))).length) ∧ (B.length = 4) ∧ (Cut2 b.scales.toNat b.tabs s k A C B)) (fun C => (selT b.tabs (selU b.tabs b.tabs.length (A : Int) (k : Int))).length - C) 0 ⟨x1, Bi.as _ rfl, T, by omega, B2, (cut_12 (by omega) B1)⟩ ?_
   clear Bi T Cs
   rintro C Ct DR ⟨B, AQ, U, DO, Ab, q⟩
   refine m2 (s1 AQ (g_2 rfl AQ.e AQ.e) fun Bw N => ?_); clear AQ Ct
   refine n2 ?_
   by_cases Bn : (C : Int) < ((selT b.tabs (selU b.tabs b.tabs.length (A : Int) (k : Int))).length : Int)
   ·skip
    rw [decide_eq_true Bn] at N
    refine c_0 N rfl (d_4 (b_1 (b_9 (c_6 (m2 (s1 N (b_4 rfl y_2 k_9 N.e (i := C) N.e (r_9 (b_7 (U.ok 4 _ rfl)) (fun q_ h_ => v_9 h_) (hu _ (U.ok 3 _ rfl))).tabs (by decide) (by omega)) fun Cu Av => ?_)))))); clear N Bw
    refine s1 Av (e_6 rfl k_9 Av.e (r_9 (b_7 (U.ok 4 _ rfl)) (fun q_ h_ => v_9 h_) (hu _ (U.ok 3 _ rfl))).tabs (w_0 (by omega)) rfl (by decide)) fun Cv Bj => ?_; clear Av Cu
    refine s2 Bj (d_8 U rfl ze_106 (cs := [(iv 0), (iv 0), (Value.slice none 0 0), (Value.slice none 0 0), (iv 0)]) rfl) ?_
    rintro Cw _ DS ⟨r, rfl, Y⟩ AR; clear Bj U Cv
    refine s7 AR (b_6 Y rfl k_9 AR.e AR.e (i := 0) rfl (vs := [(iv (((selT b.tabs (selU b.tabs b.tabs.length (A : Int) (k : Int))).getD C tab0).frm)), (iv (((selT b.tabs (selU b.tabs b.tabs.length (A : Int) (k : Int))).getD C tab0).dst)), ((selV lr (selU b.tabs b.tabs.length (A : Int) (k : Int))) C), ((selV lb (selU b.tabs b.tabs.length (A : Int) (k : Int))) C), (iv (((selT b.tabs (selU b.tabs b.tabs.length (A : Int) (k : Int))).getD C tab0).err))]) rfl rfl (g_8 rfl (g_8 rfl (g_8 (SlAt.one ((r_9 (b_7 (Y.ok 5 _ rfl)) (fun q_ h_ => v_9 h_) (hu _ (Y.ok 4 _ rfl))).row (i := C) (by omega))) (g_8 (SlAt.one ((r_9 (b_7 (Y.ok 5 _ rfl)) (fun q_ h_ => v_9 h_) (hu _ (Y.ok 4 _ rfl))).brk (i := C) (by omega))) (g_8 rfl q_9))))) (Nat.le_of_ble_eq_true rfl)) ?_
    intro _ Cy Bk t; clear AR
    have AU : Sep NoB w Cy [(blk r 106 [(iv (((selT b.tabs (selU b.tabs b.tabs.length (A : Int) (k : Int))).getD C tab0).frm)), (iv (((selT b.tabs (selU b.tabs b.tabs.length (A : Int) (k : Int))).getD C tab0).dst)), ((selV lr (selU b.tabs b.tabs.length (A : Int) (k : Int))) C), ((selV lb (selU b.tabs b.tabs.length (A : Int) (k : Int))) C), (iv (((selT b.tabs (selU b.tabs b.tabs.length (A : Int) (k : Int))).getD C tab0).err))]), (blk Q 120 (pairs ([(0, 0), (0, 0), (0, 0), (0, 0)]))), (blk L 120 (pairs B)), (rob bx 146 [(iv b.scales), vt, vm, (Value.map (some bm))]), (mapX false bm es ck es.size 106 5 (bN b.tabs b.tabs.length) (bC lr lb b.tabs b.tabs.length)), (d_5 false vt lr lb b.tabs), (f_0 false vm lk b.macs)] := Bk; clear Bk Y
    refine n2 (m2 (s1 t (a_1 rfl t.e) fun B3 Z => ?_)); clear t Cw
    refine s1 Z (o_6 rfl w_5 f_5 Z.e (i := k) Z.e (by omega)) fun B4 x => ?_; clear Z B3
    refine s1 x (c_5 rfl f_5 (x.ev rfl) (AU.bk 2 rfl) (l := [(iv ((B.getD k (0, 0)).1)), (iv ((B.getD k (0, 0)).2))]) (s_1 (xs := B) (i := k) (by omega)) rfl) fun B5 y => ?_; clear x B4
    refine s2 y (b_2 rfl en_68 (ev1 y.e) (empty_ok _ _ _)) ?_
    rintro C0 _ DE ⟨rfl, BH⟩ O; have V := AU.step BH; clear BH y AU B5
    refine n1 ?_
    by_cases BY : ((B.getD k (0, 0)).2) < ((B.getD k (0, 0)).1)
    ·skip
     rw [decide_eq_true BY] at O
     refine c_0 O rfl (h_6 (b_5 (blk_miss (by decide) (b_5 (b_5 (blk_miss (by decide) (blk_miss (by decide) (b_5 (b_5 (blk_miss (by decide) (blk_miss (by decide) (b_5 ?_))))))))))))
     refine b_5 (f_9 (b_1 (b_9 ?_)))
     have Ax := O.as [(4, (bptr Q 0)), (3, (bptr L 0)), (0, (bptr bx 0))] rfl; clear O
     have z := Ax.as [(4, (bptr Q 0)), (3, (bptr L 0)), (0, (bptr bx 0))] rfl; clear Ax
     refine c_drawF mixed z V 9 8 rfl rfl [[], [], [1], [2], [3], [4], [5], [6], [7]] [(yw (Value.agg (pairs B).toArray)), (yw (bptr bx 0)), (yw (bptr bx 0)), (yw (bptr bx 0)), (yw (bptr bx 0)), (yw (iv b.scales)), (yw (Value.slice (some ⟨L, 0, none⟩) b.scales.toNat 4)), (yw (Value.bool ((List.range (B.take b.scales.toNat).length).any fun i => decide (((B.take b.scales.toNat).getD i (0, 0)).2 < ((B.take b.scales.toNat).getD i (0, 0)).1)))), (yw (Value.bool (!((List.range (B.take b.scales.toNat).length).any fun i => decide (((B.take b.scales.toNat).getD i (0, 0)).2 < ((B.take b.scales.toNat).getD i (0, 0)).1)))))] (by decide +kernel) (by decide +kernel) (by decide +kernel) rfl rfl ⟨dw, dw, dw, dw, dw, dw, dw, dw, dw, trivial⟩ ?_ ?_ ?_
     ·skip
      refine ⟨fun a w J hA hS hd => gv1 (c_5 rfl l_2 hA.e (hS.bk 2 rfl) (l := (pairs B)) (f_3 _ _ (show (pairs B).length = 8 from by simp only [a_7, List.length_set]; omega)) (show (pairs B).length = 8 from by simp only [a_7, List.length_set]; omega)), ?_⟩
      refine ⟨fun a w J hA hS hd => gv1 (a_1 rfl hA.e), ?_⟩
      refine ⟨fun a w J hA hS hd => gv1 (o_0 rfl (gu hd 1)), ?_⟩
      refine ⟨fun a w J hA hS hd => gv1 (a_3 rfl fd_146_0 (gu hd 2)), ?_⟩
      refine ⟨fun a w J hA hS hd => gv1 (a_3 rfl fd_37_0 (gu hd 3)), ?_⟩
      refine ⟨fun a w J hA hS hd => gv1 (a_4 rfl ty_3 (gu hd 4) (hS.rk 3 rfl) rfl), ?_⟩
      refine ⟨fun a w J hA hS hd => gv1 (op_sliceArr rfl w_5 f_5 hA.e (h := b.scales.toNat) ((gu hd 5).trans (k_8 (by omega))) (by omega)), ?_⟩
      refine ⟨fun a w J hA hS hd => gx1 (b_2 rfl en_108 (ev2 (gu hd 6) (evf _ _)) (contf_rng (B.take b.scales.toNat) _ 68 #[] #[] (fun i => decide (((B.take b.scales.toNat).getD i (0, 0)).2 < ((B.take b.scales.toNat).getD i (0, 0)).1)) _ ((SlAt.of_blkCut (hS.bk 2 rfl) (by rw [a_7]; omega) (by omega) (by decide)).say (by rw [List.length_take]; omega) (pairs_takeH _ _)) (by rw [List.length_take]; omega) ⟨en_68, fun i hi W hW => empty_ok _ _ W⟩)), ?_⟩
      refine ⟨fun a w J hA hS hd => gv1 (f_7 rfl (gu hd 7)), ?_⟩
      trivial
     ·skip
      intro B6 CK J rsf122 Ay E AV; clear z V
      have BJ : Sep NoB w CK [(blk r 106 [(iv (((selT b.tabs (selU b.tabs b.tabs.length (A : Int) (k : Int))).getD C tab0).frm)), (iv (((selT b.tabs (selU b.tabs b.tabs.length (A : Int) (k : Int))).getD C tab0).dst)), ((selV lr (selU b.tabs b.tabs.length (A : Int) (k : Int))) C), ((selV lb (selU b.tabs b.tabs.length (A : Int) (k : Int))) C), (iv (((selT b.tabs (selU b.tabs b.tabs.length (A : Int) (k : Int))).getD C tab0).err))]), (blk Q 120 (pairs ([(0, 0), (0, 0), (0, 0), (0, 0)]))), (blk L 120 (pairs B)), (rob bx 146 [(iv b.scales), vt, vm, (Value.map (some bm))]), (mapX false bm es ck es.size 106 5 (bN b.tabs b.tabs.length) (bC lr lb b.tabs b.tabs.length)), (d_5 false vt lr lb b.tabs), (f_0 false vm lk b.macs)] := by rw [show catR rsf122 0 9 = ([] : List Res) by (try simp only [catR, gr (E 0 (by decide)), gr (E 1 (by decide)), gr (E 2 (by decide)), gr (E 3 (by decide)), gr (E 4 (by decide)), gr (E 5 (by decide)), gr (E 6 (by decide)), gr (E 7 (by decide)), gr (E 8 (by decide))]); (try rfl)] at AV; exact AV
      have Az := Ay.add (gs (E 0 (by decide))); clear Ay
      have c := Az.add (gs (E 8 (by decide))); clear Az
      clear E AV 
      refine s7 c (b_6 BJ rfl l_2 c.e c.e (i := 1) rfl (vs := (pairs B)) rfl (show (pairs B).length = 8 from by simp only [a_7, List.length_set]; omega) (m_7 _) (by simp only [a_7, List.length_set, List.length_cons, List.length_nil]; omega)) ?_
      intro _ DF BK AA; have BL := BK.o_5 (i := 1) rfl (cs' := (pairs B)) (k_5 _ _ (by first | (simp only [a_7, List.length_set, List.length_cons, List.length_nil]; done) | (simp only [a_7, List.length_set, List.length_cons, List.length_nil]; omega))); clear BK c BJ
      refine s1 AA (a_0 rfl AA.e) fun C1 A0 => ?_; clear AA B6
      refine n1 (c_2 (ng_ret ?_))
      refine a_8 A0 (.inl rfl) (d_7 A0 rfl (.cellA rfl l_2 (BL.bk 1 rfl) (l := (pairs B)) (f_3 _ _ (show (pairs B).length = 8 from by simp only [a_7, List.length_set]; omega)) (show (pairs B).length = 8 from by simp only [a_7, List.length_set]; omega)) (.tmp rfl)) ?_
      have hz : g_5 (f_8 b.scales.toNat b.tabs) s = (B, true) := cut_brk (by omega) q (by assumption)
      exact ⟨by rw [hz, ← full_any (s := B) (by omega)], BL.ext⟩
     skip
     intro B7 CL J rsf137 A1 H hrq AW; clear z V
     have BM : Sep NoB w CL [(blk r 106 [(iv (((selT b.tabs (selU b.tabs b.tabs.length (A : Int) (k : Int))).getD C tab0).frm)), (iv (((selT b.tabs (selU b.tabs b.tabs.length (A : Int) (k : Int))).getD C tab0).dst)), ((selV lr (selU b.tabs b.tabs.length (A : Int) (k : Int))) C), ((selV lb (selU b.tabs b.tabs.length (A : Int) (k : Int))) C), (iv (((selT b.tabs (selU b.tabs b.tabs.length (A : Int) (k : Int))).getD C tab0).err))]), (blk Q 120 (pairs ([(0, 0), (0, 0), (0, 0), (0, 0)]))), (blk L 120 (pairs B)), (rob bx 146 [(iv b.scales), vt, vm, (Value.map (some bm))]), (mapX false bm es ck es.size 106 5 (bN b.tabs b.tabs.length) (bC lr lb b.tabs b.tabs.length)), (d_5 false vt lr lb b.tabs), (f_0 false vm lk b.macs)] := by rw [show catR rsf137 0 9 = ([] : List Res) by (try simp only [catR, gr (H 0 (by decide) (by decide)), gr (H 1 (by decide) (by decide)), gr (H 2 (by decide) (by decide)), gr (H 3 (by decide) (by decide)), gr (H 4 (by decide) (by decide)), gr (H 5 (by decide) (by decide)), gr (H 6 (by decide) (by decide)), gr (H 7 (by decide) (by decide)), hrq]); (try rfl)] at AW; exact AW
     have A2 := A1.add (gs (H 0 (by decide) (by decide))); clear A1
     have d := A2.add (gs (H 7 (by decide) (by decide))); clear A2
     clear H AW  hrq
     refine s7 d (b_6 BM rfl l_2 d.e d.e (i := 1) rfl (vs := (pairs B)) rfl (show (pairs B).length = 8 from by simp only [a_7, List.length_set]; omega) (m_7 _) (by simp only [a_7, List.length_set, List.length_cons, List.length_nil]; omega)) ?_
     intro _ DG BN AB; have BO := BN.o_5 (i := 1) rfl (cs' := (pairs B)) (k_5 _ _ (by first | (simp only [a_7, List.length_set, List.length_cons, List.length_nil]; done) | (simp only [a_7, List.length_set, List.length_cons, List.length_nil]; omega))); clear BN d BM
     refine s1 AB (f_7 rfl AB.e) fun B8 AC => ?_; clear AB B7
     refine s1 AC (a_0 rfl AC.e) fun C2 A3 => ?_; clear AC B8
     refine n1 (c_2 (ng_ret ?_))
     refine a_8 A3 (.inl rfl) (d_7 A3 rfl (.cellA rfl l_2 (BO.bk 1 rfl) (l := (pairs B)) (f_3 _ _ (show (pairs B).length = 8 from by simp only [a_7, List.length_set]; omega)) (show (pairs B).length = 8 from by simp only [a_7, List.length_set]; omega)) (.tmp rfl)) ?_
     have hz : g_5 (f_8 b.scales.toNat b.tabs) s = (B, true) := cut_brk (by omega) q (by assumption)
     exact ⟨by rw [hz, ← full_any (s := B) (by omega)], BO.ext⟩
    skip
    rw [decide_eq_false BY] at O
    refine b_8 O rfl (d_4 (b_1 (b_9 ?_)))
    have A4 := O.as [(9, (bptr r 0)), (35, (iv (C : Int))), (34, (iv ((selT b.tabs (selU b.tabs b.tabs.length (A : Int) (k : Int))).length : Int))), (33, u), (7, (iv (A : Int))), (23, (iv (A : Int))), (22, (iv b.scales)), (6, (iv (k : Int))), (15, (iv (k : Int))), (14, (iv b.scales)), (4, (bptr Q 0)), (3, (bptr L 0)), (0, (bptr bx 0))] rfl; clear O
    have A5 := A4.as [(9, (bptr r 0)), (35, (iv (C : Int))), (34, (iv ((selT b.tabs (selU b.tabs b.tabs.length (A : Int) (k : Int))).length : Int))), (33, u), (7, (iv (A : Int))), (23, (iv (A : Int))), (22, (iv b.scales)), (6, (iv (k : Int))), (15, (iv (k : Int))), (14, (iv b.scales)), (4, (bptr Q 0)), (3, (bptr L 0)), (0, (bptr bx 0))] rfl; clear A4
    refine i_2 mixed A5 V 4 [[], [], [1], [2]] [(Yd.val (Value.agg #[(iv (((selT b.tabs (selU b.tabs b.tabs.length (A : Int) (k : Int))).getD C tab0).frm)), (iv (((selT b.tabs (selU b.tabs b.tabs.length (A : Int) (k : Int))).getD C tab0).dst)), ((selV lr (selU b.tabs b.tabs.length (A : Int) (k : Int))) C), ((selV lb (selU b.tabs b.tabs.length (A : Int) (k : Int))) C), (iv (((selT b.tabs (selU b.tabs b.tabs.length (A : Int) (k : Int))).getD C tab0).err))])), (Yd.val (iv (A : Int))), (Yd.val (bptr L (0 + A * 2))), (Yd.val (Value.agg #[(iv ((B.getD A (0, 0)).1)), (iv ((B.getD A (0, 0)).2))]))] (by decide +kernel) rfl rfl ?_ ?_
    ·skip
     refine dq (fun a w hA hS hd => c_5 rfl k_9 (hA.ev rfl) (hS.bk 0 rfl) (l := [(iv (((selT b.tabs (selU b.tabs b.tabs.length (A : Int) (k : Int))).getD C tab0).frm)), (iv (((selT b.tabs (selU b.tabs b.tabs.length (A : Int) (k : Int))).getD C tab0).dst)), ((selV lr (selU b.tabs b.tabs.length (A : Int) (k : Int))) C), ((selV lb (selU b.tabs b.tabs.length (A : Int) (k : Int))) C), (iv (((selT b.tabs (selU b.tabs b.tabs.length (A : Int) (k : Int))).getD C tab0).err))]) rfl rfl) ?_
     refine dq (fun a w hA hS hd => a_1 rfl hA.e) ?_
     refine dq (fun a w hA hS hd => o_6 rfl w_5 f_5 hA.e (i := A) (hq hd 1) (by omega)) ?_
     refine dq (fun a w hA hS hd => c_5 rfl f_5 (hq hd 2) (hS.bk 2 rfl) (l := [(iv ((B.getD A (0, 0)).1)), (iv ((B.getD A (0, 0)).2))]) (s_1 (xs := B) (i := A) (by omega)) rfl) ?_
     trivial
    intro B9 DH A6 S AS; clear A5 V
    have A7 := A6.add (hz AS 0); clear A6
    have f := A7.add (hz AS 3); clear A7
    clear AS
    refine s2 f (b_2 rfl en_49 (ev2 f.e f.e) (converts_ok ((B.getD A (0, 0)).1) ((B.getD A (0, 0)).2) ((selT b.tabs (selU b.tabs b.tabs.length (A : Int) (k : Int))).getD C tab0) _ _ _ ((r_9 (b_7 (S.ok 5 _ rfl)) (fun q_ h_ => v_9 h_) (hu _ (S.ok 4 _ rfl))).row (i := C) (by omega)) ((r_9 (b_7 (S.ok 5 _ rfl)) (fun q_ h_ => v_9 h_) (hu _ (S.ok 4 _ rfl))).brk (i := C) (by omega)) (sel_rl hth _ _).1 (sel_rl hth _ _).2 _ (hb.tabs _ (v_1 (by omega)).2.2))) ?_
    rintro CA _ DI ⟨rfl, BI⟩ M; have o := S.step BI; clear BI f S B9
    refine n1 ?_
    rcases Bool.eq_false_or_eq_true ((o_9 ((selT b.tabs (selU b.tabs b.tabs.length (A : Int) (k : Int))).getD C tab0) ((B.getD A (0, 0)).1, (B.getD A (0, 0)).2))) with AZ | AZ
    ·skip
     rw [AZ] at M
     refine c_0 M rfl ?_
     have A8 := M.as [(9, (bptr r 0)), (35, (iv (C : Int))), (34, (iv ((selT b.tabs (selU b.tabs b.tabs.length (A : Int) (k : Int))).length : Int))), (33, u), (7, (iv (A : Int))), (23, (iv (A : Int))), (22, (iv b.scales)), (6, (iv (k : Int))), (15, (iv (k : Int))), (14, (iv b.scales)), (4, (bptr Q 0)), (3, (bptr L 0)), (0, (bptr bx 0))] rfl; clear M
     refine i_2 mixed A8 o 10 [[], [], [1], [2], [], [], [5], [6], [4, 7], [3, 8]] [(Yd.val (iv (k : Int))), (Yd.val (iv (k : Int))), (Yd.val (bptr L (0 + k * 2))), (Yd.val (Value.agg #[(iv ((B.getD k (0, 0)).1)), (iv ((B.getD k (0, 0)).2))])), (Yd.val (Value.agg #[(iv (((selT b.tabs (selU b.tabs b.tabs.length (A : Int) (k : Int))).getD C tab0).frm)), (iv (((selT b.tabs (selU b.tabs b.tabs.length (A : Int) (k : Int))).getD C tab0).dst)), ((selV lr (selU b.tabs b.tabs.length (A : Int) (k : Int))) C), ((selV lb (selU b.tabs b.tabs.length (A : Int) (k : Int))) C), (iv (((selT b.tabs (selU b.tabs b.tabs.length (A : Int) (k : Int))).getD C tab0).err))])), (Yd.val (iv (A : Int))), (Yd.val (bptr L (0 + A * 2))), (Yd.val (Value.agg #[(iv ((B.getD A (0, 0)).1)), (iv ((B.getD A (0, 0)).2))])), (Yd.val (Value.agg #[(iv ((k_2 ((selT b.tabs (selU b.tabs b.tabs.length (A : Int) (k : Int))).getD C tab0) ((B.getD A (0, 0)).1, (B.getD A (0, 0)).2)).1)), (iv ((k_2 ((selT b.tabs (selU b.tabs b.tabs.length (A : Int) (k : Int))).getD C tab0) ((B.getD A (0, 0)).1, (B.getD A (0, 0)).2)).2))])), (Yd.val (Value.agg #[(iv ((cutR ((B.getD k (0, 0)).1, (B.getD k (0, 0)).2) ((k_2 ((selT b.tabs (selU b.tabs b.tabs.length (A : Int) (k : Int))).getD C tab0) ((B.getD A (0, 0)).1, (B.getD A (0, 0)).2)).1, (k_2 ((selT b.tabs (selU b.tabs b.tabs.length (A : Int) (k : Int))).getD C tab0) ((B.getD A (0, 0)).1, (B.getD A (0, 0)).2)).2)).1)), (iv ((cutR ((B.getD k (0, 0)).1, (B.getD k (0, 0)).2) ((k_2 ((selT b.tabs (selU b.tabs b.tabs.length (A : Int) (k : Int))).getD C tab0) ((B.getD A (0, 0)).1, (B.getD A (0, 0)).2)).1, (k_2 ((selT b.tabs (selU b.tabs b.tabs.length (A : Int) (k : Int))).getD C tab0) ((B.getD A (0, 0)).1, (B.getD A (0, 0)).2)).2)).2))]))] (by decide +kernel) rfl rfl ?_ ?_
     ·skip
      refine dq (fun a w hA hS hd => a_1 rfl hA.e) ?_
      refine dq (fun a w hA hS hd => a_1 rfl hA.e) ?_
      refine dq (fun a w hA hS hd => o_6 rfl w_5 f_5 hA.e (i := k) (hq hd 1) (by omega)) ?_
      refine dq (fun a w hA hS hd => c_5 rfl f_5 (hq hd 2) (hS.bk 2 rfl) (l := [(iv ((B.getD k (0, 0)).1)), (iv ((B.getD k (0, 0)).2))]) (s_1 (xs := B) (i := k) (by omega)) rfl) ?_
      refine dq (fun a w hA hS hd => c_5 rfl k_9 (hA.ev rfl) (hS.bk 0 rfl) (l := [(iv (((selT b.tabs (selU b.tabs b.tabs.length (A : Int) (k : Int))).getD C tab0).frm)), (iv (((selT b.tabs (selU b.tabs b.tabs.length (A : Int) (k : Int))).getD C tab0).dst)), ((selV lr (selU b.tabs b.tabs.length (A : Int) (k : Int))) C), ((selV lb (selU b.tabs b.tabs.length (A : Int) (k : Int))) C), (iv (((selT b.tabs (selU b.tabs b.tabs.length (A : Int) (k : Int))).getD C tab0).err))]) rfl rfl) ?_
      refine dq (fun a w hA hS hd => a_1 rfl hA.e) ?_
      refine dq (fun a w hA hS hd => o_6 rfl w_5 f_5 hA.e (i := A) (hq hd 5) (by omega)) ?_
      refine dq (fun a w hA hS hd => c_5 rfl f_5 (hq hd 6) (hS.bk 2 rfl) (l := [(iv ((B.getD A (0, 0)).1)), (iv ((B.getD A (0, 0)).2))]) (s_1 (xs := B) (i := A) (by omega)) rfl) ?_
      refine ⟨fun a w hA hS hd => by have e4 := hx hd 4; have e7 := hx hd 7; exact d_6 rfl (dx (b_2 rfl en_50 (ev2 (c_1 e4) (c_1 e7)) (convert_ok ((B.getD A (0, 0)).1) ((B.getD A (0, 0)).2) ((selT b.tabs (selU b.tabs b.tabs.length (A : Int) (k : Int))).getD C tab0) _ _ _ ((r_9 (b_7 (hS.ok 5 _ rfl)) (fun q_ h_ => v_9 h_) (hu _ (hS.ok 4 _ rfl))).row (i := C) (by omega)) ((r_9 (b_7 (hS.ok 5 _ rfl)) (fun q_ h_ => v_9 h_) (hu _ (hS.ok 4 _ rfl))).brk (i := C) (by omega)) (sel_rl hth _ _).1 (sel_rl hth _ _).2 _ (hb.tabs _ (v_1 (by omega)).2.2))) hS (fun _ => rfl)), ?_⟩
      refine ⟨fun a w hA hS hd => by have e3 := hx hd 3; have e8 := hx hd 8; exact d_6 rfl (dx (b_2 rfl en_87 (ev2 (c_1 e3) (c_1 e8)) (cut_ok _ _ _ _ _)) hS (fun _ => rfl)), ?_⟩
      trivial
     intro CB DJ A9 BP AT; clear A8 o
     have BA := A9.add (hz AT 0); clear A9
     have g := BA.add (hz AT 9); clear BA
     clear AT
     refine s1 g (o_6 rfl w_5 f_5 g.e (i := k) g.e (by omega)) fun CC j => ?_; clear g CB
     refine s7 j (b_6 BP rfl f_5 j.e j.e (i := 2) rfl (vs := [(iv ((cutR ((B.getD k (0, 0)).1, (B.getD k (0, 0)).2) ((k_2 ((selT b.tabs (selU b.tabs b.tabs.length (A : Int) (k : Int))).getD C tab0) ((B.getD A (0, 0)).1, (B.getD A (0, 0)).2)).1, (k_2 ((selT b.tabs (selU b.tabs b.tabs.length (A : Int) (k : Int))).getD C tab0) ((B.getD A (0, 0)).1, (B.getD A (0, 0)).2)).2)).1)), (iv ((cutR ((B.getD k (0, 0)).1, (B.getD k (0, 0)).2) ((k_2 ((selT b.tabs (selU b.tabs b.tabs.length (A : Int) (k : Int))).getD C tab0) ((B.getD A (0, 0)).1, (B.getD A (0, 0)).2)).1, (k_2 ((selT b.tabs (selU b.tabs b.tabs.length (A : Int) (k : Int))).getD C tab0) ((B.getD A (0, 0)).1, (B.getD A (0, 0)).2)).2)).2))]) rfl rfl rfl (by simp only [a_7, List.length_set, List.length_cons, List.length_nil]; omega)) ?_
     intro _ DK BQ AD; have BR := BQ.o_5 (i := 2) rfl (cs' := (pairs (B.set k ((cutR ((B.getD k (0, 0)).1, (B.getD k (0, 0)).2) ((k_2 ((selT b.tabs (selU b.tabs b.tabs.length (A : Int) (k : Int))).getD C tab0) ((B.getD A (0, 0)).1, (B.getD A (0, 0)).2)).1, (k_2 ((selT b.tabs (selU b.tabs b.tabs.length (A : Int) (k : Int))).getD C tab0) ((B.getD A (0, 0)).1, (B.getD A (0, 0)).2)).2)).1, (cutR ((B.getD k (0, 0)).1, (B.getD k (0, 0)).2) ((k_2 ((selT b.tabs (selU b.tabs b.tabs.length (A : Int) (k : Int))).getD C tab0) ((B.getD A (0, 0)).1, (B.getD A (0, 0)).2)).1, (k_2 ((selT b.tabs (selU b.tabs b.tabs.length (A : Int) (k : Int))).getD C tab0) ((B.getD A (0, 0)).1, (B.getD A (0, 0)).2)).2)).2)))) (pairs_setZ _ _ _ _); clear BQ j BP
     refine e_8 (h_0 (b_1 (a_5 (s1 AD (g_1 rfl AD.e (evc _ _) (by omega) (by omega)) fun CD AE => ?_)))); clear AD CC
     refine s1 AE (a_1 rfl AE.e) fun C3 Bp => ?_; clear AE CD
     refine e_8 ?_
     have Bt := BR.gkp (gpc 1 (gpc 2 (gpc 3 (gpc 4 (gpc 5 (gpc 6 gpn)))))); clear BR
     exact b_1 ⟨C + 1, ⟨(B.set k ((cutR ((B.getD k (0, 0)).1, (B.getD k (0, 0)).2) ((k_2 ((selT b.tabs (selU b.tabs b.tabs.length (A : Int) (k : Int))).getD C tab0) ((B.getD A (0, 0)).1, (B.getD A (0, 0)).2)).1, (k_2 ((selT b.tabs (selU b.tabs b.tabs.length (A : Int) (k : Int))).getD C tab0) ((B.getD A (0, 0)).1, (B.getD A (0, 0)).2)).2)).1, (cutR ((B.getD k (0, 0)).1, (B.getD k (0, 0)).2) ((k_2 ((selT b.tabs (selU b.tabs b.tabs.length (A : Int) (k : Int))).getD C tab0) ((B.getD A (0, 0)).1, (B.getD A (0, 0)).2)).1, (k_2 ((selT b.tabs (selU b.tabs b.tabs.length (A : Int) (k : Int))).getD C tab0) ((B.getD A (0, 0)).1, (B.getD A (0, 0)).2)).2)).2)), Bp.as _ rfl, Bt, by omega, (by first | exact Ab | (rw [List.length_set]; exact Ab)), (by first | exact cut_n (by omega) q (by assumption) (by assumption) | exact cut_y (by omega) q (by assumption) (by assumption))⟩, by omega⟩
    skip
    rw [AZ] at M
    refine b_8 M rfl (d_4 (h_0 (b_1 (a_5 (s1 M (g_1 rfl M.e (evc _ _) (by omega) (by omega)) fun CE AF => ?_))))); clear M CA
    refine s1 AF (a_1 rfl AF.e) fun C4 Bq => ?_; clear AF CE
    refine e_8 ?_
    have Bu := o.gkp (gpc 1 (gpc 2 (gpc 3 (gpc 4 (gpc 5 (gpc 6 gpn)))))); clear o
    exact b_1 ⟨C + 1, ⟨B, Bq.as _ rfl, Bu, by omega, (by first | exact Ab | (rw [List.length_set]; exact Ab)), (by first | exact cut_n (by omega) q (by assumption) (by assumption) | exact cut_y (by omega) q (by assumption) (by assumption))⟩, by omega⟩
   skip
   rw [decide_eq_false Bn] at N
   refine b_8 N rfl (h_6 (b_5 (b_5 (f_9 (h_0 (b_1 (a_5 (s1 N (g_1 rfl N.e (evc _ _) (by omega) (by omega)) fun CF AG => ?_)))))))); clear N Bw
   refine s1 AG (a_1 rfl AG.e) fun C5 Br => ?_; clear AG CF
   refine e_8 ?_
   exact b_1 ⟨A + 1, ⟨B, Br.as _ rfl, U, by omega, Ab, (cut_21 (by omega) q)⟩, by omega⟩
  skip
  rw [decide_eq_false Bm] at P
  refine b_8 P rfl (h_6 (b_5 (b_5 (f_9 (h_0 (b_1 (a_5 (s1 P (g_1 rfl P.e (evc _ _) (by omega) (by omega)) fun CG AH => ?_)))))))); clear P Bv
  refine s1 AH (a_1 rfl AH.e) fun C6 Bs => ?_; clear AH CG
  refine e_8 ?_
  exact b_1 ⟨k + 1, ⟨x1, Bs.as _ rfl, T, by omega, B2, (cut_10 (by omega) B1)⟩, by omega⟩
 skip
 rw [decide_eq_false Bl] at R
 refine b_8 R rfl (h_6 (b_5 (b_5 (f_9 (b_1 (b_9 ?_))))))
 have AI := R.as [(4, (bptr Q 0)), (3, (bptr L 0)), (0, (bptr bx 0))] rfl; clear R
 refine c_drawF mixed AI X 9 8 rfl rfl [[], [], [1], [2], [3], [4], [5], [6], [7]] [(yw (Value.agg (pairs D).toArray)), (yw (bptr bx 0)), (yw (bptr bx 0)), (yw (bptr bx 0)), (yw (bptr bx 0)), (yw (iv b.scales)), (yw (Value.slice (some ⟨L, 0, none⟩) b.scales.toNat 4)), (yw (Value.bool ((List.range (D.take b.scales.toNat).length).any fun i => decide (((D.take b.scales.toNat).getD i (0, 0)).2 < ((D.take b.scales.toNat).getD i (0, 0)).1)))), (yw (Value.bool (!((List.range (D.take b.scales.toNat).length).any fun i => decide (((D.take b.scales.toNat).getD i (0, 0)).2 < ((D.take b.scales.toNat).getD i (0, 0)).1)))))] (by decide +kernel) (by decide +kernel) (by decide +kernel) rfl rfl ⟨dw, dw, dw, dw, dw, dw, dw, dw, dw, trivial⟩ ?_ ?_ ?_
 ·skip
  refine ⟨fun a w K hA hS hd => gv1 (c_5 rfl l_2 hA.e (hS.bk 1 rfl) (l := (pairs D)) (f_3 _ _ (show (pairs D).length = 8 from by simp only [a_7, List.length_set]; omega)) (show (pairs D).length = 8 from by simp only [a_7, List.length_set]; omega)), ?_⟩
  refine ⟨fun a w K hA hS hd => gv1 (a_1 rfl hA.e), ?_⟩
  refine ⟨fun a w K hA hS hd => gv1 (o_0 rfl (gu hd 1)), ?_⟩
  refine ⟨fun a w K hA hS hd => gv1 (a_3 rfl fd_146_0 (gu hd 2)), ?_⟩
  refine ⟨fun a w K hA hS hd => gv1 (a_3 rfl fd_37_0 (gu hd 3)), ?_⟩
  refine ⟨fun a w K hA hS hd => gv1 (a_4 rfl ty_3 (gu hd 4) (hS.rk 2 rfl) rfl), ?_⟩
  refine ⟨fun a w K hA hS hd => gv1 (op_sliceArr rfl w_5 f_5 hA.e (h := b.scales.toNat) ((gu hd 5).trans (k_8 (by omega))) (by omega)), ?_⟩
  refine ⟨fun a w K hA hS hd => gx1 (b_2 rfl en_108 (ev2 (gu hd 6) (evf _ _)) (contf_rng (D.take b.scales.toNat) _ 68 #[] #[] (fun i => decide (((D.take b.scales.toNat).getD i (0, 0)).2 < ((D.take b.scales.toNat).getD i (0, 0)).1)) _ ((SlAt.of_blkCut (hS.bk 1 rfl) (by rw [a_7]; omega) (by omega) (by decide)).say (by rw [List.length_take]; omega) (pairs_takeH _ _)) (by rw [List.length_take]; omega) ⟨en_68, fun i hi W hW => empty_ok _ _ W⟩)), ?_⟩
  refine ⟨fun a w K hA hS hd => gv1 (f_7 rfl (gu hd 7)), ?_⟩
  trivial
 ·skip
  intro CH CM K rsf205 BB F AX; clear AI X
  have BS : Sep NoB w CM [(blk Q 120 (pairs ([(0, 0), (0, 0), (0, 0), (0, 0)]))), (blk L 120 (pairs D)), (rob bx 146 [(iv b.scales), vt, vm, (Value.map (some bm))]), (mapX false bm es ck es.size 106 5 (bN b.tabs b.tabs.length) (bC lr lb b.tabs b.tabs.length)), (d_5 false vt lr lb b.tabs), (f_0 false vm lk b.macs)] := by rw [show catR rsf205 0 9 = ([] : List Res) by (try simp only [catR, gr (F 0 (by decide)), gr (F 1 (by decide)), gr (F 2 (by decide)), gr (F 3 (by decide)), gr (F 4 (by decide)), gr (F 5 (by decide)), gr (F 6 (by decide)), gr (F 7 (by decide)), gr (F 8 (by decide))]); (try rfl)] at AX; exact AX
  have BC := BB.add (gs (F 0 (by decide))); clear BB
  have m := BC.add (gs (F 8 (by decide))); clear BC
  clear F AX 
  refine s7 m (b_6 BS rfl l_2 m.e m.e (i := 0) rfl (vs := (pairs D)) rfl (show (pairs D).length = 8 from by simp only [a_7, List.length_set]; omega) (m_7 _) (by simp only [a_7, List.length_set, List.length_cons, List.length_nil]; omega)) ?_
  intro _ DL BT AJ; have BU := BT.o_5 (i := 0) rfl (cs' := (pairs D)) (k_5 _ _ (by first | (simp only [a_7, List.length_set, List.length_cons, List.length_nil]; done) | (simp only [a_7, List.length_set, List.length_cons, List.length_nil]; omega))); clear BT m BS
  refine s1 AJ (a_0 rfl AJ.e) fun C7 BD => ?_; clear AJ CH
  refine n1 (c_2 (ng_ret ?_))
  refine a_8 BD (.inl rfl) (d_7 BD rfl (.cellA rfl l_2 (BU.bk 0 rfl) (l := (pairs D)) (f_3 _ _ (show (pairs D).length = 8 from by simp only [a_7, List.length_set]; omega)) (show (pairs D).length = 8 from by simp only [a_7, List.length_set]; omega)) (.tmp rfl)) ?_
  have hz : g_5 (f_8 b.scales.toNat b.tabs) s = (D, false) := cut_end (by omega) Bo
  exact ⟨by rw [hz, ← full_any (s := D) (by omega)], BU.ext⟩
 skip
 intro CI CN K rsf220 BE I hrq AY; clear AI X
 have BV : Sep NoB w CN [(blk Q 120 (pairs ([(0, 0), (0, 0), (0, 0), (0, 0)]))), (blk L 120 (pairs D)), (rob bx 146 [(iv b.scales), vt, vm, (Value.map (some bm))]), (mapX false bm es ck es.size 106 5 (bN b.tabs b.tabs.length) (bC lr lb b.tabs b.tabs.length)), (d_5 false vt lr lb b.tabs), (f_0 false vm lk b.macs)] := by rw [show catR rsf220 0 9 = ([] : List Res) by (try simp only [catR, gr (I 0 (by decide) (by decide)), gr (I 1 (by decide) (by decide)), gr (I 2 (by decide) (by decide)), gr (I 3 (by decide) (by decide)), gr (I 4 (by decide) (by decide)), gr (I 5 (by decide) (by decide)), gr (I 6 (by decide) (by decide)), gr (I 7 (by decide) (by decide)), hrq]); (try rfl)] at AY; exact AY
 have BF := BE.add (gs (I 0 (by decide) (by decide))); clear BE
 have n := BF.add (gs (I 7 (by decide) (by decide))); clear BF
 clear I AY  hrq
 refine s7 n (b_6 BV rfl l_2 n.e n.e (i := 0) rfl (vs := (pairs D)) rfl (show (pairs D).length = 8 from by simp only [a_7, List.length_set]; omega) (m_7 _) (by simp only [a_7, List.length_set, List.length_cons, List.length_nil]; omega)) ?_
 intro _ DM BW AK; have BX := BW.o_5 (i := 0) rfl (cs' := (pairs D)) (k_5 _ _ (by first | (simp only [a_7, List.length_set, List.length_cons, List.length_nil]; done) | (simp only [a_7, List.length_set, List.length_cons, List.length_nil]; omega))); clear BW n BV
 refine s1 AK (f_7 rfl AK.e) fun CJ AL => ?_; clear AK CI
 refine s1 AL (a_0 rfl AL.e) fun C8 BG => ?_; clear AL CJ
 refine n1 (c_2 (ng_ret ?_))
 refine a_8 BG (.inl rfl) (d_7 BG rfl (.cellA rfl l_2 (BX.bk 0 rfl) (l := (pairs D)) (f_3 _ _ (show (pairs D).length = 8 from by simp only [a_7, List.length_set]; omega)) (show (pairs D).length = 8 from by simp only [a_7, List.length_set]; omega)) (.tmp rfl)) ?_
 have hz : g_5 (f_8 b.scales.toNat b.tabs) s = (D, false) := cut_end (by omega) Bo
 exact ⟨by rw [hz, ← full_any (s := D) (by omega)], BX.ext⟩
end Go.Proofs.Ytohgladndklciaa

namespace Go.Hard
open Go.RowKit Go.Eng
theorem biasU_bd {n : Int} {m : MacD} (h : MacV n m) : ∀ k, k ≤ m.blocks.length → (-100000 ≤ (n_3 m.blocks k).1 ∧ (n_3 m.blocks k).1 ≤ 100000) ∧ -100000 ≤ (n_3 m.blocks k).2 ∧ (n_3 m.blocks k).2 ≤ 100000
  | 0, _ => by unfold n_3; exact ⟨⟨by decide, by decide⟩, by decide, by decide⟩
  | k + 1, hk => by
    have ih := biasU_bd h k (by omega)
    have hb := h.blocks k (by omega)
    rw [n_3]; dsimp only [cutR]; omega
theorem biasF_bd {n : Int} {m : MacD} (h : MacV n m) : (-100000 ≤ (d_9 m).1 ∧ (d_9 m).1 ≤ 100000) ∧ -100000 ≤ (d_9 m).2 ∧ (d_9 m).2 ≤ 100000 := biasU_bd h _ (Nat.le_refl _)
def zero4 : g_6 := [(0, 0), (0, 0), (0, 0), (0, 0)]
def fillU : Nat → g_6
  | 0 => zero4
  | k + 1 => (fillU k).set k rng0
theorem fillU_len : ∀ k, (fillU k).length = 4
  | 0 => rfl
  | k + 1 => by rw [fillU, List.length_set]; exact fillU_len k
theorem fill4 : fillU 4 = e_4 := by decide
theorem full_free {n : Nat} (hn : n ≤ 4) : Full n e_4 := fun i hi => by
  match i, hi with
  | 0, _ => decide
  | 1, _ => decide
  | 2, _ => decide
  | 3, _ => decide
  | i + 4, hi => omega
section
variable {b : h_5} {l : List (Int × Int)} {k : Nat}
theorem start_mono (hb : q_7 b) (hl : y_9 b l) {s : g_6} (hs : b.scales.toNat ≤ s.length) {k m : Nat} (h : k ≤ m) (hm : m ≤ l.length) : Sub b.scales.toNat (c_3 b l s m) (c_3 b l s k) := by
  have h1 := (start_iff hb hl rfl hs (s' := c_3 b l s m) m hm).1 (Sub.refl _ _)
  exact (start_iff hb hl rfl hs (s' := c_3 b l s m) k (by omega)).2 ⟨h1.1, fun j hj => h1.2 j (by omega)⟩
theorem spans_none (h : ¬ Full b.scales.toNat (x_5 b l)) : w_4 b l = none := by
  unfold w_4; rw [if_neg]; rw [full_iff]; exact h
theorem spans_go (h : Full b.scales.toNat (x_5 b l)) : w_4 b l = s_9 b.scales.toNat (f_8 b.scales.toNat b.tabs) 400001 (x_5 b l) := by
  unfold w_4; rw [if_pos (full_iff.2 h)]
theorem start_empty (hb : q_7 b) (hl : y_9 b l) (hk : k < l.length) (he : (at' (c_3 b l e_4 (k + 1)) (o_7 b l k)).2 < (at' (c_3 b l e_4 (k + 1)) (o_7 b l k)).1) : w_4 b l = none := by
  refine spans_none fun hf => ?_
  have hsc := scale_lt hb hl hk
  have h1 := start_mono hb hl (s := e_4) hb.four (show k + 1 ≤ l.length by omega) (Nat.le_refl _) _ hsc
  have h2 := hf _ hsc
  unfold x_5 at h2
  omega
theorem start_next (hb : q_7 b) (hl : y_9 b l) (hk : k < l.length) (hf : Full b.scales.toNat (c_3 b l e_4 k)) (he : ¬ (at' (c_3 b l e_4 (k + 1)) (o_7 b l k)).2 < (at' (c_3 b l e_4 (k + 1)) (o_7 b l k)).1) : Full b.scales.toNat (c_3 b l e_4 (k + 1)) := fun i hi => by
  have hsc := scale_lt hb hl hk
  have hlen := v_2 b l e_4 k
  have h4 : e_4.length = 4 := rfl
  have hn := hb.four
  by_cases e : o_7 b l k = i
  · subst e; omega
  · rw [startU_succ, at_set (by omega), if_neg e]; exact hf i hi
variable {n : Nat} {ts : List TabD} {s : g_6} {g : Nat}
theorem k_fail (h : aa_1 n (g_5 ts s).1 = false) : s_9 n ts g s = none := by
  cases g with
  | zero => rfl
  | succ g => rw [s_9, if_neg (by rw [h]; decide)]
theorem k_done (hg : 0 < g) (h : aa_1 n (g_5 ts s).1 = true) (he : (g_5 ts s).1 = s) : s_9 n ts g s = some (s.take n) := by
  obtain ⟨g, rfl⟩ : ∃ g', g = g' + 1 := ⟨g - 1, by omega⟩
  rw [s_9, if_pos h, if_pos he]
theorem k_next (hg : 0 < g) (h : aa_1 n (g_5 ts s).1 = true) (he : ¬ (g_5 ts s).1 = s) : s_9 n ts g s = s_9 n ts (g - 1) (g_5 ts s).1 := by
  obtain ⟨g, rfl⟩ : ∃ g', g = g' + 1 := ⟨g - 1, by omega⟩
  rw [s_9, if_pos h, if_neg he]; rfl
end
end Go.Hard

namespace Go.Proofs.Ytohgladndklciaa
open Go.RowKit Go.Shelf Go.Eng Go.Hard
theorem ze_98 : (Try.prog.info? 98).bind (·.zero) = some (Value.agg #[(iv 0), (iv 0)]) := by kernel_rfl
theorem en_88 : ∀ args w, (callFunc 88 args).run Try.prog w = .ok (.enter 88 args) w := enters_of Try.func88 (by kernel_rfl) rfl
theorem ar_120 : Try.prog.underlying 120 = some (.array 4 30) := by kernel_rfl
theorem tw_30 : i_8 Try.prog 30 = true := by kernel_rfl
theorem gt_120 : Try.prog.eqGuardType Try.prog.depth 120 = false := by kernel_rfl
set_option maxHeartbeats 4000000 in
theorem spansb_ok (b : h_5) (vt vm : Value) (lr lb lk : Nat → Value) (w : World) (hT : n_1 w vt lr lb b.tabs) (hM : o_4 w vm lk b.macs) (hth : q_8 b) (bx bm : Nat) (es : Array MapEntry) (ck : Nat) (hMO : s_4 bm es ck (bN b.tabs b.tabs.length)) (hbx : (blk bx 146 [.int .i64 b.scales, vt, vm, .map (some bm)]).p w) (hmx : (mapX false bm es ck es.size 106 5 (bN b.tabs b.tabs.length) (bC lr lb b.tabs b.tabs.length)).p w) (hb : q_7 b) (l : List (Int × Int)) (xl : Value) (hxl : SlAt w xl 2 l.length (pairs l)) (hl : y_9 b l) :
  Calls Try.prog 57 #[(bptr bx 0), xl] w (Ret fun v w' => ∃ x, x.length = 4 ∧ v = .tuple #[.agg (pairs x).toArray, .bool (w_4 b l).isSome] ∧ (∀ t, w_4 b l = some t → x.take b.scales.toNat = t) ∧ Ext NoB w w') := by
 refine b_0 Try.func57 rfl fun a0 Ak => ?_
 replace Ak : Fr 79 [] [(0, (bptr bx 0)), (1, xl)] a0 := Ak
 have hsc := hb.scales; have htl9 := hth.tl; have hml9 := hth.ml; have hll := hl.len
 have Bs : Sep NoB w w [(rob bx 146 [(iv b.scales), vt, vm, (Value.map (some bm))]), (mapX false bm es ck es.size 106 5 (bN b.tabs b.tabs.length) (bC lr lb b.tabs b.tabs.length)), (d_5 false vt lr lb b.tabs), (f_0 false vm lk b.macs), (sl xl 2 l.length (pairs l))] := f_1 ⟨rfl, hbx, rfl, hmx, rfl, hT, rfl, hM, rfl, hxl, trivial⟩
 refine m2 (s2 Ak (d_8 Bs rfl ze_120 (cs := (pairs zero4)) rfl) ?_)
 rintro a1 _ w3 ⟨C, rfl, Bt⟩ Bp; clear Ak Bs a0
 refine s1 Bp (a_0 rfl (evc _ _)) fun a6 Bq => ?_; clear Bp a1
 refine n2 (m2 (s1 Bq (a_1 rfl (evc _ _)) fun a8 Br => ?_)); clear Bq a6
 refine n1 (c_6 ?_)
 have BF := Br.as [(13, (iv 0)), (4, (bptr C 0)), (0, (bptr bx 0)), (1, xl)] rfl; clear Br
 refine h_7 (G := Nat) (fun (k : Nat) a_ w_ => Fr 79 [] [(13, (iv (k : Int))), (4, (bptr C 0)), (0, (bptr bx 0)), (1, xl)] a_ ∧ Sep NoB w w_ [(blk C 120 (pairs (fillU k))), (rob bx 146 [(iv b.scales), vt, vm, (Value.map (some bm))]), (mapX false bm es ck es.size 106 5 (bN b.tabs b.tabs.length) (bC lr lb b.tabs b.tabs.length)), (d_5 false vt lr lb b.tabs), (f_0 false vm lk b.macs), (sl xl 2 l.length (pairs l))] ∧ (k ≤ 4)) (fun k => 4 - k) 0 ⟨BF.as _ rfl, Bt, by omega⟩ ?_
 clear BF Bt a8
 rintro k CS DB ⟨AX, c, hk⟩
 have hfl := fillU_len k
 refine m2 (s1 AX (g_2 rfl AX.e (evc _ _)) fun Bm H => ?_); clear AX CS
 refine n2 ?_
 by_cases Be : (k : Int) < 4
 ·skip
  rw [decide_eq_true Be] at H
  refine c_0 H rfl (d_4 (b_1 (b_9 (c_6 (m2 (s1 H (a_1 rfl H.e) fun CT AY => ?_)))))); clear H Bm
  refine s1 AY (a_0 rfl AY.e) fun CU AZ => ?_; clear AY CT
  refine n3 (s1 AZ (a_1 rfl AZ.e) fun CV BG => ?_); clear AZ CU
  refine s1 BG (e_1 rfl (pv2 (evc _ _) (evc _ _)) (l_3 _ _)) fun CW AO => ?_; clear BG CV
  refine s1 AO (o_6 rfl w_5 f_5 AO.e (i := k) AO.e (by omega)) fun CX AP => ?_; clear AO CW
  refine s7 AP (b_6 c rfl f_5 AP.e AP.e (i := 0) rfl (vs := [(iv 0), (iv 100000)]) rfl rfl rfl (by simp only [a_7, List.length_set, List.length_cons, List.length_nil]; omega)) ?_
  intro _ DC BV BH; have CP := BV.o_5 (i := 0) rfl (cs' := (pairs ((fillU k).set k (0, 100000)))) (pairs_setZ _ _ _ _); clear BV AP c
  refine e_8 (h_0 (b_1 ?_))
  have Aa := BH.as [(13, (iv (k : Int))), (4, (bptr C 0)), (0, (bptr bx 0)), (1, xl)] rfl; clear BH
  refine a_5 (s1 Aa (g_1 rfl Aa.e (evc _ _) (by omega) (by omega)) fun CY Ab => ?_); clear Aa CX
  refine s1 Ab (a_1 rfl Ab.e) fun C6 CO => ?_; clear Ab CY
  refine e_8 ?_
  exact b_1 ⟨k + 1, ⟨CO.as _ rfl, CP, by omega⟩, by omega⟩
 skip
 rw [decide_eq_false Be] at H
 refine b_8 H rfl (h_6 (b_5 (b_5 (f_9 (b_1 (b_9 (m2 (s1 H (a_1 rfl H.e) fun CZ Ac => ?_)))))))); clear H Bm
 refine s1 Ac (e_0 rfl un_53 Ac.e (c.sk 5 rfl)) fun Ca BI => ?_; clear Ac CZ
 refine s1 BI (a_1 rfl (evc _ _)) fun Cb BJ => ?_; clear BI Ca
 refine n1 (c_6 ?_)
 have BK := BJ.as [(22, (iv 0)), (21, (iv (l.length : Int))), (20, xl), (4, (bptr C 0)), (0, (bptr bx 0))] rfl; clear BJ
 refine h_7 (G := Nat) (fun (k : Nat) a_ w_ => Fr 79 [] [(22, (iv (k : Int))), (21, (iv (l.length : Int))), (20, xl), (4, (bptr C 0)), (0, (bptr bx 0))] a_ ∧ Sep NoB w w_ [(blk C 120 (pairs (c_3 b l e_4 k))), (rob bx 146 [(iv b.scales), vt, vm, (Value.map (some bm))]), (mapX false bm es ck es.size 106 5 (bN b.tabs b.tabs.length) (bC lr lb b.tabs b.tabs.length)), (d_5 false vt lr lb b.tabs), (f_0 false vm lk b.macs), (sl xl 2 l.length (pairs l))] ∧ (k ≤ l.length) ∧ (Full b.scales.toNat (c_3 b l e_4 k))) (fun k => l.length - k) 0 ⟨BK.as _ rfl, (c.o_5 (i := 0) rfl (by rw [show k = 4 by omega, fill4]; rfl)), Nat.zero_le _, full_free hb.four⟩ ?_
 clear BK c Cb
 rintro k Cc DD ⟨AQ, N, hk, hfu⟩
 have hsl := v_2 b l e_4 k; have C9 : e_4.length = 4 := rfl
 refine m2 (s1 AQ (g_2 rfl AQ.e AQ.e) fun Bn I => ?_); clear AQ Cc
 refine n2 ?_
 by_cases Bf : (k : Int) < (l.length : Int)
 ·skip
  rw [decide_eq_true Bf] at I
  have hscl := scale_lt hb hl (k := k) (by omega); unfold o_7 at hscl; have hmv := hl.macV hb (k := k) (by omega); have hsv := hmv.scale; have hbb := biasF_bd hmv; have hlm := hl.mac k (by omega); have hlr := hl.read k (by omega); have hsl1 := v_2 b l e_4 (k + 1); have hb4_ := hb.four
  refine c_0 I rfl (d_4 (b_1 (b_9 (c_6 (m2 (s1 I (b_4 rfl un_53 ty_98 I.e (i := k) I.e (N.sk 5 rfl) (by decide) (by omega)) fun Cd Ad => ?_)))))); clear I Bn
  refine s1 Ad (e_6 rfl ty_98 Ad.e (N.sk 5 rfl) (h_4 (by omega)) rfl (by decide)) fun Ce BL => ?_; clear Ad Cd
  refine s2 BL (d_8 N rfl ze_98 (cs := [(iv 0), (iv 0)]) rfl) ?_
  rintro C7 _ DE ⟨L, rfl, BW⟩ AR; clear BL N Ce
  refine s7 AR (b_6 BW rfl ty_98 AR.e AR.e (i := 0) rfl (vs := [(iv ((l.getD k (0, 0)).1)), (iv ((l.getD k (0, 0)).2))]) rfl rfl rfl (Nat.le_of_ble_eq_true rfl)) ?_
  intro _ Cj BX BM; clear AR
  have BY : Sep NoB w Cj [(blk L 98 [(iv ((l.getD k (0, 0)).1)), (iv ((l.getD k (0, 0)).2))]), (blk C 120 (pairs (c_3 b l e_4 k))), (rob bx 146 [(iv b.scales), vt, vm, (Value.map (some bm))]), (mapX false bm es ck es.size 106 5 (bN b.tabs b.tabs.length) (bC lr lb b.tabs b.tabs.length)), (d_5 false vt lr lb b.tabs), (f_0 false vm lk b.macs), (sl xl 2 l.length (pairs l))] := BX; clear BX BW
  refine n2 ?_
  have BN := BM.as [(8, (bptr L 0)), (22, (iv (k : Int))), (21, (iv (l.length : Int))), (20, xl), (4, (bptr C 0)), (0, (bptr bx 0))] rfl; clear BM
  refine x_2 mixed BN BY 10 [[], [0], [1], [2], [3], [], [5], [4, 6], [7], []] [(yw (bptr bx 0)), (yw (bptr bx 0)), (yw (bptr bx 0)), (yw (bptr bx 2)), (yw vm), (yw (bptr L 0)), (yw (iv ((l.getD k (0, 0)).1))), (yw (eptr vm (((l.getD k (0, 0)).1).toNat * 2))), (yw (Value.agg #[(iv ((b.macs.getD (((l.getD k (0, 0)).1).toNat) mac0).scale)), (lk (((l.getD k (0, 0)).1).toNat))])), (fun (D : Nat → Value) (v_ : Value) (rs_ : List Res) => ∃ (b9_ : Nat), v_ = (bptr b9_ 0) ∧ rs_ = [(blk b9_ 103 [(iv 0), (Value.slice none 0 0)])])] (by decide +kernel) (by decide +kernel) rfl rfl ⟨dw, dw, dw, dw, dw, dw, dw, dw, dw, (fun _ _ _ _ _ h_ => h_), trivial⟩ ?_ ?_
  ·skip
   refine ⟨fun a w D hA hS hd => gv1 (a_1 rfl hA.e), ?_⟩
   refine ⟨fun a w D hA hS hd => gv1 (o_0 rfl (gu hd 0)), ?_⟩
   refine ⟨fun a w D hA hS hd => gv1 (a_3 rfl fd_146_0 (gu hd 1)), ?_⟩
   refine ⟨fun a w D hA hS hd => gv1 (a_3 rfl u_0 (gu hd 2)), ?_⟩
   refine ⟨fun a w D hA hS hd => gv1 (a_4 rfl ty_35 (gu hd 3) (hS.rk 2 rfl) rfl), ?_⟩
   refine ⟨fun a w D hA hS hd => gv1 (a_3 rfl fd_98_0 hA.e), ?_⟩
   refine ⟨fun a w D hA hS hd => gv1 (a_4 rfl ty_3 (gu hd 5) (hS.bk 0 rfl) rfl), ?_⟩
   refine ⟨fun a w D hA hS hd => gv1 (b_4 rfl aa_3 t_0 (gu hd 4) (i := ((l.getD k (0, 0)).1).toNat) ((gu hd 6).trans (k_8 (by omega))) (c_9 (hS.ok 5 _ rfl)).macs (by decide) (by omega)), ?_⟩
   refine ⟨fun a w D hA hS hd => gv1 (e_6 rfl t_0 (gu hd 7) (c_9 (hS.ok 5 _ rfl)).macs (macs_all (by omega)) rfl (by decide)), ?_⟩
   refine ⟨fun a w D hA hS hd => d_6 rfl (valloc rfl ze_103 (cs := [(iv 0), (Value.slice none 0 0)]) rfl (fun b_ => ⟨b_, rfl, rfl⟩)), ?_⟩
   trivial
  intro Bo Ck D rsf71 BO B Ag; clear BN BY
  obtain ⟨Ai, CQ⟩ := B 9 (by decide)
  obtain ⟨b9_, Bh, Bg⟩ := CQ
  have Ah : Sep NoB w Ck [(blk b9_ 103 [(iv 0), (Value.slice none 0 0)]), (blk L 98 [(iv ((l.getD k (0, 0)).1)), (iv ((l.getD k (0, 0)).2))]), (blk C 120 (pairs (c_3 b l e_4 k))), (rob bx 146 [(iv b.scales), vt, vm, (Value.map (some bm))]), (mapX false bm es ck es.size 106 5 (bN b.tabs b.tabs.length) (bC lr lb b.tabs b.tabs.length)), (d_5 false vt lr lb b.tabs), (f_0 false vm lk b.macs), (sl xl 2 l.length (pairs l))] := by rw [show catR rsf71 0 10 = ([(blk b9_ 103 [(iv 0), (Value.slice none 0 0)])] : List Res) by (try simp only [catR, gr (B 0 (by decide)), gr (B 1 (by decide)), gr (B 2 (by decide)), gr (B 3 (by decide)), gr (B 4 (by decide)), gr (B 5 (by decide)), gr (B 6 (by decide)), gr (B 7 (by decide)), gr (B 8 (by decide)), Bg]); (try rfl)] at Ag; exact Ag
  have BP := BO.add (gs (B 8 (by decide))); clear BO
  rw [Bh] at Ai
  have AS : Fr 79 [] [(9, (bptr b9_ 0)), (34, (Value.agg #[(iv ((b.macs.getD (((l.getD k (0, 0)).1).toNat) mac0).scale)), (lk (((l.getD k (0, 0)).1).toNat))])), (8, (bptr L 0)), (22, (iv (k : Int))), (21, (iv (l.length : Int))), (20, xl), (4, (bptr C 0)), (0, (bptr bx 0))] Bo := BP.add (j_0 Ai rfl); clear BP
  clear B Ag Ai
  clear Bg
  clear Bh
  refine s7 AS (b_6 Ah rfl t_0 AS.e AS.e (i := 0) rfl (vs := [(iv ((b.macs.getD (((l.getD k (0, 0)).1).toNat) mac0).scale)), (lk (((l.getD k (0, 0)).1).toNat))]) rfl rfl (g_8 rfl (g_8 (SlAt.one ((c_9 (Ah.ok 6 _ rfl)).blk (i := ((l.getD k (0, 0)).1).toNat) (by omega))) q_9)) (Nat.le_of_ble_eq_true rfl)) ?_
  intro _ Cl BZ Ae; clear AS
  have AV : Sep NoB w Cl [(blk b9_ 103 [(iv ((b.macs.getD (((l.getD k (0, 0)).1).toNat) mac0).scale)), (lk (((l.getD k (0, 0)).1).toNat))]), (blk L 98 [(iv ((l.getD k (0, 0)).1)), (iv ((l.getD k (0, 0)).2))]), (blk C 120 (pairs (c_3 b l e_4 k))), (rob bx 146 [(iv b.scales), vt, vm, (Value.map (some bm))]), (mapX false bm es ck es.size 106 5 (bN b.tabs b.tabs.length) (bC lr lb b.tabs b.tabs.length)), (d_5 false vt lr lb b.tabs), (f_0 false vm lk b.macs), (sl xl 2 l.length (pairs l))] := BZ; clear BZ Ah
  refine n4 (s1 Ae (c_5 rfl t_0 (Ae.ev rfl) (AV.bk 0 rfl) (l := [(iv ((b.macs.getD (((l.getD k (0, 0)).1).toNat) mac0).scale)), (lk (((l.getD k (0, 0)).1).toNat))]) rfl rfl) fun Cf Af => ?_); clear Ae Bo
  refine s2 Af (b_2 rfl en_67 (ev1 Af.e) (bias_ok _ (b.macs.getD (((l.getD k (0, 0)).1).toNat) mac0) _ _ ((c_9 (AV.ok 6 _ rfl)).blk (i := ((l.getD k (0, 0)).1).toNat) (by omega)) (hl.macV hb (by omega)) (hth.kl _))) ?_
  rintro Cg _ DF ⟨rfl, BU⟩ BQ; have Ba := AV.step BU; clear BU Af AV Cf
  refine s2 BQ (d_8 Ba rfl w_9 (cs := [(iv 0), (iv 0)]) rfl) ?_
  rintro C8 _ DG ⟨Aj, rfl, Bb⟩ AT; clear BQ Ba Cg
  refine s7 AT (b_6 Bb rfl f_5 AT.e AT.e (i := 0) rfl (vs := [(iv ((d_9 (b.macs.getD (((l.getD k (0, 0)).1).toNat) mac0)).1)), (iv ((d_9 (b.macs.getD (((l.getD k (0, 0)).1).toNat) mac0)).2))]) rfl rfl rfl (Nat.le_of_ble_eq_true rfl)) ?_
  intro _ Cm Bc BR; clear AT
  have Bd : Sep NoB w Cm [(blk Aj 30 [(iv ((d_9 (b.macs.getD (((l.getD k (0, 0)).1).toNat) mac0)).1)), (iv ((d_9 (b.macs.getD (((l.getD k (0, 0)).1).toNat) mac0)).2))]), (blk b9_ 103 [(iv ((b.macs.getD (((l.getD k (0, 0)).1).toNat) mac0).scale)), (lk (((l.getD k (0, 0)).1).toNat))]), (blk L 98 [(iv ((l.getD k (0, 0)).1)), (iv ((l.getD k (0, 0)).2))]), (blk C 120 (pairs (c_3 b l e_4 k))), (rob bx 146 [(iv b.scales), vt, vm, (Value.map (some bm))]), (mapX false bm es ck es.size 106 5 (bN b.tabs b.tabs.length) (bC lr lb b.tabs b.tabs.length)), (d_5 false vt lr lb b.tabs), (f_0 false vm lk b.macs), (sl xl 2 l.length (pairs l))] := Bc; clear Bc Bb
  refine n2 ?_
  have BS := BR.as [(10, (bptr Aj 0)), (9, (bptr b9_ 0)), (8, (bptr L 0)), (22, (iv (k : Int))), (21, (iv (l.length : Int))), (20, xl), (4, (bptr C 0)), (0, (bptr bx 0))] rfl; clear BR
  refine i_2 mixed BS Bd 18 [[], [0], [], [2], [3], [4], [], [6], [], [8], [7, 9], [], [11], [], [13], [12, 14], [10, 15], [5, 16]] [(Yd.val (bptr b9_ 0)), (Yd.val (iv ((b.macs.getD (((l.getD k (0, 0)).1).toNat) mac0).scale))), (Yd.val (bptr b9_ 0)), (Yd.val (iv ((b.macs.getD (((l.getD k (0, 0)).1).toNat) mac0).scale))), (Yd.val (bptr C (0 + ((b.macs.getD (((l.getD k (0, 0)).1).toNat) mac0).scale).toNat * 2))), (Yd.val (Value.agg #[(iv (((c_3 b l e_4 k).getD (((b.macs.getD (((l.getD k (0, 0)).1).toNat) mac0).scale).toNat) (0, 0)).1)), (iv (((c_3 b l e_4 k).getD (((b.macs.getD (((l.getD k (0, 0)).1).toNat) mac0).scale).toNat) (0, 0)).2))])), (Yd.val (bptr L 1)), (Yd.val (iv ((l.getD k (0, 0)).2))), (Yd.val (bptr Aj 1)), (Yd.val (iv ((d_9 (b.macs.getD (((l.getD k (0, 0)).1).toNat) mac0)).2))), (Yd.val (iv (((l.getD k (0, 0)).2) - ((d_9 (b.macs.getD (((l.getD k (0, 0)).1).toNat) mac0)).2)))), (Yd.val (bptr L 1)), (Yd.val (iv ((l.getD k (0, 0)).2))), (Yd.val (bptr Aj 0)), (Yd.val (iv ((d_9 (b.macs.getD (((l.getD k (0, 0)).1).toNat) mac0)).1))), (Yd.val (iv (((l.getD k (0, 0)).2) - ((d_9 (b.macs.getD (((l.getD k (0, 0)).1).toNat) mac0)).1)))), (Yd.val (Value.agg #[(iv (((l.getD k (0, 0)).2) - ((d_9 (b.macs.getD (((l.getD k (0, 0)).1).toNat) mac0)).2))), (iv (((l.getD k (0, 0)).2) - ((d_9 (b.macs.getD (((l.getD k (0, 0)).1).toNat) mac0)).1)))])), (Yd.val (Value.agg #[(iv ((cutR (((c_3 b l e_4 k).getD (((b.macs.getD (((l.getD k (0, 0)).1).toNat) mac0).scale).toNat) (0, 0)).1, ((c_3 b l e_4 k).getD (((b.macs.getD (((l.getD k (0, 0)).1).toNat) mac0).scale).toNat) (0, 0)).2) (((l.getD k (0, 0)).2) - ((d_9 (b.macs.getD (((l.getD k (0, 0)).1).toNat) mac0)).2), ((l.getD k (0, 0)).2) - ((d_9 (b.macs.getD (((l.getD k (0, 0)).1).toNat) mac0)).1))).1)), (iv ((cutR (((c_3 b l e_4 k).getD (((b.macs.getD (((l.getD k (0, 0)).1).toNat) mac0).scale).toNat) (0, 0)).1, ((c_3 b l e_4 k).getD (((b.macs.getD (((l.getD k (0, 0)).1).toNat) mac0).scale).toNat) (0, 0)).2) (((l.getD k (0, 0)).2) - ((d_9 (b.macs.getD (((l.getD k (0, 0)).1).toNat) mac0)).2), ((l.getD k (0, 0)).2) - ((d_9 (b.macs.getD (((l.getD k (0, 0)).1).toNat) mac0)).1))).2))]))] (by decide +kernel) rfl rfl ?_ ?_
  ·skip
   refine dq (fun a w hA hS hd => a_3 rfl fd_103_0 hA.e) ?_
   refine dq (fun a w hA hS hd => a_4 rfl ty_3 (hq hd 0) (hS.bk 1 rfl) rfl) ?_
   refine dq (fun a w hA hS hd => a_3 rfl fd_103_0 hA.e) ?_
   refine dq (fun a w hA hS hd => a_4 rfl ty_3 (hq hd 2) (hS.bk 1 rfl) rfl) ?_
   refine dq (fun a w hA hS hd => o_6 rfl w_5 f_5 hA.e (i := ((b.macs.getD (((l.getD k (0, 0)).1).toNat) mac0).scale).toNat) ((hq hd 3).trans (k_8 (by omega))) (by omega)) ?_
   refine dq (fun a w hA hS hd => c_5 rfl f_5 (hq hd 4) (hS.bk 3 rfl) (l := [(iv (((c_3 b l e_4 k).getD (((b.macs.getD (((l.getD k (0, 0)).1).toNat) mac0).scale).toNat) (0, 0)).1)), (iv (((c_3 b l e_4 k).getD (((b.macs.getD (((l.getD k (0, 0)).1).toNat) mac0).scale).toNat) (0, 0)).2))]) (s_1 (xs := (c_3 b l e_4 k)) (i := ((b.macs.getD (((l.getD k (0, 0)).1).toNat) mac0).scale).toNat) (by omega)) rfl) ?_
   refine dq (fun a w hA hS hd => a_3 rfl fd_98_1 hA.e) ?_
   refine dq (fun a w hA hS hd => a_4 rfl ty_3 (hq hd 6) (hS.bk 2 rfl) rfl) ?_
   refine dq (fun a w hA hS hd => a_3 rfl m_4 hA.e) ?_
   refine dq (fun a w hA hS hd => a_4 rfl ty_3 (hq hd 8) (hS.bk 0 rfl) rfl) ?_
   refine dq (fun a w hA hS hd => i_5 rfl (hq hd 7) (hq hd 9) (by omega) (by omega)) ?_
   refine dq (fun a w hA hS hd => a_3 rfl fd_98_1 hA.e) ?_
   refine dq (fun a w hA hS hd => a_4 rfl ty_3 (hq hd 11) (hS.bk 2 rfl) rfl) ?_
   refine dq (fun a w hA hS hd => a_3 rfl m_3 hA.e) ?_
   refine dq (fun a w hA hS hd => a_4 rfl ty_3 (hq hd 13) (hS.bk 0 rfl) rfl) ?_
   refine dq (fun a w hA hS hd => i_5 rfl (hq hd 12) (hq hd 14) (by omega) (by omega)) ?_
   refine dq (fun a w hA hS hd => e_1 rfl (pv2 (hq hd 10) (hq hd 15)) (l_3 _ _)) ?_
   refine ⟨fun a w hA hS hd => by have e5 := hx hd 5; have Ci := hx hd 16; exact d_6 rfl (dx (b_2 rfl en_87 (ev2 (c_1 e5) (c_1 Ci)) (cut_ok _ _ _ _ _)) hS (fun _ => rfl)), ?_⟩
   trivial
  intro Ch DH BT Ax AU; clear BS Bd
  have Al := BT.add (hz AU 1); clear BT
  have O := Al.add (hz AU 17); clear Al
  clear AU
  refine s1 O (o_6 rfl w_5 f_5 O.e (i := ((b.macs.getD (((l.getD k (0, 0)).1).toNat) mac0).scale).toNat) (O.e.trans (k_8 (by omega))) (by omega)) fun Bv P => ?_; clear O Ch
  refine s7 P (b_6 Ax rfl f_5 P.e P.e (i := 3) rfl (vs := [(iv ((cutR (((c_3 b l e_4 k).getD (((b.macs.getD (((l.getD k (0, 0)).1).toNat) mac0).scale).toNat) (0, 0)).1, ((c_3 b l e_4 k).getD (((b.macs.getD (((l.getD k (0, 0)).1).toNat) mac0).scale).toNat) (0, 0)).2) (((l.getD k (0, 0)).2) - ((d_9 (b.macs.getD (((l.getD k (0, 0)).1).toNat) mac0)).2), ((l.getD k (0, 0)).2) - ((d_9 (b.macs.getD (((l.getD k (0, 0)).1).toNat) mac0)).1))).1)), (iv ((cutR (((c_3 b l e_4 k).getD (((b.macs.getD (((l.getD k (0, 0)).1).toNat) mac0).scale).toNat) (0, 0)).1, ((c_3 b l e_4 k).getD (((b.macs.getD (((l.getD k (0, 0)).1).toNat) mac0).scale).toNat) (0, 0)).2) (((l.getD k (0, 0)).2) - ((d_9 (b.macs.getD (((l.getD k (0, 0)).1).toNat) mac0)).2), ((l.getD k (0, 0)).2) - ((d_9 (b.macs.getD (((l.getD k (0, 0)).1).toNat) mac0)).1))).2))]) rfl rfl rfl (by simp only [a_7, List.length_set, List.length_cons, List.length_nil]; omega)) ?_
  intro _ Cw Ay f; have Z := Ay.o_5 (i := 3) rfl (cs' := (pairs ((c_3 b l e_4 k).set (((b.macs.getD (((l.getD k (0, 0)).1).toNat) mac0).scale).toNat) ((cutR (((c_3 b l e_4 k).getD (((b.macs.getD (((l.getD k (0, 0)).1).toNat) mac0).scale).toNat) (0, 0)).1, ((c_3 b l e_4 k).getD (((b.macs.getD (((l.getD k (0, 0)).1).toNat) mac0).scale).toNat) (0, 0)).2) (((l.getD k (0, 0)).2) - ((d_9 (b.macs.getD (((l.getD k (0, 0)).1).toNat) mac0)).2), ((l.getD k (0, 0)).2) - ((d_9 (b.macs.getD (((l.getD k (0, 0)).1).toNat) mac0)).1))).1, (cutR (((c_3 b l e_4 k).getD (((b.macs.getD (((l.getD k (0, 0)).1).toNat) mac0).scale).toNat) (0, 0)).1, ((c_3 b l e_4 k).getD (((b.macs.getD (((l.getD k (0, 0)).1).toNat) mac0).scale).toNat) (0, 0)).2) (((l.getD k (0, 0)).2) - ((d_9 (b.macs.getD (((l.getD k (0, 0)).1).toNat) mac0)).2), ((l.getD k (0, 0)).2) - ((d_9 (b.macs.getD (((l.getD k (0, 0)).1).toNat) mac0)).1))).2)))) (pairs_setZ _ _ _ _); clear Ay P Ax
  refine n4 (s1 f (a_3 rfl fd_103_0 f.e) fun Bw h => ?_); clear f Bv
  refine s1 h (a_4 rfl ty_3 h.e (Z.bk 1 rfl) rfl) fun Bx Q => ?_; clear h Bw
  refine s1 Q (o_6 rfl w_5 f_5 Q.e (i := ((b.macs.getD (((l.getD k (0, 0)).1).toNat) mac0).scale).toNat) (Q.e.trans (k_8 (by omega))) (by omega)) fun By j => ?_; clear Q Bx
  refine s1 j (c_5 rfl f_5 (j.ev rfl) (Z.bk 3 rfl) (l := [(iv ((((c_3 b l e_4 k).set (((b.macs.getD (((l.getD k (0, 0)).1).toNat) mac0).scale).toNat) ((cutR (((c_3 b l e_4 k).getD (((b.macs.getD (((l.getD k (0, 0)).1).toNat) mac0).scale).toNat) (0, 0)).1, ((c_3 b l e_4 k).getD (((b.macs.getD (((l.getD k (0, 0)).1).toNat) mac0).scale).toNat) (0, 0)).2) (((l.getD k (0, 0)).2) - ((d_9 (b.macs.getD (((l.getD k (0, 0)).1).toNat) mac0)).2), ((l.getD k (0, 0)).2) - ((d_9 (b.macs.getD (((l.getD k (0, 0)).1).toNat) mac0)).1))).1, (cutR (((c_3 b l e_4 k).getD (((b.macs.getD (((l.getD k (0, 0)).1).toNat) mac0).scale).toNat) (0, 0)).1, ((c_3 b l e_4 k).getD (((b.macs.getD (((l.getD k (0, 0)).1).toNat) mac0).scale).toNat) (0, 0)).2) (((l.getD k (0, 0)).2) - ((d_9 (b.macs.getD (((l.getD k (0, 0)).1).toNat) mac0)).2), ((l.getD k (0, 0)).2) - ((d_9 (b.macs.getD (((l.getD k (0, 0)).1).toNat) mac0)).1))).2)).getD (((b.macs.getD (((l.getD k (0, 0)).1).toNat) mac0).scale).toNat) (0, 0)).1)), (iv ((((c_3 b l e_4 k).set (((b.macs.getD (((l.getD k (0, 0)).1).toNat) mac0).scale).toNat) ((cutR (((c_3 b l e_4 k).getD (((b.macs.getD (((l.getD k (0, 0)).1).toNat) mac0).scale).toNat) (0, 0)).1, ((c_3 b l e_4 k).getD (((b.macs.getD (((l.getD k (0, 0)).1).toNat) mac0).scale).toNat) (0, 0)).2) (((l.getD k (0, 0)).2) - ((d_9 (b.macs.getD (((l.getD k (0, 0)).1).toNat) mac0)).2), ((l.getD k (0, 0)).2) - ((d_9 (b.macs.getD (((l.getD k (0, 0)).1).toNat) mac0)).1))).1, (cutR (((c_3 b l e_4 k).getD (((b.macs.getD (((l.getD k (0, 0)).1).toNat) mac0).scale).toNat) (0, 0)).1, ((c_3 b l e_4 k).getD (((b.macs.getD (((l.getD k (0, 0)).1).toNat) mac0).scale).toNat) (0, 0)).2) (((l.getD k (0, 0)).2) - ((d_9 (b.macs.getD (((l.getD k (0, 0)).1).toNat) mac0)).2), ((l.getD k (0, 0)).2) - ((d_9 (b.macs.getD (((l.getD k (0, 0)).1).toNat) mac0)).1))).2)).getD (((b.macs.getD (((l.getD k (0, 0)).1).toNat) mac0).scale).toNat) (0, 0)).2))]) (s_1 (xs := ((c_3 b l e_4 k).set (((b.macs.getD (((l.getD k (0, 0)).1).toNat) mac0).scale).toNat) ((cutR (((c_3 b l e_4 k).getD (((b.macs.getD (((l.getD k (0, 0)).1).toNat) mac0).scale).toNat) (0, 0)).1, ((c_3 b l e_4 k).getD (((b.macs.getD (((l.getD k (0, 0)).1).toNat) mac0).scale).toNat) (0, 0)).2) (((l.getD k (0, 0)).2) - ((d_9 (b.macs.getD (((l.getD k (0, 0)).1).toNat) mac0)).2), ((l.getD k (0, 0)).2) - ((d_9 (b.macs.getD (((l.getD k (0, 0)).1).toNat) mac0)).1))).1, (cutR (((c_3 b l e_4 k).getD (((b.macs.getD (((l.getD k (0, 0)).1).toNat) mac0).scale).toNat) (0, 0)).1, ((c_3 b l e_4 k).getD (((b.macs.getD (((l.getD k (0, 0)).1).toNat) mac0).scale).toNat) (0, 0)).2) (((l.getD k (0, 0)).2) - ((d_9 (b.macs.getD (((l.getD k (0, 0)).1).toNat) mac0)).2), ((l.getD k (0, 0)).2) - ((d_9 (b.macs.getD (((l.getD k (0, 0)).1).toNat) mac0)).1))).2))) (i := ((b.macs.getD (((l.getD k (0, 0)).1).toNat) mac0).scale).toNat) (by simp only [List.length_set]; omega)) rfl) fun Bz m => ?_; clear j By
  refine s2 m (b_2 rfl en_68 (ev1 m.e) (empty_ok _ _ _)) ?_
  rintro BC _ Cx ⟨rfl, Av⟩ E; have M := Z.step Av; clear Av m Z Bz
  refine n1 ?_
  by_cases BA : ((((c_3 b l e_4 k).set (((b.macs.getD (((l.getD k (0, 0)).1).toNat) mac0).scale).toNat) ((cutR (((c_3 b l e_4 k).getD (((b.macs.getD (((l.getD k (0, 0)).1).toNat) mac0).scale).toNat) (0, 0)).1, ((c_3 b l e_4 k).getD (((b.macs.getD (((l.getD k (0, 0)).1).toNat) mac0).scale).toNat) (0, 0)).2) (((l.getD k (0, 0)).2) - ((d_9 (b.macs.getD (((l.getD k (0, 0)).1).toNat) mac0)).2), ((l.getD k (0, 0)).2) - ((d_9 (b.macs.getD (((l.getD k (0, 0)).1).toNat) mac0)).1))).1, (cutR (((c_3 b l e_4 k).getD (((b.macs.getD (((l.getD k (0, 0)).1).toNat) mac0).scale).toNat) (0, 0)).1, ((c_3 b l e_4 k).getD (((b.macs.getD (((l.getD k (0, 0)).1).toNat) mac0).scale).toNat) (0, 0)).2) (((l.getD k (0, 0)).2) - ((d_9 (b.macs.getD (((l.getD k (0, 0)).1).toNat) mac0)).2), ((l.getD k (0, 0)).2) - ((d_9 (b.macs.getD (((l.getD k (0, 0)).1).toNat) mac0)).1))).2)).getD (((b.macs.getD (((l.getD k (0, 0)).1).toNat) mac0).scale).toNat) (0, 0)).2) < ((((c_3 b l e_4 k).set (((b.macs.getD (((l.getD k (0, 0)).1).toNat) mac0).scale).toNat) ((cutR (((c_3 b l e_4 k).getD (((b.macs.getD (((l.getD k (0, 0)).1).toNat) mac0).scale).toNat) (0, 0)).1, ((c_3 b l e_4 k).getD (((b.macs.getD (((l.getD k (0, 0)).1).toNat) mac0).scale).toNat) (0, 0)).2) (((l.getD k (0, 0)).2) - ((d_9 (b.macs.getD (((l.getD k (0, 0)).1).toNat) mac0)).2), ((l.getD k (0, 0)).2) - ((d_9 (b.macs.getD (((l.getD k (0, 0)).1).toNat) mac0)).1))).1, (cutR (((c_3 b l e_4 k).getD (((b.macs.getD (((l.getD k (0, 0)).1).toNat) mac0).scale).toNat) (0, 0)).1, ((c_3 b l e_4 k).getD (((b.macs.getD (((l.getD k (0, 0)).1).toNat) mac0).scale).toNat) (0, 0)).2) (((l.getD k (0, 0)).2) - ((d_9 (b.macs.getD (((l.getD k (0, 0)).1).toNat) mac0)).2), ((l.getD k (0, 0)).2) - ((d_9 (b.macs.getD (((l.getD k (0, 0)).1).toNat) mac0)).1))).2)).getD (((b.macs.getD (((l.getD k (0, 0)).1).toNat) mac0).scale).toNat) (0, 0)).1)
  ·skip
   rw [decide_eq_true BA] at E
   refine c_0 E rfl (b_9 ?_)
   have n := E.as [(4, (bptr C 0))] rfl; clear E
   refine a_5 ?_
   refine s1 n (c_5 rfl l_2 n.e (M.bk 3 rfl) (l := (pairs ((c_3 b l e_4 k).set (((b.macs.getD (((l.getD k (0, 0)).1).toNat) mac0).scale).toNat) ((cutR (((c_3 b l e_4 k).getD (((b.macs.getD (((l.getD k (0, 0)).1).toNat) mac0).scale).toNat) (0, 0)).1, ((c_3 b l e_4 k).getD (((b.macs.getD (((l.getD k (0, 0)).1).toNat) mac0).scale).toNat) (0, 0)).2) (((l.getD k (0, 0)).2) - ((d_9 (b.macs.getD (((l.getD k (0, 0)).1).toNat) mac0)).2), ((l.getD k (0, 0)).2) - ((d_9 (b.macs.getD (((l.getD k (0, 0)).1).toNat) mac0)).1))).1, (cutR (((c_3 b l e_4 k).getD (((b.macs.getD (((l.getD k (0, 0)).1).toNat) mac0).scale).toNat) (0, 0)).1, ((c_3 b l e_4 k).getD (((b.macs.getD (((l.getD k (0, 0)).1).toNat) mac0).scale).toNat) (0, 0)).2) (((l.getD k (0, 0)).2) - ((d_9 (b.macs.getD (((l.getD k (0, 0)).1).toNat) mac0)).2), ((l.getD k (0, 0)).2) - ((d_9 (b.macs.getD (((l.getD k (0, 0)).1).toNat) mac0)).1))).2)))) (f_3 _ _ (show (pairs ((c_3 b l e_4 k).set (((b.macs.getD (((l.getD k (0, 0)).1).toNat) mac0).scale).toNat) ((cutR (((c_3 b l e_4 k).getD (((b.macs.getD (((l.getD k (0, 0)).1).toNat) mac0).scale).toNat) (0, 0)).1, ((c_3 b l e_4 k).getD (((b.macs.getD (((l.getD k (0, 0)).1).toNat) mac0).scale).toNat) (0, 0)).2) (((l.getD k (0, 0)).2) - ((d_9 (b.macs.getD (((l.getD k (0, 0)).1).toNat) mac0)).2), ((l.getD k (0, 0)).2) - ((d_9 (b.macs.getD (((l.getD k (0, 0)).1).toNat) mac0)).1))).1, (cutR (((c_3 b l e_4 k).getD (((b.macs.getD (((l.getD k (0, 0)).1).toNat) mac0).scale).toNat) (0, 0)).1, ((c_3 b l e_4 k).getD (((b.macs.getD (((l.getD k (0, 0)).1).toNat) mac0).scale).toNat) (0, 0)).2) (((l.getD k (0, 0)).2) - ((d_9 (b.macs.getD (((l.getD k (0, 0)).1).toNat) mac0)).2), ((l.getD k (0, 0)).2) - ((d_9 (b.macs.getD (((l.getD k (0, 0)).1).toNat) mac0)).1))).2))).length = 8 from by simp only [a_7, List.length_set]; omega)) (show (pairs ((c_3 b l e_4 k).set (((b.macs.getD (((l.getD k (0, 0)).1).toNat) mac0).scale).toNat) ((cutR (((c_3 b l e_4 k).getD (((b.macs.getD (((l.getD k (0, 0)).1).toNat) mac0).scale).toNat) (0, 0)).1, ((c_3 b l e_4 k).getD (((b.macs.getD (((l.getD k (0, 0)).1).toNat) mac0).scale).toNat) (0, 0)).2) (((l.getD k (0, 0)).2) - ((d_9 (b.macs.getD (((l.getD k (0, 0)).1).toNat) mac0)).2), ((l.getD k (0, 0)).2) - ((d_9 (b.macs.getD (((l.getD k (0, 0)).1).toNat) mac0)).1))).1, (cutR (((c_3 b l e_4 k).getD (((b.macs.getD (((l.getD k (0, 0)).1).toNat) mac0).scale).toNat) (0, 0)).1, ((c_3 b l e_4 k).getD (((b.macs.getD (((l.getD k (0, 0)).1).toNat) mac0).scale).toNat) (0, 0)).2) (((l.getD k (0, 0)).2) - ((d_9 (b.macs.getD (((l.getD k (0, 0)).1).toNat) mac0)).2), ((l.getD k (0, 0)).2) - ((d_9 (b.macs.getD (((l.getD k (0, 0)).1).toNat) mac0)).1))).2))).length = 8 from by simp only [a_7, List.length_set]; omega)) fun B0 R => ?_; clear n BC
   refine s7 R (b_6 M rfl l_2 R.e R.e (i := 3) rfl (vs := (pairs ((c_3 b l e_4 k).set (((b.macs.getD (((l.getD k (0, 0)).1).toNat) mac0).scale).toNat) ((cutR (((c_3 b l e_4 k).getD (((b.macs.getD (((l.getD k (0, 0)).1).toNat) mac0).scale).toNat) (0, 0)).1, ((c_3 b l e_4 k).getD (((b.macs.getD (((l.getD k (0, 0)).1).toNat) mac0).scale).toNat) (0, 0)).2) (((l.getD k (0, 0)).2) - ((d_9 (b.macs.getD (((l.getD k (0, 0)).1).toNat) mac0)).2), ((l.getD k (0, 0)).2) - ((d_9 (b.macs.getD (((l.getD k (0, 0)).1).toNat) mac0)).1))).1, (cutR (((c_3 b l e_4 k).getD (((b.macs.getD (((l.getD k (0, 0)).1).toNat) mac0).scale).toNat) (0, 0)).1, ((c_3 b l e_4 k).getD (((b.macs.getD (((l.getD k (0, 0)).1).toNat) mac0).scale).toNat) (0, 0)).2) (((l.getD k (0, 0)).2) - ((d_9 (b.macs.getD (((l.getD k (0, 0)).1).toNat) mac0)).2), ((l.getD k (0, 0)).2) - ((d_9 (b.macs.getD (((l.getD k (0, 0)).1).toNat) mac0)).1))).2)))) rfl (show (pairs ((c_3 b l e_4 k).set (((b.macs.getD (((l.getD k (0, 0)).1).toNat) mac0).scale).toNat) ((cutR (((c_3 b l e_4 k).getD (((b.macs.getD (((l.getD k (0, 0)).1).toNat) mac0).scale).toNat) (0, 0)).1, ((c_3 b l e_4 k).getD (((b.macs.getD (((l.getD k (0, 0)).1).toNat) mac0).scale).toNat) (0, 0)).2) (((l.getD k (0, 0)).2) - ((d_9 (b.macs.getD (((l.getD k (0, 0)).1).toNat) mac0)).2), ((l.getD k (0, 0)).2) - ((d_9 (b.macs.getD (((l.getD k (0, 0)).1).toNat) mac0)).1))).1, (cutR (((c_3 b l e_4 k).getD (((b.macs.getD (((l.getD k (0, 0)).1).toNat) mac0).scale).toNat) (0, 0)).1, ((c_3 b l e_4 k).getD (((b.macs.getD (((l.getD k (0, 0)).1).toNat) mac0).scale).toNat) (0, 0)).2) (((l.getD k (0, 0)).2) - ((d_9 (b.macs.getD (((l.getD k (0, 0)).1).toNat) mac0)).2), ((l.getD k (0, 0)).2) - ((d_9 (b.macs.getD (((l.getD k (0, 0)).1).toNat) mac0)).1))).2))).length = 8 from by simp only [a_7, List.length_set]; omega) (m_7 _) (by simp only [a_7, List.length_set, List.length_cons, List.length_nil]; omega)) ?_
   intro _ Cy Az Am; have A0 := Az.o_5 (i := 3) rfl (cs' := (pairs ((c_3 b l e_4 k).set (((b.macs.getD (((l.getD k (0, 0)).1).toNat) mac0).scale).toNat) ((cutR (((c_3 b l e_4 k).getD (((b.macs.getD (((l.getD k (0, 0)).1).toNat) mac0).scale).toNat) (0, 0)).1, ((c_3 b l e_4 k).getD (((b.macs.getD (((l.getD k (0, 0)).1).toNat) mac0).scale).toNat) (0, 0)).2) (((l.getD k (0, 0)).2) - ((d_9 (b.macs.getD (((l.getD k (0, 0)).1).toNat) mac0)).2), ((l.getD k (0, 0)).2) - ((d_9 (b.macs.getD (((l.getD k (0, 0)).1).toNat) mac0)).1))).1, (cutR (((c_3 b l e_4 k).getD (((b.macs.getD (((l.getD k (0, 0)).1).toNat) mac0).scale).toNat) (0, 0)).1, ((c_3 b l e_4 k).getD (((b.macs.getD (((l.getD k (0, 0)).1).toNat) mac0).scale).toNat) (0, 0)).2) (((l.getD k (0, 0)).2) - ((d_9 (b.macs.getD (((l.getD k (0, 0)).1).toNat) mac0)).2), ((l.getD k (0, 0)).2) - ((d_9 (b.macs.getD (((l.getD k (0, 0)).1).toNat) mac0)).1))).2)))) (k_5 _ _ (by first | (simp only [a_7, List.length_set, List.length_cons, List.length_nil]; done) | (simp only [a_7, List.length_set, List.length_cons, List.length_nil]; omega))); clear Az R M
   refine s1 Am (a_0 rfl (evc _ _)) fun Co An => ?_; clear Am B0
   refine n1 (c_2 (c_4 (a_6 (a_6 (c_4 (a_6 ?_))))))
   refine a_8 An (.inl rfl) (d_7 An rfl (.cellA rfl l_2 (A0.bk 3 rfl) (l := (pairs ((c_3 b l e_4 k).set (((b.macs.getD (((l.getD k (0, 0)).1).toNat) mac0).scale).toNat) ((cutR (((c_3 b l e_4 k).getD (((b.macs.getD (((l.getD k (0, 0)).1).toNat) mac0).scale).toNat) (0, 0)).1, ((c_3 b l e_4 k).getD (((b.macs.getD (((l.getD k (0, 0)).1).toNat) mac0).scale).toNat) (0, 0)).2) (((l.getD k (0, 0)).2) - ((d_9 (b.macs.getD (((l.getD k (0, 0)).1).toNat) mac0)).2), ((l.getD k (0, 0)).2) - ((d_9 (b.macs.getD (((l.getD k (0, 0)).1).toNat) mac0)).1))).1, (cutR (((c_3 b l e_4 k).getD (((b.macs.getD (((l.getD k (0, 0)).1).toNat) mac0).scale).toNat) (0, 0)).1, ((c_3 b l e_4 k).getD (((b.macs.getD (((l.getD k (0, 0)).1).toNat) mac0).scale).toNat) (0, 0)).2) (((l.getD k (0, 0)).2) - ((d_9 (b.macs.getD (((l.getD k (0, 0)).1).toNat) mac0)).2), ((l.getD k (0, 0)).2) - ((d_9 (b.macs.getD (((l.getD k (0, 0)).1).toNat) mac0)).1))).2)))) (f_3 _ _ (show (pairs ((c_3 b l e_4 k).set (((b.macs.getD (((l.getD k (0, 0)).1).toNat) mac0).scale).toNat) ((cutR (((c_3 b l e_4 k).getD (((b.macs.getD (((l.getD k (0, 0)).1).toNat) mac0).scale).toNat) (0, 0)).1, ((c_3 b l e_4 k).getD (((b.macs.getD (((l.getD k (0, 0)).1).toNat) mac0).scale).toNat) (0, 0)).2) (((l.getD k (0, 0)).2) - ((d_9 (b.macs.getD (((l.getD k (0, 0)).1).toNat) mac0)).2), ((l.getD k (0, 0)).2) - ((d_9 (b.macs.getD (((l.getD k (0, 0)).1).toNat) mac0)).1))).1, (cutR (((c_3 b l e_4 k).getD (((b.macs.getD (((l.getD k (0, 0)).1).toNat) mac0).scale).toNat) (0, 0)).1, ((c_3 b l e_4 k).getD (((b.macs.getD (((l.getD k (0, 0)).1).toNat) mac0).scale).toNat) (0, 0)).2) (((l.getD k (0, 0)).2) - ((d_9 (b.macs.getD (((l.getD k (0, 0)).1).toNat) mac0)).2), ((l.getD k (0, 0)).2) - ((d_9 (b.macs.getD (((l.getD k (0, 0)).1).toNat) mac0)).1))).2))).length = 8 from by simp only [a_7, List.length_set]; omega)) (show (pairs ((c_3 b l e_4 k).set (((b.macs.getD (((l.getD k (0, 0)).1).toNat) mac0).scale).toNat) ((cutR (((c_3 b l e_4 k).getD (((b.macs.getD (((l.getD k (0, 0)).1).toNat) mac0).scale).toNat) (0, 0)).1, ((c_3 b l e_4 k).getD (((b.macs.getD (((l.getD k (0, 0)).1).toNat) mac0).scale).toNat) (0, 0)).2) (((l.getD k (0, 0)).2) - ((d_9 (b.macs.getD (((l.getD k (0, 0)).1).toNat) mac0)).2), ((l.getD k (0, 0)).2) - ((d_9 (b.macs.getD (((l.getD k (0, 0)).1).toNat) mac0)).1))).1, (cutR (((c_3 b l e_4 k).getD (((b.macs.getD (((l.getD k (0, 0)).1).toNat) mac0).scale).toNat) (0, 0)).1, ((c_3 b l e_4 k).getD (((b.macs.getD (((l.getD k (0, 0)).1).toNat) mac0).scale).toNat) (0, 0)).2) (((l.getD k (0, 0)).2) - ((d_9 (b.macs.getD (((l.getD k (0, 0)).1).toNat) mac0)).2), ((l.getD k (0, 0)).2) - ((d_9 (b.macs.getD (((l.getD k (0, 0)).1).toNat) mac0)).1))).2))).length = 8 from by simp only [a_7, List.length_set]; omega)) (.tmp rfl)) ?_
   have hz := start_empty hb hl (k := k) (by omega) (by assumption)
   exact ⟨_, hsl1, by rw [hz]; rfl, fun t h_ => by rw [hz] at h_; (cases h_), A0.ext⟩
  skip
  rw [decide_eq_false BA] at E
  refine b_8 E rfl (d_4 (h_0 (b_1 ?_)))
  have o := E.as [(22, (iv (k : Int))), (21, (iv (l.length : Int))), (20, xl), (4, (bptr C 0)), (0, (bptr bx 0))] rfl; clear E
  refine a_5 (s1 o (g_1 rfl o.e (evc _ _) (by omega) (by omega)) fun B1 q => ?_); clear o BC
  refine s1 q (a_1 rfl q.e) fun Cp Bi => ?_; clear q B1
  refine e_8 ?_
  have Bk := M.gkp (gpc 3 (gpc 4 (gpc 5 (gpc 6 (gpc 7 (gpc 8 gpn)))))); clear M
  exact b_1 ⟨k + 1, ⟨Bi.as _ rfl, Bk, by omega, (start_next hb hl (by omega) hfu (by assumption))⟩, by omega⟩
 skip
 rw [decide_eq_false Bf] at I
 refine b_8 I rfl (h_6 (b_5 (b_5 (f_9 (b_1 (c_6 ?_))))))
 have Ao := I.as [(4, (bptr C 0)), (0, (bptr bx 0))] rfl; clear I
 refine h_7 (G := Nat) (fun (g : Nat) a_ w_ => ∃ x_ : List (Int × Int), Fr 79 [] [(4, (bptr C 0)), (0, (bptr bx 0))] a_ ∧ Sep NoB w w_ [(blk C 120 (pairs x_)), (rob bx 146 [(iv b.scales), vt, vm, (Value.map (some bm))]), (mapX false bm es ck es.size 106 5 (bN b.tabs b.tabs.length) (bC lr lb b.tabs b.tabs.length)), (d_5 false vt lr lb b.tabs), (f_0 false vm lk b.macs), (sl xl 2 l.length (pairs l))] ∧ (Go.Hard.Loop b.scales.toNat b.tabs (x_5 b l) x_) ∧ (w_4 b l = s_9 b.scales.toNat (f_8 b.scales.toNat b.tabs) g x_) ∧ (width x_ < g)) (fun g => g) 400001 ⟨(c_3 b l e_4 k), Ao.as _ rfl, N, (by have hkl : k = l.length := (by omega); subst hkl; exact loop_start hb hl hfu), (by have hkl : k = l.length := (by omega); subst hkl; exact spans_go hfu), (by have hkl : k = l.length := (by omega); subst hkl; exact Nat.lt_succ_of_le (start_width hb hl))⟩ ?_
 clear Ao N Bn
 rintro g B2 Cz ⟨x_, r, K, hlp, hsp, hwd⟩
 have DA : x_.length = 4 := hlp.len; have Bu : (g_5 (f_8 b.scales.toNat b.tabs) x_).1.length = 4 := (hlp.pass hb.four hb.orderV).1
 refine c_6 (m2 (s1 r (a_1 rfl r.e) fun B3 s => ?_)); clear r B2
 refine s1 s (c_5 rfl l_2 s.e (K.bk 0 rfl) (l := (pairs x_)) (f_3 _ _ (show (pairs x_).length = 8 from by simp only [a_7, List.length_set]; omega)) (show (pairs x_).length = 8 from by simp only [a_7, List.length_set]; omega)) fun B4 S => ?_; clear s B3
 refine s2 S (b_2 rfl en_88 (ev2 S.e S.e) (cutb_ok b vt vm lr lb lk _ (b_7 (K.ok 3 _ rfl)) (c_9 (K.ok 4 _ rfl)) hth bx bm _ _ hMO (K.rk 1 rfl) (K.ok 2 _ rfl) hb x_ (by omega))) ?_
 rintro B5 _ C0 ⟨rfl, Aw⟩ u; have A1 := K.step Aw; clear Aw S K B4
 refine s1 u (a_1 rfl u.e) fun B6 y => ?_; clear u B5
 refine s1 y (e_7 rfl y.e rfl) fun B7 z => ?_; clear y B6
 refine s1 z (e_7 rfl z.e rfl) fun B8 Ap => ?_; clear z B7
 refine s2 Ap (d_8 A1 rfl ze_120 (cs := [(iv 0), (iv 0), (iv 0), (iv 0), (iv 0), (iv 0), (iv 0), (iv 0)]) rfl) ?_
 rintro B9 _ C1 ⟨d, rfl, A2⟩ T; clear Ap A1 B8
 refine s7 T (b_6 A2 rfl l_2 T.e T.e (i := 0) rfl (vs := (pairs ((g_5 (f_8 b.scales.toNat b.tabs) x_).1))) rfl (show (pairs ((g_5 (f_8 b.scales.toNat b.tabs) x_).1)).length = 8 from by simp only [a_7, List.length_set]; omega) (m_7 _) (by decide)) ?_
 intro _ C2 A3 AA; have A := A3.o_5 (i := 0) rfl (cs' := (pairs ((g_5 (f_8 b.scales.toNat b.tabs) x_).1))) (k_5 _ _ (Eq.symm (show (pairs ((g_5 (f_8 b.scales.toNat b.tabs) x_).1)).length = 8 from by simp only [a_7, List.length_set]; omega))); clear A3 T A2
 refine s1 AA (a_0 rfl AA.e) fun CA Aq => ?_; clear AA B9
 refine n2 (b_9 ?_)
 have AB := Aq.as [(12, (Value.bool (aa_1 b.scales.toNat (g_5 (f_8 b.scales.toNat b.tabs) x_).1))), (11, (bptr d 0)), (4, (bptr C 0)), (0, (bptr bx 0))] rfl; clear Aq
 refine a_5 (s1 AB (a_1 rfl AB.e) fun CB AC => ?_); clear AB CA
 refine s1 AC (f_7 rfl AC.e) fun CC AD => ?_; clear AC CB
 refine s1 AD (a_1 rfl AD.e) fun BD J => ?_; clear AD CC
 rcases Bool.eq_false_or_eq_true ((aa_1 b.scales.toNat (g_5 (f_8 b.scales.toNat b.tabs) x_).1)) with AW | AW
 ·skip
  rw [AW] at J
  refine s5 J (c_5 rfl l_2 J.e (A.bk 0 rfl) (l := (pairs ((g_5 (f_8 b.scales.toNat b.tabs) x_).1))) (f_3 _ _ (show (pairs ((g_5 (f_8 b.scales.toNat b.tabs) x_).1)).length = 8 from by simp only [a_7, List.length_set]; omega)) (show (pairs ((g_5 (f_8 b.scales.toNat b.tabs) x_).1)).length = 8 from by simp only [a_7, List.length_set]; omega)) fun CD AE => ?_; clear J BD
  refine s5 AE (c_5 rfl l_2 AE.e (A.bk 1 rfl) (l := (pairs x_)) (f_3 _ _ (show (pairs x_).length = 8 from by simp only [a_7, List.length_set]; omega)) (show (pairs x_).length = 8 from by simp only [a_7, List.length_set]; omega)) fun CE U => ?_; clear AE CD
  refine s5 U (op_eqlAP ar_120 tw_30 f_5 gt_120 rfl U.e U.e (by omega) (by omega)) fun CF V => ?_; clear U CE
  refine s1 V (d_1 rfl V.e V.e) fun BE F => ?_; clear V CF
  refine n1 ?_
  by_cases BB : (g_5 (f_8 b.scales.toNat b.tabs) x_).1 = x_
  ·skip
   rw [decide_eq_true BB] at F
   refine c_0 F rfl (b_9 ?_)
   have AF := F.as [(12, (Value.bool true)), (11, (bptr d 0)), (4, (bptr C 0))] rfl; clear F
   refine a_5 ?_
   refine s1 AF (c_5 rfl l_2 AF.e (A.bk 0 rfl) (l := (pairs ((g_5 (f_8 b.scales.toNat b.tabs) x_).1))) (f_3 _ _ (show (pairs ((g_5 (f_8 b.scales.toNat b.tabs) x_).1)).length = 8 from by simp only [a_7, List.length_set]; omega)) (show (pairs ((g_5 (f_8 b.scales.toNat b.tabs) x_).1)).length = 8 from by simp only [a_7, List.length_set]; omega)) fun CG AG => ?_; clear AF BE
   refine s1 AG (a_1 rfl AG.e) fun CH W => ?_; clear AG CG
   refine s7 W (b_6 A rfl l_2 W.e W.e (i := 1) rfl (vs := (pairs ((g_5 (f_8 b.scales.toNat b.tabs) x_).1))) rfl (show (pairs ((g_5 (f_8 b.scales.toNat b.tabs) x_).1)).length = 8 from by simp only [a_7, List.length_set]; omega) (m_7 _) (by simp only [a_7, List.length_set, List.length_cons, List.length_nil]; omega)) ?_
   intro _ C3 A4 AH; have A5 := A4.o_5 (i := 1) rfl (cs' := (pairs ((g_5 (f_8 b.scales.toNat b.tabs) x_).1))) (k_5 _ _ (by first | (simp only [a_7, List.length_set, List.length_cons, List.length_nil]; done) | (simp only [a_7, List.length_set, List.length_cons, List.length_nil]; omega))); clear A4 W A
   refine s1 AH (a_0 rfl AH.e) fun Cq Ar => ?_; clear AH CH
   refine n1 (c_2 (a_6 (c_4 (a_6 (c_4 ?_)))))
   refine a_8 Ar (.inl rfl) (d_7 Ar rfl (.cellA rfl l_2 (A5.bk 1 rfl) (l := (pairs ((g_5 (f_8 b.scales.toNat b.tabs) x_).1))) (f_3 _ _ (show (pairs ((g_5 (f_8 b.scales.toNat b.tabs) x_).1)).length = 8 from by simp only [a_7, List.length_set]; omega)) (show (pairs ((g_5 (f_8 b.scales.toNat b.tabs) x_).1)).length = 8 from by simp only [a_7, List.length_set]; omega)) (.tmp rfl)) ?_
   have hz := hsp.trans (k_done (by omega) (by assumption) (by assumption))
   exact ⟨_, Bu, by rw [hz]; rfl, fun t h_ => by rw [hz] at h_; rw [← Option.some.inj h_]; congr 1, A5.ext⟩
  skip
  rw [decide_eq_false BB] at F
  refine b_8 F rfl (d_4 (b_1 ?_))
  have AI := F.as [(11, (bptr d 0)), (4, (bptr C 0)), (0, (bptr bx 0))] rfl; clear F
  refine a_5 ?_
  refine s1 AI (c_5 rfl l_2 AI.e (A.bk 0 rfl) (l := (pairs ((g_5 (f_8 b.scales.toNat b.tabs) x_).1))) (f_3 _ _ (show (pairs ((g_5 (f_8 b.scales.toNat b.tabs) x_).1)).length = 8 from by simp only [a_7, List.length_set]; omega)) (show (pairs ((g_5 (f_8 b.scales.toNat b.tabs) x_).1)).length = 8 from by simp only [a_7, List.length_set]; omega)) fun Cr X => ?_; clear AI BE
  refine s7 X (b_6 A rfl l_2 X.e X.e (i := 1) rfl (vs := (pairs ((g_5 (f_8 b.scales.toNat b.tabs) x_).1))) rfl (show (pairs ((g_5 (f_8 b.scales.toNat b.tabs) x_).1)).length = 8 from by simp only [a_7, List.length_set]; omega) (m_7 _) (by simp only [a_7, List.length_set, List.length_cons, List.length_nil]; omega)) ?_
  intro _ C4 A6 Bj; have A7 := A6.o_5 (i := 1) rfl (cs' := (pairs ((g_5 (f_8 b.scales.toNat b.tabs) x_).1))) (k_5 _ _ (by first | (simp only [a_7, List.length_set, List.length_cons, List.length_nil]; done) | (simp only [a_7, List.length_set, List.length_cons, List.length_nil]; omega))); clear A6 X A
  refine e_8 (h_0 ?_)
  have Bl := A7.gkp (gpc 1 (gpc 2 (gpc 3 (gpc 4 (gpc 5 (gpc 6 gpn)))))); clear A7
  exact b_1 ⟨(g - 1), ⟨(g_5 (f_8 b.scales.toNat b.tabs) x_).1, Bj.as _ rfl, Bl, (hlp.next hb.four hb.orderV (full_iff.1 (by assumption)) (by assumption)).1, (hsp.trans (k_next (by omega) (by assumption) (by assumption))), (by have := (hlp.next hb.four hb.orderV (full_iff.1 (by assumption)) (by assumption)).2; omega)⟩, by omega⟩
 skip
 rw [AW] at J
 refine s3 J fun CI As => ?_; clear J BD
 refine s3 As fun CJ At => ?_; clear As CI
 refine s3 At fun CK AJ => ?_; clear At CJ
 refine s1 AJ (b_3 rfl AJ.e (evc _ _)) fun CL AK => ?_; clear AJ CK
 refine n1 (c_0 AK rfl (b_9 ?_))
 have AL := AK.as [(12, (Value.bool false)), (11, (bptr d 0)), (4, (bptr C 0))] rfl; clear AK
 refine a_5 ?_
 refine s1 AL (c_5 rfl l_2 AL.e (A.bk 0 rfl) (l := (pairs ((g_5 (f_8 b.scales.toNat b.tabs) x_).1))) (f_3 _ _ (show (pairs ((g_5 (f_8 b.scales.toNat b.tabs) x_).1)).length = 8 from by simp only [a_7, List.length_set]; omega)) (show (pairs ((g_5 (f_8 b.scales.toNat b.tabs) x_).1)).length = 8 from by simp only [a_7, List.length_set]; omega)) fun CM AM => ?_; clear AL CL
 refine s1 AM (a_1 rfl AM.e) fun CN Y => ?_; clear AM CM
 refine s7 Y (b_6 A rfl l_2 Y.e Y.e (i := 1) rfl (vs := (pairs ((g_5 (f_8 b.scales.toNat b.tabs) x_).1))) rfl (show (pairs ((g_5 (f_8 b.scales.toNat b.tabs) x_).1)).length = 8 from by simp only [a_7, List.length_set]; omega) (m_7 _) (by simp only [a_7, List.length_set, List.length_cons, List.length_nil]; omega)) ?_
 intro _ C5 A8 AN; have A9 := A8.o_5 (i := 1) rfl (cs' := (pairs ((g_5 (f_8 b.scales.toNat b.tabs) x_).1))) (k_5 _ _ (by first | (simp only [a_7, List.length_set, List.length_cons, List.length_nil]; done) | (simp only [a_7, List.length_set, List.length_cons, List.length_nil]; omega))); clear A8 Y A
 refine s1 AN (a_0 rfl AN.e) fun Cs Au => ?_; clear AN CN
 refine n1 (c_2 (a_6 (c_4 (a_6 (c_4 ?_)))))
 refine a_8 Au (.inl rfl) (d_7 Au rfl (.cellA rfl l_2 (A9.bk 1 rfl) (l := (pairs ((g_5 (f_8 b.scales.toNat b.tabs) x_).1))) (f_3 _ _ (show (pairs ((g_5 (f_8 b.scales.toNat b.tabs) x_).1)).length = 8 from by simp only [a_7, List.length_set]; omega)) (show (pairs ((g_5 (f_8 b.scales.toNat b.tabs) x_).1)).length = 8 from by simp only [a_7, List.length_set]; omega)) (.tmp rfl)) ?_
 have hz := hsp.trans (k_fail (by assumption))
 exact ⟨_, Bu, by rw [hz]; rfl, fun t h_ => by rw [hz] at h_; (cases h_), A9.ext⟩
end Go.Proofs.Ytohgladndklciaa

namespace Go.Proofs.Ytohgladndklciaa
open Go.RowKit Go.Shelf Go.Eng Go.Hard
theorem bs_30_0_  : Instr.fill (fun i => some (i * 2, 2)) ((Array.range (0 * 2)).map ((Value.agg #[(iv 0), (iv 0)]).cells[· % (Value.agg #[(iv 0), (iv 0)]).cells.size]!)) [] = some (([] : List Value).toArray) := by kernel_rfl
theorem el_30 : elK Try.prog 30 = some ((Value.agg #[(iv 0), (iv 0)]), 2, 16) := by kernel_rfl
theorem clone_rng (xs : List (Int × Int)) (v : Value) (w : World) (hv : SlAt w v 2 xs.length (pairs xs)) (hlen : xs.length ≤ 1000000) :
  Calls Try.prog 58 #[v] w (Ret fun v w' => Ext NoB w w' ∧ w'.ownsRow w.heap.size 30 2 v xs.length (pairs xs)) := by
 refine b_0 Try.func58 rfl fun P F => ?_
 replace F : Fr 8 [] [(0, v)] P := F
 have G : Sep NoB w w [(sl v 2 xs.length (pairs xs))] := f_1 ⟨rfl, hv, trivial⟩
 refine m2 (s1 F (a_0 rfl (evc _ _)) fun V I => ?_); clear F P
 refine n2 (m2 (s1 I (a_1 rfl I.e) fun W K => ?_)); clear I V
 refine s2 K (op_eqlNil un_50 rfl K.e (evc _ _) (G.sk 0 rfl) (by decide)) ?_
 rintro T _ _ ⟨bn7, rfl, rfl, U⟩ A; clear K W
 refine n1 ?_
 rcases Bool.eq_false_or_eq_true (bn7) with O | O
 ·skip
  rw [O] at A
  refine c_0 A rfl (m2 (s1 A (a_0 rfl (evc _ _)) fun X H => ?_)); clear A T
  refine n1 (c_2 (a_6 (a_8 H (.inl rfl) (a_2 H rfl (.tmp rfl)) ?_)))
  exact ⟨G.ext, by have hz := (U (by assumption)); rw [hz.1, hz.2]; exact ⟨by simp, .inl ⟨rfl, rfl⟩⟩⟩
 skip
 rw [O] at A
 refine b_8 A rfl (d_4 (b_1 (m2 (s2 A (f_4 G rfl pv0 un_50 f_5 w_9 (by decide) (cs := []) bs_30_0_) ?_))))
 rintro Q _ b ⟨Z, rfl, L⟩ C; clear A G T
 refine s1 C (a_1 rfl C.e) fun R B => ?_; clear C Q
 have E := L.t_8 (i := 0) (sz := 2) (n := 0) rfl rfl (by decide); clear L
 refine s2 B (m_6 E rfl un_50 el_30 B.e B.e (i := 0) rfl (E.sk 1 rfl) (m_7 _) (by simp [maxLen]; omega) (by omega)) ?_
 intro S a c M D
 have N := M.h_2 (i := 0) rfl (n' := xs.length) (xs' := (pairs xs)) (by simp) (by simp); clear M B E R
 refine s1 D (a_0 rfl D.e) fun Y J => ?_; clear D S
 exact n1 (c_2 (a_8 J (.inl rfl) (a_2 J rfl (.tmp rfl)) (⟨N.ext, N.row_new (i := 0) rfl⟩)))
end Go.Proofs.Ytohgladndklciaa

namespace Go.Proofs.Ytohgladndklciaa
open Go.RowKit Go.Shelf Go.Eng Go.Hard
theorem en_56 : ∀ args w, (callFunc 56 args).run Try.prog w = .ok (.enter 56 args) w := enters_of Try.func56 (by kernel_rfl) rfl
theorem en_57 : ∀ args w, (callFunc 57 args).run Try.prog w = .ok (.enter 57 args) w := enters_of Try.func57 (by kernel_rfl) rfl
theorem en_58 : ∀ args w, (callFunc 58 args).run Try.prog w = .ok (.enter 58 args) w := enters_of Try.func58 (by kernel_rfl) rfl
theorem Spans_ok (b : h_5) (vt vm : Value) (lr lb lk : Nat → Value) (w : World) (hT : n_1 w vt lr lb b.tabs) (hM : o_4 w vm lk b.macs) (hth : q_8 b) (l : List (Int × Int)) (xl : Value) (hxl : SlAt w xl 2 l.length (pairs l)) (hlb : l.length ≤ 1000000) (t : g_6) (hr : z_2 b l = 0) (hs : w_4 b l = some t) :
  Calls Try.prog 25 #[(Value.agg #[(iv b.scales), vt, vm]), xl] w (Ret fun v w' => ∃ u, v = .tuple #[u, .int .i64 0] ∧ Sep NoB w w' [row u 30 2 t.length (pairs t)]) := by
 refine b_0 Try.func25 rfl fun a0 J => ?_
 replace J : Fr 31 [] [(0, (Value.agg #[(iv b.scales), vt, vm])), (1, xl)] a0 := J
 have hc : f_6 b = 0 := read_check hr; have hbl := read_ok hr; have hb := hbl.1; have hl := hbl.2; have hll := hl.len; have hsc := hb.scales
 have AA : Sep NoB w w [(d_5 false vt lr lb b.tabs), (f_0 false vm lk b.macs), (sl xl 2 l.length (pairs l))] := f_1 ⟨rfl, hT, rfl, hM, rfl, hxl, trivial⟩
 refine m2 (s2 J (f_2 AA rfl J.e (cs := [(iv b.scales), vt, vm]) rfl) ?_)
 rintro a1 _ w3 ⟨b4, rfl, B⟩ y; clear J AA a0
 refine s1 y (a_0 rfl (evc _ _)) fun a6 z => ?_; clear y a1
 refine s1 z (a_0 rfl (evc _ _)) fun a8 m => ?_; clear z a6
 refine n4 (s1 m (c_5 rfl x_6 (m.ev rfl) (B.bk 0 rfl) (l := [(iv b.scales), vt, vm]) rfl rfl) fun AE L => ?_); clear m a8
 refine s1 L (a_1 rfl L.e) fun AF C => ?_; clear L AE
 refine s2 C (b_2 rfl en_56 (ev2 C.e C.e) (read_yes b vt vm lr lb lk _ (b_7 (B.ok 1 _ rfl)) (c_9 (B.ok 2 _ rfl)) hth l _ (B.sk 3 rfl) (by omega) hc hr)) ?_
 rintro AG _ Al ⟨bx19, bm20, es21, ck22, rfl, hMO23, x⟩ M; have A := B.y_3 x rfl; clear x C B AF
 refine s1 M (a_1 rfl M.e) fun AH N => ?_; clear M AG
 refine s1 N (e_7 rfl N.e rfl) fun AI O => ?_; clear N AH
 refine s1 O (e_7 rfl O.e rfl) fun AJ P => ?_; clear O AI
 refine s1 P (a_0 rfl P.e) fun AK Q => ?_; clear P AJ
 refine s1 Q (a_0 rfl Q.e) fun AL g => ?_; clear Q AK
 refine n2 (b_9 ?_)
 have R := g.as [(7, (iv 0)), (6, (bptr bx19 0)), (2, (bptr b4 0)), (1, xl)] rfl; clear g
 refine a_5 (s1 R (a_1 rfl R.e) fun AM S => ?_); clear R AL
 refine s1 S (y_1 rfl S.e (evc _ _)) fun AN D => ?_; clear S AM
 refine n1 (b_8 D rfl (d_4 (b_1 (m2 (s1 D (a_1 rfl D.e) fun AO T => ?_))))); clear D AN
 refine s1 T (a_1 rfl T.e) fun AP E => ?_; clear T AO
 refine s2 E (b_2 rfl en_57 (ev2 E.e E.e) (spansb_ok b vt vm lr lb lk _ (b_7 (A.ok 3 _ rfl)) (c_9 (A.ok 4 _ rfl)) hth bx19 bm20 _ _ (by assumption) (A.bk 0 rfl) (mapX_ro (A.ok 1 _ rfl)) hb l _ (A.sk 5 rfl) hl)) ?_
 rintro AQ _ Am ⟨K, Ai, rfl, htk48, o⟩ U; have q := A.step o; clear o E A AP
 refine s1 U (a_1 rfl U.e) fun AR V => ?_; clear U AQ
 refine s1 V (e_7 rfl V.e rfl) fun AS W => ?_; clear V AR
 refine s1 W (e_7 rfl W.e rfl) fun AT X => ?_; clear W AS
 have AC : ((w_4 b l).isSome) = true := (by rw [hs]; rfl)
 rw [AC] at X
 refine s2 X (d_8 q rfl ze_120 (cs := [(iv 0), (iv 0), (iv 0), (iv 0), (iv 0), (iv 0), (iv 0), (iv 0)]) rfl) ?_
 rintro AU _ An ⟨Ae, rfl, r⟩ F; clear X q AT
 refine s7 F (b_6 r rfl l_2 F.e F.e (i := 0) rfl (vs := (pairs K)) rfl (show (pairs K).length = 8 from by simp only [a_7, List.length_set]; omega) (m_7 _) (by decide)) ?_
 intro _ Ao s Y; have I := s.o_5 (i := 0) rfl (cs' := (pairs K)) (k_5 _ _ (Eq.symm (show (pairs K).length = 8 from by simp only [a_7, List.length_set]; omega))); clear s F r
 refine s1 Y (a_0 rfl Y.e) fun AV j => ?_; clear Y AU
 refine n2 (b_9 ?_)
 have Z := j.as [(9, (Value.bool true)), (8, (bptr Ae 0)), (2, (bptr b4 0))] rfl; clear j
 refine a_5 (s1 Z (a_1 rfl Z.e) fun AW a => ?_); clear Z AV
 refine s1 a (f_7 rfl a.e) fun AX G => ?_; clear a AW
 refine n1 (b_8 G rfl (d_4 (b_1 (m2 (s1 G (a_3 rfl fd_37_0 G.e) fun AY c => ?_))))); clear G AX
 refine s1 c (a_4 rfl ty_3 c.e (I.bk 3 rfl) rfl) fun AZ H => ?_; clear c AY
 refine s1 H (op_sliceArr rfl w_5 f_5 H.e (h := b.scales.toNat) (H.e.trans (k_8 (by omega))) (by omega)) fun Aa d => ?_; clear H AZ
 refine s2 d (b_2 rfl en_58 (ev1 d.e) (clone_rng (K.take b.scales.toNat) _ _ ((SlAt.of_blkCut (I.bk 0 rfl) (by rw [a_7]; omega) (by omega) (by decide)).say (by rw [List.length_take]; omega) (pairs_takeH _ _)) (by rw [List.length_take]; omega))) ?_
 rintro Ab Ak Ap ⟨p, hO84⟩ f; have AB := I.new_row p hO84; clear p hO84 d I Aa
 refine s1 f (a_0 rfl f.e) fun Ac k => ?_; clear f Ab
 refine s1 k (a_0 rfl (evc _ _)) fun Aj n => ?_; clear k Ac
 refine n1 (c_2 (a_8 n (.inl rfl) (d_7 n rfl (.tmp rfl) (.tmp rfl)) ?_))
 have hz := AB.keep [0] (by decide) [_] rfl rfl
 rw [htk48 _ hs] at hz
 exact ⟨_, rfl, hz⟩
end Go.Proofs.Ytohgladndklciaa

namespace Go.Hard
open Go.RowKit Go.Eng
section
variable {X : Nat → Prop} {w0 w : World} {L : List Res}
theorem p_5 (h : Sep X w0 w L) (v : Nat → Value) (sz : Nat) (k : Nat → Nat) (c : Nat → List Value) : Sep X w0 w (slsR true 0 v sz k c :: L) :=
  h.push (Ext.refl _ _) (fun i hi => absurd hi (Nat.not_lt_zero _)) (fun b hb => by obtain ⟨i, hi, _⟩ := hb; exact absurd hi (Nat.not_lt_zero _))
theorem k_3 {u : Value} {e sz m n : Nat} {xs : List Value} {v : Nat → Value} {k k' : Nat → Nat} {c c' : Nat → List Value} (h : Sep X w0 w (row u e sz m xs :: slsR true n v sz k c :: L)) (hk : k' n = m) (hc : c' n = xs) (hold : ∀ i, i < n → k' i = k i ∧ c' i = c i) :
    Sep X w0 w (slsR true (n + 1) (putV n v u) sz k' c' :: L) := by
  have h0 := h.i_1 0 rfl
  have h1 := h.ok 1 _ rfl
  refine h.join (t := slsR true (n + 1) (putV n v u) sz k' c') (fun i hi => ?_) (fun b hb => ?_) (fun _ => ⟨rfl, rfl⟩) (fun _ => trivial)
  · rcases Nat.lt_succ_iff_lt_or_eq.1 hi with hi | rfl
    · rw [v_8 _ _ hi, (hold i hi).1, (hold i hi).2]; exact h1 i hi
    · rw [r_6, hk, hc]; exact SlAt.g_9 h0
  · obtain ⟨i, hi, hb⟩ := hb
    rcases Nat.lt_succ_iff_lt_or_eq.1 hi with hi | rfl
    · rw [v_8 _ _ hi, (hold i hi).2] at hb; exact .inr ⟨i, hi, hb⟩
    · rw [r_6, hc] at hb; exact .inl (s_2 hb)
theorem sep_sls_say {i : Nat} {o : Bool} {sz n n' : Nat} {v v' : Nat → Value} {k k' : Nat → Nat} {c c' : Nat → List Value} (h : Sep X w0 w L) (hi : L[i]? = some (slsR o n v sz k c)) (hn : n = n') (he : ∀ i, i < n → v' i = v i ∧ k' i = k i ∧ c' i = c i) : Sep X w0 w (L.set i (slsR o n' v' sz k' c')) := by
  subst hn
  have h1 := h.ok i _ hi
  refine h.say hi (fun q hq => ?_) (fun b hb => ?_) (fun ho => ho)
  · rw [(he q hq).1, (he q hq).2.1, (he q hq).2.2]; exact h1 q hq
  · obtain ⟨q, hq, hb⟩ := hb
    rw [(he q hq).1, (he q hq).2.2] at hb; exact ⟨q, hq, hb⟩
theorem sep_tabs_join {vt : Value} {lr lb : Nat → Value} {ts : List TabD} (h : Sep X w0 w (row vt 106 5 ts.length (m_1 lr lb ts) :: slsR true ts.length lr 2 (j_6 ts) (j_5 ts) :: slsR true ts.length lb 1 (brkN ts) (brkC ts) :: L)) : Sep X w0 w (d_5 true vt lr lb ts :: L) := by
  have h0 := h.i_1 0 rfl
  have hp := h.pw
  have ap := List.pairwise_cons.1 hp
  -- the row and both together
  refine Sep.of_pw h.ext (fun r hr => ?_) (fun r hr ho b hb => ?_) (List.pairwise_cons.2 ⟨fun r hr => ?_, (List.pairwise_cons.1 (List.pairwise_cons.1 ap.2).2).2⟩)
  · rcases List.mem_cons.1 hr with rfl | hr
    · exact ⟨SlAt.g_9 h0, h.ok 1 _ rfl, h.ok 2 _ rfl⟩
    · exact h.mem (List.mem_cons_of_mem _ (List.mem_cons_of_mem _ (List.mem_cons_of_mem _ hr)))
  · rcases List.mem_cons.1 hr with rfl | hr
    · rcases hb with hb | hb | hb
      · exact h.mine 0 _ rfl rfl b (s_2 hb)
      · exact h.mine 1 _ rfl rfl b hb
      · exact h.mine 2 _ rfl rfl b hb
    · exact h.mineM (List.mem_cons_of_mem _ (List.mem_cons_of_mem _ (List.mem_cons_of_mem _ hr))) ho b hb
  · have a0 := ap.1 r (List.mem_cons_of_mem _ (List.mem_cons_of_mem _ hr))
    have a1 := (List.pairwise_cons.1 ap.2).1 r (List.mem_cons_of_mem _ hr)
    have a2 := (List.pairwise_cons.1 (List.pairwise_cons.1 ap.2).2).1 r hr
    refine ⟨fun _ b hb => ?_, fun ho b hb hb' => ?_⟩
    · rcases hb with hb | hb | hb
      · exact a0.1 rfl b (s_2 hb)
      · exact a1.1 rfl b hb
      · exact a2.1 rfl b hb
    · rcases hb' with hb' | hb' | hb'
      · exact a0.2 ho b hb (s_2 hb')
      · exact a1.2 ho b hb hb'
      · exact a2.2 ho b hb hb'
theorem sep_macs_join {vm : Value} {lk : Nat → Value} {ms : List MacD} (h : Sep X w0 w (row vm 103 2 ms.length (p_0 lk ms) :: slsR true ms.length lk 3 (blkN ms) (blkC ms) :: L)) : Sep X w0 w (f_0 true vm lk ms :: L) := by
  have h0 := h.i_1 0 rfl
  refine h.join (t := f_0 true vm lk ms) ⟨SlAt.g_9 h0, h.ok 1 _ rfl⟩ (fun b hb => ?_) (fun _ => ⟨rfl, rfl⟩) (fun _ => trivial)
  rcases hb with hb | hb
  · exact .inl (s_2 hb)
  · exact .inr hb
theorem sep_row_sl {i : Nat} {v : Value} {e sz n : Nat} {xs : List Value} (h : Sep X w0 w L) (hi : L[i]? = some (row v e sz n xs)) : Sep X w0 w (L.set i (sl v sz n xs)) :=
  h.say hi (SlAt.g_9 (h.i_1 i hi)) (fun _ hb => s_2 hb) (fun e => by cases e)
end
theorem t_7 {α : Type} {l : List α} {d : α} {k : Nat} (h : k < l.length) : l.take k ++ [l.getD k d] = l.take (k + 1) := by
  rw [List.take_add_one, List.getElem?_eq_getElem h, List.getD, List.getElem?_eq_getElem h]; rfl
section
variable {ts : List TabD} {ms : List MacD} {k : Nat}
theorem take_at {α : Type} {l : List α} {d : α} {k i : Nat} (hk : i < k) : (l.take k).getD i d = l.getD i d := by
  simp [List.getD, List.getElem?_take, hk]
theorem rowsN_new (h : k < ts.length) : j_6 (ts.take (k + 1)) (ts.take k).length = (ts.getD k tab0).rows.length ∧ j_5 (ts.take (k + 1)) (ts.take k).length = pairs (ts.getD k tab0).rows ∧ brkN (ts.take (k + 1)) (ts.take k).length = (ts.getD k tab0).brk.length ∧ brkC (ts.take (k + 1)) (ts.take k).length = ints (ts.getD k tab0).brk := by
  rw [List.length_take, Nat.min_eq_left (by omega)]
  unfold j_6 j_5 brkN brkC
  rw [take_at (Nat.lt_succ_self k)]
  exact ⟨rfl, rfl, rfl, rfl⟩
theorem rowsN_old (i : Nat) (hi : i < (ts.take k).length) : (j_6 (ts.take (k + 1)) i = j_6 (ts.take k) i ∧ j_5 (ts.take (k + 1)) i = j_5 (ts.take k) i) ∧ brkN (ts.take (k + 1)) i = brkN (ts.take k) i ∧ brkC (ts.take (k + 1)) i = brkC (ts.take k) i := by
  have hk : i < k := by rw [List.length_take] at hi; omega
  unfold j_6 j_5 brkN brkC
  rw [take_at (show i < k + 1 by omega), take_at hk]
  exact ⟨⟨rfl, rfl⟩, rfl, rfl⟩
theorem blkN_new (h : k < ms.length) : blkN (ms.take (k + 1)) (ms.take k).length = (ms.getD k mac0).blocks.length ∧ blkC (ms.take (k + 1)) (ms.take k).length = trips (ms.getD k mac0).blocks := by
  rw [List.length_take, Nat.min_eq_left (by omega)]
  unfold blkN blkC
  rw [take_at (Nat.lt_succ_self k)]
  exact ⟨rfl, rfl⟩
theorem blkN_old (i : Nat) (hi : i < (ms.take k).length) : blkN (ms.take (k + 1)) i = blkN (ms.take k) i ∧ blkC (ms.take (k + 1)) i = blkC (ms.take k) i := by
  have hk : i < k := by rw [List.length_take] at hi; omega
  unfold blkN blkC
  rw [take_at (show i < k + 1 by omega), take_at hk]
  exact ⟨rfl, rfl⟩
theorem take_len1 {α : Type} {l : List α} (h : k < l.length) : (l.take k).length + 1 = (l.take (k + 1)).length := by simp only [List.length_take]; omega
end
end Go.Hard

namespace Go.Proofs.Ytohgladndklciaa
open Go.RowKit Go.Shelf Go.Eng Go.Hard
theorem bd_98_0i_1i (x0_0 : Int) (x1_0 : Int) (w : World) : (Instr.build 98 #[(0, (.int .i64 x0_0)), (1, (.int .i64 x1_0))]).run Try.prog w = .ok (.agg #[(.int .i64 x0_0), (.int .i64 x1_0)]) w := by kernel_rfl
theorem bs_98_1_0iia (x0_0 : Int) (x0_1 : Int) : Instr.fill (fun i => some (i * 2, 2)) ((Array.range (1 * 2)).map ((Value.agg #[(iv 0), (iv 0)]).cells[· % (Value.agg #[(iv 0), (iv 0)]).cells.size]!)) [(0, .agg #[(.int .i64 x0_0), (.int .i64 x0_1)])] = some (([(.int .i64 x0_0), (.int .i64 x0_1)] : List Value).toArray) := by kernel_rfl
theorem list_ok (l : List Int) (xl : Value) (w : World) (hxl : SlAt w xl 1 l.length (ints l)) (hlen : l.length ≤ 1000000) :
  Calls Try.prog 40 #[xl] w (Ret fun v w' => Ext NoB w w' ∧ w'.ownsRow w.heap.size 3 1 v l.length (ints l)) := by
 refine b_0 Try.func40 rfl fun J A => ?_
 replace A : Fr 5 [] [(0, xl)] J := A
 have I : Sep NoB w w [(sl xl 1 l.length (ints l))] := f_1 ⟨rfl, hxl, trivial⟩
 refine m2 (s1 A (a_0 rfl (evc _ _)) fun K C => ?_); clear A J
 refine n4 (s1 C (a_1 rfl C.e) fun L D => ?_); clear C K
 have H := I.v_7 3 1; clear I
 refine s2 D (m_6 H rfl n_0 el_3 (evc _ _) D.e (i := 0) rfl (H.sk 1 rfl) (ints_one _) (by simp only [maxLen]; omega) (by omega)) ?_
 intro M O P F E
 have G := F.h_2 (i := 0) rfl (n' := l.length) (xs' := (ints l)) (by simp) (by simp); clear F D H L
 refine s1 E (a_0 rfl E.e) fun N B => ?_; clear E M
 exact n1 (c_2 (a_8 B (.inl rfl) (a_2 B rfl (.tmp rfl)) (⟨G.ext, G.row_new (i := 0) rfl⟩)))
end Go.Proofs.Ytohgladndklciaa
