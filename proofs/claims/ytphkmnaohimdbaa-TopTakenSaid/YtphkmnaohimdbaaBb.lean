/-
  Walks through the functions of the seat, printed by a program of ours (gowalk), a theorem a function: what the call returns and what it leaves in memory.
-/
import Derived.Test.YtphkmnaohimdbaaBa
import Derived.Test.YtphkmnaohimdbaaEnga
set_option linter.unusedSimpArgs false
set_option linter.unusedVariables false
namespace Go.Proofs.Ytphkmnaohimdbaa
open Go.RowKit Go.Shelf Go.Eng Go.Top
theorem fd_51_0 : fldK Try.prog 51 0 = some 0 := by kernel_rfl
theorem fd_51_1 : fldK Try.prog 51 1 = some 1 := by kernel_rfl
theorem n_8 : fldK Try.prog 51 4 = some 4 := by kernel_rfl
theorem o_5 : fldK Try.prog 49 0 = some 0 := by kernel_rfl
theorem m_2 : fldK Try.prog 49 1 = some 1 := by kernel_rfl
theorem n_9 : fldK Try.prog 51 5 = some 6 := by kernel_rfl
theorem fd_51_2 : fldK Try.prog 51 2 = some 2 := by kernel_rfl
theorem fd_55_0 : fldK Try.prog 55 0 = some 0 := by kernel_rfl
theorem fd_55_1 : fldK Try.prog 55 1 = some 1 := by kernel_rfl
theorem o_6 : fldK Try.prog 88 2 = some 2 := by kernel_rfl
theorem fd_57_0 : fldK Try.prog 57 0 = some 0 := by kernel_rfl
theorem o_7 : fldK Try.prog 88 3 = some 3 := by kernel_rfl
theorem fd_57_1 : fldK Try.prog 57 1 = some 1 := by kernel_rfl
theorem fd_57_4 : fldK Try.prog 57 4 = some 4 := by kernel_rfl
theorem ty_55 : tyK Try.prog 55 = some (true, 2) := by kernel_rfl
theorem fd_88_0 : fldK Try.prog 88 0 = some 0 := by kernel_rfl
theorem en_47 : ∀ args w, (callFunc 47 args).run Try.prog w = .ok (.enter 47 args) w := enters_of Try.func47 (by kernel_rfl) rfl
theorem fd_57_5 : fldK Try.prog 57 5 = some 6 := by kernel_rfl
theorem fd_88_1 : fldK Try.prog 88 1 = some 1 := by kernel_rfl
theorem fd_57_2 : fldK Try.prog 57 2 = some 2 := by kernel_rfl
theorem g_8 : fldK Try.prog 37 1 = some 1 := by kernel_rfl
theorem l_8 : tyK Try.prog 35 = some (false, 1) := by kernel_rfl
theorem k_0 : Try.prog.underlying 35 = some (.slice 3) := by kernel_rfl
theorem ze_88 : (Try.prog.info? 88).bind (·.zero) = some (Value.agg #[(iv 0), (iv 0), (iv 0), (iv 0)]) := by kernel_rfl
theorem fd_60_0 : fldK Try.prog 60 0 = some 0 := by kernel_rfl
theorem fd_60_1 : fldK Try.prog 60 1 = some 1 := by kernel_rfl
theorem k_8 (x0_0 : Int) (x1_0 : Int) (x2_0 : Int) (x3_0 : Int) (w : World) : (Instr.build 88 #[(0, (.int .i64 x0_0)), (1, (.int .i64 x1_0)), (2, (.int .i64 x2_0)), (3, (.int .i64 x3_0))]).run Try.prog w = .ok (.agg #[(.int .i64 x0_0), (.int .i64 x1_0), (.int .i64 x2_0), (.int .i64 x3_0)]) w := by kernel_rfl
theorem j_9 : tyK Try.prog 88 = some (true, 4) := by kernel_rfl
theorem ze_55 : (Try.prog.info? 55).bind (·.zero) = some (Value.agg #[(iv 0), (iv 0)]) := by kernel_rfl
theorem bd_55_0i_1i (x0_0 : Int) (x1_0 : Int) (w : World) : (Instr.build 55 #[(0, (.int .i64 x0_0)), (1, (.int .i64 x1_0))]).run Try.prog w = .ok (.agg #[(.int .i64 x0_0), (.int .i64 x1_0)]) w := by kernel_rfl
theorem ze_60 : (Try.prog.info? 60).bind (·.zero) = some (Value.agg #[(iv 0), (iv 0), (iv 0), (Value.slice none 0 0)]) := by kernel_rfl
theorem bd_60_0i_1i_2i (x0_0 : Int) (x1_0 : Int) (x2_0 : Int) (w : World) : (Instr.build 60 #[(0, (.int .i64 x0_0)), (1, (.int .i64 x1_0)), (2, (.int .i64 x2_0))]).run Try.prog w = .ok (.agg #[(.int .i64 x0_0), (.int .i64 x1_0), (.int .i64 x2_0), (Value.slice none 0 0)]) w := by kernel_rfl
theorem ty_60 : tyK Try.prog 60 = some (true, 4) := by kernel_rfl
theorem k_9 : fldK Try.prog 24 3 = some 3 := by kernel_rfl
theorem r_3 : tyK Try.prog 22 = some (false, 1) := by kernel_rfl
theorem r_4 : Try.prog.underlying 22 = some (.slice 51) := by kernel_rfl
theorem q_8 : tyK Try.prog 51 = some (true, 8) := by kernel_rfl
theorem ze_51 : (Try.prog.info? 51).bind (·.zero) = some (Value.agg #[(iv 0), (iv 0), (Value.bool false), (iv 0), (iv 0), (iv 0), (iv 0), (iv 0)]) := by kernel_rfl
theorem fd_60_3 : fldK Try.prog 60 3 = some 3 := by kernel_rfl
theorem ty_58 : tyK Try.prog 58 = some (false, 1) := by kernel_rfl
theorem fd_51_3 : fldK Try.prog 51 3 = some 3 := by kernel_rfl
theorem ty_49 : tyK Try.prog 49 = some (true, 2) := by kernel_rfl
theorem bd_57_0i_1i_2b_3i_4iia_5iia (x0_0 : Int) (x1_0 : Int) (x2_0 : Bool) (x3_0 : Int) (x4_0 : Int) (x4_1 : Int) (x5_0 : Int) (x5_1 : Int) (w : World) : (Instr.build 57 #[(0, (.int .i64 x0_0)), (1, (.int .i64 x1_0)), (2, (.bool x2_0)), (3, (.int .i64 x3_0)), (4, .agg #[(.int .i64 x4_0), (.int .i64 x4_1)]), (5, .agg #[(.int .i64 x5_0), (.int .i64 x5_1)])]).run Try.prog w = .ok (.agg #[(.int .i64 x0_0), (.int .i64 x1_0), (.bool x2_0), (.int .i64 x3_0), (.int .i64 x4_0), (.int .i64 x4_1), (.int .i64 x5_0), (.int .i64 x5_1)]) w := by kernel_rfl
theorem ze_57 : (Try.prog.info? 57).bind (·.zero) = some (Value.agg #[(iv 0), (iv 0), (Value.bool false), (iv 0), (iv 0), (iv 0), (iv 0), (iv 0)]) := by kernel_rfl
theorem en_29 : ∀ args w, (callFunc 29 args).run Try.prog w = .ok (.enter 29 args) w := enters_of Try.func29 (by kernel_rfl) rfl
theorem bs_57_1_0iibiiiiia (x0_0 : Int) (x0_1 : Int) (x0_2 : Bool) (x0_3 : Int) (x0_4 : Int) (x0_5 : Int) (x0_6 : Int) (x0_7 : Int) : Instr.fill (fun i => some (i * 8, 8)) ((Array.range (1 * 8)).map ((Value.agg #[(iv 0), (iv 0), (Value.bool false), (iv 0), (iv 0), (iv 0), (iv 0), (iv 0)]).cells[· % (Value.agg #[(iv 0), (iv 0), (Value.bool false), (iv 0), (iv 0), (iv 0), (iv 0), (iv 0)]).cells.size]!)) [(0, .agg #[(.int .i64 x0_0), (.int .i64 x0_1), (.bool x0_2), (.int .i64 x0_3), (.int .i64 x0_4), (.int .i64 x0_5), (.int .i64 x0_6), (.int .i64 x0_7)])] = some (([(.int .i64 x0_0), (.int .i64 x0_1), (.bool x0_2), (.int .i64 x0_3), (.int .i64 x0_4), (.int .i64 x0_5), (.int .i64 x0_6), (.int .i64 x0_7)] : List Value).toArray) := by kernel_rfl
theorem un_58 : Try.prog.underlying 58 = some (.slice 57) := by kernel_rfl
theorem ty_57 : tyK Try.prog 57 = some (true, 8) := by kernel_rfl
theorem el_57 : elK Try.prog 57 = some ((Value.agg #[(iv 0), (iv 0), (Value.bool false), (iv 0), (iv 0), (iv 0), (iv 0), (iv 0)]), 8, 64) := by kernel_rfl
theorem bd_109_0i_1b_2i (x0_0 : Int) (x1_0 : Bool) (x2_0 : Int) (w : World) : (Instr.build 109 #[(0, (.int .i64 x0_0)), (1, (.bool x1_0)), (2, (.int .i64 x2_0))]).run Try.prog w = .ok (.agg #[(.int .i64 x0_0), (.bool x1_0), (.int .i64 x2_0)]) w := by kernel_rfl
theorem ze_109 : (Try.prog.info? 109).bind (·.zero) = some (Value.agg #[(iv 0), (Value.bool false), (iv 0)]) := by kernel_rfl
theorem bs_109_1_0ibia (x0_0 : Int) (x0_1 : Bool) (x0_2 : Int) : Instr.fill (fun i => some (i * 3, 3)) ((Array.range (1 * 3)).map ((Value.agg #[(iv 0), (Value.bool false), (iv 0)]).cells[· % (Value.agg #[(iv 0), (Value.bool false), (iv 0)]).cells.size]!)) [(0, .agg #[(.int .i64 x0_0), (.bool x0_1), (.int .i64 x0_2)])] = some (([(.int .i64 x0_0), (.bool x0_1), (.int .i64 x0_2)] : List Value).toArray) := by kernel_rfl
theorem un_61 : Try.prog.underlying 61 = some (.slice 109) := by kernel_rfl
theorem ty_109 : tyK Try.prog 109 = some (true, 3) := by kernel_rfl
theorem el_109 : elK Try.prog 109 = some ((Value.agg #[(iv 0), (Value.bool false), (iv 0)]), 3, 24) := by kernel_rfl
theorem ze_3 : (Try.prog.info? 3).bind (·.zero) = some (iv 0) := by kernel_rfl
theorem bs_3_0_  : Instr.fill (fun i => some (i * 1, 1)) ((Array.range (0 * 1)).map ((iv 0).cells[· % (iv 0).cells.size]!)) [] = some (([] : List Value).toArray) := by kernel_rfl
theorem el_3 : elK Try.prog 3 = some ((iv 0), 1, 8) := by kernel_rfl
theorem ze_63 : (Try.prog.info? 63).bind (·.zero) = some (Value.agg #[(Value.slice none 0 0), (Value.slice none 0 0)]) := by kernel_rfl
theorem fd_37_0 : fldK Try.prog 37 0 = some 0 := by kernel_rfl
theorem ty_34 : tyK Try.prog 34 = some (false, 1) := by kernel_rfl
theorem en_30 : ∀ args w, (callFunc 30 args).run Try.prog w = .ok (.enter 30 args) w := enters_of Try.func30 (by kernel_rfl) rfl
theorem en_31 : ∀ args w, (callFunc 31 args).run Try.prog w = .ok (.enter 31 args) w := enters_of Try.func31 (by kernel_rfl) rfl
theorem bd_63_0s_1s (x0_0 : Value) (hx0_0 : IsSl x0_0) (x1_0 : Value) (hx1_0 : IsSl x1_0) (w : World) : (Instr.build 63 #[(0, x0_0), (1, x1_0)]).run Try.prog w = .ok (.agg #[x0_0, x1_0]) w := by obtain ⟨Ax0_0, Bx0_0, Cx0_0, rfl⟩ := hx0_0; obtain ⟨Ax1_0, Bx1_0, Cx1_0, rfl⟩ := hx1_0; kernel_rfl
theorem ty_63 : tyK Try.prog 63 = some (true, 2) := by kernel_rfl
theorem fits_ok (d : p_1) (q : Quad) (hq : n_7 q) (w : World) :
  Calls Try.prog 17 #[(Value.agg #[(iv d.w), (iv d.l), (Value.bool d.turn), (iv d.worth), (iv d.xl), (iv d.xh), (iv d.yl), (iv d.yh)]), (Value.agg #[(iv q.x), (iv q.y), (iv q.w), (iv q.l)])] w (Ret fun v w' => v = .bool (i_1 d q) ∧ Ext NoB w w') := by
 refine b_2 Try.func17 rfl fun a0 Ct => ?_
 replace Ct : Fr 75 [] [(0, (Value.agg #[(iv d.w), (iv d.l), (Value.bool d.turn), (iv d.worth), (iv d.xl), (iv d.xh), (iv d.yl), (iv d.yh)])), (1, (Value.agg #[(iv q.x), (iv q.y), (iv q.w), (iv q.l)]))] a0 := Ct
 have hqx := hq.x; have hqy := hq.y; have hqw := hq.w; have hql := hq.l
 have HJ : Sep NoB w w [] := Sep.start _ _
 refine m2 (s2 Ct (e_5 HJ rfl Ct.e (cs := [(iv d.w), (iv d.l), (Value.bool d.turn), (iv d.worth), (iv d.xl), (iv d.xh), (iv d.yl), (iv d.yh)]) rfl) ?_)
 rintro a1 _ w3 ⟨b4, rfl, HK⟩ Gv; clear Ct HJ a0
 refine s2 Gv (e_5 HK rfl Gv.e (cs := [(iv q.x), (iv q.y), (iv q.w), (iv q.l)]) rfl) ?_
 rintro a6 _ w8 ⟨b9, rfl, A⟩ HI; clear Gv HK a1
 refine s1 HI (a_1 rfl (evc _ _)) fun NF Cu => ?_; clear HI a6
 refine n2 (m2 (s1 Cu (a_2 rfl p_6 Cu.e) fun NG Cv => ?_)); clear Cu NF
 refine s1 Cv (a_3 rfl ty_3 Cv.e (A.bk 0 rfl) rfl) fun NH Cw => ?_; clear Cv NG
 refine s1 Cw (a_2 rfl fd_51_0 Cw.e) fun NI Cx => ?_; clear Cw NH
 refine s1 Cx (a_3 rfl ty_3 Cx.e (A.bk 1 rfl) rfl) fun NJ Al => ?_; clear Cx NI
 refine s1 Al (f_5 rfl Al.e Al.e) fun NK Cy => ?_; clear Al NJ
 refine s1 Cy (a_0 rfl Cy.e) fun HF P => ?_; clear Cy NK
 by_cases HC : q.w = d.w
 ·skip
  rw [decide_eq_true HC] at P
  refine s5 P (a_2 rfl p_7 P.e) fun NL Cz => ?_; clear P HF
  refine s5 Cz (a_3 rfl ty_3 Cz.e (A.bk 0 rfl) rfl) fun NM C0 => ?_; clear Cz NL
  refine s5 C0 (a_2 rfl fd_51_1 C0.e) fun NN C1 => ?_; clear C0 NM
  refine s5 C1 (a_3 rfl ty_3 C1.e (A.bk 1 rfl) rfl) fun NO A5 => ?_; clear C1 NN
  refine s5 A5 (f_5 rfl A5.e A5.e) fun NP BE => ?_; clear A5 NO
  refine s1 BE (a_6 rfl BE.e BE.e) fun NQ C2 => ?_; clear BE NP
  refine s1 C2 (e_4 rfl C2.e) fun NR C3 => ?_; clear C2 NQ
  refine s1 C3 (a_0 rfl C3.e) fun HG Q => ?_; clear C3 NR
  by_cases HD : q.l = d.l
  ·skip
   rw [decide_eq_true HD] at Q
   refine s3 Q fun NS Gw => ?_; clear Q HG
   refine s3 Gw fun NT Gx => ?_; clear Gw NS
   refine s3 Gx fun NU Gy => ?_; clear Gx NT
   refine s4 Gy fun NV Gz => ?_; clear Gy NU
   refine s4 Gz fun NW G0 => ?_; clear Gz NV
   refine s4 G0 fun NX G1 => ?_; clear G0 NW
   refine s4 G1 fun NY G2 => ?_; clear G1 NX
   refine s4 G2 fun NZ G3 => ?_; clear G2 NY
   refine s3 G3 fun Na G4 => ?_; clear G3 NZ
   refine s3 G4 fun Nb G5 => ?_; clear G4 Na
   refine s4 G5 fun Nc G6 => ?_; clear G5 Nb
   refine s4 G6 fun Nd G7 => ?_; clear G6 Nc
   refine s4 G7 fun Ne G8 => ?_; clear G7 Nd
   refine s4 G8 fun Nf G9 => ?_; clear G8 Ne
   refine s4 G9 fun Ng HA => ?_; clear G9 Nf
   refine s3 HA fun Nh HB => ?_; clear HA Ng
   refine s3 HB fun Ni C4 => ?_; clear HB Nh
   refine s1 C4 (a_8 rfl C4.e (evc _ _)) fun Nj C5 => ?_; clear C4 Ni
   refine n1 (b_3 C5 rfl (c_0 (b_0 (b_6 ?_))))
   have C6 := C5.as [(3, (bptr b9 0)), (2, (bptr b4 0))] rfl; clear C5
   refine a_5 (s1 C6 (a_2 rfl p_4 C6.e) fun Nk C7 => ?_); clear C6 Nj
   refine s1 C7 (a_3 rfl ty_3 C7.e (A.bk 0 rfl) rfl) fun Nl C8 => ?_; clear C7 Nk
   refine s1 C8 (a_2 rfl n_8 C8.e) fun Nm C9 => ?_; clear C8 Nl
   refine s1 C9 (a_2 rfl o_5 C9.e) fun Nn DA => ?_; clear C9 Nm
   refine s1 DA (a_3 rfl ty_3 DA.e (A.bk 1 rfl) rfl) fun No Cm => ?_; clear DA Nn
   refine s1 Cm (l_9 rfl Cm.e Cm.e) fun Np DB => ?_; clear Cm No
   refine s1 DB (a_0 rfl DB.e) fun HH R => ?_; clear DB Np
   by_cases HE : d.xl ≤ q.x
   ·skip
    rw [decide_eq_true HE] at R
    refine s5 R (a_2 rfl p_4 R.e) fun Nq DC => ?_; clear R HH
    refine s5 DC (a_3 rfl ty_3 DC.e (A.bk 0 rfl) rfl) fun Nr DD => ?_; clear DC Nq
    refine s5 DD (a_2 rfl p_6 DD.e) fun Ns AO => ?_; clear DD Nr
    refine s5 AO (a_3 rfl ty_3 AO.e (A.bk 0 rfl) rfl) fun HL S => ?_; clear AO Ns
    refine s5 S (c_6 rfl S.e S.e (by omega) (by omega)) fun HM AP => ?_; clear S HL
    refine s5 AP (f_9 rfl AP.e (evc _ _) (by omega) (by omega)) fun HN AQ => ?_; clear AP HM
    refine s5 AQ (a_2 rfl n_8 AQ.e) fun HO AR => ?_; clear AQ HN
    refine s5 AR (a_2 rfl m_2 AR.e) fun HP AS => ?_; clear AR HO
    refine s5 AS (a_3 rfl ty_3 AS.e (A.bk 1 rfl) rfl) fun HQ T => ?_; clear AS HP
    refine s5 T (j_3 rfl T.e T.e) fun HR U => ?_; clear T HQ
    refine s1 U (a_6 rfl U.e U.e) fun HS AT => ?_; clear U HR
    refine s1 AT (a_0 rfl AT.e) fun Gh D => ?_; clear AT HS
    by_cases GV : ((q.x + q.w) - 1) ≤ d.xh
    ·skip
     rw [decide_eq_true GV] at D
     refine s5 D (a_2 rfl p_5 D.e) fun HT AU => ?_; clear D Gh
     refine s5 AU (a_3 rfl ty_3 AU.e (A.bk 0 rfl) rfl) fun HU AV => ?_; clear AU HT
     refine s5 AV (a_2 rfl n_9 AV.e) fun HV AW => ?_; clear AV HU
     refine s5 AW (a_2 rfl o_5 AW.e) fun HW AX => ?_; clear AW HV
     refine s5 AX (a_3 rfl ty_3 AX.e (A.bk 1 rfl) rfl) fun HX V => ?_; clear AX HW
     refine s5 V (l_9 rfl V.e V.e) fun HY W => ?_; clear V HX
     refine s1 W (a_6 rfl W.e W.e) fun HZ AY => ?_; clear W HY
     refine s1 AY (a_0 rfl AY.e) fun Gi E => ?_; clear AY HZ
     by_cases GW : d.yl ≤ q.y
     ·skip
      rw [decide_eq_true GW] at E
      refine s5 E (a_2 rfl p_5 E.e) fun Ha AZ => ?_; clear E Gi
      refine s5 AZ (a_3 rfl ty_3 AZ.e (A.bk 0 rfl) rfl) fun Hb Aa => ?_; clear AZ Ha
      refine s5 Aa (a_2 rfl p_7 Aa.e) fun Hc Ab => ?_; clear Aa Hb
      refine s5 Ab (a_3 rfl ty_3 Ab.e (A.bk 0 rfl) rfl) fun Hd X => ?_; clear Ab Hc
      refine s5 X (c_6 rfl X.e X.e (by omega) (by omega)) fun He Ac => ?_; clear X Hd
      refine s5 Ac (f_9 rfl Ac.e (evc _ _) (by omega) (by omega)) fun Hf Ad => ?_; clear Ac He
      refine s5 Ad (a_2 rfl n_9 Ad.e) fun Hg Ae => ?_; clear Ad Hf
      refine s5 Ae (a_2 rfl m_2 Ae.e) fun Hh Af => ?_; clear Ae Hg
      refine s5 Af (a_3 rfl ty_3 Af.e (A.bk 1 rfl) rfl) fun Hi Y => ?_; clear Af Hh
      refine s5 Y (j_3 rfl Y.e Y.e) fun Hj Z => ?_; clear Y Hi
      refine s1 Z (a_6 rfl Z.e Z.e) fun Hk Ag => ?_; clear Z Hj
      refine s1 Ag (a_1 rfl Ag.e) fun Nu DE => ?_; clear Ag Hk
      refine n1 (c_3 (a_9 DE (.inl rfl) (a_4 DE rfl (.tmp rfl)) ?_))
      exact ⟨congrArg Value.bool (by unfold i_1; (try unfold hasB); rcases Bool.eq_false_or_eq_true d.turn with ht_ | ht_ <;> (rw [ht_]; first | (rw [Bool.eq_iff_iff]; (try simp only [Bool.true_and, Bool.false_and, Bool.and_true, Bool.and_false, Bool.false_or, Bool.true_or, Bool.or_false, Bool.or_true, true_and, and_true, false_and, and_false, false_or, or_false, true_or, or_true, Bool.and_eq_true, Bool.or_eq_true, Bool.not_eq_true', decide_eq_true_eq, decide_eq_false_iff_not, Bool.false_eq_true, Bool.true_eq_false, Bool.not_true, Bool.not_false, eq_self_iff_true, true_iff, false_iff, iff_true, iff_false, not_true, not_false_eq_true]); omega) | exact absurd (ht_.symm.trans (show d.turn = true by assumption)) (by decide) | exact absurd (ht_.symm.trans (show d.turn = false by assumption)) (by decide))), A.ext⟩
     skip
     rw [decide_eq_false GW] at E
     refine s3 E fun Hl DF => ?_; clear E Gi
     refine s3 DF fun Hm DG => ?_; clear DF Hl
     refine s3 DG fun Hn DH => ?_; clear DG Hm
     refine s3 DH fun Ho DI => ?_; clear DH Hn
     refine s3 DI fun Hp DJ => ?_; clear DI Ho
     refine s3 DJ fun Hq DK => ?_; clear DJ Hp
     refine s3 DK fun Hr DL => ?_; clear DK Hq
     refine s3 DL fun Hs DM => ?_; clear DL Hr
     refine s3 DM fun Ht DN => ?_; clear DM Hs
     refine s3 DN fun Hu Ah => ?_; clear DN Ht
     refine s1 Ah (a_8 rfl Ah.e (evc _ _)) fun Hv Ai => ?_; clear Ah Hu
     refine s1 Ai (a_1 rfl Ai.e) fun Nv DO => ?_; clear Ai Hv
     refine n1 (c_3 (a_9 DO (.inl rfl) (a_4 DO rfl (.tmp rfl)) ?_))
     exact ⟨congrArg Value.bool (by unfold i_1; (try unfold hasB); rcases Bool.eq_false_or_eq_true d.turn with ht_ | ht_ <;> (rw [ht_]; first | (rw [Bool.eq_iff_iff]; (try simp only [Bool.true_and, Bool.false_and, Bool.and_true, Bool.and_false, Bool.false_or, Bool.true_or, Bool.or_false, Bool.or_true, true_and, and_true, false_and, and_false, false_or, or_false, true_or, or_true, Bool.and_eq_true, Bool.or_eq_true, Bool.not_eq_true', decide_eq_true_eq, decide_eq_false_iff_not, Bool.false_eq_true, Bool.true_eq_false, Bool.not_true, Bool.not_false, eq_self_iff_true, true_iff, false_iff, iff_true, iff_false, not_true, not_false_eq_true]); omega) | exact absurd (ht_.symm.trans (show d.turn = true by assumption)) (by decide) | exact absurd (ht_.symm.trans (show d.turn = false by assumption)) (by decide))), A.ext⟩
    skip
    rw [decide_eq_false GV] at D
    refine s3 D fun Hw DP => ?_; clear D Gh
    refine s3 DP fun Hx DQ => ?_; clear DP Hw
    refine s3 DQ fun Hy DR => ?_; clear DQ Hx
    refine s3 DR fun Hz DS => ?_; clear DR Hy
    refine s3 DS fun H0 DT => ?_; clear DS Hz
    refine s3 DT fun H1 Aj => ?_; clear DT H0
    refine s1 Aj (a_8 rfl Aj.e (evc _ _)) fun H2 Ak => ?_; clear Aj H1
    refine s1 Ak (a_0 rfl Ak.e) fun H3 DU => ?_; clear Ak H2
    refine s3 DU fun H4 DV => ?_; clear DU H3
    refine s3 DV fun H5 DW => ?_; clear DV H4
    refine s3 DW fun H6 DX => ?_; clear DW H5
    refine s3 DX fun H7 DY => ?_; clear DX H6
    refine s3 DY fun H8 DZ => ?_; clear DY H7
    refine s3 DZ fun H9 Da => ?_; clear DZ H8
    refine s3 Da fun IA Db => ?_; clear Da H9
    refine s3 Db fun IB Dc => ?_; clear Db IA
    refine s3 Dc fun IC Dd => ?_; clear Dc IB
    refine s3 Dd fun ID Am => ?_; clear Dd IC
    refine s1 Am (a_8 rfl Am.e (evc _ _)) fun IE An => ?_; clear Am ID
    refine s1 An (a_1 rfl An.e) fun Nw De => ?_; clear An IE
    refine n1 (c_3 (a_9 De (.inl rfl) (a_4 De rfl (.tmp rfl)) ?_))
    exact ⟨congrArg Value.bool (by unfold i_1; (try unfold hasB); rcases Bool.eq_false_or_eq_true d.turn with ht_ | ht_ <;> (rw [ht_]; first | (rw [Bool.eq_iff_iff]; (try simp only [Bool.true_and, Bool.false_and, Bool.and_true, Bool.and_false, Bool.false_or, Bool.true_or, Bool.or_false, Bool.or_true, true_and, and_true, false_and, and_false, false_or, or_false, true_or, or_true, Bool.and_eq_true, Bool.or_eq_true, Bool.not_eq_true', decide_eq_true_eq, decide_eq_false_iff_not, Bool.false_eq_true, Bool.true_eq_false, Bool.not_true, Bool.not_false, eq_self_iff_true, true_iff, false_iff, iff_true, iff_false, not_true, not_false_eq_true]); omega) | exact absurd (ht_.symm.trans (show d.turn = true by assumption)) (by decide) | exact absurd (ht_.symm.trans (show d.turn = false by assumption)) (by decide))), A.ext⟩
   skip
   rw [decide_eq_false HE] at R
   refine s3 R fun IF Df => ?_; clear R HH
   refine s3 Df fun IG Dg => ?_; clear Df IF
   refine s3 Dg fun IH Dh => ?_; clear Dg IG
   refine s3 Dh fun II Di => ?_; clear Dh IH
   refine s3 Di fun IJ Dj => ?_; clear Di II
   refine s3 Dj fun IK Dk => ?_; clear Dj IJ
   refine s3 Dk fun IL Dl => ?_; clear Dk IK
   refine s3 Dl fun IM Dm => ?_; clear Dl IL
   refine s3 Dm fun IN Dn => ?_; clear Dm IM
   refine s3 Dn fun IOa Ao => ?_; clear Dn IN
   refine s1 Ao (a_8 rfl Ao.e (evc _ _)) fun IP Ap => ?_; clear Ao IOa
   refine s1 Ap (a_0 rfl Ap.e) fun IQ Do => ?_; clear Ap IP
   refine s3 Do fun IR Dp => ?_; clear Do IQ
   refine s3 Dp fun IS Dq => ?_; clear Dp IR
   refine s3 Dq fun IT Dr => ?_; clear Dq IS
   refine s3 Dr fun IU Ds => ?_; clear Dr IT
   refine s3 Ds fun IV Dt => ?_; clear Ds IU
   refine s3 Dt fun IW Aq => ?_; clear Dt IV
   refine s1 Aq (a_8 rfl Aq.e (evc _ _)) fun IX Ar => ?_; clear Aq IW
   refine s1 Ar (a_0 rfl Ar.e) fun IY Du => ?_; clear Ar IX
   refine s3 Du fun IZ Dv => ?_; clear Du IY
   refine s3 Dv fun Ia Dw => ?_; clear Dv IZ
   refine s3 Dw fun Ib Dx => ?_; clear Dw Ia
   refine s3 Dx fun Ic Dy => ?_; clear Dx Ib
   refine s3 Dy fun Id Dz => ?_; clear Dy Ic
   refine s3 Dz fun Ie D0 => ?_; clear Dz Id
   refine s3 D0 fun If D1 => ?_; clear D0 Ie
   refine s3 D1 fun Ig D2 => ?_; clear D1 If
   refine s3 D2 fun Ih D3 => ?_; clear D2 Ig
   refine s3 D3 fun Ii As => ?_; clear D3 Ih
   refine s1 As (a_8 rfl As.e (evc _ _)) fun Ij At => ?_; clear As Ii
   refine s1 At (a_1 rfl At.e) fun Nx D4 => ?_; clear At Ij
   refine n1 (c_3 (a_9 D4 (.inl rfl) (a_4 D4 rfl (.tmp rfl)) ?_))
   exact ⟨congrArg Value.bool (by unfold i_1; (try unfold hasB); rcases Bool.eq_false_or_eq_true d.turn with ht_ | ht_ <;> (rw [ht_]; first | (rw [Bool.eq_iff_iff]; (try simp only [Bool.true_and, Bool.false_and, Bool.and_true, Bool.and_false, Bool.false_or, Bool.true_or, Bool.or_false, Bool.or_true, true_and, and_true, false_and, and_false, false_or, or_false, true_or, or_true, Bool.and_eq_true, Bool.or_eq_true, Bool.not_eq_true', decide_eq_true_eq, decide_eq_false_iff_not, Bool.false_eq_true, Bool.true_eq_false, Bool.not_true, Bool.not_false, eq_self_iff_true, true_iff, false_iff, iff_true, iff_false, not_true, not_false_eq_true]); omega) | exact absurd (ht_.symm.trans (show d.turn = true by assumption)) (by decide) | exact absurd (ht_.symm.trans (show d.turn = false by assumption)) (by decide))), A.ext⟩
  skip
  rw [decide_eq_false HD] at Q
  refine s5 Q (a_2 rfl fd_51_2 Q.e) fun Ik Au => ?_; clear Q HG
  refine s5 Au (a_3 rfl ty_4 Au.e (A.bk 1 rfl) rfl) fun Il Av => ?_; clear Au Ik
  refine s5 Av (a_0 rfl Av.e) fun Gj F => ?_; clear Av Il
  rcases Bool.eq_false_or_eq_true (d.turn) with Cr | Cr
  ·skip
   rw [Cr] at F
   refine s5 F (a_2 rfl p_6 F.e) fun Im Aw => ?_; clear F Gj
   refine s5 Aw (a_3 rfl ty_3 Aw.e (A.bk 0 rfl) rfl) fun In Ax => ?_; clear Aw Im
   refine s5 Ax (a_2 rfl fd_51_1 Ax.e) fun Io Ay => ?_; clear Ax In
   refine s5 Ay (a_3 rfl ty_3 Ay.e (A.bk 1 rfl) rfl) fun Ip a => ?_; clear Ay Io
   refine s5 a (f_5 rfl a.e a.e) fun Iq b => ?_; clear a Ip
   refine s5 b (a_6 rfl b.e b.e) fun Ir Az => ?_; clear b Iq
   refine s5 Az (a_0 rfl Az.e) fun Gk G => ?_; clear Az Ir
   by_cases GX : q.w = d.l
   ·skip
    rw [decide_eq_true GX] at G
    refine s5 G (a_2 rfl p_7 G.e) fun Is A0 => ?_; clear G Gk
    refine s5 A0 (a_3 rfl ty_3 A0.e (A.bk 0 rfl) rfl) fun It A1 => ?_; clear A0 Is
    refine s5 A1 (a_2 rfl fd_51_0 A1.e) fun Iu A2 => ?_; clear A1 It
    refine s5 A2 (a_3 rfl ty_3 A2.e (A.bk 1 rfl) rfl) fun Iv c => ?_; clear A2 Iu
    refine s5 c (f_5 rfl c.e c.e) fun Iw f => ?_; clear c Iv
    refine s5 f (a_6 rfl f.e f.e) fun Ix A3 => ?_; clear f Iw
    refine s5 A3 (e_4 rfl A3.e) fun Iy g => ?_; clear A3 Ix
    refine s1 g (a_6 rfl g.e g.e) fun Gl B => ?_; clear g Iy
    refine n1 ?_
    by_cases GY : q.l = d.w
    ·skip
     rw [decide_eq_true GY] at B
     refine b_3 B rfl (c_0 (b_0 (b_6 ?_)))
     have A4 := B.as [(3, (bptr b9 0)), (2, (bptr b4 0))] rfl; clear B
     refine a_5 (s1 A4 (a_2 rfl p_4 A4.e) fun Iz A6 => ?_); clear A4 Gl
     refine s1 A6 (a_3 rfl ty_3 A6.e (A.bk 0 rfl) rfl) fun I0 A7 => ?_; clear A6 Iz
     refine s1 A7 (a_2 rfl n_8 A7.e) fun I1 A8 => ?_; clear A7 I0
     refine s1 A8 (a_2 rfl o_5 A8.e) fun I2 A9 => ?_; clear A8 I1
     refine s1 A9 (a_3 rfl ty_3 A9.e (A.bk 1 rfl) rfl) fun I3 h => ?_; clear A9 I2
     refine s1 h (l_9 rfl h.e h.e) fun I4 BA => ?_; clear h I3
     refine s1 BA (a_0 rfl BA.e) fun Gm H => ?_; clear BA I4
     by_cases GZ : d.xl ≤ q.x
     ·skip
      rw [decide_eq_true GZ] at H
      refine s5 H (a_2 rfl p_4 H.e) fun I5 BB => ?_; clear H Gm
      refine s5 BB (a_3 rfl ty_3 BB.e (A.bk 0 rfl) rfl) fun I6 BC => ?_; clear BB I5
      refine s5 BC (a_2 rfl p_6 BC.e) fun I7 BD => ?_; clear BC I6
      refine s5 BD (a_3 rfl ty_3 BD.e (A.bk 0 rfl) rfl) fun I8 i => ?_; clear BD I7
      refine s5 i (c_6 rfl i.e i.e (by omega) (by omega)) fun I9 BF => ?_; clear i I8
      refine s5 BF (f_9 rfl BF.e (evc _ _) (by omega) (by omega)) fun JA BG => ?_; clear BF I9
      refine s5 BG (a_2 rfl n_8 BG.e) fun JB BH => ?_; clear BG JA
      refine s5 BH (a_2 rfl m_2 BH.e) fun JC BI => ?_; clear BH JB
      refine s5 BI (a_3 rfl ty_3 BI.e (A.bk 1 rfl) rfl) fun JD j => ?_; clear BI JC
      refine s5 j (j_3 rfl j.e j.e) fun JE k => ?_; clear j JD
      refine s1 k (a_6 rfl k.e k.e) fun JF BJ => ?_; clear k JE
      refine s1 BJ (a_0 rfl BJ.e) fun Gn I => ?_; clear BJ JF
      by_cases Ga : ((q.x + q.w) - 1) ≤ d.xh
      ·skip
       rw [decide_eq_true Ga] at I
       refine s5 I (a_2 rfl p_5 I.e) fun JG BK => ?_; clear I Gn
       refine s5 BK (a_3 rfl ty_3 BK.e (A.bk 0 rfl) rfl) fun JH BL => ?_; clear BK JG
       refine s5 BL (a_2 rfl n_9 BL.e) fun JI BM => ?_; clear BL JH
       refine s5 BM (a_2 rfl o_5 BM.e) fun JJ BN => ?_; clear BM JI
       refine s5 BN (a_3 rfl ty_3 BN.e (A.bk 1 rfl) rfl) fun JK m => ?_; clear BN JJ
       refine s5 m (l_9 rfl m.e m.e) fun JL n => ?_; clear m JK
       refine s1 n (a_6 rfl n.e n.e) fun JM BO => ?_; clear n JL
       refine s1 BO (a_0 rfl BO.e) fun Go J => ?_; clear BO JM
       by_cases Gb : d.yl ≤ q.y
       ·skip
        rw [decide_eq_true Gb] at J
        refine s5 J (a_2 rfl p_5 J.e) fun JN BP => ?_; clear J Go
        refine s5 BP (a_3 rfl ty_3 BP.e (A.bk 0 rfl) rfl) fun JO BQ => ?_; clear BP JN
        refine s5 BQ (a_2 rfl p_7 BQ.e) fun JP BR => ?_; clear BQ JO
        refine s5 BR (a_3 rfl ty_3 BR.e (A.bk 0 rfl) rfl) fun JQ o => ?_; clear BR JP
        refine s5 o (c_6 rfl o.e o.e (by omega) (by omega)) fun JR BS => ?_; clear o JQ
        refine s5 BS (f_9 rfl BS.e (evc _ _) (by omega) (by omega)) fun JS BT => ?_; clear BS JR
        refine s5 BT (a_2 rfl n_9 BT.e) fun JT BU => ?_; clear BT JS
        refine s5 BU (a_2 rfl m_2 BU.e) fun JU BV => ?_; clear BU JT
        refine s5 BV (a_3 rfl ty_3 BV.e (A.bk 1 rfl) rfl) fun JV p => ?_; clear BV JU
        refine s5 p (j_3 rfl p.e p.e) fun JW r => ?_; clear p JV
        refine s1 r (a_6 rfl r.e r.e) fun JX BW => ?_; clear r JW
        refine s1 BW (a_1 rfl BW.e) fun Ny D5 => ?_; clear BW JX
        refine n1 (c_3 (a_9 D5 (.inl rfl) (a_4 D5 rfl (.tmp rfl)) ?_))
        exact ⟨congrArg Value.bool (by unfold i_1; (try unfold hasB); rcases Bool.eq_false_or_eq_true d.turn with ht_ | ht_ <;> (rw [ht_]; first | (rw [Bool.eq_iff_iff]; (try simp only [Bool.true_and, Bool.false_and, Bool.and_true, Bool.and_false, Bool.false_or, Bool.true_or, Bool.or_false, Bool.or_true, true_and, and_true, false_and, and_false, false_or, or_false, true_or, or_true, Bool.and_eq_true, Bool.or_eq_true, Bool.not_eq_true', decide_eq_true_eq, decide_eq_false_iff_not, Bool.false_eq_true, Bool.true_eq_false, Bool.not_true, Bool.not_false, eq_self_iff_true, true_iff, false_iff, iff_true, iff_false, not_true, not_false_eq_true]); omega) | exact absurd (ht_.symm.trans (show d.turn = true by assumption)) (by decide) | exact absurd (ht_.symm.trans (show d.turn = false by assumption)) (by decide))), A.ext⟩
       skip
       rw [decide_eq_false Gb] at J
       refine s3 J fun JY D6 => ?_; clear J Go
       refine s3 D6 fun JZ D7 => ?_; clear D6 JY
       refine s3 D7 fun Ja D8 => ?_; clear D7 JZ
       refine s3 D8 fun Jb D9 => ?_; clear D8 Ja
       refine s3 D9 fun Jc EA => ?_; clear D9 Jb
       refine s3 EA fun Jd EB => ?_; clear EA Jc
       refine s3 EB fun Je EC => ?_; clear EB Jd
       refine s3 EC fun Jf ED => ?_; clear EC Je
       refine s3 ED fun Jg EE => ?_; clear ED Jf
       refine s3 EE fun Jh BX => ?_; clear EE Jg
       refine s1 BX (a_8 rfl BX.e (evc _ _)) fun Ji BY => ?_; clear BX Jh
       refine s1 BY (a_1 rfl BY.e) fun Nz EF => ?_; clear BY Ji
       refine n1 (c_3 (a_9 EF (.inl rfl) (a_4 EF rfl (.tmp rfl)) ?_))
       exact ⟨congrArg Value.bool (by unfold i_1; (try unfold hasB); rcases Bool.eq_false_or_eq_true d.turn with ht_ | ht_ <;> (rw [ht_]; first | (rw [Bool.eq_iff_iff]; (try simp only [Bool.true_and, Bool.false_and, Bool.and_true, Bool.and_false, Bool.false_or, Bool.true_or, Bool.or_false, Bool.or_true, true_and, and_true, false_and, and_false, false_or, or_false, true_or, or_true, Bool.and_eq_true, Bool.or_eq_true, Bool.not_eq_true', decide_eq_true_eq, decide_eq_false_iff_not, Bool.false_eq_true, Bool.true_eq_false, Bool.not_true, Bool.not_false, eq_self_iff_true, true_iff, false_iff, iff_true, iff_false, not_true, not_false_eq_true]); omega) | exact absurd (ht_.symm.trans (show d.turn = true by assumption)) (by decide) | exact absurd (ht_.symm.trans (show d.turn = false by assumption)) (by decide))), A.ext⟩
      skip
      rw [decide_eq_false Ga] at I
      refine s3 I fun Jj EG => ?_; clear I Gn
      refine s3 EG fun Jk EH => ?_; clear EG Jj
      refine s3 EH fun Jl EI => ?_; clear EH Jk
      refine s3 EI fun Jm EJ => ?_; clear EI Jl
      refine s3 EJ fun Jn EK => ?_; clear EJ Jm
      refine s3 EK fun Jo BZ => ?_; clear EK Jn
      refine s1 BZ (a_8 rfl BZ.e (evc _ _)) fun Jp Ba => ?_; clear BZ Jo
      refine s1 Ba (a_0 rfl Ba.e) fun Jq EL => ?_; clear Ba Jp
      refine s3 EL fun Jr EM => ?_; clear EL Jq
      refine s3 EM fun Js EN => ?_; clear EM Jr
      refine s3 EN fun Jt EO => ?_; clear EN Js
      refine s3 EO fun Ju EP => ?_; clear EO Jt
      refine s3 EP fun Jv EQ => ?_; clear EP Ju
      refine s3 EQ fun Jw ER => ?_; clear EQ Jv
      refine s3 ER fun Jx ES => ?_; clear ER Jw
      refine s3 ES fun Jy ET => ?_; clear ES Jx
      refine s3 ET fun Jz EU => ?_; clear ET Jy
      refine s3 EU fun J0 Bb => ?_; clear EU Jz
      refine s1 Bb (a_8 rfl Bb.e (evc _ _)) fun J1 Bc => ?_; clear Bb J0
      refine s1 Bc (a_1 rfl Bc.e) fun N0 EV => ?_; clear Bc J1
      refine n1 (c_3 (a_9 EV (.inl rfl) (a_4 EV rfl (.tmp rfl)) ?_))
      exact ⟨congrArg Value.bool (by unfold i_1; (try unfold hasB); rcases Bool.eq_false_or_eq_true d.turn with ht_ | ht_ <;> (rw [ht_]; first | (rw [Bool.eq_iff_iff]; (try simp only [Bool.true_and, Bool.false_and, Bool.and_true, Bool.and_false, Bool.false_or, Bool.true_or, Bool.or_false, Bool.or_true, true_and, and_true, false_and, and_false, false_or, or_false, true_or, or_true, Bool.and_eq_true, Bool.or_eq_true, Bool.not_eq_true', decide_eq_true_eq, decide_eq_false_iff_not, Bool.false_eq_true, Bool.true_eq_false, Bool.not_true, Bool.not_false, eq_self_iff_true, true_iff, false_iff, iff_true, iff_false, not_true, not_false_eq_true]); omega) | exact absurd (ht_.symm.trans (show d.turn = true by assumption)) (by decide) | exact absurd (ht_.symm.trans (show d.turn = false by assumption)) (by decide))), A.ext⟩
     skip
     rw [decide_eq_false GZ] at H
     refine s3 H fun J2 EW => ?_; clear H Gm
     refine s3 EW fun J3 EX => ?_; clear EW J2
     refine s3 EX fun J4 EY => ?_; clear EX J3
     refine s3 EY fun J5 EZ => ?_; clear EY J4
     refine s3 EZ fun J6 Ea => ?_; clear EZ J5
     refine s3 Ea fun J7 Eb => ?_; clear Ea J6
     refine s3 Eb fun J8 Ec => ?_; clear Eb J7
     refine s3 Ec fun J9 Ed => ?_; clear Ec J8
     refine s3 Ed fun KA Ee => ?_; clear Ed J9
     refine s3 Ee fun KB Bd => ?_; clear Ee KA
     refine s1 Bd (a_8 rfl Bd.e (evc _ _)) fun KC Be => ?_; clear Bd KB
     refine s1 Be (a_0 rfl Be.e) fun KD Ef => ?_; clear Be KC
     refine s3 Ef fun KE Eg => ?_; clear Ef KD
     refine s3 Eg fun KF Eh => ?_; clear Eg KE
     refine s3 Eh fun KG Ei => ?_; clear Eh KF
     refine s3 Ei fun KH Ej => ?_; clear Ei KG
     refine s3 Ej fun KI Ek => ?_; clear Ej KH
     refine s3 Ek fun KJ Bf => ?_; clear Ek KI
     refine s1 Bf (a_8 rfl Bf.e (evc _ _)) fun KK Bg => ?_; clear Bf KJ
     refine s1 Bg (a_0 rfl Bg.e) fun KL El => ?_; clear Bg KK
     refine s3 El fun KM Em => ?_; clear El KL
     refine s3 Em fun KN En => ?_; clear Em KM
     refine s3 En fun KO Eo => ?_; clear En KN
     refine s3 Eo fun KP Ep => ?_; clear Eo KO
     refine s3 Ep fun KQ Eq => ?_; clear Ep KP
     refine s3 Eq fun KR Er => ?_; clear Eq KQ
     refine s3 Er fun KS Es => ?_; clear Er KR
     refine s3 Es fun KT Et => ?_; clear Es KS
     refine s3 Et fun KU Eu => ?_; clear Et KT
     refine s3 Eu fun KV Bh => ?_; clear Eu KU
     refine s1 Bh (a_8 rfl Bh.e (evc _ _)) fun KW Bi => ?_; clear Bh KV
     refine s1 Bi (a_1 rfl Bi.e) fun N1 Ev => ?_; clear Bi KW
     refine n1 (c_3 (a_9 Ev (.inl rfl) (a_4 Ev rfl (.tmp rfl)) ?_))
     exact ⟨congrArg Value.bool (by unfold i_1; (try unfold hasB); rcases Bool.eq_false_or_eq_true d.turn with ht_ | ht_ <;> (rw [ht_]; first | (rw [Bool.eq_iff_iff]; (try simp only [Bool.true_and, Bool.false_and, Bool.and_true, Bool.and_false, Bool.false_or, Bool.true_or, Bool.or_false, Bool.or_true, true_and, and_true, false_and, and_false, false_or, or_false, true_or, or_true, Bool.and_eq_true, Bool.or_eq_true, Bool.not_eq_true', decide_eq_true_eq, decide_eq_false_iff_not, Bool.false_eq_true, Bool.true_eq_false, Bool.not_true, Bool.not_false, eq_self_iff_true, true_iff, false_iff, iff_true, iff_false, not_true, not_false_eq_true]); omega) | exact absurd (ht_.symm.trans (show d.turn = true by assumption)) (by decide) | exact absurd (ht_.symm.trans (show d.turn = false by assumption)) (by decide))), A.ext⟩
    skip
    rw [decide_eq_false GY] at B
    refine c_1 B rfl (b_6 ?_)
    have Ew := B.as [] rfl; clear B
    refine a_5 (s1 Ew (a_1 rfl (evc _ _)) fun N2 Ex => ?_); clear Ew Gl
    refine n1 (c_3 (b_1 (a_9 Ex (.inl rfl) (a_4 Ex rfl (.tmp rfl)) ?_)))
    exact ⟨congrArg Value.bool (by unfold i_1; (try unfold hasB); rcases Bool.eq_false_or_eq_true d.turn with ht_ | ht_ <;> (rw [ht_]; first | (rw [Bool.eq_iff_iff]; (try simp only [Bool.true_and, Bool.false_and, Bool.and_true, Bool.and_false, Bool.false_or, Bool.true_or, Bool.or_false, Bool.or_true, true_and, and_true, false_and, and_false, false_or, or_false, true_or, or_true, Bool.and_eq_true, Bool.or_eq_true, Bool.not_eq_true', decide_eq_true_eq, decide_eq_false_iff_not, Bool.false_eq_true, Bool.true_eq_false, Bool.not_true, Bool.not_false, eq_self_iff_true, true_iff, false_iff, iff_true, iff_false, not_true, not_false_eq_true]); omega) | exact absurd (ht_.symm.trans (show d.turn = true by assumption)) (by decide) | exact absurd (ht_.symm.trans (show d.turn = false by assumption)) (by decide))), A.ext⟩
   skip
   rw [decide_eq_false GX] at G
   refine s3 G fun KX Ey => ?_; clear G Gk
   refine s3 Ey fun KY Ez => ?_; clear Ey KX
   refine s3 Ez fun KZ E0 => ?_; clear Ez KY
   refine s3 E0 fun Ka E1 => ?_; clear E0 KZ
   refine s3 E1 fun Kb Bj => ?_; clear E1 Ka
   refine s5 Bj (a_8 rfl Bj.e (evc _ _)) fun Kc Bk => ?_; clear Bj Kb
   refine s5 Bk (e_4 rfl Bk.e) fun Kd s => ?_; clear Bk Kc
   refine s1 s (a_6 rfl s.e s.e) fun Ke Bl => ?_; clear s Kd
   refine n1 (c_1 Bl rfl (b_6 ?_))
   have E2 := Bl.as [] rfl; clear Bl
   refine a_5 (s1 E2 (a_1 rfl (evc _ _)) fun N3 E3 => ?_); clear E2 Ke
   refine n1 (c_3 (b_1 (a_9 E3 (.inl rfl) (a_4 E3 rfl (.tmp rfl)) ?_)))
   exact ⟨congrArg Value.bool (by unfold i_1; (try unfold hasB); rcases Bool.eq_false_or_eq_true d.turn with ht_ | ht_ <;> (rw [ht_]; first | (rw [Bool.eq_iff_iff]; (try simp only [Bool.true_and, Bool.false_and, Bool.and_true, Bool.and_false, Bool.false_or, Bool.true_or, Bool.or_false, Bool.or_true, true_and, and_true, false_and, and_false, false_or, or_false, true_or, or_true, Bool.and_eq_true, Bool.or_eq_true, Bool.not_eq_true', decide_eq_true_eq, decide_eq_false_iff_not, Bool.false_eq_true, Bool.true_eq_false, Bool.not_true, Bool.not_false, eq_self_iff_true, true_iff, false_iff, iff_true, iff_false, not_true, not_false_eq_true]); omega) | exact absurd (ht_.symm.trans (show d.turn = true by assumption)) (by decide) | exact absurd (ht_.symm.trans (show d.turn = false by assumption)) (by decide))), A.ext⟩
  skip
  rw [Cr] at F
  refine s3 F fun Kf E4 => ?_; clear F Gj
  refine s3 E4 fun Kg E5 => ?_; clear E4 Kf
  refine s3 E5 fun Kh E6 => ?_; clear E5 Kg
  refine s3 E6 fun Ki E7 => ?_; clear E6 Kh
  refine s3 E7 fun Kj Bm => ?_; clear E7 Ki
  refine s5 Bm (a_8 rfl Bm.e (evc _ _)) fun Kk Bn => ?_; clear Bm Kj
  refine s5 Bn (a_0 rfl Bn.e) fun Kl E8 => ?_; clear Bn Kk
  refine s3 E8 fun Km E9 => ?_; clear E8 Kl
  refine s3 E9 fun Kn FA => ?_; clear E9 Km
  refine s3 FA fun Ko FB => ?_; clear FA Kn
  refine s3 FB fun Kp FC => ?_; clear FB Ko
  refine s3 FC fun Kq Bo => ?_; clear FC Kp
  refine s5 Bo (a_8 rfl Bo.e (evc _ _)) fun Kr Bp => ?_; clear Bo Kq
  refine s5 Bp (e_4 rfl Bp.e) fun Ks t => ?_; clear Bp Kr
  refine s1 t (a_6 rfl t.e t.e) fun Kt Bq => ?_; clear t Ks
  refine n1 (c_1 Bq rfl (b_6 ?_))
  have FD := Bq.as [] rfl; clear Bq
  refine a_5 (s1 FD (a_1 rfl (evc _ _)) fun N4 FE => ?_); clear FD Kt
  refine n1 (c_3 (b_1 (a_9 FE (.inl rfl) (a_4 FE rfl (.tmp rfl)) ?_)))
  exact ⟨congrArg Value.bool (by unfold i_1; (try unfold hasB); rcases Bool.eq_false_or_eq_true d.turn with ht_ | ht_ <;> (rw [ht_]; first | (rw [Bool.eq_iff_iff]; (try simp only [Bool.true_and, Bool.false_and, Bool.and_true, Bool.and_false, Bool.false_or, Bool.true_or, Bool.or_false, Bool.or_true, true_and, and_true, false_and, and_false, false_or, or_false, true_or, or_true, Bool.and_eq_true, Bool.or_eq_true, Bool.not_eq_true', decide_eq_true_eq, decide_eq_false_iff_not, Bool.false_eq_true, Bool.true_eq_false, Bool.not_true, Bool.not_false, eq_self_iff_true, true_iff, false_iff, iff_true, iff_false, not_true, not_false_eq_true]); omega) | exact absurd (ht_.symm.trans (show d.turn = true by assumption)) (by decide) | exact absurd (ht_.symm.trans (show d.turn = false by assumption)) (by decide))), A.ext⟩
 skip
 rw [decide_eq_false HC] at P
 refine s3 P fun Ku FF => ?_; clear P HF
 refine s3 FF fun Kv FG => ?_; clear FF Ku
 refine s3 FG fun Kw FH => ?_; clear FG Kv
 refine s3 FH fun Kx FI => ?_; clear FH Kw
 refine s3 FI fun Ky Br => ?_; clear FI Kx
 refine s1 Br (a_8 rfl Br.e (evc _ _)) fun Kz Bs => ?_; clear Br Ky
 refine s1 Bs (e_4 rfl Bs.e) fun K0 Bt => ?_; clear Bs Kz
 refine s1 Bt (a_0 rfl Bt.e) fun K1 Bu => ?_; clear Bt K0
 refine s5 Bu (a_2 rfl fd_51_2 Bu.e) fun K2 Bv => ?_; clear Bu K1
 refine s5 Bv (a_3 rfl ty_4 Bv.e (A.bk 1 rfl) rfl) fun K3 Bw => ?_; clear Bv K2
 refine s5 Bw (a_0 rfl Bw.e) fun Gp K => ?_; clear Bw K3
 rcases Bool.eq_false_or_eq_true (d.turn) with Cs | Cs
 ·skip
  rw [Cs] at K
  refine s5 K (a_2 rfl p_6 K.e) fun K4 Bx => ?_; clear K Gp
  refine s5 Bx (a_3 rfl ty_3 Bx.e (A.bk 0 rfl) rfl) fun K5 By => ?_; clear Bx K4
  refine s5 By (a_2 rfl fd_51_1 By.e) fun K6 Bz => ?_; clear By K5
  refine s5 Bz (a_3 rfl ty_3 Bz.e (A.bk 1 rfl) rfl) fun K7 u => ?_; clear Bz K6
  refine s5 u (f_5 rfl u.e u.e) fun K8 z => ?_; clear u K7
  refine s5 z (a_6 rfl z.e z.e) fun K9 B0 => ?_; clear z K8
  refine s5 B0 (a_0 rfl B0.e) fun Gq L => ?_; clear B0 K9
  by_cases Gc : q.w = d.l
  ·skip
   rw [decide_eq_true Gc] at L
   refine s5 L (a_2 rfl p_7 L.e) fun LA B1 => ?_; clear L Gq
   refine s5 B1 (a_3 rfl ty_3 B1.e (A.bk 0 rfl) rfl) fun LB B2 => ?_; clear B1 LA
   refine s5 B2 (a_2 rfl fd_51_0 B2.e) fun LC B3 => ?_; clear B2 LB
   refine s5 B3 (a_3 rfl ty_3 B3.e (A.bk 1 rfl) rfl) fun LD AA => ?_; clear B3 LC
   refine s5 AA (f_5 rfl AA.e AA.e) fun LE AB => ?_; clear AA LD
   refine s5 AB (a_6 rfl AB.e AB.e) fun LF B4 => ?_; clear AB LE
   refine s5 B4 (e_4 rfl B4.e) fun LG AC => ?_; clear B4 LF
   refine s1 AC (a_6 rfl AC.e AC.e) fun Gr C => ?_; clear AC LG
   refine n1 ?_
   by_cases Gd : q.l = d.w
   ·skip
    rw [decide_eq_true Gd] at C
    refine b_3 C rfl (c_0 (b_0 (b_6 ?_)))
    have B5 := C.as [(3, (bptr b9 0)), (2, (bptr b4 0))] rfl; clear C
    refine a_5 (s1 B5 (a_2 rfl p_4 B5.e) fun LH B6 => ?_); clear B5 Gr
    refine s1 B6 (a_3 rfl ty_3 B6.e (A.bk 0 rfl) rfl) fun LI B7 => ?_; clear B6 LH
    refine s1 B7 (a_2 rfl n_8 B7.e) fun LJ B8 => ?_; clear B7 LI
    refine s1 B8 (a_2 rfl o_5 B8.e) fun LK B9 => ?_; clear B8 LJ
    refine s1 B9 (a_3 rfl ty_3 B9.e (A.bk 1 rfl) rfl) fun LL AD => ?_; clear B9 LK
    refine s1 AD (l_9 rfl AD.e AD.e) fun LM CA => ?_; clear AD LL
    refine s1 CA (a_0 rfl CA.e) fun Gs M => ?_; clear CA LM
    by_cases Ge : d.xl ≤ q.x
    ·skip
     rw [decide_eq_true Ge] at M
     refine s5 M (a_2 rfl p_4 M.e) fun LN CB => ?_; clear M Gs
     refine s5 CB (a_3 rfl ty_3 CB.e (A.bk 0 rfl) rfl) fun LO CC => ?_; clear CB LN
     refine s5 CC (a_2 rfl p_6 CC.e) fun LP CD => ?_; clear CC LO
     refine s5 CD (a_3 rfl ty_3 CD.e (A.bk 0 rfl) rfl) fun LQ AE => ?_; clear CD LP
     refine s5 AE (c_6 rfl AE.e AE.e (by omega) (by omega)) fun LR CE => ?_; clear AE LQ
     refine s5 CE (f_9 rfl CE.e (evc _ _) (by omega) (by omega)) fun LS CF => ?_; clear CE LR
     refine s5 CF (a_2 rfl n_8 CF.e) fun LT CG => ?_; clear CF LS
     refine s5 CG (a_2 rfl m_2 CG.e) fun LU CH => ?_; clear CG LT
     refine s5 CH (a_3 rfl ty_3 CH.e (A.bk 1 rfl) rfl) fun LV AF => ?_; clear CH LU
     refine s5 AF (j_3 rfl AF.e AF.e) fun LW AG => ?_; clear AF LV
     refine s1 AG (a_6 rfl AG.e AG.e) fun LX CI => ?_; clear AG LW
     refine s1 CI (a_0 rfl CI.e) fun Gt N => ?_; clear CI LX
     by_cases Gf : ((q.x + q.w) - 1) ≤ d.xh
     ·skip
      rw [decide_eq_true Gf] at N
      refine s5 N (a_2 rfl p_5 N.e) fun LY CJ => ?_; clear N Gt
      refine s5 CJ (a_3 rfl ty_3 CJ.e (A.bk 0 rfl) rfl) fun LZ CK => ?_; clear CJ LY
      refine s5 CK (a_2 rfl n_9 CK.e) fun La CL => ?_; clear CK LZ
      refine s5 CL (a_2 rfl o_5 CL.e) fun Lb CM => ?_; clear CL La
      refine s5 CM (a_3 rfl ty_3 CM.e (A.bk 1 rfl) rfl) fun Lc AH => ?_; clear CM Lb
      refine s5 AH (l_9 rfl AH.e AH.e) fun Ld AI => ?_; clear AH Lc
      refine s1 AI (a_6 rfl AI.e AI.e) fun Le CN => ?_; clear AI Ld
      refine s1 CN (a_0 rfl CN.e) fun Gu O => ?_; clear CN Le
      by_cases Gg : d.yl ≤ q.y
      ·skip
       rw [decide_eq_true Gg] at O
       refine s5 O (a_2 rfl p_5 O.e) fun Lf CO => ?_; clear O Gu
       refine s5 CO (a_3 rfl ty_3 CO.e (A.bk 0 rfl) rfl) fun Lg CP => ?_; clear CO Lf
       refine s5 CP (a_2 rfl p_7 CP.e) fun Lh CQ => ?_; clear CP Lg
       refine s5 CQ (a_3 rfl ty_3 CQ.e (A.bk 0 rfl) rfl) fun Li AJ => ?_; clear CQ Lh
       refine s5 AJ (c_6 rfl AJ.e AJ.e (by omega) (by omega)) fun Lj CR => ?_; clear AJ Li
       refine s5 CR (f_9 rfl CR.e (evc _ _) (by omega) (by omega)) fun Lk CS => ?_; clear CR Lj
       refine s5 CS (a_2 rfl n_9 CS.e) fun Ll CT => ?_; clear CS Lk
       refine s5 CT (a_2 rfl m_2 CT.e) fun Lm CU => ?_; clear CT Ll
       refine s5 CU (a_3 rfl ty_3 CU.e (A.bk 1 rfl) rfl) fun Ln AK => ?_; clear CU Lm
       refine s5 AK (j_3 rfl AK.e AK.e) fun Lo AL => ?_; clear AK Ln
       refine s1 AL (a_6 rfl AL.e AL.e) fun Lp CV => ?_; clear AL Lo
       refine s1 CV (a_1 rfl CV.e) fun N6 FJ => ?_; clear CV Lp
       refine n1 (c_3 (a_9 FJ (.inl rfl) (a_4 FJ rfl (.tmp rfl)) ?_))
       exact ⟨congrArg Value.bool (by unfold i_1; (try unfold hasB); rcases Bool.eq_false_or_eq_true d.turn with ht_ | ht_ <;> (rw [ht_]; first | (rw [Bool.eq_iff_iff]; (try simp only [Bool.true_and, Bool.false_and, Bool.and_true, Bool.and_false, Bool.false_or, Bool.true_or, Bool.or_false, Bool.or_true, true_and, and_true, false_and, and_false, false_or, or_false, true_or, or_true, Bool.and_eq_true, Bool.or_eq_true, Bool.not_eq_true', decide_eq_true_eq, decide_eq_false_iff_not, Bool.false_eq_true, Bool.true_eq_false, Bool.not_true, Bool.not_false, eq_self_iff_true, true_iff, false_iff, iff_true, iff_false, not_true, not_false_eq_true]); omega) | exact absurd (ht_.symm.trans (show d.turn = true by assumption)) (by decide) | exact absurd (ht_.symm.trans (show d.turn = false by assumption)) (by decide))), A.ext⟩
      skip
      rw [decide_eq_false Gg] at O
      refine s3 O fun Lq FK => ?_; clear O Gu
      refine s3 FK fun Lr FL => ?_; clear FK Lq
      refine s3 FL fun Ls FM => ?_; clear FL Lr
      refine s3 FM fun Lt FN => ?_; clear FM Ls
      refine s3 FN fun Lu FO => ?_; clear FN Lt
      refine s3 FO fun Lv FP => ?_; clear FO Lu
      refine s3 FP fun Lw FQ => ?_; clear FP Lv
      refine s3 FQ fun Lx FSa => ?_; clear FQ Lw
      refine s3 FSa fun Ly FT => ?_; clear FSa Lx
      refine s3 FT fun Lz CW => ?_; clear FT Ly
      refine s1 CW (a_8 rfl CW.e (evc _ _)) fun L0 CX => ?_; clear CW Lz
      refine s1 CX (a_1 rfl CX.e) fun N7 FU => ?_; clear CX L0
      refine n1 (c_3 (a_9 FU (.inl rfl) (a_4 FU rfl (.tmp rfl)) ?_))
      exact ⟨congrArg Value.bool (by unfold i_1; (try unfold hasB); rcases Bool.eq_false_or_eq_true d.turn with ht_ | ht_ <;> (rw [ht_]; first | (rw [Bool.eq_iff_iff]; (try simp only [Bool.true_and, Bool.false_and, Bool.and_true, Bool.and_false, Bool.false_or, Bool.true_or, Bool.or_false, Bool.or_true, true_and, and_true, false_and, and_false, false_or, or_false, true_or, or_true, Bool.and_eq_true, Bool.or_eq_true, Bool.not_eq_true', decide_eq_true_eq, decide_eq_false_iff_not, Bool.false_eq_true, Bool.true_eq_false, Bool.not_true, Bool.not_false, eq_self_iff_true, true_iff, false_iff, iff_true, iff_false, not_true, not_false_eq_true]); omega) | exact absurd (ht_.symm.trans (show d.turn = true by assumption)) (by decide) | exact absurd (ht_.symm.trans (show d.turn = false by assumption)) (by decide))), A.ext⟩
     skip
     rw [decide_eq_false Gf] at N
     refine s3 N fun L1 FV => ?_; clear N Gt
     refine s3 FV fun L2 FW => ?_; clear FV L1
     refine s3 FW fun L3 FX => ?_; clear FW L2
     refine s3 FX fun L4 FY => ?_; clear FX L3
     refine s3 FY fun L5 FZ => ?_; clear FY L4
     refine s3 FZ fun L6 CY => ?_; clear FZ L5
     refine s1 CY (a_8 rfl CY.e (evc _ _)) fun L7 CZ => ?_; clear CY L6
     refine s1 CZ (a_0 rfl CZ.e) fun L8 Fa => ?_; clear CZ L7
     refine s3 Fa fun L9 Fb => ?_; clear Fa L8
     refine s3 Fb fun MA Fc => ?_; clear Fb L9
     refine s3 Fc fun MB Fd => ?_; clear Fc MA
     refine s3 Fd fun MC Fe => ?_; clear Fd MB
     refine s3 Fe fun MD Ff => ?_; clear Fe MC
     refine s3 Ff fun ME Fg => ?_; clear Ff MD
     refine s3 Fg fun MF Fh => ?_; clear Fg ME
     refine s3 Fh fun MG Fi => ?_; clear Fh MF
     refine s3 Fi fun MH Fj => ?_; clear Fi MG
     refine s3 Fj fun MI Ca => ?_; clear Fj MH
     refine s1 Ca (a_8 rfl Ca.e (evc _ _)) fun MJ Cb => ?_; clear Ca MI
     refine s1 Cb (a_1 rfl Cb.e) fun N8 Fk => ?_; clear Cb MJ
     refine n1 (c_3 (a_9 Fk (.inl rfl) (a_4 Fk rfl (.tmp rfl)) ?_))
     exact ⟨congrArg Value.bool (by unfold i_1; (try unfold hasB); rcases Bool.eq_false_or_eq_true d.turn with ht_ | ht_ <;> (rw [ht_]; first | (rw [Bool.eq_iff_iff]; (try simp only [Bool.true_and, Bool.false_and, Bool.and_true, Bool.and_false, Bool.false_or, Bool.true_or, Bool.or_false, Bool.or_true, true_and, and_true, false_and, and_false, false_or, or_false, true_or, or_true, Bool.and_eq_true, Bool.or_eq_true, Bool.not_eq_true', decide_eq_true_eq, decide_eq_false_iff_not, Bool.false_eq_true, Bool.true_eq_false, Bool.not_true, Bool.not_false, eq_self_iff_true, true_iff, false_iff, iff_true, iff_false, not_true, not_false_eq_true]); omega) | exact absurd (ht_.symm.trans (show d.turn = true by assumption)) (by decide) | exact absurd (ht_.symm.trans (show d.turn = false by assumption)) (by decide))), A.ext⟩
    skip
    rw [decide_eq_false Ge] at M
    refine s3 M fun MK Fl => ?_; clear M Gs
    refine s3 Fl fun ML Fm => ?_; clear Fl MK
    refine s3 Fm fun MM Fn => ?_; clear Fm ML
    refine s3 Fn fun MN Fo => ?_; clear Fn MM
    refine s3 Fo fun MO Fp => ?_; clear Fo MN
    refine s3 Fp fun MP Fq => ?_; clear Fp MO
    refine s3 Fq fun MQ Fs => ?_; clear Fq MP
    refine s3 Fs fun MR Ft => ?_; clear Fs MQ
    refine s3 Ft fun MS Fu => ?_; clear Ft MR
    refine s3 Fu fun MT Cc => ?_; clear Fu MS
    refine s1 Cc (a_8 rfl Cc.e (evc _ _)) fun MU Cd => ?_; clear Cc MT
    refine s1 Cd (a_0 rfl Cd.e) fun MV Fv => ?_; clear Cd MU
    refine s3 Fv fun MW Fw => ?_; clear Fv MV
    refine s3 Fw fun MX Fx => ?_; clear Fw MW
    refine s3 Fx fun MY Fy => ?_; clear Fx MX
    refine s3 Fy fun MZ Fz => ?_; clear Fy MY
    refine s3 Fz fun Ma F0 => ?_; clear Fz MZ
    refine s3 F0 fun Mb Ce => ?_; clear F0 Ma
    refine s1 Ce (a_8 rfl Ce.e (evc _ _)) fun Mc Cf => ?_; clear Ce Mb
    refine s1 Cf (a_0 rfl Cf.e) fun Md F1 => ?_; clear Cf Mc
    refine s3 F1 fun Me F2 => ?_; clear F1 Md
    refine s3 F2 fun Mf F3 => ?_; clear F2 Me
    refine s3 F3 fun Mg F4 => ?_; clear F3 Mf
    refine s3 F4 fun Mh F5 => ?_; clear F4 Mg
    refine s3 F5 fun Mi F6 => ?_; clear F5 Mh
    refine s3 F6 fun Mj F7 => ?_; clear F6 Mi
    refine s3 F7 fun Mk F8 => ?_; clear F7 Mj
    refine s3 F8 fun Ml F9 => ?_; clear F8 Mk
    refine s3 F9 fun Mm GA => ?_; clear F9 Ml
    refine s3 GA fun Mn Cg => ?_; clear GA Mm
    refine s1 Cg (a_8 rfl Cg.e (evc _ _)) fun Mo Ch => ?_; clear Cg Mn
    refine s1 Ch (a_1 rfl Ch.e) fun N9 GB => ?_; clear Ch Mo
    refine n1 (c_3 (a_9 GB (.inl rfl) (a_4 GB rfl (.tmp rfl)) ?_))
    exact ⟨congrArg Value.bool (by unfold i_1; (try unfold hasB); rcases Bool.eq_false_or_eq_true d.turn with ht_ | ht_ <;> (rw [ht_]; first | (rw [Bool.eq_iff_iff]; (try simp only [Bool.true_and, Bool.false_and, Bool.and_true, Bool.and_false, Bool.false_or, Bool.true_or, Bool.or_false, Bool.or_true, true_and, and_true, false_and, and_false, false_or, or_false, true_or, or_true, Bool.and_eq_true, Bool.or_eq_true, Bool.not_eq_true', decide_eq_true_eq, decide_eq_false_iff_not, Bool.false_eq_true, Bool.true_eq_false, Bool.not_true, Bool.not_false, eq_self_iff_true, true_iff, false_iff, iff_true, iff_false, not_true, not_false_eq_true]); omega) | exact absurd (ht_.symm.trans (show d.turn = true by assumption)) (by decide) | exact absurd (ht_.symm.trans (show d.turn = false by assumption)) (by decide))), A.ext⟩
   skip
   rw [decide_eq_false Gd] at C
   refine c_1 C rfl (b_6 ?_)
   have GC := C.as [] rfl; clear C
   refine a_5 (s1 GC (a_1 rfl (evc _ _)) fun OA GD => ?_); clear GC Gr
   refine n1 (c_3 (b_1 (a_9 GD (.inl rfl) (a_4 GD rfl (.tmp rfl)) ?_)))
   exact ⟨congrArg Value.bool (by unfold i_1; (try unfold hasB); rcases Bool.eq_false_or_eq_true d.turn with ht_ | ht_ <;> (rw [ht_]; first | (rw [Bool.eq_iff_iff]; (try simp only [Bool.true_and, Bool.false_and, Bool.and_true, Bool.and_false, Bool.false_or, Bool.true_or, Bool.or_false, Bool.or_true, true_and, and_true, false_and, and_false, false_or, or_false, true_or, or_true, Bool.and_eq_true, Bool.or_eq_true, Bool.not_eq_true', decide_eq_true_eq, decide_eq_false_iff_not, Bool.false_eq_true, Bool.true_eq_false, Bool.not_true, Bool.not_false, eq_self_iff_true, true_iff, false_iff, iff_true, iff_false, not_true, not_false_eq_true]); omega) | exact absurd (ht_.symm.trans (show d.turn = true by assumption)) (by decide) | exact absurd (ht_.symm.trans (show d.turn = false by assumption)) (by decide))), A.ext⟩
  skip
  rw [decide_eq_false Gc] at L
  refine s3 L fun Mp GE => ?_; clear L Gq
  refine s3 GE fun Mq GF => ?_; clear GE Mp
  refine s3 GF fun Mr GG => ?_; clear GF Mq
  refine s3 GG fun Ms GH => ?_; clear GG Mr
  refine s3 GH fun Mt Ci => ?_; clear GH Ms
  refine s5 Ci (a_8 rfl Ci.e (evc _ _)) fun Mu Cj => ?_; clear Ci Mt
  refine s5 Cj (e_4 rfl Cj.e) fun Mv AM => ?_; clear Cj Mu
  refine s1 AM (a_6 rfl AM.e AM.e) fun Mw Ck => ?_; clear AM Mv
  refine n1 (c_1 Ck rfl (b_6 ?_))
  have GI := Ck.as [] rfl; clear Ck
  refine a_5 (s1 GI (a_1 rfl (evc _ _)) fun OB GJ => ?_); clear GI Mw
  refine n1 (c_3 (b_1 (a_9 GJ (.inl rfl) (a_4 GJ rfl (.tmp rfl)) ?_)))
  exact ⟨congrArg Value.bool (by unfold i_1; (try unfold hasB); rcases Bool.eq_false_or_eq_true d.turn with ht_ | ht_ <;> (rw [ht_]; first | (rw [Bool.eq_iff_iff]; (try simp only [Bool.true_and, Bool.false_and, Bool.and_true, Bool.and_false, Bool.false_or, Bool.true_or, Bool.or_false, Bool.or_true, true_and, and_true, false_and, and_false, false_or, or_false, true_or, or_true, Bool.and_eq_true, Bool.or_eq_true, Bool.not_eq_true', decide_eq_true_eq, decide_eq_false_iff_not, Bool.false_eq_true, Bool.true_eq_false, Bool.not_true, Bool.not_false, eq_self_iff_true, true_iff, false_iff, iff_true, iff_false, not_true, not_false_eq_true]); omega) | exact absurd (ht_.symm.trans (show d.turn = true by assumption)) (by decide) | exact absurd (ht_.symm.trans (show d.turn = false by assumption)) (by decide))), A.ext⟩
 skip
 rw [Cs] at K
 refine s3 K fun Mx GK => ?_; clear K Gp
 refine s3 GK fun My GL => ?_; clear GK Mx
 refine s3 GL fun Mz GM => ?_; clear GL My
 refine s3 GM fun M0 GN => ?_; clear GM Mz
 refine s3 GN fun M1 Cl => ?_; clear GN M0
 refine s5 Cl (a_8 rfl Cl.e (evc _ _)) fun M2 Cn => ?_; clear Cl M1
 refine s5 Cn (a_0 rfl Cn.e) fun M3 GO => ?_; clear Cn M2
 refine s3 GO fun M4 GP => ?_; clear GO M3
 refine s3 GP fun M5 GQ => ?_; clear GP M4
 refine s3 GQ fun M6 GR => ?_; clear GQ M5
 refine s3 GR fun M7 GS => ?_; clear GR M6
 refine s3 GS fun M8 Co => ?_; clear GS M7
 refine s5 Co (a_8 rfl Co.e (evc _ _)) fun M9 Cp => ?_; clear Co M8
 refine s5 Cp (e_4 rfl Cp.e) fun NA AN => ?_; clear Cp M9
 refine s1 AN (a_6 rfl AN.e AN.e) fun NB Cq => ?_; clear AN NA
 refine n1 (c_1 Cq rfl (b_6 ?_))
 have GT := Cq.as [] rfl; clear Cq
 refine a_5 (s1 GT (a_1 rfl (evc _ _)) fun OC GU => ?_); clear GT NB
 refine n1 (c_3 (b_1 (a_9 GU (.inl rfl) (a_4 GU rfl (.tmp rfl)) ?_)))
 exact ⟨congrArg Value.bool (by unfold i_1; (try unfold hasB); rcases Bool.eq_false_or_eq_true d.turn with ht_ | ht_ <;> (rw [ht_]; first | (rw [Bool.eq_iff_iff]; (try simp only [Bool.true_and, Bool.false_and, Bool.and_true, Bool.and_false, Bool.false_or, Bool.true_or, Bool.or_false, Bool.or_true, true_and, and_true, false_and, and_false, false_or, or_false, true_or, or_true, Bool.and_eq_true, Bool.or_eq_true, Bool.not_eq_true', decide_eq_true_eq, decide_eq_false_iff_not, Bool.false_eq_true, Bool.true_eq_false, Bool.not_true, Bool.not_false, eq_self_iff_true, true_iff, false_iff, iff_true, iff_false, not_true, not_false_eq_true]); omega) | exact absurd (ht_.symm.trans (show d.turn = true by assumption)) (by decide) | exact absurd (ht_.symm.trans (show d.turn = false by assumption)) (by decide))), A.ext⟩
theorem has_ok (lo hi fr many : Int) (hb : (0 ≤ fr ∧ fr ≤ 8) ∧ 0 ≤ many ∧ many ≤ 8) (w : World) :
  Calls Try.prog 47 #[(Value.agg #[(iv lo), (iv hi)]), (iv fr), (iv many)] w (Ret fun v w' => v = .bool (hasB lo hi fr many) ∧ Ext NoB w w') := by
 refine b_2 Try.func47 rfl fun f F => ?_
 replace F : Fr 20 [] [(0, (Value.agg #[(iv lo), (iv hi)])), (1, (iv fr)), (2, (iv many))] f := F
 have d : Sep NoB w w [] := Sep.start _ _
 refine m2 (s2 F (e_5 d rfl F.e (cs := [(iv lo), (iv hi)]) rfl) ?_)
 rintro a1 _ w3 ⟨b4, rfl, P⟩ c; clear F d f
 refine s1 c (a_1 rfl (evc _ _)) fun a6 Y => ?_; clear c a1
 refine n4 (s1 Y (a_2 rfl fd_55_0 Y.e) fun a8 Z => ?_); clear Y a6
 refine s1 Z (a_3 rfl ty_3 Z.e (P.bk 0 rfl) rfl) fun g G => ?_; clear Z a8
 refine s1 G (a_0 rfl G.e) fun h B => ?_; clear G g
 refine s1 B (j_3 rfl B.e B.e) fun i H => ?_; clear B h
 refine s1 H (a_0 rfl H.e) fun b A => ?_; clear H i
 by_cases a : lo ≤ fr
 ·skip
  rw [decide_eq_true a] at A
  refine s5 A (a_0 rfl A.e) fun j I => ?_; clear A b
  refine s5 I (a_0 rfl I.e) fun k C => ?_; clear I j
  refine s5 C (c_6 rfl C.e C.e (by omega) (by omega)) fun l J => ?_; clear C k
  refine s5 J (f_9 rfl J.e (evc _ _) (by omega) (by omega)) fun m K => ?_; clear J l
  refine s5 K (a_2 rfl fd_55_1 K.e) fun n L => ?_; clear K m
  refine s5 L (a_3 rfl ty_3 L.e (P.bk 0 rfl) rfl) fun o D => ?_; clear L n
  refine s5 D (j_3 rfl D.e D.e) fun p E => ?_; clear D o
  refine s1 E (a_6 rfl E.e E.e) fun q M => ?_; clear E p
  refine s1 M (a_1 rfl M.e) fun AE Q => ?_; clear M q
  refine n1 (c_3 (a_9 Q (.inl rfl) (a_4 Q rfl (.tmp rfl)) ?_))
  exact ⟨congrArg Value.bool (by unfold hasB; simp [*]), P.ext⟩
 skip
 rw [decide_eq_false a] at A
 refine s3 A fun r R => ?_; clear A b
 refine s3 R fun s S => ?_; clear R r
 refine s3 S fun t T => ?_; clear S s
 refine s3 T fun u U => ?_; clear T t
 refine s3 U fun x V => ?_; clear U u
 refine s3 V fun y W => ?_; clear V x
 refine s3 W fun z N => ?_; clear W y
 refine s1 N (a_8 rfl N.e (evc _ _)) fun AA O => ?_; clear N z
 refine s1 O (a_1 rfl O.e) fun AF X => ?_; clear O AA
 refine n1 (c_3 (a_9 X (.inl rfl) (a_4 X rfl (.tmp rfl)) ?_))
 exact ⟨congrArg Value.bool (by unfold hasB; simp [*]), P.ext⟩
theorem pfits_ok (d : p_1) (q : Quad) (hq : n_7 q) (w : World) :
  Calls Try.prog 36 #[(Value.agg #[(iv d.w), (iv d.l), (Value.bool d.turn), (iv d.worth), (iv d.xl), (iv d.xh), (iv d.yl), (iv d.yh)]), (Value.agg #[(iv q.x), (iv q.y), (iv q.w), (iv q.l)])] w (Ret fun v w' => v = .bool (i_1 d q) ∧ Ext NoB w w') := by
 refine b_2 Try.func36 rfl fun a0 Bz => ?_
 replace Bz : Fr 55 [] [(0, (Value.agg #[(iv d.w), (iv d.l), (Value.bool d.turn), (iv d.worth), (iv d.xl), (iv d.xh), (iv d.yl), (iv d.yh)])), (1, (Value.agg #[(iv q.x), (iv q.y), (iv q.w), (iv q.l)]))] a0 := Bz
 have hqx := hq.x; have hqy := hq.y; have hqw := hq.w; have hql := hq.l
 have FSa : Sep NoB w w [] := Sep.start _ _
 refine m2 (s2 Bz (e_5 FSa rfl Bz.e (cs := [(iv d.w), (iv d.l), (Value.bool d.turn), (iv d.worth), (iv d.xl), (iv d.xh), (iv d.yl), (iv d.yh)]) rfl) ?_)
 rintro a1 _ w3 ⟨b4, rfl, FT⟩ E1; clear Bz FSa a0
 refine s2 E1 (e_5 FT rfl E1.e (cs := [(iv q.x), (iv q.y), (iv q.w), (iv q.l)]) rfl) ?_
 rintro a6 _ w8 ⟨b9, rfl, A⟩ FQ; clear E1 FT a1
 refine s1 FQ (a_1 rfl (evc _ _)) fun Jj B2 => ?_; clear FQ a6
 refine n4 (s1 B2 (a_2 rfl o_6 B2.e) fun Jk B3 => ?_); clear B2 Jj
 refine s1 B3 (a_3 rfl ty_3 B3.e (A.bk 0 rfl) rfl) fun Jl B4 => ?_; clear B3 Jk
 refine s1 B4 (a_2 rfl fd_57_0 B4.e) fun Jm B5 => ?_; clear B4 Jl
 refine s1 B5 (a_3 rfl ty_3 B5.e (A.bk 1 rfl) rfl) fun Jn AZ => ?_; clear B5 Jm
 refine s1 AZ (f_5 rfl AZ.e AZ.e) fun Jo B6 => ?_; clear AZ Jn
 refine s1 B6 (a_0 rfl B6.e) fun FO M => ?_; clear B6 Jo
 by_cases FJ : q.w = d.w
 ·skip
  rw [decide_eq_true FJ] at M
  refine s5 M (a_2 rfl o_7 M.e) fun Jp B7 => ?_; clear M FO
  refine s5 B7 (a_3 rfl ty_3 B7.e (A.bk 0 rfl) rfl) fun Jq B8 => ?_; clear B7 Jp
  refine s5 B8 (a_2 rfl fd_57_1 B8.e) fun Jr B9 => ?_; clear B8 Jq
  refine s5 B9 (a_3 rfl ty_3 B9.e (A.bk 1 rfl) rfl) fun Js At => ?_; clear B9 Jr
  refine s5 At (f_5 rfl At.e At.e) fun Jt Aw => ?_; clear At Js
  refine s1 Aw (a_6 rfl Aw.e Aw.e) fun Ju CA => ?_; clear Aw Jt
  refine s1 CA (a_0 rfl CA.e) fun FP N => ?_; clear CA Ju
  by_cases FK : q.l = d.l
  ·skip
   rw [decide_eq_true FK] at N
   refine s3 N fun Jv E2 => ?_; clear N FP
   refine s3 E2 fun Jw E3 => ?_; clear E2 Jv
   refine s3 E3 fun Jx E4 => ?_; clear E3 Jw
   refine s4 E4 fun Jy E5 => ?_; clear E4 Jx
   refine s4 E5 fun Jz E6 => ?_; clear E5 Jy
   refine s4 E6 fun J0 E7 => ?_; clear E6 Jz
   refine s4 E7 fun J1 E8 => ?_; clear E7 J0
   refine s4 E8 fun J2 E9 => ?_; clear E8 J1
   refine s3 E9 fun J3 FA => ?_; clear E9 J2
   refine s3 FA fun J4 FB => ?_; clear FA J3
   refine s4 FB fun J5 FC => ?_; clear FB J4
   refine s4 FC fun J6 FD => ?_; clear FC J5
   refine s4 FD fun J7 FE => ?_; clear FD J6
   refine s4 FE fun J8 FF => ?_; clear FE J7
   refine s4 FF fun J9 FG => ?_; clear FF J8
   refine s3 FG fun KA CB => ?_; clear FG J9
   refine s1 CB (a_6 rfl CB.e (evc _ _)) fun KB CC => ?_; clear CB KA
   refine s1 CC (a_1 rfl CC.e) fun KC FH => ?_; clear CC KB
   refine n2 ?_
   have CD := FH.as [(5, (Value.bool true)), (3, (bptr b9 0)), (2, (bptr b4 0))] rfl; clear FH
   refine a_5 (s1 CD (a_0 rfl CD.e) fun KD CE => ?_); clear CD KC
   refine s1 CE (a_0 rfl CE.e) fun KE CF => ?_; clear CE KD
   refine s5 CF (a_2 rfl fd_57_4 CF.e) fun KF CG => ?_; clear CF KE
   refine s5 CG (c_2 rfl ty_55 (CG.ev rfl) (A.bk 1 rfl) (l := [(iv d.xl), (iv d.xh)]) rfl rfl) fun KG CH => ?_; clear CG KF
   refine s5 CH (a_2 rfl fd_88_0 CH.e) fun KH CI => ?_; clear CH KG
   refine s5 CI (a_3 rfl ty_3 CI.e (A.bk 0 rfl) rfl) fun KI CJ => ?_; clear CI KH
   refine s5 CJ (a_2 rfl o_6 CJ.e) fun KJ CK => ?_; clear CJ KI
   refine s5 CK (a_3 rfl ty_3 CK.e (A.bk 0 rfl) rfl) fun KK u => ?_; clear CK KJ
   refine s6 u (b_5 rfl en_47 (ev3 u.e u.e u.e) (has_ok _ _ _ _ (by omega) _)) ?_
   rintro KL _ Kg ⟨rfl, FI⟩ Bw; have W := A.step FI; clear FI u A KK
   refine s1 Bw (a_6 rfl Bw.e Bw.e) fun KM z => ?_; clear Bw KL
   refine s1 z (a_0 rfl z.e) fun Es B => ?_; clear z KM
   rcases Bool.eq_false_or_eq_true ((hasB d.xl d.xh q.x q.w)) with T | T
   ·skip
    rw [T] at B
    have hh104 := T; unfold hasB at hh104; simp only [Bool.and_eq_true, Bool.and_eq_false_iff, decide_eq_true_eq, decide_eq_false_iff_not] at hh104
    refine s5 B (a_2 rfl fd_57_5 B.e) fun FU AA => ?_; clear B Es
    refine s5 AA (c_2 rfl ty_55 (AA.ev rfl) (W.bk 1 rfl) (l := [(iv d.yl), (iv d.yh)]) rfl rfl) fun FV AB => ?_; clear AA FU
    refine s5 AB (a_2 rfl fd_88_1 AB.e) fun FW AC => ?_; clear AB FV
    refine s5 AC (a_3 rfl ty_3 AC.e (W.bk 0 rfl) rfl) fun FX AD => ?_; clear AC FW
    refine s5 AD (a_2 rfl o_7 AD.e) fun FY AE => ?_; clear AD FX
    refine s5 AE (a_3 rfl ty_3 AE.e (W.bk 0 rfl) rfl) fun FZ O => ?_; clear AE FY
    refine s6 O (b_5 rfl en_47 (ev3 O.e O.e O.e) (has_ok _ _ _ _ (by omega) _)) ?_
    rintro Fa _ Kb ⟨rfl, Ej⟩ X; have FL := W.step Ej; clear Ej O W FZ
    refine s1 X (a_6 rfl X.e X.e) fun Fb AF => ?_; clear X Fa
    refine s1 AF (a_1 rfl AF.e) fun KO CL => ?_; clear AF Fb
    refine n1 (c_3 (a_9 CL (.inl rfl) (a_4 CL rfl (.tmp rfl)) ?_))
    exact ⟨congrArg Value.bool (by unfold i_1; (try unfold hasB); rcases Bool.eq_false_or_eq_true d.turn with ht_ | ht_ <;> (rw [ht_]; first | (rw [Bool.eq_iff_iff]; (try simp only [Bool.true_and, Bool.false_and, Bool.and_true, Bool.and_false, Bool.false_or, Bool.true_or, Bool.or_false, Bool.or_true, true_and, and_true, false_and, and_false, false_or, or_false, true_or, or_true, Bool.and_eq_true, Bool.or_eq_true, Bool.not_eq_true', decide_eq_true_eq, decide_eq_false_iff_not, Bool.false_eq_true, Bool.true_eq_false, Bool.not_true, Bool.not_false, eq_self_iff_true, true_iff, false_iff, iff_true, iff_false, not_true, not_false_eq_true]); omega) | exact absurd (ht_.symm.trans (show d.turn = true by assumption)) (by decide) | exact absurd (ht_.symm.trans (show d.turn = false by assumption)) (by decide))), FL.ext⟩
   skip
   rw [T] at B
   have hh126 := T; unfold hasB at hh126; simp only [Bool.and_eq_true, Bool.and_eq_false_iff, decide_eq_true_eq, decide_eq_false_iff_not] at hh126
   refine s3 B fun Fc CM => ?_; clear B Es
   refine s3 CM fun Fd CN => ?_; clear CM Fc
   refine s3 CN fun Fe CO => ?_; clear CN Fd
   refine s3 CO fun Ff CP => ?_; clear CO Fe
   refine s3 CP fun Fg CQ => ?_; clear CP Ff
   refine s3 CQ fun Fh CR => ?_; clear CQ Fg
   refine s3 CR fun Fi AG => ?_; clear CR Fh
   refine s1 AG (a_8 rfl AG.e (evc _ _)) fun Fj AH => ?_; clear AG Fi
   refine s1 AH (a_1 rfl AH.e) fun KP CS => ?_; clear AH Fj
   refine n1 (c_3 (a_9 CS (.inl rfl) (a_4 CS rfl (.tmp rfl)) ?_))
   exact ⟨congrArg Value.bool (by unfold i_1; (try unfold hasB); rcases Bool.eq_false_or_eq_true d.turn with ht_ | ht_ <;> (rw [ht_]; first | (rw [Bool.eq_iff_iff]; (try simp only [Bool.true_and, Bool.false_and, Bool.and_true, Bool.and_false, Bool.false_or, Bool.true_or, Bool.or_false, Bool.or_true, true_and, and_true, false_and, and_false, false_or, or_false, true_or, or_true, Bool.and_eq_true, Bool.or_eq_true, Bool.not_eq_true', decide_eq_true_eq, decide_eq_false_iff_not, Bool.false_eq_true, Bool.true_eq_false, Bool.not_true, Bool.not_false, eq_self_iff_true, true_iff, false_iff, iff_true, iff_false, not_true, not_false_eq_true]); omega) | exact absurd (ht_.symm.trans (show d.turn = true by assumption)) (by decide) | exact absurd (ht_.symm.trans (show d.turn = false by assumption)) (by decide))), W.ext⟩
  skip
  rw [decide_eq_false FK] at N
  refine s5 N (a_2 rfl fd_57_2 N.e) fun Fk AI => ?_; clear N FP
  refine s5 AI (a_3 rfl ty_4 AI.e (A.bk 1 rfl) rfl) fun Fl AJ => ?_; clear AI Fk
  refine s5 AJ (a_0 rfl AJ.e) fun Et C => ?_; clear AJ Fl
  rcases Bool.eq_false_or_eq_true (d.turn) with Bx | Bx
  ·skip
   rw [Bx] at C
   refine s5 C (a_2 rfl o_6 C.e) fun Fm AK => ?_; clear C Et
   refine s5 AK (a_3 rfl ty_3 AK.e (A.bk 0 rfl) rfl) fun Fn AL => ?_; clear AK Fm
   refine s5 AL (a_2 rfl fd_57_1 AL.e) fun Fo AM => ?_; clear AL Fn
   refine s5 AM (a_3 rfl ty_3 AM.e (A.bk 1 rfl) rfl) fun Fp Y => ?_; clear AM Fo
   refine s5 Y (f_5 rfl Y.e Y.e) fun Fq Z => ?_; clear Y Fp
   refine s5 Z (a_6 rfl Z.e Z.e) fun Fs AN => ?_; clear Z Fq
   refine s5 AN (a_0 rfl AN.e) fun Eu D => ?_; clear AN Fs
   by_cases Eo : q.w = d.l
   ·skip
    rw [decide_eq_true Eo] at D
    refine s5 D (a_2 rfl o_7 D.e) fun Ft AO => ?_; clear D Eu
    refine s5 AO (a_3 rfl ty_3 AO.e (A.bk 0 rfl) rfl) fun Fu AP => ?_; clear AO Ft
    refine s5 AP (a_2 rfl fd_57_0 AP.e) fun Fv AQ => ?_; clear AP Fu
    refine s5 AQ (a_3 rfl ty_3 AQ.e (A.bk 1 rfl) rfl) fun Fw a => ?_; clear AQ Fv
    refine s5 a (f_5 rfl a.e a.e) fun Fx b => ?_; clear a Fw
    refine s5 b (a_6 rfl b.e b.e) fun Fy c => ?_; clear b Fx
    refine s1 c (a_8 rfl c.e c.e) fun Fz AR => ?_; clear c Fy
    refine s1 AR (a_1 rfl AR.e) fun F0 CT => ?_; clear AR Fz
    refine n2 ?_
    have AS := CT.as [(5, (Value.bool (decide (q.l = d.w)))), (3, (bptr b9 0)), (2, (bptr b4 0))] rfl; clear CT
    refine a_5 (s1 AS (a_0 rfl AS.e) fun F1 AT => ?_); clear AS F0
    refine s1 AT (a_0 rfl AT.e) fun Ev E => ?_; clear AT F1
    by_cases Ep : q.l = d.w
    ·skip
     rw [decide_eq_true Ep] at E
     refine s5 E (a_2 rfl fd_57_4 E.e) fun F2 AU => ?_; clear E Ev
     refine s5 AU (c_2 rfl ty_55 (AU.ev rfl) (A.bk 1 rfl) (l := [(iv d.xl), (iv d.xh)]) rfl rfl) fun F3 AV => ?_; clear AU F2
     refine s5 AV (a_2 rfl fd_88_0 AV.e) fun F4 AW => ?_; clear AV F3
     refine s5 AW (a_3 rfl ty_3 AW.e (A.bk 0 rfl) rfl) fun F5 AX => ?_; clear AW F4
     refine s5 AX (a_2 rfl o_6 AX.e) fun F6 AY => ?_; clear AX F5
     refine s5 AY (a_3 rfl ty_3 AY.e (A.bk 0 rfl) rfl) fun F7 P => ?_; clear AY F6
     refine s6 P (b_5 rfl en_47 (ev3 P.e P.e P.e) (has_ok _ _ _ _ (by omega) _)) ?_
     rintro F8 _ Kc ⟨rfl, Ek⟩ f; have K := A.step Ek; clear Ek P A F7
     refine s1 f (a_6 rfl f.e f.e) fun F9 Aa => ?_; clear f F8
     refine s1 Aa (a_0 rfl Aa.e) fun Ew F => ?_; clear Aa F9
     rcases Bool.eq_false_or_eq_true ((hasB d.xl d.xh q.x q.w)) with U | U
     ·skip
      rw [U] at F
      have hh211 := U; unfold hasB at hh211; simp only [Bool.and_eq_true, Bool.and_eq_false_iff, decide_eq_true_eq, decide_eq_false_iff_not] at hh211
      refine s5 F (a_2 rfl fd_57_5 F.e) fun GA Ab => ?_; clear F Ew
      refine s5 Ab (c_2 rfl ty_55 (Ab.ev rfl) (K.bk 1 rfl) (l := [(iv d.yl), (iv d.yh)]) rfl rfl) fun GB Ac => ?_; clear Ab GA
      refine s5 Ac (a_2 rfl fd_88_1 Ac.e) fun GC Ad => ?_; clear Ac GB
      refine s5 Ad (a_3 rfl ty_3 Ad.e (K.bk 0 rfl) rfl) fun GD Ae => ?_; clear Ad GC
      refine s5 Ae (a_2 rfl o_7 Ae.e) fun GE Af => ?_; clear Ae GD
      refine s5 Af (a_3 rfl ty_3 Af.e (K.bk 0 rfl) rfl) fun GF Q => ?_; clear Af GE
      refine s6 Q (b_5 rfl en_47 (ev3 Q.e Q.e Q.e) (has_ok _ _ _ _ (by omega) _)) ?_
      rintro GG _ Kd ⟨rfl, El⟩ g; have FM := K.step El; clear El Q K GF
      refine s1 g (a_6 rfl g.e g.e) fun GH Ag => ?_; clear g GG
      refine s1 Ag (a_1 rfl Ag.e) fun KQ CU => ?_; clear Ag GH
      refine n1 (c_3 (a_9 CU (.inl rfl) (a_4 CU rfl (.tmp rfl)) ?_))
      exact ⟨congrArg Value.bool (by unfold i_1; (try unfold hasB); rcases Bool.eq_false_or_eq_true d.turn with ht_ | ht_ <;> (rw [ht_]; first | (rw [Bool.eq_iff_iff]; (try simp only [Bool.true_and, Bool.false_and, Bool.and_true, Bool.and_false, Bool.false_or, Bool.true_or, Bool.or_false, Bool.or_true, true_and, and_true, false_and, and_false, false_or, or_false, true_or, or_true, Bool.and_eq_true, Bool.or_eq_true, Bool.not_eq_true', decide_eq_true_eq, decide_eq_false_iff_not, Bool.false_eq_true, Bool.true_eq_false, Bool.not_true, Bool.not_false, eq_self_iff_true, true_iff, false_iff, iff_true, iff_false, not_true, not_false_eq_true]); omega) | exact absurd (ht_.symm.trans (show d.turn = true by assumption)) (by decide) | exact absurd (ht_.symm.trans (show d.turn = false by assumption)) (by decide))), FM.ext⟩
     skip
     rw [U] at F
     have hh233 := U; unfold hasB at hh233; simp only [Bool.and_eq_true, Bool.and_eq_false_iff, decide_eq_true_eq, decide_eq_false_iff_not] at hh233
     refine s3 F fun GI CV => ?_; clear F Ew
     refine s3 CV fun GJ CW => ?_; clear CV GI
     refine s3 CW fun GK CX => ?_; clear CW GJ
     refine s3 CX fun GL CY => ?_; clear CX GK
     refine s3 CY fun GM CZ => ?_; clear CY GL
     refine s3 CZ fun GN Ca => ?_; clear CZ GM
     refine s3 Ca fun GO Ah => ?_; clear Ca GN
     refine s1 Ah (a_8 rfl Ah.e (evc _ _)) fun GP Ai => ?_; clear Ah GO
     refine s1 Ai (a_1 rfl Ai.e) fun KR Cb => ?_; clear Ai GP
     refine n1 (c_3 (a_9 Cb (.inl rfl) (a_4 Cb rfl (.tmp rfl)) ?_))
     exact ⟨congrArg Value.bool (by unfold i_1; (try unfold hasB); rcases Bool.eq_false_or_eq_true d.turn with ht_ | ht_ <;> (rw [ht_]; first | (rw [Bool.eq_iff_iff]; (try simp only [Bool.true_and, Bool.false_and, Bool.and_true, Bool.and_false, Bool.false_or, Bool.true_or, Bool.or_false, Bool.or_true, true_and, and_true, false_and, and_false, false_or, or_false, true_or, or_true, Bool.and_eq_true, Bool.or_eq_true, Bool.not_eq_true', decide_eq_true_eq, decide_eq_false_iff_not, Bool.false_eq_true, Bool.true_eq_false, Bool.not_true, Bool.not_false, eq_self_iff_true, true_iff, false_iff, iff_true, iff_false, not_true, not_false_eq_true]); omega) | exact absurd (ht_.symm.trans (show d.turn = true by assumption)) (by decide) | exact absurd (ht_.symm.trans (show d.turn = false by assumption)) (by decide))), K.ext⟩
    skip
    rw [decide_eq_false Ep] at E
    refine s3 E fun GQ Cc => ?_; clear E Ev
    refine s3 Cc fun GR Cd => ?_; clear Cc GQ
    refine s3 Cd fun GS Ce => ?_; clear Cd GR
    refine s3 Ce fun GT Cf => ?_; clear Ce GS
    refine s3 Cf fun GU Cg => ?_; clear Cf GT
    refine s3 Cg fun GV Ch => ?_; clear Cg GU
    refine s3 Ch fun GW Aj => ?_; clear Ch GV
    refine s1 Aj (a_8 rfl Aj.e (evc _ _)) fun GX Ak => ?_; clear Aj GW
    refine s1 Ak (a_0 rfl Ak.e) fun GY Ci => ?_; clear Ak GX
    refine s3 Ci fun GZ Cj => ?_; clear Ci GY
    refine s3 Cj fun Ga Ck => ?_; clear Cj GZ
    refine s3 Ck fun Gb Cl => ?_; clear Ck Ga
    refine s3 Cl fun Gc Cm => ?_; clear Cl Gb
    refine s3 Cm fun Gd Cn => ?_; clear Cm Gc
    refine s3 Cn fun Ge Co => ?_; clear Cn Gd
    refine s3 Co fun Gf Al => ?_; clear Co Ge
    refine s1 Al (a_8 rfl Al.e (evc _ _)) fun Gg Am => ?_; clear Al Gf
    refine s1 Am (a_1 rfl Am.e) fun KS Cp => ?_; clear Am Gg
    refine n1 (c_3 (a_9 Cp (.inl rfl) (a_4 Cp rfl (.tmp rfl)) ?_))
    exact ⟨congrArg Value.bool (by unfold i_1; (try unfold hasB); rcases Bool.eq_false_or_eq_true d.turn with ht_ | ht_ <;> (rw [ht_]; first | (rw [Bool.eq_iff_iff]; (try simp only [Bool.true_and, Bool.false_and, Bool.and_true, Bool.and_false, Bool.false_or, Bool.true_or, Bool.or_false, Bool.or_true, true_and, and_true, false_and, and_false, false_or, or_false, true_or, or_true, Bool.and_eq_true, Bool.or_eq_true, Bool.not_eq_true', decide_eq_true_eq, decide_eq_false_iff_not, Bool.false_eq_true, Bool.true_eq_false, Bool.not_true, Bool.not_false, eq_self_iff_true, true_iff, false_iff, iff_true, iff_false, not_true, not_false_eq_true]); omega) | exact absurd (ht_.symm.trans (show d.turn = true by assumption)) (by decide) | exact absurd (ht_.symm.trans (show d.turn = false by assumption)) (by decide))), A.ext⟩
   skip
   rw [decide_eq_false Eo] at D
   refine s3 D fun Gh Cq => ?_; clear D Eu
   refine s3 Cq fun Gi Cr => ?_; clear Cq Gh
   refine s3 Cr fun Gj Cs => ?_; clear Cr Gi
   refine s3 Cs fun Gk Ct => ?_; clear Cs Gj
   refine s3 Ct fun Gl An => ?_; clear Ct Gk
   refine s5 An (a_8 rfl An.e (evc _ _)) fun Gm h => ?_; clear An Gl
   refine s1 h (a_8 rfl h.e h.e) fun Gn Ao => ?_; clear h Gm
   refine s1 Ao (a_1 rfl Ao.e) fun Go Cu => ?_; clear Ao Gn
   refine n2 ?_
   have Ap := Cu.as [(5, (Value.bool false)), (3, (bptr b9 0)), (2, (bptr b4 0))] rfl; clear Cu
   refine a_5 (s1 Ap (a_0 rfl Ap.e) fun Gp Aq => ?_); clear Ap Go
   refine s1 Aq (a_0 rfl Aq.e) fun Gq Cv => ?_; clear Aq Gp
   refine s3 Cv fun Gr Cw => ?_; clear Cv Gq
   refine s3 Cw fun Gs Cx => ?_; clear Cw Gr
   refine s3 Cx fun Gt Cy => ?_; clear Cx Gs
   refine s3 Cy fun Gu Cz => ?_; clear Cy Gt
   refine s3 Cz fun Gv C0 => ?_; clear Cz Gu
   refine s3 C0 fun Gw C1 => ?_; clear C0 Gv
   refine s3 C1 fun Gx Ar => ?_; clear C1 Gw
   refine s1 Ar (a_8 rfl Ar.e (evc _ _)) fun Gy As => ?_; clear Ar Gx
   refine s1 As (a_0 rfl As.e) fun Gz C2 => ?_; clear As Gy
   refine s3 C2 fun G0 C3 => ?_; clear C2 Gz
   refine s3 C3 fun G1 C4 => ?_; clear C3 G0
   refine s3 C4 fun G2 C5 => ?_; clear C4 G1
   refine s3 C5 fun G3 C6 => ?_; clear C5 G2
   refine s3 C6 fun G4 C7 => ?_; clear C6 G3
   refine s3 C7 fun G5 C8 => ?_; clear C7 G4
   refine s3 C8 fun G6 Au => ?_; clear C8 G5
   refine s1 Au (a_8 rfl Au.e (evc _ _)) fun G7 Av => ?_; clear Au G6
   refine s1 Av (a_1 rfl Av.e) fun KT C9 => ?_; clear Av G7
   refine n1 (c_3 (a_9 C9 (.inl rfl) (a_4 C9 rfl (.tmp rfl)) ?_))
   exact ⟨congrArg Value.bool (by unfold i_1; (try unfold hasB); rcases Bool.eq_false_or_eq_true d.turn with ht_ | ht_ <;> (rw [ht_]; first | (rw [Bool.eq_iff_iff]; (try simp only [Bool.true_and, Bool.false_and, Bool.and_true, Bool.and_false, Bool.false_or, Bool.true_or, Bool.or_false, Bool.or_true, true_and, and_true, false_and, and_false, false_or, or_false, true_or, or_true, Bool.and_eq_true, Bool.or_eq_true, Bool.not_eq_true', decide_eq_true_eq, decide_eq_false_iff_not, Bool.false_eq_true, Bool.true_eq_false, Bool.not_true, Bool.not_false, eq_self_iff_true, true_iff, false_iff, iff_true, iff_false, not_true, not_false_eq_true]); omega) | exact absurd (ht_.symm.trans (show d.turn = true by assumption)) (by decide) | exact absurd (ht_.symm.trans (show d.turn = false by assumption)) (by decide))), A.ext⟩
  skip
  rw [Bx] at C
  refine s3 C fun G8 DA => ?_; clear C Et
  refine s3 DA fun G9 DB => ?_; clear DA G8
  refine s3 DB fun HA DC => ?_; clear DB G9
  refine s3 DC fun HB DD => ?_; clear DC HA
  refine s3 DD fun HC Ax => ?_; clear DD HB
  refine s5 Ax (a_8 rfl Ax.e (evc _ _)) fun HD Ay => ?_; clear Ax HC
  refine s5 Ay (a_0 rfl Ay.e) fun HE DE => ?_; clear Ay HD
  refine s3 DE fun HF DF => ?_; clear DE HE
  refine s3 DF fun HG DG => ?_; clear DF HF
  refine s3 DG fun HH DH => ?_; clear DG HG
  refine s3 DH fun HI DI => ?_; clear DH HH
  refine s3 DI fun HJ Az => ?_; clear DI HI
  refine s5 Az (a_8 rfl Az.e (evc _ _)) fun HK i => ?_; clear Az HJ
  refine s1 i (a_8 rfl i.e i.e) fun HL A0 => ?_; clear i HK
  refine s1 A0 (a_1 rfl A0.e) fun HM DJ => ?_; clear A0 HL
  refine n2 ?_
  have A1 := DJ.as [(5, (Value.bool false)), (3, (bptr b9 0)), (2, (bptr b4 0))] rfl; clear DJ
  refine a_5 (s1 A1 (a_0 rfl A1.e) fun HN A2 => ?_); clear A1 HM
  refine s1 A2 (a_0 rfl A2.e) fun HO DK => ?_; clear A2 HN
  refine s3 DK fun HP DL => ?_; clear DK HO
  refine s3 DL fun HQ DM => ?_; clear DL HP
  refine s3 DM fun HR DN => ?_; clear DM HQ
  refine s3 DN fun HS DO => ?_; clear DN HR
  refine s3 DO fun HT DP => ?_; clear DO HS
  refine s3 DP fun HU DQ => ?_; clear DP HT
  refine s3 DQ fun HV A3 => ?_; clear DQ HU
  refine s1 A3 (a_8 rfl A3.e (evc _ _)) fun HW A4 => ?_; clear A3 HV
  refine s1 A4 (a_0 rfl A4.e) fun HX DR => ?_; clear A4 HW
  refine s3 DR fun HY DS => ?_; clear DR HX
  refine s3 DS fun HZ DT => ?_; clear DS HY
  refine s3 DT fun Ha DU => ?_; clear DT HZ
  refine s3 DU fun Hb DV => ?_; clear DU Ha
  refine s3 DV fun Hc DW => ?_; clear DV Hb
  refine s3 DW fun Hd DX => ?_; clear DW Hc
  refine s3 DX fun He A5 => ?_; clear DX Hd
  refine s1 A5 (a_8 rfl A5.e (evc _ _)) fun Hf A6 => ?_; clear A5 He
  refine s1 A6 (a_1 rfl A6.e) fun KU DY => ?_; clear A6 Hf
  refine n1 (c_3 (a_9 DY (.inl rfl) (a_4 DY rfl (.tmp rfl)) ?_))
  exact ⟨congrArg Value.bool (by unfold i_1; (try unfold hasB); rcases Bool.eq_false_or_eq_true d.turn with ht_ | ht_ <;> (rw [ht_]; first | (rw [Bool.eq_iff_iff]; (try simp only [Bool.true_and, Bool.false_and, Bool.and_true, Bool.and_false, Bool.false_or, Bool.true_or, Bool.or_false, Bool.or_true, true_and, and_true, false_and, and_false, false_or, or_false, true_or, or_true, Bool.and_eq_true, Bool.or_eq_true, Bool.not_eq_true', decide_eq_true_eq, decide_eq_false_iff_not, Bool.false_eq_true, Bool.true_eq_false, Bool.not_true, Bool.not_false, eq_self_iff_true, true_iff, false_iff, iff_true, iff_false, not_true, not_false_eq_true]); omega) | exact absurd (ht_.symm.trans (show d.turn = true by assumption)) (by decide) | exact absurd (ht_.symm.trans (show d.turn = false by assumption)) (by decide))), A.ext⟩
 skip
 rw [decide_eq_false FJ] at M
 refine s3 M fun Hg DZ => ?_; clear M FO
 refine s3 DZ fun Hh Da => ?_; clear DZ Hg
 refine s3 Da fun Hi Db => ?_; clear Da Hh
 refine s3 Db fun Hj Dc => ?_; clear Db Hi
 refine s3 Dc fun Hk A7 => ?_; clear Dc Hj
 refine s1 A7 (a_8 rfl A7.e (evc _ _)) fun Hl A8 => ?_; clear A7 Hk
 refine s1 A8 (a_0 rfl A8.e) fun Hm A9 => ?_; clear A8 Hl
 refine s5 A9 (a_2 rfl fd_57_2 A9.e) fun Hn BA => ?_; clear A9 Hm
 refine s5 BA (a_3 rfl ty_4 BA.e (A.bk 1 rfl) rfl) fun Ho BB => ?_; clear BA Hn
 refine s5 BB (a_0 rfl BB.e) fun Ex G => ?_; clear BB Ho
 rcases Bool.eq_false_or_eq_true (d.turn) with By | By
 ·skip
  rw [By] at G
  refine s5 G (a_2 rfl o_6 G.e) fun Hp BC => ?_; clear G Ex
  refine s5 BC (a_3 rfl ty_3 BC.e (A.bk 0 rfl) rfl) fun Hq BD => ?_; clear BC Hp
  refine s5 BD (a_2 rfl fd_57_1 BD.e) fun Hr BE => ?_; clear BD Hq
  refine s5 BE (a_3 rfl ty_3 BE.e (A.bk 1 rfl) rfl) fun Hs j => ?_; clear BE Hr
  refine s5 j (f_5 rfl j.e j.e) fun Ht k => ?_; clear j Hs
  refine s5 k (a_6 rfl k.e k.e) fun Hu BF => ?_; clear k Ht
  refine s5 BF (a_0 rfl BF.e) fun Ey H => ?_; clear BF Hu
  by_cases Eq : q.w = d.l
  ·skip
   rw [decide_eq_true Eq] at H
   refine s5 H (a_2 rfl o_7 H.e) fun Hv BG => ?_; clear H Ey
   refine s5 BG (a_3 rfl ty_3 BG.e (A.bk 0 rfl) rfl) fun Hw BH => ?_; clear BG Hv
   refine s5 BH (a_2 rfl fd_57_0 BH.e) fun Hx BI => ?_; clear BH Hw
   refine s5 BI (a_3 rfl ty_3 BI.e (A.bk 1 rfl) rfl) fun Hy m => ?_; clear BI Hx
   refine s5 m (f_5 rfl m.e m.e) fun Hz n => ?_; clear m Hy
   refine s5 n (a_6 rfl n.e n.e) fun H0 o => ?_; clear n Hz
   refine s1 o (a_8 rfl o.e o.e) fun H1 BJ => ?_; clear o H0
   refine s1 BJ (a_1 rfl BJ.e) fun H2 Dd => ?_; clear BJ H1
   refine n2 ?_
   have BK := Dd.as [(5, (Value.bool (decide (q.l = d.w)))), (3, (bptr b9 0)), (2, (bptr b4 0))] rfl; clear Dd
   refine a_5 (s1 BK (a_0 rfl BK.e) fun H3 BL => ?_); clear BK H2
   refine s1 BL (a_0 rfl BL.e) fun Ez I => ?_; clear BL H3
   by_cases Er : q.l = d.w
   ·skip
    rw [decide_eq_true Er] at I
    refine s5 I (a_2 rfl fd_57_4 I.e) fun H4 BM => ?_; clear I Ez
    refine s5 BM (c_2 rfl ty_55 (BM.ev rfl) (A.bk 1 rfl) (l := [(iv d.xl), (iv d.xh)]) rfl rfl) fun H5 BN => ?_; clear BM H4
    refine s5 BN (a_2 rfl fd_88_0 BN.e) fun H6 BO => ?_; clear BN H5
    refine s5 BO (a_3 rfl ty_3 BO.e (A.bk 0 rfl) rfl) fun H7 BP => ?_; clear BO H6
    refine s5 BP (a_2 rfl o_6 BP.e) fun H8 BQ => ?_; clear BP H7
    refine s5 BQ (a_3 rfl ty_3 BQ.e (A.bk 0 rfl) rfl) fun H9 R => ?_; clear BQ H8
    refine s6 R (b_5 rfl en_47 (ev3 R.e R.e R.e) (has_ok _ _ _ _ (by omega) _)) ?_
    rintro IA _ Ke ⟨rfl, Em⟩ p; have L := A.step Em; clear Em R A H9
    refine s1 p (a_6 rfl p.e p.e) fun IB BR => ?_; clear p IA
    refine s1 BR (a_0 rfl BR.e) fun E0 J => ?_; clear BR IB
    rcases Bool.eq_false_or_eq_true ((hasB d.xl d.xh q.x q.w)) with V | V
    ·skip
     rw [V] at J
     have hh496 := V; unfold hasB at hh496; simp only [Bool.and_eq_true, Bool.and_eq_false_iff, decide_eq_true_eq, decide_eq_false_iff_not] at hh496
     refine s5 J (a_2 rfl fd_57_5 J.e) fun IC BS => ?_; clear J E0
     refine s5 BS (c_2 rfl ty_55 (BS.ev rfl) (L.bk 1 rfl) (l := [(iv d.yl), (iv d.yh)]) rfl rfl) fun ID BT => ?_; clear BS IC
     refine s5 BT (a_2 rfl fd_88_1 BT.e) fun IE BU => ?_; clear BT ID
     refine s5 BU (a_3 rfl ty_3 BU.e (L.bk 0 rfl) rfl) fun IF BV => ?_; clear BU IE
     refine s5 BV (a_2 rfl o_7 BV.e) fun IG BW => ?_; clear BV IF
     refine s5 BW (a_3 rfl ty_3 BW.e (L.bk 0 rfl) rfl) fun IH S => ?_; clear BW IG
     refine s6 S (b_5 rfl en_47 (ev3 S.e S.e S.e) (has_ok _ _ _ _ (by omega) _)) ?_
     rintro II _ Kf ⟨rfl, En⟩ r; have FN := L.step En; clear En S L IH
     refine s1 r (a_6 rfl r.e r.e) fun IJ BX => ?_; clear r II
     refine s1 BX (a_1 rfl BX.e) fun KV De => ?_; clear BX IJ
     refine n1 (c_3 (a_9 De (.inl rfl) (a_4 De rfl (.tmp rfl)) ?_))
     exact ⟨congrArg Value.bool (by unfold i_1; (try unfold hasB); rcases Bool.eq_false_or_eq_true d.turn with ht_ | ht_ <;> (rw [ht_]; first | (rw [Bool.eq_iff_iff]; (try simp only [Bool.true_and, Bool.false_and, Bool.and_true, Bool.and_false, Bool.false_or, Bool.true_or, Bool.or_false, Bool.or_true, true_and, and_true, false_and, and_false, false_or, or_false, true_or, or_true, Bool.and_eq_true, Bool.or_eq_true, Bool.not_eq_true', decide_eq_true_eq, decide_eq_false_iff_not, Bool.false_eq_true, Bool.true_eq_false, Bool.not_true, Bool.not_false, eq_self_iff_true, true_iff, false_iff, iff_true, iff_false, not_true, not_false_eq_true]); omega) | exact absurd (ht_.symm.trans (show d.turn = true by assumption)) (by decide) | exact absurd (ht_.symm.trans (show d.turn = false by assumption)) (by decide))), FN.ext⟩
    skip
    rw [V] at J
    have hh518 := V; unfold hasB at hh518; simp only [Bool.and_eq_true, Bool.and_eq_false_iff, decide_eq_true_eq, decide_eq_false_iff_not] at hh518
    refine s3 J fun IK Df => ?_; clear J E0
    refine s3 Df fun IL Dg => ?_; clear Df IK
    refine s3 Dg fun IM Dh => ?_; clear Dg IL
    refine s3 Dh fun IN Di => ?_; clear Dh IM
    refine s3 Di fun IOa Dj => ?_; clear Di IN
    refine s3 Dj fun IP Dk => ?_; clear Dj IOa
    refine s3 Dk fun IQ BY => ?_; clear Dk IP
    refine s1 BY (a_8 rfl BY.e (evc _ _)) fun IR BZ => ?_; clear BY IQ
    refine s1 BZ (a_1 rfl BZ.e) fun KW Dl => ?_; clear BZ IR
    refine n1 (c_3 (a_9 Dl (.inl rfl) (a_4 Dl rfl (.tmp rfl)) ?_))
    exact ⟨congrArg Value.bool (by unfold i_1; (try unfold hasB); rcases Bool.eq_false_or_eq_true d.turn with ht_ | ht_ <;> (rw [ht_]; first | (rw [Bool.eq_iff_iff]; (try simp only [Bool.true_and, Bool.false_and, Bool.and_true, Bool.and_false, Bool.false_or, Bool.true_or, Bool.or_false, Bool.or_true, true_and, and_true, false_and, and_false, false_or, or_false, true_or, or_true, Bool.and_eq_true, Bool.or_eq_true, Bool.not_eq_true', decide_eq_true_eq, decide_eq_false_iff_not, Bool.false_eq_true, Bool.true_eq_false, Bool.not_true, Bool.not_false, eq_self_iff_true, true_iff, false_iff, iff_true, iff_false, not_true, not_false_eq_true]); omega) | exact absurd (ht_.symm.trans (show d.turn = true by assumption)) (by decide) | exact absurd (ht_.symm.trans (show d.turn = false by assumption)) (by decide))), L.ext⟩
   skip
   rw [decide_eq_false Er] at I
   refine s3 I fun IS Dm => ?_; clear I Ez
   refine s3 Dm fun IT Dn => ?_; clear Dm IS
   refine s3 Dn fun IU Do => ?_; clear Dn IT
   refine s3 Do fun IV Dp => ?_; clear Do IU
   refine s3 Dp fun IW Dq => ?_; clear Dp IV
   refine s3 Dq fun IX Dr => ?_; clear Dq IW
   refine s3 Dr fun IY Ba => ?_; clear Dr IX
   refine s1 Ba (a_8 rfl Ba.e (evc _ _)) fun IZ Bb => ?_; clear Ba IY
   refine s1 Bb (a_0 rfl Bb.e) fun Ia Ds => ?_; clear Bb IZ
   refine s3 Ds fun Ib Dt => ?_; clear Ds Ia
   refine s3 Dt fun Ic Du => ?_; clear Dt Ib
   refine s3 Du fun Id Dv => ?_; clear Du Ic
   refine s3 Dv fun Ie Dw => ?_; clear Dv Id
   refine s3 Dw fun If Dx => ?_; clear Dw Ie
   refine s3 Dx fun Ig Dy => ?_; clear Dx If
   refine s3 Dy fun Ih Bc => ?_; clear Dy Ig
   refine s1 Bc (a_8 rfl Bc.e (evc _ _)) fun Ii Bd => ?_; clear Bc Ih
   refine s1 Bd (a_1 rfl Bd.e) fun KX Dz => ?_; clear Bd Ii
   refine n1 (c_3 (a_9 Dz (.inl rfl) (a_4 Dz rfl (.tmp rfl)) ?_))
   exact ⟨congrArg Value.bool (by unfold i_1; (try unfold hasB); rcases Bool.eq_false_or_eq_true d.turn with ht_ | ht_ <;> (rw [ht_]; first | (rw [Bool.eq_iff_iff]; (try simp only [Bool.true_and, Bool.false_and, Bool.and_true, Bool.and_false, Bool.false_or, Bool.true_or, Bool.or_false, Bool.or_true, true_and, and_true, false_and, and_false, false_or, or_false, true_or, or_true, Bool.and_eq_true, Bool.or_eq_true, Bool.not_eq_true', decide_eq_true_eq, decide_eq_false_iff_not, Bool.false_eq_true, Bool.true_eq_false, Bool.not_true, Bool.not_false, eq_self_iff_true, true_iff, false_iff, iff_true, iff_false, not_true, not_false_eq_true]); omega) | exact absurd (ht_.symm.trans (show d.turn = true by assumption)) (by decide) | exact absurd (ht_.symm.trans (show d.turn = false by assumption)) (by decide))), A.ext⟩
  skip
  rw [decide_eq_false Eq] at H
  refine s3 H fun Ij D0 => ?_; clear H Ey
  refine s3 D0 fun Ik D1 => ?_; clear D0 Ij
  refine s3 D1 fun Il D2 => ?_; clear D1 Ik
  refine s3 D2 fun Im D3 => ?_; clear D2 Il
  refine s3 D3 fun In Be => ?_; clear D3 Im
  refine s5 Be (a_8 rfl Be.e (evc _ _)) fun Io s => ?_; clear Be In
  refine s1 s (a_8 rfl s.e s.e) fun Ip Bf => ?_; clear s Io
  refine s1 Bf (a_1 rfl Bf.e) fun Iq D4 => ?_; clear Bf Ip
  refine n2 ?_
  have Bg := D4.as [(5, (Value.bool false)), (3, (bptr b9 0)), (2, (bptr b4 0))] rfl; clear D4
  refine a_5 (s1 Bg (a_0 rfl Bg.e) fun Ir Bh => ?_); clear Bg Iq
  refine s1 Bh (a_0 rfl Bh.e) fun Is D5 => ?_; clear Bh Ir
  refine s3 D5 fun It D6 => ?_; clear D5 Is
  refine s3 D6 fun Iu D7 => ?_; clear D6 It
  refine s3 D7 fun Iv D8 => ?_; clear D7 Iu
  refine s3 D8 fun Iw D9 => ?_; clear D8 Iv
  refine s3 D9 fun Ix EA => ?_; clear D9 Iw
  refine s3 EA fun Iy EB => ?_; clear EA Ix
  refine s3 EB fun Iz Bi => ?_; clear EB Iy
  refine s1 Bi (a_8 rfl Bi.e (evc _ _)) fun I0 Bj => ?_; clear Bi Iz
  refine s1 Bj (a_0 rfl Bj.e) fun I1 EC => ?_; clear Bj I0
  refine s3 EC fun I2 ED => ?_; clear EC I1
  refine s3 ED fun I3 EE => ?_; clear ED I2
  refine s3 EE fun I4 EF => ?_; clear EE I3
  refine s3 EF fun I5 EG => ?_; clear EF I4
  refine s3 EG fun I6 EH => ?_; clear EG I5
  refine s3 EH fun I7 EI => ?_; clear EH I6
  refine s3 EI fun I8 Bk => ?_; clear EI I7
  refine s1 Bk (a_8 rfl Bk.e (evc _ _)) fun I9 Bl => ?_; clear Bk I8
  refine s1 Bl (a_1 rfl Bl.e) fun KZ EJ => ?_; clear Bl I9
  refine n1 (c_3 (a_9 EJ (.inl rfl) (a_4 EJ rfl (.tmp rfl)) ?_))
  exact ⟨congrArg Value.bool (by unfold i_1; (try unfold hasB); rcases Bool.eq_false_or_eq_true d.turn with ht_ | ht_ <;> (rw [ht_]; first | (rw [Bool.eq_iff_iff]; (try simp only [Bool.true_and, Bool.false_and, Bool.and_true, Bool.and_false, Bool.false_or, Bool.true_or, Bool.or_false, Bool.or_true, true_and, and_true, false_and, and_false, false_or, or_false, true_or, or_true, Bool.and_eq_true, Bool.or_eq_true, Bool.not_eq_true', decide_eq_true_eq, decide_eq_false_iff_not, Bool.false_eq_true, Bool.true_eq_false, Bool.not_true, Bool.not_false, eq_self_iff_true, true_iff, false_iff, iff_true, iff_false, not_true, not_false_eq_true]); omega) | exact absurd (ht_.symm.trans (show d.turn = true by assumption)) (by decide) | exact absurd (ht_.symm.trans (show d.turn = false by assumption)) (by decide))), A.ext⟩
 skip
 rw [By] at G
 refine s3 G fun JA EK => ?_; clear G Ex
 refine s3 EK fun JB EL => ?_; clear EK JA
 refine s3 EL fun JC EM => ?_; clear EL JB
 refine s3 EM fun JD EN => ?_; clear EM JC
 refine s3 EN fun JE Bm => ?_; clear EN JD
 refine s5 Bm (a_8 rfl Bm.e (evc _ _)) fun JF Bn => ?_; clear Bm JE
 refine s5 Bn (a_0 rfl Bn.e) fun JG EO => ?_; clear Bn JF
 refine s3 EO fun JH EP => ?_; clear EO JG
 refine s3 EP fun JI EQ => ?_; clear EP JH
 refine s3 EQ fun JJ ER => ?_; clear EQ JI
 refine s3 ER fun JK ES => ?_; clear ER JJ
 refine s3 ES fun JL Bo => ?_; clear ES JK
 refine s5 Bo (a_8 rfl Bo.e (evc _ _)) fun JM t => ?_; clear Bo JL
 refine s1 t (a_8 rfl t.e t.e) fun JN Bp => ?_; clear t JM
 refine s1 Bp (a_1 rfl Bp.e) fun JO ET => ?_; clear Bp JN
 refine n2 ?_
 have Bq := ET.as [(5, (Value.bool false)), (3, (bptr b9 0)), (2, (bptr b4 0))] rfl; clear ET
 refine a_5 (s1 Bq (a_0 rfl Bq.e) fun JP Br => ?_); clear Bq JO
 refine s1 Br (a_0 rfl Br.e) fun JQ EU => ?_; clear Br JP
 refine s3 EU fun JR EV => ?_; clear EU JQ
 refine s3 EV fun JS EW => ?_; clear EV JR
 refine s3 EW fun JT EX => ?_; clear EW JS
 refine s3 EX fun JU EY => ?_; clear EX JT
 refine s3 EY fun JV EZ => ?_; clear EY JU
 refine s3 EZ fun JW Ea => ?_; clear EZ JV
 refine s3 Ea fun JX Bs => ?_; clear Ea JW
 refine s1 Bs (a_8 rfl Bs.e (evc _ _)) fun JY Bt => ?_; clear Bs JX
 refine s1 Bt (a_0 rfl Bt.e) fun JZ Eb => ?_; clear Bt JY
 refine s3 Eb fun Ja Ec => ?_; clear Eb JZ
 refine s3 Ec fun Jb Ed => ?_; clear Ec Ja
 refine s3 Ed fun Jc Ee => ?_; clear Ed Jb
 refine s3 Ee fun Jd Ef => ?_; clear Ee Jc
 refine s3 Ef fun Je Eg => ?_; clear Ef Jd
 refine s3 Eg fun Jf Eh => ?_; clear Eg Je
 refine s3 Eh fun Jg Bu => ?_; clear Eh Jf
 refine s1 Bu (a_8 rfl Bu.e (evc _ _)) fun Jh Bv => ?_; clear Bu Jg
 refine s1 Bv (a_1 rfl Bv.e) fun Ka Ei => ?_; clear Bv Jh
 refine n1 (c_3 (a_9 Ei (.inl rfl) (a_4 Ei rfl (.tmp rfl)) ?_))
 exact ⟨congrArg Value.bool (by unfold i_1; (try unfold hasB); rcases Bool.eq_false_or_eq_true d.turn with ht_ | ht_ <;> (rw [ht_]; first | (rw [Bool.eq_iff_iff]; (try simp only [Bool.true_and, Bool.false_and, Bool.and_true, Bool.and_false, Bool.false_or, Bool.true_or, Bool.or_false, Bool.or_true, true_and, and_true, false_and, and_false, false_or, or_false, true_or, or_true, Bool.and_eq_true, Bool.or_eq_true, Bool.not_eq_true', decide_eq_true_eq, decide_eq_false_iff_not, Bool.false_eq_true, Bool.true_eq_false, Bool.not_true, Bool.not_false, eq_self_iff_true, true_iff, false_iff, iff_true, iff_false, not_true, not_false_eq_true]); omega) | exact absurd (ht_.symm.trans (show d.turn = true by assumption)) (by decide) | exact absurd (ht_.symm.trans (show d.turn = false by assumption)) (by decide))), A.ext⟩
theorem used_ok (l : List Int) (xl : Value) (n : Int) (w : World) (hxl : SlAt w xl 1 l.length (ints l)) (hll : l.length ≤ 1000000) :
  Calls Try.prog 18 #[(Value.agg #[(Value.slice none 0 0), xl]), (iv n)] w (Ret fun v w' => v = .int .i64 (r_6 l n) ∧ Ext NoB w w') := by
 refine b_2 Try.func18 rfl fun q H => ?_
 replace H : Fr 21 [] [(0, (Value.agg #[(Value.slice none 0 0), xl])), (1, (iv n))] q := H
 have m : Sep NoB w w [(sl xl 1 l.length (ints l))] := f_7 ⟨rfl, hxl, trivial⟩
 refine m2 (s2 H (e_5 m rfl H.e (cs := [(Value.slice none 0 0), xl]) rfl) ?_)
 rintro a1 _ w3 ⟨b, rfl, o⟩ f; clear H m q
 refine s1 f (a_1 rfl (evc _ _)) fun a6 g => ?_; clear f a1
 refine n2 (m2 (s1 g (a_1 rfl (evc _ _)) fun a8 j => ?_)); clear g a6
 refine n1 (c_9 ?_)
 have V := j.as [(5, (iv 0)), (2, (bptr b 0)), (1, (iv n))] rfl; clear j
 refine g_6 (G := Nat) (fun (k : Nat) a_ w_ => Fr 21 [] [(5, (iv (k : Int))), (2, (bptr b 0)), (1, (iv n))] a_ ∧ Sep NoB w w_ [(blk b 37 [(Value.slice none 0 0), xl]), (sl xl 1 l.length (ints l))] ∧ (k ≤ l.length) ∧ (∀ i, i < k → decide (n = l.getD i 0) = false)) (fun k => l.length - k) 0 ⟨V.as _ rfl, o, Nat.zero_le _, (fun _ h => absurd h (Nat.not_lt_zero _))⟩ ?_
 clear V o a8
 rintro k r AN ⟨I, C, hk, hn⟩
 refine b_6 (m2 (s1 I (a_0 rfl I.e) fun s J => ?_)); clear I r
 refine s1 J (a_2 rfl g_8 J.e) fun t K => ?_; clear J s
 refine s1 K (a_3 rfl l_8 K.e (C.bk 0 rfl) rfl) fun u L => ?_; clear K t
 refine s1 L (d_7 rfl k_0 L.e (C.sk 1 rfl)) fun x D => ?_; clear L u
 refine s1 D (e_2 rfl D.e D.e) fun c A => ?_; clear D x
 refine n1 ?_
 by_cases Z : (k : Int) < (l.length : Int)
 ·skip
  rw [decide_eq_true Z] at A
  refine c_1 A rfl (c_0 (b_0 (b_6 (c_9 (m2 (s1 A (a_2 rfl g_8 A.e) fun y M => ?_)))))); clear A c
  refine s1 M (a_3 rfl l_8 M.e (C.bk 0 rfl) rfl) fun z N => ?_; clear M y
  refine s1 N (a_0 rfl N.e) fun AA E => ?_; clear N z
  refine s1 E (b_8 rfl k_0 ty_3 E.e (i := k) E.e (C.sk 1 rfl) (by decide) (by omega)) fun AB O => ?_; clear E AA
  refine s1 O (d_3 rfl ty_3 O.e (C.sk 1 rfl) (ints_at (by omega))) fun AC P => ?_; clear O AB
  refine s1 P (a_0 rfl P.e) fun AD F => ?_; clear P AC
  refine s1 F (f_5 rfl F.e F.e) fun d B => ?_; clear F AD
  refine n1 ?_
  by_cases a : (l.getD k 0) = n
  ·skip
   rw [decide_eq_true a] at B
   refine c_1 B rfl (b_6 ?_)
   have Q := B.as [(5, (iv (k : Int)))] rfl; clear B
   refine a_5 (s1 Q (a_0 rfl Q.e) fun AE R => ?_); clear Q d
   refine s1 R (a_1 rfl R.e) fun AK W => ?_; clear R AE
   refine n1 (c_3 (d_2 (b_1 (b_1 (d_2 (b_1 (a_9 W (.inl rfl) (a_4 W rfl (.tmp rfl)) ?_)))))))
   exact ⟨ret_int (by unfold r_6; first | rw [k_2 (by omega) hn (decide_eq_true (by first | assumption | exact Eq.symm (by assumption)))] | rw [i_0 (fun i hi => hn i (by omega))]), C.ext⟩
  skip
  rw [decide_eq_false a] at B
  refine b_3 B rfl (c_0 (f_8 (b_0 ?_)))
  have S := B.as [(5, (iv (k : Int))), (2, (bptr b 0)), (1, (iv n))] rfl; clear B
  refine a_5 (s1 S (a_0 rfl S.e) fun AF T => ?_); clear S d
  refine s1 T (c_6 rfl T.e (evc _ _) (by omega) (by omega)) fun AG U => ?_; clear T AF
  refine s1 U (a_1 rfl U.e) fun AL p => ?_; clear U AG
  refine d_0 ?_
  exact b_0 ⟨k + 1, ⟨p.as _ rfl, C, by omega, (fun i hi => by rcases Nat.lt_succ_iff_lt_or_eq.1 hi with h | h; exact hn i h; subst h; exact decide_eq_false (by first | assumption | exact fun e_ => absurd e_.symm (by assumption)))⟩, by omega⟩
 skip
 rw [decide_eq_false Z] at A
 refine b_3 A rfl (g_5 (b_9 (b_9 (f_1 (b_0 (b_6 ?_))))))
 have X := A.as [] rfl; clear A
 refine a_5 (s1 X (a_1 rfl (evc _ _)) fun AM Y => ?_); clear X c
 refine n1 (c_3 (a_9 Y (.inl rfl) (a_4 Y rfl (.tmp rfl)) ?_))
 exact ⟨ret_int (by unfold r_6; first | rw [k_2 (by omega) hn (decide_eq_true (by first | assumption | exact Eq.symm (by assumption)))] | rw [i_0 (fun i hi => hn i (by omega))]), C.ext⟩
theorem index_ok (l : List Int) (xl : Value) (n : Int) (w : World) (hxl : SlAt w xl 1 l.length (ints l)) (hll : l.length ≤ 1000000) :
  Calls Try.prog 25 #[xl, (iv n)] w (Ret fun v w' => v = .int .i64 (r_6 l n) ∧ Ext NoB w w') := by
 refine b_2 Try.func25 rfl fun f Q => ?_
 replace Q : Fr 19 [] [(0, xl), (1, (iv n))] f := Q
 have V : Sep NoB w w [(sl xl 1 l.length (ints l))] := f_7 ⟨rfl, hxl, trivial⟩
 refine m2 (s1 Q (a_1 rfl (evc _ _)) fun x R => ?_); clear Q f
 refine n2 (m2 (s1 R (a_0 rfl R.e) fun y T => ?_)); clear R x
 refine s1 T (d_7 rfl k_0 T.e (V.sk 0 rfl)) fun z a => ?_; clear T y
 refine s1 a (a_0 rfl (evc _ _)) fun a7 b => ?_; clear a z
 refine n1 (c_9 ?_)
 have c := b.as [(8, (iv 0)), (7, (iv (l.length : Int))), (0, xl), (1, (iv n))] rfl; clear b
 refine g_6 (G := Nat) (fun (k : Nat) a_ w_ => Fr 19 [] [(8, (iv (k : Int))), (7, (iv (l.length : Int))), (0, xl), (1, (iv n))] a_ ∧ Sep NoB w w_ [(sl xl 1 l.length (ints l))] ∧ (k ≤ l.length) ∧ (∀ i, i < k → decide (n = l.getD i 0) = false)) (fun k => l.length - k) 0 ⟨c.as _ rfl, V, Nat.zero_le _, (fun _ h => absurd h (Nat.not_lt_zero _))⟩ ?_
 clear c V a7
 rintro k g AE ⟨D, C, hk, hn⟩
 refine m2 (s1 D (e_2 rfl D.e D.e) fun Y A => ?_); clear D g
 refine n2 ?_
 by_cases W : (k : Int) < (l.length : Int)
 ·skip
  rw [decide_eq_true W] at A
  refine c_1 A rfl (c_0 (b_0 (b_6 (c_9 (m2 (s1 A (a_0 rfl A.e) fun j H => ?_)))))); clear A Y
  refine s1 H (a_1 rfl H.e) fun m I => ?_; clear H j
  refine n4 (s1 I (a_0 rfl I.e) fun o J => ?_); clear I m
  refine s1 J (a_0 rfl J.e) fun p K => ?_; clear J o
  refine s1 K (a_0 rfl K.e) fun q E => ?_; clear K p
  refine s1 E (b_8 rfl k_0 ty_3 E.e (i := k) E.e (C.sk 0 rfl) (by decide) (by omega)) fun r L => ?_; clear E q
  refine s1 L (d_3 rfl ty_3 L.e (C.sk 0 rfl) (ints_at (by omega))) fun s F => ?_; clear L r
  refine s1 F (f_5 rfl F.e F.e) fun Z B => ?_; clear F s
  refine n1 ?_
  by_cases X : n = (l.getD k 0)
  ·skip
   rw [decide_eq_true X] at B
   refine c_1 B rfl (b_6 ?_)
   have M := B.as [(5, (iv (k : Int)))] rfl; clear B
   refine a_5 (s1 M (a_0 rfl M.e) fun t N => ?_); clear M Z
   refine s1 N (a_1 rfl N.e) fun AB S => ?_; clear N t
   refine n1 (c_3 (d_2 (b_1 (b_1 (d_2 (b_1 (a_9 S (.inl rfl) (a_4 S rfl (.tmp rfl)) ?_)))))))
   exact ⟨ret_int (by unfold r_6; first | rw [k_2 (by omega) hn (decide_eq_true (by first | assumption | exact Eq.symm (by assumption)))] | rw [i_0 (fun i hi => hn i (by omega))]), C.ext⟩
  skip
  rw [decide_eq_false X] at B
  refine b_3 B rfl (c_0 (f_8 (b_0 ?_)))
  have O := B.as [(8, (iv (k : Int))), (7, (iv (l.length : Int))), (0, xl), (1, (iv n))] rfl; clear B
  refine a_5 (s1 O (c_6 rfl O.e (evc _ _) (by omega) (by omega)) fun u P => ?_); clear O Z
  refine s1 P (a_0 rfl P.e) fun AC d => ?_; clear P u
  refine d_0 ?_
  exact b_0 ⟨k + 1, ⟨d.as _ rfl, C, by omega, (fun i hi => by rcases Nat.lt_succ_iff_lt_or_eq.1 hi with h | h; exact hn i h; subst h; exact decide_eq_false (by first | assumption | exact fun e_ => absurd e_.symm (by assumption)))⟩, by omega⟩
 skip
 rw [decide_eq_false W] at A
 refine b_3 A rfl (g_5 (b_9 (b_9 (f_1 (b_0 (m2 (s1 A (a_1 rfl (evc _ _)) fun AD U => ?_))))))); clear A Y
 refine n1 (c_3 (a_9 U (.inl rfl) (a_4 U rfl (.tmp rfl)) ?_))
 exact ⟨ret_int (by unfold r_6; first | rw [k_2 (by omega) hn (decide_eq_true (by first | assumption | exact Eq.symm (by assumption)))] | rw [i_0 (fun i hi => hn i (by omega))]), C.ext⟩
theorem whole_ok (p : g_2) (vw : Value) (w : World) (hvw : SlAt w vw 8 p.wants.length (recC d_6 p.wants)) :
  Calls Try.prog 23 #[(Value.agg #[(iv p.wide), (iv p.long), (iv p.saw), vw])] w (Ret fun v w' => v = .agg #[.int .i64 0, .int .i64 0, .int .i64 p.wide, .int .i64 p.long] ∧ Ext NoB w w') := by
 refine b_2 Try.func23 rfl fun O D => ?_
 replace D : Fr 8 [] [(0, (Value.agg #[(iv p.wide), (iv p.long), (iv p.saw), vw]))] O := D
 have M : Sep NoB w w [(sl vw 8 p.wants.length (recC d_6 p.wants))] := f_7 ⟨rfl, hvw, trivial⟩
 refine m2 (s2 D (e_5 M rfl D.e (cs := [(iv p.wide), (iv p.long), (iv p.saw), vw]) rfl) ?_)
 rintro U _ Z ⟨W, rfl, N⟩ L; clear D M O
 refine s2 L (e_6 N rfl ze_88 (cs := [(iv 0), (iv 0), (iv 0), (iv 0)]) rfl) ?_
 rintro V _ a ⟨X, rfl, C⟩ I; clear L N U
 refine n4 (s1 I (a_2 rfl fd_60_0 I.e) fun P E => ?_); clear I V
 refine s1 E (a_3 rfl ty_3 E.e (C.bk 1 rfl) rfl) fun Q F => ?_; clear E P
 refine s1 F (a_2 rfl fd_60_1 F.e) fun R G => ?_; clear F Q
 refine s1 G (a_3 rfl ty_3 G.e (C.bk 1 rfl) rfl) fun S A => ?_; clear G R
 refine s1 A (e_8 rfl (pv4 (evc _ _) (evc _ _) A.e A.e) (k_8 _ _ _ _)) fun Y B => ?_; clear A S
 refine s7 B (d_8 C rfl j_9 B.e B.e (i := 0) rfl (vs := [(iv 0), (iv 0), (iv p.wide), (iv p.long)]) rfl rfl rfl (Nat.le_of_ble_eq_true rfl)) ?_
 intro _ T J H; clear B
 have K : Sep NoB w T [(blk X 88 [(iv 0), (iv 0), (iv p.wide), (iv p.long)]), (blk W 60 [(iv p.wide), (iv p.long), (iv p.saw), vw]), (sl vw 8 p.wants.length (recC d_6 p.wants))] := J; clear J C
 refine n1 (c_3 (a_9 H (.inl rfl) (a_4 H rfl (.cellA rfl j_9 (K.bk 0 rfl) (l := [(iv 0), (iv 0), (iv p.wide), (iv p.long)]) rfl rfl)) ?_))
 exact ⟨rfl, K.ext⟩
theorem covers_ok (q : Quad) (ux uy : Int) (hq : n_7 q) (hx : 0 ≤ ux ∧ ux ≤ 8) (hy : 0 ≤ uy ∧ uy ≤ 8) (w : World) :
  Calls Try.prog 24 #[(Value.agg #[(iv q.x), (iv q.y), (iv q.w), (iv q.l)]), (iv ux), (iv uy)] w (Ret fun v w' => v = .bool (covB q ux uy) ∧ Ext NoB w w') := by
 refine b_2 Try.func24 rfl fun m H => ?_
 replace H : Fr 25 [] [(0, (Value.agg #[(iv q.x), (iv q.y), (iv q.w), (iv q.l)])), (1, (iv ux)), (2, (iv uy))] m := H
 have hqx := hq.x; have hqy := hq.y; have hqw := hq.w; have hql := hq.l
 have k : Sep NoB w w [] := Sep.start _ _
 refine m2 (s2 H (e_5 k rfl H.e (cs := [(iv q.x), (iv q.y), (iv q.w), (iv q.l)]) rfl) ?_)
 rintro a1 _ w3 ⟨b4, rfl, B⟩ j; clear H k m
 refine s1 j (a_1 rfl (evc _ _)) fun a6 g => ?_; clear j a1
 refine n4 (s1 g (a_0 rfl g.e) fun a8 h => ?_); clear g a6
 refine s1 h (a_2 rfl fd_88_0 h.e) fun n I => ?_; clear h a8
 refine s1 I (a_3 rfl ty_3 I.e (B.bk 0 rfl) rfl) fun o C => ?_; clear I n
 refine s1 C (f_9 rfl C.e C.e (by omega) (by omega)) fun p J => ?_; clear C o
 refine s1 J (a_2 rfl o_6 J.e) fun r K => ?_; clear J p
 refine s1 K (a_3 rfl ty_3 K.e (B.bk 0 rfl) rfl) fun s L => ?_; clear K r
 refine s1 L (f_9 rfl L.e (evc _ _) (by omega) (by omega)) fun t D => ?_; clear L s
 refine s2 D (b_5 rfl en_35 (ev3 D.e (evc _ _) D.e) (l_1 _ _ _ _)) ?_
 rintro u _ W_ ⟨rfl, hW_⟩ M; have hW2_ := hW_.symm; subst hW2_; clear hW_ D t
 refine s1 M (a_0 rfl M.e) fun i A => ?_; clear M u
 rcases Bool.eq_false_or_eq_true ((inB (ux - q.x) 0 (q.w - 1))) with V | V
 ·skip
  rw [V] at A
  refine s5 A (a_0 rfl A.e) fun z N => ?_; clear A i
  refine s5 N (a_2 rfl fd_88_1 N.e) fun AA O => ?_; clear N z
  refine s5 O (a_3 rfl ty_3 O.e (B.bk 0 rfl) rfl) fun AB E => ?_; clear O AA
  refine s5 E (f_9 rfl E.e E.e (by omega) (by omega)) fun AC P => ?_; clear E AB
  refine s5 P (a_2 rfl o_7 P.e) fun AD Q => ?_; clear P AC
  refine s5 Q (a_3 rfl ty_3 Q.e (B.bk 0 rfl) rfl) fun AE R => ?_; clear Q AD
  refine s5 R (f_9 rfl R.e (evc _ _) (by omega) (by omega)) fun AF F => ?_; clear R AE
  refine s6 F (b_5 rfl en_35 (ev3 F.e (evc _ _) F.e) (l_1 _ _ _ _)) ?_
  rintro AG _ W_ ⟨rfl, hW_⟩ G; have hW2_ := hW_.symm; subst hW2_; clear hW_ F AF
  refine s1 G (a_6 rfl G.e G.e) fun AH S => ?_; clear G AG
  refine s1 S (a_1 rfl S.e) fun AU W => ?_; clear S AH
  refine n1 (c_3 (a_9 W (.inl rfl) (a_4 W rfl (.tmp rfl)) ?_))
  exact ⟨congrArg Value.bool (by unfold covB; simp [*]), B.ext⟩
 skip
 rw [V] at A
 refine s3 A fun AI X => ?_; clear A i
 refine s3 X fun AJ Y => ?_; clear X AI
 refine s3 Y fun AK Z => ?_; clear Y AJ
 refine s3 Z fun AL a => ?_; clear Z AK
 refine s3 a fun AM b => ?_; clear a AL
 refine s3 b fun AN c => ?_; clear b AM
 refine s3 c fun AO d => ?_; clear c AN
 refine s3 d fun AP T => ?_; clear d AO
 refine s1 T (a_8 rfl T.e (evc _ _)) fun AQ U => ?_; clear T AP
 refine s1 U (a_1 rfl U.e) fun AV f => ?_; clear U AQ
 refine n1 (c_3 (a_9 f (.inl rfl) (a_4 f rfl (.tmp rfl)) ?_))
 exact ⟨congrArg Value.bool (by unfold covB; simp [*]), B.ext⟩
theorem to_ok (x y : Int) (w : World) :
  Calls Try.prog 29 #[(Value.agg #[(iv x), (iv y)])] w (Ret fun v w' => v = .agg #[.int .i64 x, .int .i64 y] ∧ Ext NoB w w') := by
 refine b_2 Try.func29 rfl fun O D => ?_
 replace D : Fr 8 [] [(0, (Value.agg #[(iv x), (iv y)]))] O := D
 have M : Sep NoB w w [] := Sep.start _ _
 refine m2 (s2 D (e_5 M rfl D.e (cs := [(iv x), (iv y)]) rfl) ?_)
 rintro U _ Z ⟨W, rfl, N⟩ L; clear D M O
 refine s2 L (e_6 N rfl ze_55 (cs := [(iv 0), (iv 0)]) rfl) ?_
 rintro V _ a ⟨X, rfl, C⟩ I; clear L N U
 refine n4 (s1 I (a_2 rfl o_5 I.e) fun P E => ?_); clear I V
 refine s1 E (a_3 rfl ty_3 E.e (C.bk 1 rfl) rfl) fun Q F => ?_; clear E P
 refine s1 F (a_2 rfl m_2 F.e) fun R G => ?_; clear F Q
 refine s1 G (a_3 rfl ty_3 G.e (C.bk 1 rfl) rfl) fun S A => ?_; clear G R
 refine s1 A (e_8 rfl (pv2 A.e A.e) (bd_55_0i_1i _ _)) fun Y B => ?_; clear A S
 refine s7 B (d_8 C rfl ty_55 B.e B.e (i := 0) rfl (vs := [(iv x), (iv y)]) rfl rfl rfl (Nat.le_of_ble_eq_true rfl)) ?_
 intro _ T J H; clear B
 have K : Sep NoB w T [(blk X 55 [(iv x), (iv y)]), (blk W 49 [(iv x), (iv y)])] := J; clear J C
 refine n1 (c_3 (a_9 H (.inl rfl) (a_4 H rfl (.cellA rfl ty_55 (K.bk 0 rfl) (l := [(iv x), (iv y)]) rfl rfl)) ?_))
 exact ⟨rfl, K.ext⟩
theorem take_one {α : Type} (l : List α) (d : α) {k : Nat} (h : k < l.length) : l.take k ++ [l.getD k d] = l.take (k + 1) := by
 rw [List.take_add_one, List.getD, List.getElem?_eq_getElem h]; rfl
theorem take_all {α : Type} {l : List α} {k : Nat} (h : k = l.length) : l.take k = l := by rw [h, List.take_length]
set_option maxHeartbeats 4000000 in
theorem plate_ok (p : g_2) (vw : Value) (w : World) (hvw : SlAt w vw 8 p.wants.length (recC d_6 p.wants)) (hlw : p.wants.length ≤ 1000000) :
  Calls Try.prog 19 #[(Value.agg #[(iv p.wide), (iv p.long), (iv p.saw), vw])] w (Ret fun v w' => ∃ u, v = .agg #[.int .i64 p.wide, .int .i64 p.long, .int .i64 p.saw, u] ∧ Sep NoB w w' [row u 57 8 p.wants.length (recC d_6 p.wants)]) := by
 refine b_2 Try.func19 rfl fun a0 V => ?_
 replace V : Fr 46 [] [(0, (Value.agg #[(iv p.wide), (iv p.long), (iv p.saw), vw]))] a0 := V
 have Ag : Sep NoB w w [(sl vw 8 p.wants.length (recC d_6 p.wants))] := f_7 ⟨rfl, hvw, trivial⟩
 refine m2 (s2 V (e_5 Ag rfl V.e (cs := [(iv p.wide), (iv p.long), (iv p.saw), vw]) rfl) ?_)
 rintro a1 _ w3 ⟨I, rfl, Ah⟩ Af; clear V Ag a0
 refine s2 Af (e_6 Ah rfl ze_60 (cs := [(iv 0), (iv 0), (iv 0), (Value.slice none 0 0)]) rfl) ?_
 rintro a6 _ w8 ⟨H, rfl, L⟩ AI; clear Af Ah a1
 refine n4 (s1 AI (a_2 rfl fd_24_0 AI.e) fun Ak W => ?_); clear AI a6
 refine s1 W (a_3 rfl ty_3 W.e (L.bk 1 rfl) rfl) fun Al X => ?_; clear W Ak
 refine s1 X (a_2 rfl fd_24_1 X.e) fun Am Y => ?_; clear X Al
 refine s1 Y (a_3 rfl ty_3 Y.e (L.bk 1 rfl) rfl) fun An Z => ?_; clear Y Am
 refine s1 Z (a_2 rfl fd_24_2 Z.e) fun Ao b => ?_; clear Z An
 refine s1 b (a_3 rfl ty_3 b.e (L.bk 1 rfl) rfl) fun Ap K => ?_; clear b Ao
 refine s1 K (e_8 rfl (pv3 K.e K.e K.e) (bd_60_0i_1i_2i _ _ _)) fun Aq AC => ?_; clear K Ap
 refine s2 AC (e_6 L rfl ze_60 (cs := [(iv 0), (iv 0), (iv 0), (Value.slice none 0 0)]) rfl) ?_
 rintro Ar _ BG ⟨D, rfl, AO⟩ O; clear AC L Aq
 refine s7 O (d_8 AO rfl ty_60 O.e O.e (i := 0) rfl (vs := [(iv p.wide), (iv p.long), (iv p.saw), (Value.slice none 0 0)]) rfl rfl (j_8 rfl (j_8 rfl (j_8 rfl (j_8 rfl p_2)))) (Nat.le_of_ble_eq_true rfl)) ?_
 intro _ A7 AP AD; clear O
 have AQ : Sep NoB w A7 [(blk D 60 [(iv p.wide), (iv p.long), (iv p.saw), (Value.slice none 0 0)]), (blk H 60 [(iv 0), (iv 0), (iv 0), (Value.slice none 0 0)]), (blk I 24 [(iv p.wide), (iv p.long), (iv p.saw), vw]), (sl vw 8 p.wants.length (recC d_6 p.wants))] := AP; clear AP AO
 refine n2 (b_6 ?_)
 have AE := AD.as [(3, (bptr D 0)), (2, (bptr H 0)), (1, (bptr I 0))] rfl; clear AD
 refine a_5 (s1 AE (a_1 rfl (evc _ _)) fun As AF => ?_); clear AE Ar
 refine n1 (c_9 ?_)
 have AR := AQ.i_4 57 8; clear AQ
 have AG := AF.as [(4, (iv 0)), (3, (bptr D 0)), (2, (bptr H 0)), (1, (bptr I 0))] rfl; clear AF
 refine g_6 (G := Nat) (fun (k : Nat) a_ w_ => ∃ vn57_ : Value, Fr 46 [] [(4, (iv (k : Int))), (3, (bptr D 0)), (2, (bptr H 0)), (1, (bptr I 0))] a_ ∧ Sep NoB w w_ [(row vn57_ 57 8 ((p.wants.take k).length) (recC d_6 (p.wants.take k))), (blk D 60 [(iv p.wide), (iv p.long), (iv p.saw), vn57_]), (blk H 60 [(iv 0), (iv 0), (iv 0), (Value.slice none 0 0)]), (blk I 24 [(iv p.wide), (iv p.long), (iv p.saw), vw]), (sl vw 8 p.wants.length (recC d_6 p.wants))] ∧ (k ≤ p.wants.length)) (fun k => p.wants.length - k) 0 ⟨(Value.slice none 0 0), AG.as _ rfl, (AR.c_5 (i := 0) rfl (by rfl) (by rfl)), (Nat.zero_le _)⟩ ?_
 clear AG AR As
 rintro k At BH ⟨vn57_, c, C, hkk⟩
 have hul_k : (p.wants.take k).length = k := by rw [List.length_take]; omega
 refine b_6 (m2 (s1 c (a_0 rfl c.e) fun Au d => ?_)); clear c At
 refine s1 d (a_2 rfl k_9 d.e) fun Av f => ?_; clear d Au
 refine s1 f (a_3 rfl r_3 f.e (C.bk 3 rfl) rfl) fun Aw g => ?_; clear f Av
 refine s1 g (d_7 rfl r_4 g.e (C.sk 4 rfl)) fun Ax P => ?_; clear g Aw
 refine s1 P (e_2 rfl P.e P.e) fun Ad E => ?_; clear P Ax
 refine n1 ?_
 by_cases AY : (k : Int) < (p.wants.length : Int)
 ·skip
  rw [decide_eq_true AY] at E
  refine c_1 E rfl (c_0 (b_0 (b_6 (c_9 (m2 (s1 E (a_2 rfl k_9 E.e) fun Ay h => ?_)))))); clear E Ad
  refine s1 h (a_3 rfl r_3 h.e (C.bk 3 rfl) rfl) fun Az j => ?_; clear h Ay
  refine s1 j (a_0 rfl j.e) fun A0 Q => ?_; clear j Az
  refine s1 Q (b_8 rfl r_4 q_8 Q.e (i := k) Q.e (C.sk 4 rfl) (by decide) (by omega)) fun A1 m => ?_; clear Q A0
  refine s1 m (e_1 rfl q_8 m.e (C.sk 4 rfl) (n_6 (by omega)) rfl (by decide)) fun A2 AH => ?_; clear m A1
  refine s2 AH (e_6 C rfl ze_51 (cs := [(iv 0), (iv 0), (Value.bool false), (iv 0), (iv 0), (iv 0), (iv 0), (iv 0)]) rfl) ?_
  rintro BF _ BI ⟨F, rfl, AS⟩ R; clear AH C A2
  refine s7 R (d_8 AS rfl q_8 R.e R.e (i := 0) rfl (vs := [(iv ((p.wants.getD k w0).w)), (iv ((p.wants.getD k w0).l)), (Value.bool ((p.wants.getD k w0).turn)), (iv ((p.wants.getD k w0).worth)), (iv ((p.wants.getD k w0).xl)), (iv ((p.wants.getD k w0).xh)), (iv ((p.wants.getD k w0).yl)), (iv ((p.wants.getD k w0).yh))]) rfl rfl rfl (Nat.le_of_ble_eq_true rfl)) ?_
  intro _ A8 AT AJ; clear R
  have AU : Sep NoB w A8 [(blk F 51 [(iv ((p.wants.getD k w0).w)), (iv ((p.wants.getD k w0).l)), (Value.bool ((p.wants.getD k w0).turn)), (iv ((p.wants.getD k w0).worth)), (iv ((p.wants.getD k w0).xl)), (iv ((p.wants.getD k w0).xh)), (iv ((p.wants.getD k w0).yl)), (iv ((p.wants.getD k w0).yh))]), (row vn57_ 57 8 ((p.wants.take k).length) (recC d_6 (p.wants.take k))), (blk D 60 [(iv p.wide), (iv p.long), (iv p.saw), vn57_]), (blk H 60 [(iv 0), (iv 0), (iv 0), (Value.slice none 0 0)]), (blk I 24 [(iv p.wide), (iv p.long), (iv p.saw), vw]), (sl vw 8 p.wants.length (recC d_6 p.wants))] := AT; clear AT AS
  refine n1 ?_
  have AK := AJ.as [(5, (bptr F 0)), (4, (iv (k : Int))), (3, (bptr D 0)), (2, (bptr H 0)), (1, (bptr I 0))] rfl; clear AJ
  have AL := AK.as [(5, (bptr F 0)), (4, (iv (k : Int))), (3, (bptr D 0)), (2, (bptr H 0)), (1, (bptr I 0))] rfl; clear AK
  refine c_drawV mixed AL AU 18 [[], [0], [], [2], [], [4], [], [6], [], [8], [], [10], [11], [], [13], [14], [3, 5, 7, 9, 12, 15], [16]] [(yw (bptr D 3)), (yw vn57_), (yw (bptr F 0)), (yw (iv ((p.wants.getD k w0).w))), (yw (bptr F 1)), (yw (iv ((p.wants.getD k w0).l))), (yw (bptr F 2)), (yw (Value.bool ((p.wants.getD k w0).turn))), (yw (bptr F 3)), (yw (iv ((p.wants.getD k w0).worth))), (yw (bptr F 4)), (yw (Value.agg #[(iv ((p.wants.getD k w0).xl)), (iv ((p.wants.getD k w0).xh))])), (yw (Value.agg #[(iv ((p.wants.getD k w0).xl)), (iv ((p.wants.getD k w0).xh))])), (yw (bptr F 6)), (yw (Value.agg #[(iv ((p.wants.getD k w0).yl)), (iv ((p.wants.getD k w0).yh))])), (yw (Value.agg #[(iv ((p.wants.getD k w0).yl)), (iv ((p.wants.getD k w0).yh))])), (yw (Value.agg #[(iv ((p.wants.getD k w0).w)), (iv ((p.wants.getD k w0).l)), (Value.bool ((p.wants.getD k w0).turn)), (iv ((p.wants.getD k w0).worth)), (iv ((p.wants.getD k w0).xl)), (iv ((p.wants.getD k w0).xh)), (iv ((p.wants.getD k w0).yl)), (iv ((p.wants.getD k w0).yh))])), (fun (A : Nat → Value) (v_ : Value) (rs_ : List Res) => True ∧ rs_ = [(row v_ 57 8 1 [(iv ((p.wants.getD k w0).w)), (iv ((p.wants.getD k w0).l)), (Value.bool ((p.wants.getD k w0).turn)), (iv ((p.wants.getD k w0).worth)), (iv ((p.wants.getD k w0).xl)), (iv ((p.wants.getD k w0).xh)), (iv ((p.wants.getD k w0).yl)), (iv ((p.wants.getD k w0).yh))])])] (by decide +kernel) (by decide +kernel) rfl rfl ⟨dw, dw, dw, dw, dw, dw, dw, dw, dw, dw, dw, dw, dw, dw, dw, dw, dw, (fun _ _ _ _ _ h_ => h_), trivial⟩ ?_ ?_
  ·skip
   refine ⟨fun a w A hA hS hd => gv1 (a_2 rfl fd_60_3 hA.e), ?_⟩
   refine ⟨fun a w A hA hS hd => gv1 (a_3 rfl ty_58 (gu hd 0) (hS.bk 2 rfl) rfl), ?_⟩
   refine ⟨fun a w A hA hS hd => gv1 (a_2 rfl fd_51_0 hA.e), ?_⟩
   refine ⟨fun a w A hA hS hd => gv1 (a_3 rfl ty_3 (gu hd 2) (hS.bk 0 rfl) rfl), ?_⟩
   refine ⟨fun a w A hA hS hd => gv1 (a_2 rfl fd_51_1 hA.e), ?_⟩
   refine ⟨fun a w A hA hS hd => gv1 (a_3 rfl ty_3 (gu hd 4) (hS.bk 0 rfl) rfl), ?_⟩
   refine ⟨fun a w A hA hS hd => gv1 (a_2 rfl fd_51_2 hA.e), ?_⟩
   refine ⟨fun a w A hA hS hd => gv1 (a_3 rfl ty_4 (gu hd 6) (hS.bk 0 rfl) rfl), ?_⟩
   refine ⟨fun a w A hA hS hd => gv1 (a_2 rfl fd_51_3 hA.e), ?_⟩
   refine ⟨fun a w A hA hS hd => gv1 (a_3 rfl ty_3 (gu hd 8) (hS.bk 0 rfl) rfl), ?_⟩
   refine ⟨fun a w A hA hS hd => gv1 (a_2 rfl n_8 hA.e), ?_⟩
   refine ⟨fun a w A hA hS hd => gv1 (c_2 rfl ty_49 (gu hd 10) (hS.bk 0 rfl) (l := [(iv ((p.wants.getD k w0).xl)), (iv ((p.wants.getD k w0).xh))]) rfl rfl), ?_⟩
   refine ⟨fun a w A hA hS hd => gx1 (b_5 rfl en_29 (ev1 (gu hd 11)) (to_ok _ _ _)), ?_⟩
   refine ⟨fun a w A hA hS hd => gv1 (a_2 rfl n_9 hA.e), ?_⟩
   refine ⟨fun a w A hA hS hd => gv1 (c_2 rfl ty_49 (gu hd 13) (hS.bk 0 rfl) (l := [(iv ((p.wants.getD k w0).yl)), (iv ((p.wants.getD k w0).yh))]) rfl rfl), ?_⟩
   refine ⟨fun a w A hA hS hd => gx1 (b_5 rfl en_29 (ev1 (gu hd 14)) (to_ok _ _ _)), ?_⟩
   refine ⟨fun a w A hA hS hd => gv1 (e_8 rfl (pv6 (gu hd 3) (gu hd 5) (gu hd 7) (gu hd 9) (gu hd 12) (gu hd 15)) (bd_57_0i_1i_2b_3i_4iia_5iia _ _ _ _ _ _ _ _)), ?_⟩
   refine ⟨fun a w A hA hS hd => e_7 rfl (vblt rfl (pv1 (gu hd 16)) un_58 ty_57 ze_57 (by decide) (cs := [(iv ((p.wants.getD k w0).w)), (iv ((p.wants.getD k w0).l)), (Value.bool ((p.wants.getD k w0).turn)), (iv ((p.wants.getD k w0).worth)), (iv ((p.wants.getD k w0).xl)), (iv ((p.wants.getD k w0).xh)), (iv ((p.wants.getD k w0).yl)), (iv ((p.wants.getD k w0).yh))]) (bs_57_1_0iibiiiiia _ _ _ _ _ _ _ _) rfl (by decide) (fun _ => And.intro trivial rfl)), ?_⟩
   trivial
  intro Ae A9 A rsf81 AM B r; clear AL AU
  obtain ⟨AA, Ac⟩ := B 17 (by decide)
  obtain ⟨Ab, z⟩ := Ac
  have s : Sep NoB w A9 [(row (A 17) 57 8 1 [(iv ((p.wants.getD k w0).w)), (iv ((p.wants.getD k w0).l)), (Value.bool ((p.wants.getD k w0).turn)), (iv ((p.wants.getD k w0).worth)), (iv ((p.wants.getD k w0).xl)), (iv ((p.wants.getD k w0).xh)), (iv ((p.wants.getD k w0).yl)), (iv ((p.wants.getD k w0).yh))]), (blk F 51 [(iv ((p.wants.getD k w0).w)), (iv ((p.wants.getD k w0).l)), (Value.bool ((p.wants.getD k w0).turn)), (iv ((p.wants.getD k w0).worth)), (iv ((p.wants.getD k w0).xl)), (iv ((p.wants.getD k w0).xh)), (iv ((p.wants.getD k w0).yl)), (iv ((p.wants.getD k w0).yh))]), (row vn57_ 57 8 ((p.wants.take k).length) (recC d_6 (p.wants.take k))), (blk D 60 [(iv p.wide), (iv p.long), (iv p.saw), vn57_]), (blk H 60 [(iv 0), (iv 0), (iv 0), (Value.slice none 0 0)]), (blk I 24 [(iv p.wide), (iv p.long), (iv p.saw), vw]), (sl vw 8 p.wants.length (recC d_6 p.wants))] := by rw [show catR rsf81 0 18 = ([(row (A 17) 57 8 1 [(iv ((p.wants.getD k w0).w)), (iv ((p.wants.getD k w0).l)), (Value.bool ((p.wants.getD k w0).turn)), (iv ((p.wants.getD k w0).worth)), (iv ((p.wants.getD k w0).xl)), (iv ((p.wants.getD k w0).xh)), (iv ((p.wants.getD k w0).yl)), (iv ((p.wants.getD k w0).yh))])] : List Res) by (try simp only [catR, gr (B 0 (by decide)), gr (B 1 (by decide)), gr (B 2 (by decide)), gr (B 3 (by decide)), gr (B 4 (by decide)), gr (B 5 (by decide)), gr (B 6 (by decide)), gr (B 7 (by decide)), gr (B 8 (by decide)), gr (B 9 (by decide)), gr (B 10 (by decide)), gr (B 11 (by decide)), gr (B 12 (by decide)), gr (B 13 (by decide)), gr (B 14 (by decide)), gr (B 15 (by decide)), gr (B 16 (by decide)), z]); (try rfl)] at r; exact r
  have AN := AM.add (gs (B 1 (by decide))); clear AM
  have S : Fr 46 [] [(42, (A 17)), (26, vn57_), (5, (bptr F 0)), (4, (iv (k : Int))), (3, (bptr D 0)), (2, (bptr H 0)), (1, (bptr I 0))] Ae := AN.add (j_5 AA rfl); clear AN
  clear B r AA
  clear z
  clear Ab
  refine s2 S (e_9 s rfl un_58 el_57 S.e S.e (i := 2) rfl (SlAt.b_4 (s.b_7 0 rfl)) rfl (by simp only [maxLen]; omega) (by omega)) ?_
  intro A3 AB BJ AV n
  have U := AV.c_5 (i := 2) rfl (n' := ((p.wants.take k) ++ [(p.wants.getD k w0)]).length) (xs' := (recC d_6 ((p.wants.take k) ++ [(p.wants.getD k w0)]))) (g_4 (p.wants.take k) (p.wants.getD k w0)) (g_9 d_6 (p.wants.take k) (p.wants.getD k w0)); clear AV S s Ae
  refine s1 n (a_2 rfl fd_60_3 n.e) fun A4 T => ?_; clear n A3
  refine s7 T (d_8 U rfl ty_58 T.e T.e (i := 3) rfl (vs := [AB]) (i_3 (SlAt.isSl (SlAt.b_4 (U.b_7 2 rfl)))) rfl (j_8 (SlAt.one (SlAt.b_4 (U.b_7 2 rfl))) p_2) (Nat.le_of_ble_eq_true rfl)) ?_
  intro _ BA AW o; clear T
  have AX : Sep NoB w BA [(row (A 17) 57 8 1 [(iv ((p.wants.getD k w0).w)), (iv ((p.wants.getD k w0).l)), (Value.bool ((p.wants.getD k w0).turn)), (iv ((p.wants.getD k w0).worth)), (iv ((p.wants.getD k w0).xl)), (iv ((p.wants.getD k w0).xh)), (iv ((p.wants.getD k w0).yl)), (iv ((p.wants.getD k w0).yh))]), (blk F 51 [(iv ((p.wants.getD k w0).w)), (iv ((p.wants.getD k w0).l)), (Value.bool ((p.wants.getD k w0).turn)), (iv ((p.wants.getD k w0).worth)), (iv ((p.wants.getD k w0).xl)), (iv ((p.wants.getD k w0).xh)), (iv ((p.wants.getD k w0).yl)), (iv ((p.wants.getD k w0).yh))]), (row AB 57 8 (((p.wants.take k) ++ [(p.wants.getD k w0)]).length) (recC d_6 ((p.wants.take k) ++ [(p.wants.getD k w0)]))), (blk D 60 [(iv p.wide), (iv p.long), (iv p.saw), AB]), (blk H 60 [(iv 0), (iv 0), (iv 0), (Value.slice none 0 0)]), (blk I 24 [(iv p.wide), (iv p.long), (iv p.saw), vw]), (sl vw 8 p.wants.length (recC d_6 p.wants))] := AW; clear AW U
  refine d_0 (f_8 (b_0 (a_5 (s1 o (a_0 rfl o.e) fun A5 q => ?_)))); clear o A4
  refine s1 q (c_6 rfl q.e (evc _ _) (by omega) (by omega)) fun A6 M => ?_; clear q A5
  refine s1 M (a_1 rfl M.e) fun BC AZ => ?_; clear M A6
  refine d_0 ?_
  have Aa := AX.gkp (gpc 2 (gpc 3 (gpc 4 (gpc 5 (gpc 6 gpn))))); clear AX
  exact b_0 ⟨k + 1, ⟨AB, AZ.as _ rfl, (Aa.c_5 (i := 0) rfl (by rw [take_one p.wants _ (by omega)]) (by rw [take_one p.wants _ (by omega)])), by omega⟩, by omega⟩
 skip
 rw [decide_eq_false AY] at E
 refine b_3 E rfl (g_5 (b_9 (b_9 (f_1 (b_0 (b_6 ?_))))))
 have N := E.as [(3, (bptr D 0)), (2, (bptr H 0))] rfl; clear E
 refine a_5 (s1 N (c_2 rfl ty_60 (N.ev rfl) (C.bk 1 rfl) (l := [(iv p.wide), (iv p.long), (iv p.saw), vn57_]) rfl rfl) fun BD J => ?_); clear N Ad
 refine s7 J (d_8 C rfl ty_60 J.e J.e (i := 2) rfl (vs := [(iv p.wide), (iv p.long), (iv p.saw), vn57_]) rfl rfl (j_8 rfl (j_8 rfl (j_8 rfl (j_8 (SlAt.one (SlAt.b_4 (C.b_7 0 rfl))) p_2)))) (Nat.le_of_ble_eq_true rfl)) ?_
 intro _ Ai x t; clear J
 have y : Sep NoB w Ai [(row vn57_ 57 8 ((p.wants.take k).length) (recC d_6 (p.wants.take k))), (blk D 60 [(iv p.wide), (iv p.long), (iv p.saw), vn57_]), (blk H 60 [(iv p.wide), (iv p.long), (iv p.saw), vn57_]), (blk I 24 [(iv p.wide), (iv p.long), (iv p.saw), vw]), (sl vw 8 p.wants.length (recC d_6 p.wants))] := x; clear x C
 refine n1 (c_3 (a_9 t (.inl rfl) (a_4 t rfl (.cellA rfl ty_60 (y.bk 2 rfl) (l := [(iv p.wide), (iv p.long), (iv p.saw), vn57_]) rfl rfl)) ?_))
 have hz := y.c_5 (i := 0) rfl (n' := p.wants.length) (xs' := recC d_6 p.wants) (by rw [take_all (by omega)]) (by rw [take_all (by omega)])
 exact ⟨_, rfl, hz.keep [0] (by decide) _ rfl rfl⟩
theorem cuts_ok (w : World) (cuts : List CutD) (vc : Value) (hvc : SlAt w vc 3 cuts.length (recC cutC cuts)) (hlc : cuts.length ≤ 1000000) :
  Calls Try.prog 30 #[vc] w (Ret fun v w' => Ext NoB w w' ∧ w'.ownsRow w.heap.size 109 3 v cuts.length (recC cutC cuts)) := by
 refine b_2 Try.func30 rfl fun r S => ?_
 replace S : Fr 31 [] [(0, vc)] r := S
 have n : Sep NoB w w [(sl vc 3 cuts.length (recC cutC cuts))] := f_7 ⟨rfl, hvc, trivial⟩
 refine m2 (s1 S (a_1 rfl (evc _ _)) fun a1 h => ?_); clear S r
 refine n4 (s1 h (a_1 rfl (evc _ _)) fun a3 j => ?_); clear h a1
 have o := n.i_4 109 3; clear n
 refine n2 (m2 (s1 j (a_1 rfl (evc _ _)) fun a6 l => ?_)); clear j a3
 refine n1 (c_9 ?_)
 have m := l.as [(4, (iv 0)), (3, (Value.slice none 0 0)), (0, vc)] rfl; clear l
 refine g_6 (G := Nat) (fun (k : Nat) a_ w_ => ∃ v3_ : Value, Fr 31 [] [(4, (iv (k : Int))), (3, v3_), (0, vc)] a_ ∧ Sep NoB w w_ [(row v3_ 109 3 ((cuts.take k).length) (recC cutC (cuts.take k))), (sl vc 3 cuts.length (recC cutC cuts))] ∧ (k ≤ cuts.length)) (fun k => cuts.length - k) 0 ⟨(Value.slice none 0 0), m.as _ rfl, (o.c_5 (i := 0) rfl (by rfl) (by rfl)), by omega⟩ ?_
 clear m o a6
 rintro k a9 AL ⟨v3_, H, F, hkk⟩
 have hul_k : (cuts.take k).length = k := by rw [List.length_take]; omega
 refine b_6 (m2 (s1 H (a_0 rfl H.e) fun s I => ?_)); clear H a9
 refine s1 I (a_0 rfl I.e) fun t J => ?_; clear I s
 refine s1 J (d_7 rfl un_34 J.e (F.sk 1 rfl)) fun u D => ?_; clear J t
 refine s1 D (e_2 rfl D.e D.e) fun x C => ?_; clear D u
 refine n1 ?_
 by_cases c : (k : Int) < (cuts.length : Int)
 ·skip
  rw [decide_eq_true c] at C
  refine c_1 C rfl (c_0 (b_0 (b_6 (c_9 ?_))))
  have V := C.as [(4, (iv (k : Int))), (3, v3_), (0, vc)] rfl; clear C
  refine c_drawV mixed V F 18 [[], [], [], [1, 2], [3], [4], [], [], [6, 7], [8], [9], [], [], [11, 12], [13], [14], [5, 10, 15], [16]] [(yw v3_), (yw vc), (yw (iv (k : Int))), (yw (eptr vc (k * 3))), (yw (eptr vc (k * 3 + 0))), (yw (iv ((cuts.getD k c0).piece))), (yw vc), (yw (iv (k : Int))), (yw (eptr vc (k * 3))), (yw (eptr vc (k * 3 + 1))), (yw (Value.bool ((cuts.getD k c0).across))), (yw vc), (yw (iv (k : Int))), (yw (eptr vc (k * 3))), (yw (eptr vc (k * 3 + 2))), (yw (iv ((cuts.getD k c0).pos))), (yw (Value.agg #[(iv ((cuts.getD k c0).piece)), (Value.bool ((cuts.getD k c0).across)), (iv ((cuts.getD k c0).pos))])), (fun (A : Nat → Value) (v_ : Value) (rs_ : List Res) => True ∧ rs_ = [(row v_ 109 3 1 [(iv ((cuts.getD k c0).piece)), (Value.bool ((cuts.getD k c0).across)), (iv ((cuts.getD k c0).pos))])])] (by decide +kernel) (by decide +kernel) rfl rfl ⟨dw, dw, dw, dw, dw, dw, dw, dw, dw, dw, dw, dw, dw, dw, dw, dw, dw, (fun _ _ _ _ _ h_ => h_), trivial⟩ ?_ ?_
  ·skip
   refine ⟨fun a w A hA hS hd => gv1 (a_0 rfl hA.e), ?_⟩
   refine ⟨fun a w A hA hS hd => gv1 (a_0 rfl hA.e), ?_⟩
   refine ⟨fun a w A hA hS hd => gv1 (a_0 rfl hA.e), ?_⟩
   refine ⟨fun a w A hA hS hd => gv1 (b_8 rfl un_34 ty_75 (gu hd 1) (i := k) (gu hd 2) (hS.sk 1 rfl) (by decide) (by omega)), ?_⟩
   refine ⟨fun a w A hA hS hd => gv1 (l_5 rfl fd_75_0 (gu hd 3) (hS.sk 1 rfl) (by rw [((hS.sk 1 rfl)).1]; omega)), ?_⟩
   refine ⟨fun a w A hA hS hd => gv1 (d_3 rfl ty_3 (gu hd 4) (hS.sk 1 rfl) (cut_at0 (by omega))), ?_⟩
   refine ⟨fun a w A hA hS hd => gv1 (a_0 rfl hA.e), ?_⟩
   refine ⟨fun a w A hA hS hd => gv1 (a_0 rfl hA.e), ?_⟩
   refine ⟨fun a w A hA hS hd => gv1 (b_8 rfl un_34 ty_75 (gu hd 6) (i := k) (gu hd 7) (hS.sk 1 rfl) (by decide) (by omega)), ?_⟩
   refine ⟨fun a w A hA hS hd => gv1 (l_5 rfl fd_75_1 (gu hd 8) (hS.sk 1 rfl) (by rw [((hS.sk 1 rfl)).1]; omega)), ?_⟩
   refine ⟨fun a w A hA hS hd => gv1 (d_3 rfl ty_4 (gu hd 9) (hS.sk 1 rfl) (cut_at1 (by omega))), ?_⟩
   refine ⟨fun a w A hA hS hd => gv1 (a_0 rfl hA.e), ?_⟩
   refine ⟨fun a w A hA hS hd => gv1 (a_0 rfl hA.e), ?_⟩
   refine ⟨fun a w A hA hS hd => gv1 (b_8 rfl un_34 ty_75 (gu hd 11) (i := k) (gu hd 12) (hS.sk 1 rfl) (by decide) (by omega)), ?_⟩
   refine ⟨fun a w A hA hS hd => gv1 (l_5 rfl fd_75_2 (gu hd 13) (hS.sk 1 rfl) (by rw [((hS.sk 1 rfl)).1]; omega)), ?_⟩
   refine ⟨fun a w A hA hS hd => gv1 (d_3 rfl ty_3 (gu hd 14) (hS.sk 1 rfl) (cut_at2 (by omega))), ?_⟩
   refine ⟨fun a w A hA hS hd => gv1 (e_8 rfl (pv3 (gu hd 5) (gu hd 10) (gu hd 15)) (bd_109_0i_1b_2i _ _ _)), ?_⟩
   refine ⟨fun a w A hA hS hd => e_7 rfl (vblt rfl (pv1 (gu hd 16)) un_61 ty_109 ze_109 (by decide) (cs := [(iv ((cuts.getD k c0).piece)), (Value.bool ((cuts.getD k c0).across)), (iv ((cuts.getD k c0).pos))]) (bs_109_1_0ibia _ _ _) rfl (by decide) (fun _ => And.intro trivial rfl)), ?_⟩
   trivial
  intro g AE A rsf29 W B Q; clear V F
  obtain ⟨U, f⟩ := B 17 (by decide)
  obtain ⟨d, T⟩ := f
  have R : Sep NoB w AE [(row (A 17) 109 3 1 [(iv ((cuts.getD k c0).piece)), (Value.bool ((cuts.getD k c0).across)), (iv ((cuts.getD k c0).pos))]), (row v3_ 109 3 ((cuts.take k).length) (recC cutC (cuts.take k))), (sl vc 3 cuts.length (recC cutC cuts))] := by rw [show catR rsf29 0 18 = ([(row (A 17) 109 3 1 [(iv ((cuts.getD k c0).piece)), (Value.bool ((cuts.getD k c0).across)), (iv ((cuts.getD k c0).pos))])] : List Res) by (try simp only [catR, gr (B 0 (by decide)), gr (B 1 (by decide)), gr (B 2 (by decide)), gr (B 3 (by decide)), gr (B 4 (by decide)), gr (B 5 (by decide)), gr (B 6 (by decide)), gr (B 7 (by decide)), gr (B 8 (by decide)), gr (B 9 (by decide)), gr (B 10 (by decide)), gr (B 11 (by decide)), gr (B 12 (by decide)), gr (B 13 (by decide)), gr (B 14 (by decide)), gr (B 15 (by decide)), gr (B 16 (by decide)), T]); (try rfl)] at Q; exact Q
  have X := W.add (gs (B 0 (by decide))); clear W
  have E : Fr 31 [] [(28, (A 17)), (11, v3_), (4, (iv (k : Int))), (3, v3_), (0, vc)] g := X.add (j_5 U rfl); clear X
  clear B Q U
  clear T
  clear d
  refine s2 E (e_9 R rfl un_61 el_109 E.e E.e (i := 1) rfl (SlAt.b_4 (R.b_7 0 rfl)) rfl (by simp only [maxLen]; omega) (by omega)) ?_
  intro y AD AM Z K
  have b := Z.c_5 (i := 1) rfl (n' := ((cuts.take k) ++ [(cuts.getD k c0)]).length) (xs' := (recC cutC ((cuts.take k) ++ [(cuts.getD k c0)]))) (g_4 (cuts.take k) (cuts.getD k c0)) (g_9 cutC (cuts.take k) (cuts.getD k c0)); clear Z E R g
  refine s1 K (a_1 rfl K.e) fun z L => ?_; clear K y
  refine d_0 (f_8 (b_0 (a_5 (s1 L (a_0 rfl L.e) fun AA M => ?_)))); clear L z
  refine s1 M (c_6 rfl M.e (evc _ _) (by omega) (by omega)) fun AB N => ?_; clear M AA
  refine s1 N (a_1 rfl N.e) fun AJ p => ?_; clear N AB
  refine d_0 ?_
  have q := b.gkp (gpc 1 (gpc 2 gpn)); clear b
  exact b_0 ⟨k + 1, ⟨AD, p.as _ rfl, (q.c_5 (i := 0) rfl (by rw [take_one _ _ (by omega)]) (by rw [take_one _ _ (by omega)])), by omega⟩, by omega⟩
 skip
 rw [decide_eq_false c] at C
 refine b_3 C rfl (g_5 (b_9 (b_9 (f_1 (b_0 (b_6 ?_))))))
 have O := C.as [(3, v3_)] rfl; clear C
 refine a_5 (s1 O (a_0 rfl O.e) fun AC P => ?_); clear O x
 refine s1 P (a_1 rfl P.e) fun AK Y => ?_; clear P AC
 refine n1 (c_3 (a_9 Y (.inl rfl) (a_4 Y rfl (.tmp rfl)) ?_))
 have hz := F.c_5 (i := 0) rfl (n' := cuts.length) (xs' := recC cutC cuts) (by rw [take_all (by omega)]) (by rw [take_all (by omega)])
 exact ⟨hz.ext, hz.g_7 (i := 0) rfl⟩
theorem list_ok (w : World) (uses : List Int) (vu : Value) (hvu : SlAt w vu 1 uses.length (ints uses)) (hlu : uses.length ≤ 1000000) :
  Calls Try.prog 31 #[vu] w (Ret fun v w' => Ext NoB w w' ∧ w'.ownsRow w.heap.size 3 1 v uses.length (ints uses)) := by
 refine b_2 Try.func31 rfl fun L C => ?_
 replace C : Fr 6 [] [(0, vu)] L := C
 have J : Sep NoB w w [(sl vu 1 uses.length (ints uses))] := f_7 ⟨rfl, hvu, trivial⟩
 refine m2 (s1 C (a_1 rfl (evc _ _)) fun N I => ?_); clear C L
 refine n4 (s2 I (c_7 J rfl pv0 k_0 ty_3 ze_3 (by decide) (cs := []) bs_3_0_) ?_)
 rintro O _ U ⟨T, rfl, K⟩ F; clear I J N
 refine s1 F (a_0 rfl F.e) fun P D => ?_; clear F O
 have B := K.blk_row (i := 0) (sz := 1) (n := 0) rfl rfl (by decide); clear K
 refine s2 D (e_9 B rfl k_0 el_3 D.e D.e (i := 0) rfl (B.sk 1 rfl) (ints_one _) (by simp only [maxLen]; omega) (by omega)) ?_
 intro M R S G A
 have H := G.c_5 (i := 0) rfl (n' := uses.length) (xs' := (ints uses)) (by simp only [Nat.zero_add]) (List.nil_append _); clear G D B P
 refine s1 A (a_1 rfl A.e) fun Q E => ?_; clear A M
 exact n1 (c_3 (a_9 E (.inl rfl) (a_4 E rfl (.tmp rfl)) (⟨H.ext, H.g_7 (i := 0) rfl⟩)))
theorem plan_ok (w : World) (cuts : List CutD) (vc : Value) (hvc : SlAt w vc 3 cuts.length (recC cutC cuts)) (uses : List Int) (vu : Value) (hvu : SlAt w vu 1 uses.length (ints uses)) (hlc : cuts.length ≤ 1000000) (hlu : uses.length ≤ 1000000) :
  Calls Try.prog 20 #[(Value.agg #[vc, vu])] w (Ret fun v w' => ∃ j k, v = .agg #[j, k] ∧ Sep NoB w w' [row j 109 3 cuts.length (recC cutC cuts), row k 3 1 uses.length (ints uses)]) := by
 refine b_2 Try.func20 rfl fun f F => ?_
 replace F : Fr 10 [] [(0, (Value.agg #[vc, vu]))] f := F
 have Z : Sep NoB w w [(sl vc 3 cuts.length (recC cutC cuts)), (sl vu 1 uses.length (ints uses))] := f_7 ⟨rfl, hvc, rfl, hvu, trivial⟩
 refine m2 (s2 F (e_5 Z rfl F.e (cs := [vc, vu]) rfl) ?_)
 rintro o _ s ⟨K, rfl, b⟩ X; clear F Z f
 refine s2 X (e_6 b rfl ze_63 (cs := [(Value.slice none 0 0), (Value.slice none 0 0)]) rfl) ?_
 rintro r _ t ⟨V, rfl, Q⟩ Y; clear X b o
 refine n2 ?_
 have L := Y.as [(2, (bptr V 0)), (1, (bptr K 0))] rfl; clear Y
 refine c_drawV mixed L Q 5 [[], [0], [1], [], [3]] [(yw (bptr K 0)), (yw vc), (fun (A : Nat → Value) (v_ : Value) (rs_ : List Res) => True ∧ rs_ = [(row v_ 109 3 cuts.length (recC cutC cuts))]), (yw (bptr K 1)), (yw vu)] (by decide +kernel) (by decide +kernel) rfl rfl ⟨dw, dw, (fun _ _ _ _ _ h_ => h_), dw, dw, trivial⟩ ?_ ?_
 ·skip
  refine ⟨fun a w A hA hS hd => gv1 (a_2 rfl fd_37_0 hA.e), ?_⟩
  refine ⟨fun a w A hA hS hd => gv1 (a_3 rfl ty_34 (gu hd 0) (hS.bk 1 rfl) rfl), ?_⟩
  refine ⟨fun a w A hA hS hd => e_7 rfl (vn (b_5 rfl en_30 (ev1 (gu hd 1)) (cuts_ok _ cuts _ (hS.sk 2 rfl) hlc)) (fun v w' h => ⟨_, And.intro trivial rfl, (Sep.start NoB _).new_row h.1 h.2, rfl⟩)), ?_⟩
  refine ⟨fun a w A hA hS hd => gv1 (a_2 rfl g_8 hA.e), ?_⟩
  refine ⟨fun a w A hA hS hd => gv1 (a_3 rfl l_8 (gu hd 3) (hS.bk 1 rfl) rfl), ?_⟩
  trivial
 intro W m A rsf18 M B H; clear L Q
 obtain ⟨U, d⟩ := B 2 (by decide)
 obtain ⟨c, T⟩ := d
 have I : Sep NoB w m [(row (A 2) 109 3 cuts.length (recC cutC cuts)), (blk V 63 [(Value.slice none 0 0), (Value.slice none 0 0)]), (blk K 37 [vc, vu]), (sl vc 3 cuts.length (recC cutC cuts)), (sl vu 1 uses.length (ints uses))] := by rw [show catR rsf18 0 5 = ([(row (A 2) 109 3 cuts.length (recC cutC cuts))] : List Res) by (try simp only [catR, gr (B 0 (by decide)), gr (B 1 (by decide)), T, gr (B 3 (by decide)), gr (B 4 (by decide))]); (try rfl)] at H; exact H
 have N : Fr 10 [] [(5, (A 2)), (2, (bptr V 0)), (1, (bptr K 0))] W := M.add (j_5 U rfl); clear M
 have G := N.add (gs (B 4 (by decide))); clear N
 clear B H U
 clear T
 clear c
 refine s2 G (b_5 rfl en_31 (ev1 G.e) (list_ok _ uses _ (I.sk 4 rfl) hlu)) ?_
 rintro g J q ⟨P, hO26⟩ D; have C := I.new_row P hO26; clear P hO26 G I W
 refine s1 D (e_8 rfl (pv2 D.e D.e) (bd_63_0s_1s _ (SlAt.isSl (SlAt.b_4 (C.b_7 1 rfl))) _ (SlAt.isSl (SlAt.b_4 (C.b_7 0 rfl))))) fun p E => ?_; clear D g
 refine s7 E (d_8 C rfl ty_63 E.e E.e (i := 2) rfl (vs := [(A 2), J]) rfl rfl (j_8 (SlAt.one (SlAt.b_4 (C.b_7 1 rfl))) (j_8 (SlAt.one (SlAt.b_4 (C.b_7 0 rfl))) p_2)) (Nat.le_of_ble_eq_true rfl)) ?_
 intro _ n R O; clear E
 have S : Sep NoB w n [(row J 3 1 uses.length (ints uses)), (row (A 2) 109 3 cuts.length (recC cutC cuts)), (blk V 63 [(A 2), J]), (blk K 37 [vc, vu]), (sl vc 3 cuts.length (recC cutC cuts)), (sl vu 1 uses.length (ints uses))] := R; clear R C
 refine n1 (c_3 (a_9 O (.inl rfl) (a_4 O rfl (.cellA rfl ty_63 (S.bk 2 rfl) (l := [(A 2), J]) rfl rfl)) ?_))
 exact ⟨_, _, rfl, S.keep [1, 0] (by decide) _ rfl rfl⟩
end Go.Proofs.Ytphkmnaohimdbaa

namespace Go.Proofs.Ytphkmnaohimdbaa
open Go.RowKit Go.Shelf Go.Eng Go.Top
theorem en_65 : ∀ args w, (callFunc 65 args).run Try.prog w = .ok (.enter 65 args) w := enters_of Try.func65 (by kernel_rfl) rfl
theorem ty_121 : tyK Try.prog 121 = some (false, 1) := by kernel_rfl
theorem en_59 : ∀ args w, (callFunc 59 args).run Try.prog w = .ok (.enter 59 args) w := enters_of Try.func59 (by kernel_rfl) rfl
theorem en_58 : ∀ args w, (callFunc 58 args).run Try.prog w = .ok (.enter 58 args) w := enters_of Try.func58 (by kernel_rfl) rfl
theorem en_56 : ∀ args w, (callFunc 56 args).run Try.prog w = .ok (.enter 56 args) w := enters_of Try.func56 (by kernel_rfl) rfl
theorem ty_103 : tyK Try.prog 103 = some (false, 1) := by kernel_rfl
theorem en_46 : ∀ args w, (callFunc 46 args).run Try.prog w = .ok (.enter 46 args) w := enters_of Try.func46 (by kernel_rfl) rfl
theorem en_45 : ∀ args w, (callFunc 45 args).run Try.prog w = .ok (.enter 45 args) w := enters_of Try.func45 (by kernel_rfl) rfl
theorem s_4 : Try.prog.underlying 67 = some (.slice 66) := by kernel_rfl
theorem q_2 : tyK Try.prog 66 = some (true, 3) := by kernel_rfl
theorem en_57 : ∀ args w, (callFunc 57 args).run Try.prog w = .ok (.enter 57 args) w := enters_of Try.func57 (by kernel_rfl) rfl
theorem ty_107 : tyK Try.prog 107 = some (false, 1) := by kernel_rfl
theorem en_49 : ∀ args w, (callFunc 49 args).run Try.prog w = .ok (.enter 49 args) w := enters_of Try.func49 (by kernel_rfl) rfl
theorem en_48 : ∀ args w, (callFunc 48 args).run Try.prog w = .ok (.enter 48 args) w := enters_of Try.func48 (by kernel_rfl) rfl
theorem en_50 : ∀ args w, (callFunc 50 args).run Try.prog w = .ok (.enter 50 args) w := enters_of Try.func50 (by kernel_rfl) rfl
theorem fd_57_3 : fldK Try.prog 57 3 = some 3 := by kernel_rfl
theorem en_60 : ∀ args w, (callFunc 60 args).run Try.prog w = .ok (.enter 60 args) w := enters_of Try.func60 (by kernel_rfl) rfl
theorem fd_60_2 : fldK Try.prog 60 2 = some 2 := by kernel_rfl
theorem en_52 : ∀ args w, (callFunc 52 args).run Try.prog w = .ok (.enter 52 args) w := enters_of Try.func52 (by kernel_rfl) rfl
theorem en_51 : ∀ args w, (callFunc 51 args).run Try.prog w = .ok (.enter 51 args) w := enters_of Try.func51 (by kernel_rfl) rfl
theorem plate_V {p : g_2} (A : inB p.wide 1 8 = true) (B : inB p.long 1 8 = true) (C : inB p.saw 0 2 = true) (D : p.wants.length ≤ 4) (E : ∀ i, i < p.wants.length → WantV (p.wants.getD i w0)) : n_0 p := ⟨g_3.1 A, g_3.1 B, g_3.1 C, D, E⟩
set_option maxHeartbeats 4000000 in
theorem fault_ok (p : g_2) (vw : Value) (w : World) (hvw : SlAt w vw 8 p.wants.length (recC d_6 p.wants)) :
  Calls Try.prog 4 #[(Value.agg #[(iv p.wide), (iv p.long), (iv p.saw), vw])] w (Ret fun v w' => ∃ n : Int, v = .int .i64 n ∧ (n = 0 → n_0 p) ∧ Ext NoB w w') := by
 refine b_2 Try.func4 rfl fun a0 BN => ?_
 replace BN : Fr 85 [] [(0, (Value.agg #[(iv p.wide), (iv p.long), (iv p.saw), vw]))] a0 := BN
 have Eb : Sep NoB w w [(sl vw 8 p.wants.length (recC d_6 p.wants))] := f_7 ⟨rfl, hvw, trivial⟩
 refine m2 (s2 BN (e_5 Eb rfl BN.e (cs := [(iv p.wide), (iv p.long), (iv p.saw), vw]) rfl) ?_)
 rintro a1 _ w3 ⟨b4, rfl, M⟩ Ea; clear BN Eb a0
 refine s1 Ea (a_1 rfl (evc _ _)) fun a6 EK => ?_; clear Ea a1
 refine n2 (m2 (s1 EK (a_2 rfl k_9 EK.e) fun a8 EM => ?_)); clear EK a6
 refine s1 EM (a_3 rfl r_3 EM.e (M.bk 0 rfl) rfl) fun H3 BO => ?_; clear EM a8
 refine s1 BO (d_7 rfl r_4 BO.e (M.sk 1 rfl)) fun H4 BP => ?_; clear BO H3
 refine s1 BP (h_4 rfl BP.e (evc _ _)) fun EU K => ?_; clear BP H4
 refine n1 ?_
 by_cases EQ : 4 < (p.wants.length : Int)
 ·skip
  rw [decide_eq_true EQ] at K
  refine c_1 K rfl (b_6 ?_)
  have EF := K.as [] rfl; clear K
  refine a_5 (s1 EF (a_1 rfl (evc _ _)) fun Il EG => ?_); clear EF EU
  exact n1 (c_3 (b_1 (a_9 EG (.inl rfl) (a_4 EG rfl (.tmp rfl)) (⟨3, rfl, fun h => absurd h (by decide), M.ext⟩))))
 skip
 rw [decide_eq_false EQ] at K
 refine b_3 K rfl (c_0 (b_0 (b_6 (b_6 ?_))))
 have BQ := K.as [(1, (bptr b4 0))] rfl; clear K
 refine a_5 (s1 BQ (a_2 rfl fd_24_0 BQ.e) fun H5 BR => ?_); clear BQ EU
 refine s1 BR (a_3 rfl ty_3 BR.e (M.bk 0 rfl) rfl) fun H6 BS => ?_; clear BR H5
 refine s2 BS (b_5 rfl en_11 (ev3 BS.e (evc _ _) (evc _ _)) (q_4 _ _ _ _)) ?_
 rintro H7 _ W_ ⟨rfl, hW_⟩ BT; have hW2_ := hW_.symm; subst hW2_; clear hW_ BS H6
 refine s1 BT (e_4 rfl BT.e) fun H8 BU => ?_; clear BT H7
 refine s1 BU (a_0 rfl BU.e) fun EV O => ?_; clear BU H8
 rcases Bool.eq_false_or_eq_true ((inB p.wide 1 8)) with Bl | Bl
 ·skip
  rw [Bl] at O
  refine s5 O (a_2 rfl fd_24_1 O.e) fun H9 BV => ?_; clear O EV
  refine s5 BV (a_3 rfl ty_3 BV.e (M.bk 0 rfl) rfl) fun IA BW => ?_; clear BV H9
  refine s6 BW (b_5 rfl en_11 (ev3 BW.e (evc _ _) (evc _ _)) (q_4 _ _ _ _)) ?_
  rintro IB _ W_ ⟨rfl, hW_⟩ BX; have hW2_ := hW_.symm; subst hW2_; clear hW_ BW IA
  refine s5 BX (e_4 rfl BX.e) fun IC Ao => ?_; clear BX IB
  refine s1 Ao (a_8 rfl Ao.e Ao.e) fun ID BY => ?_; clear Ao IC
  refine s1 BY (a_0 rfl BY.e) fun EW P => ?_; clear BY ID
  rcases Bool.eq_false_or_eq_true ((inB p.long 1 8)) with Bm | Bm
  ·skip
   rw [Bm] at P
   refine s5 P (a_2 rfl fd_24_2 P.e) fun IE BZ => ?_; clear P EW
   refine s5 BZ (a_3 rfl ty_3 BZ.e (M.bk 0 rfl) rfl) fun IF Ba => ?_; clear BZ IE
   refine s6 Ba (b_5 rfl en_11 (ev3 Ba.e (evc _ _) (evc _ _)) (q_4 _ _ _ _)) ?_
   rintro IG _ W_ ⟨rfl, hW_⟩ Bb; have hW2_ := hW_.symm; subst hW2_; clear hW_ Ba IF
   refine s5 Bb (e_4 rfl Bb.e) fun IH A7 => ?_; clear Bb IG
   refine s1 A7 (a_8 rfl A7.e A7.e) fun EX L => ?_; clear A7 IH
   refine n1 ?_
   rcases Bool.eq_false_or_eq_true ((inB p.saw 0 2)) with Bn | Bn
   ·skip
    rw [Bn] at L
    refine b_3 L rfl (c_0 (b_0 (b_6 (b_6 ?_))))
    have EH := L.as [(1, (bptr b4 0))] rfl; clear L
    refine a_5 (s1 EH (a_1 rfl (evc _ _)) fun II EI => ?_); clear EH EX
    refine n1 (c_9 ?_)
    have EJ := EI.as [(3, (iv 0)), (1, (bptr b4 0))] rfl; clear EI
    refine g_6 (G := Nat) (fun (k : Nat) a_ w_ => Fr 85 [] [(3, (iv (k : Int))), (1, (bptr b4 0))] a_ ∧ Sep NoB w w_ [(blk b4 24 [(iv p.wide), (iv p.long), (iv p.saw), vw]), (sl vw 8 p.wants.length (recC d_6 p.wants))] ∧ (k ≤ p.wants.length) ∧ (∀ i, i < k → WantV (p.wants.getD i w0))) (fun k => p.wants.length - k) 0 ⟨EJ.as _ rfl, M, by omega, (fun _ h => absurd h (Nat.not_lt_zero _))⟩ ?_
    clear EJ M II
    rintro k IJ Im ⟨Bc, N, hkk, hW⟩
    refine b_6 (m2 (s1 Bc (a_0 rfl Bc.e) fun IK Bd => ?_)); clear Bc IJ
    refine s1 Bd (a_2 rfl k_9 Bd.e) fun IL Be => ?_; clear Bd IK
    refine s1 Be (a_3 rfl r_3 Be.e (N.bk 0 rfl) rfl) fun IM Bf => ?_; clear Be IL
    refine s1 Bf (d_7 rfl r_4 Bf.e (N.sk 1 rfl)) fun IN BE => ?_; clear Bf IM
    refine s1 BE (e_2 rfl BE.e BE.e) fun EY J => ?_; clear BE IN
    refine n1 ?_
    by_cases ER : (k : Int) < (p.wants.length : Int)
    ·skip
     rw [decide_eq_true ER] at J
     refine c_1 J rfl (c_0 (b_0 (b_6 (c_9 (m2 (s1 J (a_2 rfl k_9 J.e) fun IOa Bg => ?_)))))); clear J EY
     refine s1 Bg (a_3 rfl r_3 Bg.e (N.bk 0 rfl) rfl) fun IP Bh => ?_; clear Bg IOa
     refine s1 Bh (a_0 rfl Bh.e) fun IQ BF => ?_; clear Bh IP
     refine s1 BF (b_8 rfl r_4 q_8 BF.e (i := k) BF.e (N.sk 1 rfl) (by decide) (by omega)) fun IR Bi => ?_; clear BF IQ
     refine s1 Bi (e_1 rfl q_8 Bi.e (N.sk 1 rfl) (n_6 (by omega)) rfl (by decide)) fun IS EL => ?_; clear Bi IR
     refine s2 EL (e_6 N rfl ze_51 (cs := [(iv 0), (iv 0), (Value.bool false), (iv 0), (iv 0), (iv 0), (iv 0), (iv 0)]) rfl) ?_
     rintro IT _ In ⟨EZ, rfl, EO⟩ BG; clear EL N IS
     refine s7 BG (d_8 EO rfl q_8 BG.e BG.e (i := 0) rfl (vs := [(iv ((p.wants.getD k w0).w)), (iv ((p.wants.getD k w0).l)), (Value.bool ((p.wants.getD k w0).turn)), (iv ((p.wants.getD k w0).worth)), (iv ((p.wants.getD k w0).xl)), (iv ((p.wants.getD k w0).xh)), (iv ((p.wants.getD k w0).yl)), (iv ((p.wants.getD k w0).yh))]) rfl rfl rfl (Nat.le_of_ble_eq_true rfl)) ?_
     intro _ IV EP EN; clear BG
     have A : Sep NoB w IV [(blk EZ 51 [(iv ((p.wants.getD k w0).w)), (iv ((p.wants.getD k w0).l)), (Value.bool ((p.wants.getD k w0).turn)), (iv ((p.wants.getD k w0).worth)), (iv ((p.wants.getD k w0).xl)), (iv ((p.wants.getD k w0).xh)), (iv ((p.wants.getD k w0).yl)), (iv ((p.wants.getD k w0).yh))]), (blk b4 24 [(iv p.wide), (iv p.long), (iv p.saw), vw]), (sl vw 8 p.wants.length (recC d_6 p.wants))] := EP; clear EP EO
     refine n2 ?_
     have Bj := EN.as [(4, (bptr EZ 0)), (3, (iv (k : Int))), (1, (bptr b4 0))] rfl; clear EN
     refine a_5 (s1 Bj (a_2 rfl fd_51_0 Bj.e) fun IU Bk => ?_); clear Bj IT
     refine s1 Bk (a_3 rfl ty_3 Bk.e (A.bk 0 rfl) rfl) fun Ec Y => ?_; clear Bk IU
     refine s2 Y (b_5 rfl en_11 (ev3 Y.e (evc _ _) (evc _ _)) (q_4 _ _ _ _)) ?_
     rintro Ed _ W_ ⟨rfl, hW_⟩ Z; have hW2_ := hW_.symm; subst hW2_; clear hW_ Y Ec
     refine s1 Z (e_4 rfl Z.e) fun Ee a => ?_; clear Z Ed
     refine s1 a (a_0 rfl a.e) fun D8 C => ?_; clear a Ee
     rcases Bool.eq_false_or_eq_true ((inB ((p.wants.getD k w0).w) 1 8)) with BH | BH
     ·skip
      rw [BH] at C
      refine s5 C (a_2 rfl fd_51_1 C.e) fun Ef b => ?_; clear C D8
      refine s5 b (a_3 rfl ty_3 b.e (A.bk 0 rfl) rfl) fun Eg c => ?_; clear b Ef
      refine s6 c (b_5 rfl en_11 (ev3 c.e (evc _ _) (evc _ _)) (q_4 _ _ _ _)) ?_
      rintro Eh _ W_ ⟨rfl, hW_⟩ d; have hW2_ := hW_.symm; subst hW2_; clear hW_ c Eg
      refine s5 d (e_4 rfl d.e) fun Ei Q => ?_; clear d Eh
      refine s1 Q (a_8 rfl Q.e Q.e) fun Ej f => ?_; clear Q Ei
      refine s1 f (a_0 rfl f.e) fun D9 D => ?_; clear f Ej
      rcases Bool.eq_false_or_eq_true ((inB ((p.wants.getD k w0).l) 1 8)) with BI | BI
      ·skip
       rw [BI] at D
       refine s5 D (a_2 rfl fd_51_3 D.e) fun Ek g => ?_; clear D D9
       refine s5 g (a_3 rfl ty_3 g.e (A.bk 0 rfl) rfl) fun El j => ?_; clear g Ek
       refine s6 j (b_5 rfl en_11 (ev3 j.e (evc _ _) (evc _ _)) (q_4 _ _ _ _)) ?_
       rintro Em _ W_ ⟨rfl, hW_⟩ m; have hW2_ := hW_.symm; subst hW2_; clear hW_ j El
       refine s5 m (e_4 rfl m.e) fun En R => ?_; clear m Em
       refine s1 R (a_8 rfl R.e R.e) fun Eo o => ?_; clear R En
       refine s1 o (a_0 rfl o.e) fun EA E => ?_; clear o Eo
       rcases Bool.eq_false_or_eq_true ((inB ((p.wants.getD k w0).worth) 0 1000)) with BJ | BJ
       ·skip
        rw [BJ] at E
        refine s5 E (a_2 rfl n_8 E.e) fun Ep q => ?_; clear E EA
        refine s5 q (a_2 rfl o_5 q.e) fun Eq r => ?_; clear q Ep
        refine s5 r (a_3 rfl ty_3 r.e (A.bk 0 rfl) rfl) fun Er s => ?_; clear r Eq
        refine s5 s (a_2 rfl n_8 s.e) fun Es t => ?_; clear s Er
        refine s5 t (a_2 rfl m_2 t.e) fun Et u => ?_; clear t Es
        refine s5 u (a_3 rfl ty_3 u.e (A.bk 0 rfl) rfl) fun Eu S => ?_; clear u Et
        refine s6 S (b_5 rfl en_11 (ev3 S.e (evc _ _) S.e) (q_4 _ _ _ _)) ?_
        rintro Ev _ W_ ⟨rfl, hW_⟩ x; have hW2_ := hW_.symm; subst hW2_; clear hW_ S Eu
        refine s5 x (e_4 rfl x.e) fun Ew T => ?_; clear x Ev
        refine s1 T (a_8 rfl T.e T.e) fun Ex y => ?_; clear T Ew
        refine s1 y (a_0 rfl y.e) fun EB F => ?_; clear y Ex
        rcases Bool.eq_false_or_eq_true ((inB ((p.wants.getD k w0).xl) 0 ((p.wants.getD k w0).xh))) with BK | BK
        ·skip
         rw [BK] at F
         refine s5 F (a_2 rfl n_8 F.e) fun Ey z => ?_; clear F EB
         refine s5 z (a_2 rfl m_2 z.e) fun Ez AA => ?_; clear z Ey
         refine s5 AA (a_3 rfl ty_3 AA.e (A.bk 0 rfl) rfl) fun E0 AB => ?_; clear AA Ez
         refine s5 AB (h_4 rfl AB.e (evc _ _)) fun E1 U => ?_; clear AB E0
         refine s1 U (a_8 rfl U.e U.e) fun E2 AC => ?_; clear U E1
         refine s1 AC (a_0 rfl AC.e) fun EC H => ?_; clear AC E2
         by_cases D6 : 7 < ((p.wants.getD k w0).xh)
         ·skip
          rw [decide_eq_true D6] at H
          refine s3 H fun E3 Bo => ?_; clear H EC
          refine s3 Bo fun E4 Bp => ?_; clear Bo E3
          refine s3 Bp fun E5 Bq => ?_; clear Bp E4
          refine s3 Bq fun E6 Br => ?_; clear Bq E5
          refine s3 Br fun E7 Bs => ?_; clear Br E6
          refine s3 Bs fun E8 Bt => ?_; clear Bs E7
          refine s3 Bt fun E9 Bu => ?_; clear Bt E8
          refine s3 Bu fun FA AD => ?_; clear Bu E9
          refine s1 AD (a_6 rfl AD.e (evc _ _)) fun FB AE => ?_; clear AD FA
          refine s1 AE (a_0 rfl AE.e) fun FC Bv => ?_; clear AE FB
          refine s3 Bv fun FD Bw => ?_; clear Bv FC
          refine s3 Bw fun FE Bx => ?_; clear Bw FD
          refine s3 Bx fun FF By => ?_; clear Bx FE
          refine s3 By fun FG AF => ?_; clear By FF
          refine s1 AF (a_6 rfl AF.e (evc _ _)) fun FH AG => ?_; clear AF FG
          refine n1 (c_1 AG rfl (b_6 ?_))
          have Bz := AG.as [] rfl; clear AG
          refine a_5 (s1 Bz (a_1 rfl (evc _ _)) fun IX B0 => ?_); clear Bz FH
          exact n1 (c_3 (d_2 (b_1 (b_1 (d_2 (b_1 (a_9 B0 (.inl rfl) (a_4 B0 rfl (.tmp rfl)) (⟨1, rfl, fun h => absurd h (by decide), A.ext⟩))))))))
         skip
         rw [decide_eq_false D6] at H
         refine s5 H (a_2 rfl n_9 H.e) fun FI AH => ?_; clear H EC
         refine s5 AH (a_2 rfl o_5 AH.e) fun FJ AI => ?_; clear AH FI
         refine s5 AI (a_3 rfl ty_3 AI.e (A.bk 0 rfl) rfl) fun FK AJ => ?_; clear AI FJ
         refine s5 AJ (a_2 rfl n_9 AJ.e) fun FL AK => ?_; clear AJ FK
         refine s5 AK (a_2 rfl m_2 AK.e) fun FM AL => ?_; clear AK FL
         refine s5 AL (a_3 rfl ty_3 AL.e (A.bk 0 rfl) rfl) fun FN V => ?_; clear AL FM
         refine s6 V (b_5 rfl en_11 (ev3 V.e (evc _ _) V.e) (q_4 _ _ _ _)) ?_
         rintro FO _ W_ ⟨rfl, hW_⟩ AM; have hW2_ := hW_.symm; subst hW2_; clear hW_ V FN
         refine s5 AM (e_4 rfl AM.e) fun FP W => ?_; clear AM FO
         refine s1 W (a_8 rfl W.e W.e) fun FQ AN => ?_; clear W FP
         refine s1 AN (a_0 rfl AN.e) fun ED I => ?_; clear AN FQ
         rcases Bool.eq_false_or_eq_true ((inB ((p.wants.getD k w0).yl) 0 ((p.wants.getD k w0).yh))) with BL | BL
         ·skip
          rw [BL] at I
          refine s5 I (a_2 rfl n_9 I.e) fun FSa AO => ?_; clear I ED
          refine s5 AO (a_2 rfl m_2 AO.e) fun FT AP => ?_; clear AO FSa
          refine s5 AP (a_3 rfl ty_3 AP.e (A.bk 0 rfl) rfl) fun FU AQ => ?_; clear AP FT
          refine s5 AQ (h_4 rfl AQ.e (evc _ _)) fun FV X => ?_; clear AQ FU
          refine s1 X (a_8 rfl X.e X.e) fun EE B => ?_; clear X FV
          refine n1 ?_
          by_cases D7 : 7 < ((p.wants.getD k w0).yh)
          ·skip
           rw [decide_eq_true D7] at B
           refine c_1 B rfl (b_6 ?_)
           have B1 := B.as [] rfl; clear B
           refine a_5 (s1 B1 (a_1 rfl (evc _ _)) fun IY B2 => ?_); clear B1 EE
           exact n1 (c_3 (d_2 (b_1 (b_1 (d_2 (b_1 (a_9 B2 (.inl rfl) (a_4 B2 rfl (.tmp rfl)) (⟨1, rfl, fun h => absurd h (by decide), A.ext⟩))))))))
          skip
          rw [decide_eq_false D7] at B
          refine b_3 B rfl (c_0 (f_8 (b_0 ?_)))
          have AR := B.as [(3, (iv (k : Int))), (1, (bptr b4 0))] rfl; clear B
          refine a_5 (s1 AR (a_0 rfl AR.e) fun FW AS => ?_); clear AR EE
          refine s1 AS (c_6 rfl AS.e (evc _ _) (by omega) (by omega)) fun FX AT => ?_; clear AS FW
          refine s1 AT (a_1 rfl AT.e) fun IZ ES => ?_; clear AT FX
          refine d_0 ?_
          have ET := A.gkp (gpc 1 (gpc 2 gpn)); clear A
          exact b_0 ⟨k + 1, ⟨ES.as _ rfl, ET, by omega, (fun i hi => by rcases Nat.lt_succ_iff_lt_or_eq.1 hi with h | h; exact hW i h; subst h; exact want_V (by assumption) (by assumption) (by assumption) (by assumption) (by omega) (by assumption) (by omega))⟩, by omega⟩
         skip
         rw [BL] at I
         refine s3 I fun FY B3 => ?_; clear I ED
         refine s3 B3 fun FZ B4 => ?_; clear B3 FY
         refine s3 B4 fun Fa B5 => ?_; clear B4 FZ
         refine s3 B5 fun Fb AU => ?_; clear B5 Fa
         refine s1 AU (a_6 rfl AU.e (evc _ _)) fun Fc AV => ?_; clear AU Fb
         refine n1 (c_1 AV rfl (b_6 ?_))
         have B6 := AV.as [] rfl; clear AV
         refine a_5 (s1 B6 (a_1 rfl (evc _ _)) fun Ia B7 => ?_); clear B6 Fc
         exact n1 (c_3 (d_2 (b_1 (b_1 (d_2 (b_1 (a_9 B7 (.inl rfl) (a_4 B7 rfl (.tmp rfl)) (⟨1, rfl, fun h => absurd h (by decide), A.ext⟩))))))))
        skip
        rw [BK] at F
        refine s3 F fun Fd B8 => ?_; clear F EB
        refine s3 B8 fun Fe B9 => ?_; clear B8 Fd
        refine s3 B9 fun Ff CA => ?_; clear B9 Fe
        refine s3 CA fun Fg AW => ?_; clear CA Ff
        refine s1 AW (a_6 rfl AW.e (evc _ _)) fun Fh AX => ?_; clear AW Fg
        refine s1 AX (a_0 rfl AX.e) fun Fi CB => ?_; clear AX Fh
        refine s3 CB fun Fj CC => ?_; clear CB Fi
        refine s3 CC fun Fk CD => ?_; clear CC Fj
        refine s3 CD fun Fl CE => ?_; clear CD Fk
        refine s3 CE fun Fm CF => ?_; clear CE Fl
        refine s3 CF fun Fn CG => ?_; clear CF Fm
        refine s3 CG fun Fo CH => ?_; clear CG Fn
        refine s3 CH fun Fp CI => ?_; clear CH Fo
        refine s3 CI fun Fq AY => ?_; clear CI Fp
        refine s1 AY (a_6 rfl AY.e (evc _ _)) fun Fs AZ => ?_; clear AY Fq
        refine s1 AZ (a_0 rfl AZ.e) fun Ft CJ => ?_; clear AZ Fs
        refine s3 CJ fun Fu CK => ?_; clear CJ Ft
        refine s3 CK fun Fv CL => ?_; clear CK Fu
        refine s3 CL fun Fw CM => ?_; clear CL Fv
        refine s3 CM fun Fx Aa => ?_; clear CM Fw
        refine s1 Aa (a_6 rfl Aa.e (evc _ _)) fun Fy Ab => ?_; clear Aa Fx
        refine n1 (c_1 Ab rfl (b_6 ?_))
        have CN := Ab.as [] rfl; clear Ab
        refine a_5 (s1 CN (a_1 rfl (evc _ _)) fun Ib CO => ?_); clear CN Fy
        exact n1 (c_3 (d_2 (b_1 (b_1 (d_2 (b_1 (a_9 CO (.inl rfl) (a_4 CO rfl (.tmp rfl)) (⟨1, rfl, fun h => absurd h (by decide), A.ext⟩))))))))
       skip
       rw [BJ] at E
       refine s3 E fun Fz CP => ?_; clear E EA
       refine s3 CP fun F0 CQ => ?_; clear CP Fz
       refine s3 CQ fun F1 CR => ?_; clear CQ F0
       refine s3 CR fun F2 CS => ?_; clear CR F1
       refine s3 CS fun F3 CT => ?_; clear CS F2
       refine s3 CT fun F4 CU => ?_; clear CT F3
       refine s3 CU fun F5 CV => ?_; clear CU F4
       refine s3 CV fun F6 Ac => ?_; clear CV F5
       refine s1 Ac (a_6 rfl Ac.e (evc _ _)) fun F7 Ad => ?_; clear Ac F6
       refine s1 Ad (a_0 rfl Ad.e) fun F8 CW => ?_; clear Ad F7
       refine s3 CW fun F9 CX => ?_; clear CW F8
       refine s3 CX fun GA CY => ?_; clear CX F9
       refine s3 CY fun GB CZ => ?_; clear CY GA
       refine s3 CZ fun GC Ae => ?_; clear CZ GB
       refine s1 Ae (a_6 rfl Ae.e (evc _ _)) fun GD Af => ?_; clear Ae GC
       refine s1 Af (a_0 rfl Af.e) fun GE Ca => ?_; clear Af GD
       refine s3 Ca fun GF Cb => ?_; clear Ca GE
       refine s3 Cb fun GG Cc => ?_; clear Cb GF
       refine s3 Cc fun GH Cd => ?_; clear Cc GG
       refine s3 Cd fun GI Ce => ?_; clear Cd GH
       refine s3 Ce fun GJ Cf => ?_; clear Ce GI
       refine s3 Cf fun GK Cg => ?_; clear Cf GJ
       refine s3 Cg fun GL Ch => ?_; clear Cg GK
       refine s3 Ch fun GM Ag => ?_; clear Ch GL
       refine s1 Ag (a_6 rfl Ag.e (evc _ _)) fun GN Ah => ?_; clear Ag GM
       refine s1 Ah (a_0 rfl Ah.e) fun GO Ci => ?_; clear Ah GN
       refine s3 Ci fun GP Cj => ?_; clear Ci GO
       refine s3 Cj fun GQ Ck => ?_; clear Cj GP
       refine s3 Ck fun GR Cl => ?_; clear Ck GQ
       refine s3 Cl fun GS Ai => ?_; clear Cl GR
       refine s1 Ai (a_6 rfl Ai.e (evc _ _)) fun GT Aj => ?_; clear Ai GS
       refine n1 (c_1 Aj rfl (b_6 ?_))
       have Cm := Aj.as [] rfl; clear Aj
       refine a_5 (s1 Cm (a_1 rfl (evc _ _)) fun Ic Cn => ?_); clear Cm GT
       exact n1 (c_3 (d_2 (b_1 (b_1 (d_2 (b_1 (a_9 Cn (.inl rfl) (a_4 Cn rfl (.tmp rfl)) (⟨1, rfl, fun h => absurd h (by decide), A.ext⟩))))))))
      skip
      rw [BI] at D
      refine s3 D fun GU Co => ?_; clear D D9
      refine s3 Co fun GV Cp => ?_; clear Co GU
      refine s3 Cp fun GW Cq => ?_; clear Cp GV
      refine s3 Cq fun GX Ak => ?_; clear Cq GW
      refine s1 Ak (a_6 rfl Ak.e (evc _ _)) fun GY Al => ?_; clear Ak GX
      refine s1 Al (a_0 rfl Al.e) fun GZ Cr => ?_; clear Al GY
      refine s3 Cr fun Ga Cs => ?_; clear Cr GZ
      refine s3 Cs fun Gb Ct => ?_; clear Cs Ga
      refine s3 Ct fun Gc Cu => ?_; clear Ct Gb
      refine s3 Cu fun Gd Cv => ?_; clear Cu Gc
      refine s3 Cv fun Ge Cw => ?_; clear Cv Gd
      refine s3 Cw fun Gf Cx => ?_; clear Cw Ge
      refine s3 Cx fun Gg Cy => ?_; clear Cx Gf
      refine s3 Cy fun Gh Am => ?_; clear Cy Gg
      refine s1 Am (a_6 rfl Am.e (evc _ _)) fun Gi An => ?_; clear Am Gh
      refine s1 An (a_0 rfl An.e) fun Gj Cz => ?_; clear An Gi
      refine s3 Cz fun Gk C0 => ?_; clear Cz Gj
      refine s3 C0 fun Gl C1 => ?_; clear C0 Gk
      refine s3 C1 fun Gm C2 => ?_; clear C1 Gl
      refine s3 C2 fun Gn Ap => ?_; clear C2 Gm
      refine s1 Ap (a_6 rfl Ap.e (evc _ _)) fun Go Aq => ?_; clear Ap Gn
      refine s1 Aq (a_0 rfl Aq.e) fun Gp C3 => ?_; clear Aq Go
      refine s3 C3 fun Gq C4 => ?_; clear C3 Gp
      refine s3 C4 fun Gr C5 => ?_; clear C4 Gq
      refine s3 C5 fun Gs C6 => ?_; clear C5 Gr
      refine s3 C6 fun Gt C7 => ?_; clear C6 Gs
      refine s3 C7 fun Gu C8 => ?_; clear C7 Gt
      refine s3 C8 fun Gv C9 => ?_; clear C8 Gu
      refine s3 C9 fun Gw DA => ?_; clear C9 Gv
      refine s3 DA fun Gx Ar => ?_; clear DA Gw
      refine s1 Ar (a_6 rfl Ar.e (evc _ _)) fun Gy As => ?_; clear Ar Gx
      refine s1 As (a_0 rfl As.e) fun Gz DB => ?_; clear As Gy
      refine s3 DB fun G0 DC => ?_; clear DB Gz
      refine s3 DC fun G1 DD => ?_; clear DC G0
      refine s3 DD fun G2 DE => ?_; clear DD G1
      refine s3 DE fun G3 At => ?_; clear DE G2
      refine s1 At (a_6 rfl At.e (evc _ _)) fun G4 Au => ?_; clear At G3
      refine n1 (c_1 Au rfl (b_6 ?_))
      have DF := Au.as [] rfl; clear Au
      refine a_5 (s1 DF (a_1 rfl (evc _ _)) fun Id DG => ?_); clear DF G4
      exact n1 (c_3 (d_2 (b_1 (b_1 (d_2 (b_1 (a_9 DG (.inl rfl) (a_4 DG rfl (.tmp rfl)) (⟨1, rfl, fun h => absurd h (by decide), A.ext⟩))))))))
     skip
     rw [BH] at C
     refine s3 C fun G5 DH => ?_; clear C D8
     refine s3 DH fun G6 DI => ?_; clear DH G5
     refine s3 DI fun G7 DJ => ?_; clear DI G6
     refine s3 DJ fun G8 Av => ?_; clear DJ G7
     refine s1 Av (a_6 rfl Av.e (evc _ _)) fun G9 Aw => ?_; clear Av G8
     refine s1 Aw (a_0 rfl Aw.e) fun HA DK => ?_; clear Aw G9
     refine s3 DK fun HB DL => ?_; clear DK HA
     refine s3 DL fun HC DM => ?_; clear DL HB
     refine s3 DM fun HD DN => ?_; clear DM HC
     refine s3 DN fun HE Ax => ?_; clear DN HD
     refine s1 Ax (a_6 rfl Ax.e (evc _ _)) fun HF Ay => ?_; clear Ax HE
     refine s1 Ay (a_0 rfl Ay.e) fun HG DO => ?_; clear Ay HF
     refine s3 DO fun HH DP => ?_; clear DO HG
     refine s3 DP fun HI DQ => ?_; clear DP HH
     refine s3 DQ fun HJ DR => ?_; clear DQ HI
     refine s3 DR fun HK DS => ?_; clear DR HJ
     refine s3 DS fun HL DT => ?_; clear DS HK
     refine s3 DT fun HM DU => ?_; clear DT HL
     refine s3 DU fun HN DV => ?_; clear DU HM
     refine s3 DV fun HO Az => ?_; clear DV HN
     refine s1 Az (a_6 rfl Az.e (evc _ _)) fun HP A0 => ?_; clear Az HO
     refine s1 A0 (a_0 rfl A0.e) fun HQ DW => ?_; clear A0 HP
     refine s3 DW fun HR DX => ?_; clear DW HQ
     refine s3 DX fun HS DY => ?_; clear DX HR
     refine s3 DY fun HT DZ => ?_; clear DY HS
     refine s3 DZ fun HU A1 => ?_; clear DZ HT
     refine s1 A1 (a_6 rfl A1.e (evc _ _)) fun HV A2 => ?_; clear A1 HU
     refine s1 A2 (a_0 rfl A2.e) fun HW Da => ?_; clear A2 HV
     refine s3 Da fun HX Db => ?_; clear Da HW
     refine s3 Db fun HY Dc => ?_; clear Db HX
     refine s3 Dc fun HZ Dd => ?_; clear Dc HY
     refine s3 Dd fun Ha De => ?_; clear Dd HZ
     refine s3 De fun Hb Df => ?_; clear De Ha
     refine s3 Df fun Hc Dg => ?_; clear Df Hb
     refine s3 Dg fun Hd Dh => ?_; clear Dg Hc
     refine s3 Dh fun He A3 => ?_; clear Dh Hd
     refine s1 A3 (a_6 rfl A3.e (evc _ _)) fun Hf A4 => ?_; clear A3 He
     refine s1 A4 (a_0 rfl A4.e) fun Hg Di => ?_; clear A4 Hf
     refine s3 Di fun Hh Dj => ?_; clear Di Hg
     refine s3 Dj fun Hi Dk => ?_; clear Dj Hh
     refine s3 Dk fun Hj Dl => ?_; clear Dk Hi
     refine s3 Dl fun Hk A5 => ?_; clear Dl Hj
     refine s1 A5 (a_6 rfl A5.e (evc _ _)) fun Hl A6 => ?_; clear A5 Hk
     refine n1 (c_1 A6 rfl (b_6 ?_))
     have Dm := A6.as [] rfl; clear A6
     refine a_5 (s1 Dm (a_1 rfl (evc _ _)) fun Ie Dn => ?_); clear Dm Hl
     exact n1 (c_3 (d_2 (b_1 (b_1 (d_2 (b_1 (a_9 Dn (.inl rfl) (a_4 Dn rfl (.tmp rfl)) (⟨1, rfl, fun h => absurd h (by decide), A.ext⟩))))))))
    skip
    rw [decide_eq_false ER] at J
    refine b_3 J rfl (g_5 (b_9 (b_9 (f_1 (b_0 (b_6 ?_))))))
    have Do := J.as [] rfl; clear J
    refine a_5 (s1 Do (a_1 rfl (evc _ _)) fun If Dp => ?_); clear Do EY
    exact n1 (c_3 (a_9 Dp (.inl rfl) (a_4 Dp rfl (.tmp rfl)) (⟨0, rfl, fun _ => plate_V (by assumption) (by assumption) (by assumption) (by omega) (fun i hi => hW i (by omega)), N.ext⟩)))
   skip
   rw [Bn] at L
   refine c_1 L rfl (b_6 ?_)
   have Dq := L.as [] rfl; clear L
   refine a_5 (s1 Dq (a_1 rfl (evc _ _)) fun Ig Dr => ?_); clear Dq EX
   exact n1 (c_3 (b_1 (a_9 Dr (.inl rfl) (a_4 Dr rfl (.tmp rfl)) (⟨1, rfl, fun h => absurd h (by decide), M.ext⟩))))
  skip
  rw [Bm] at P
  refine s3 P fun Hm Ds => ?_; clear P EW
  refine s3 Ds fun Hn Dt => ?_; clear Ds Hm
  refine s3 Dt fun Ho Du => ?_; clear Dt Hn
  refine s3 Du fun Hp A8 => ?_; clear Du Ho
  refine s1 A8 (a_6 rfl A8.e (evc _ _)) fun Hq A9 => ?_; clear A8 Hp
  refine n1 (c_1 A9 rfl (b_6 ?_))
  have Dv := A9.as [] rfl; clear A9
  refine a_5 (s1 Dv (a_1 rfl (evc _ _)) fun Ih Dw => ?_); clear Dv Hq
  exact n1 (c_3 (b_1 (a_9 Dw (.inl rfl) (a_4 Dw rfl (.tmp rfl)) (⟨1, rfl, fun h => absurd h (by decide), M.ext⟩))))
 skip
 rw [Bl] at O
 refine s3 O fun Hr Dx => ?_; clear O EV
 refine s3 Dx fun Hs Dy => ?_; clear Dx Hr
 refine s3 Dy fun Ht Dz => ?_; clear Dy Hs
 refine s3 Dz fun Hu BA => ?_; clear Dz Ht
 refine s1 BA (a_6 rfl BA.e (evc _ _)) fun Hv BB => ?_; clear BA Hu
 refine s1 BB (a_0 rfl BB.e) fun Hw D0 => ?_; clear BB Hv
 refine s3 D0 fun Hx D1 => ?_; clear D0 Hw
 refine s3 D1 fun Hy D2 => ?_; clear D1 Hx
 refine s3 D2 fun Hz D3 => ?_; clear D2 Hy
 refine s3 D3 fun H0 BC => ?_; clear D3 Hz
 refine s1 BC (a_6 rfl BC.e (evc _ _)) fun H1 BD => ?_; clear BC H0
 refine n1 (c_1 BD rfl (b_6 ?_))
 have D4 := BD.as [] rfl; clear BD
 refine a_5 (s1 D4 (a_1 rfl (evc _ _)) fun Ii D5 => ?_); clear D4 H1
 exact n1 (c_3 (b_1 (a_9 D5 (.inl rfl) (a_4 D5 rfl (.tmp rfl)) (⟨1, rfl, fun h => absurd h (by decide), M.ext⟩))))
theorem indexf_want (xs : List p_1) (v : Value) (fid : Nat) (fs cs : Array Value) (p : Nat → Bool) (w : World) (hv : SlAt w v 8 xs.length (recC d_6 xs)) (hlen : xs.length ≤ 1000000) (hf : Asks Try.prog w fid fs cs xs.length (fun i => (Value.agg #[(iv ((xs.getD i w0).w)), (iv ((xs.getD i w0).l)), (Value.bool ((xs.getD i w0).turn)), (iv ((xs.getD i w0).worth)), (iv ((xs.getD i w0).xl)), (iv ((xs.getD i w0).xh)), (iv ((xs.getD i w0).yl)), (iv ((xs.getD i w0).yh))])) p) :
  Calls Try.prog 65 #[v, (Value.func (.func fid) fs cs)] w (Ret fun v w' => v = .int .i64 (fidx p xs.length) ∧ Ext NoB w w') := by
 refine b_2 Try.func65 rfl fun j R => ?_
 replace R : Fr 19 [] [(0, v), (1, (Value.func (.func fid) fs cs))] j := R
 have W : Sep NoB w w [(sl v 8 xs.length (recC d_6 xs))] := f_7 ⟨rfl, hv, trivial⟩
 refine m2 (s1 R (a_1 rfl (evc _ _)) fun z S => ?_); clear R j
 refine n2 (m2 (s1 S (a_0 rfl S.e) fun a3 T => ?_)); clear S z
 refine s1 T (d_7 rfl un_58 T.e (W.ok 0 _ rfl)) fun a5 b => ?_; clear T a3
 refine s1 b (a_0 rfl (evc _ _)) fun a7 c => ?_; clear b a5
 refine n1 (c_9 ?_)
 have d := c.as [(8, (iv 0)), (7, (iv (xs.length : Int))), (0, v), (1, (Value.func (.func fid) fs cs))] rfl; clear c
 refine g_6 (G := Nat) (fun (k : Nat) a_ w_ => Fr 19 [] [(8, (iv (k : Int))), (7, (iv (xs.length : Int))), (0, v), (1, (Value.func (.func fid) fs cs))] a_ ∧ Sep NoB w w_ [(sl v 8 xs.length (recC d_6 xs))] ∧ (k ≤ xs.length) ∧ (∀ i, i < k → p i = false)) (fun k => xs.length - k) 0 ⟨d.as _ rfl, W, by omega, by omega⟩ ?_
 clear d W a7
 rintro k m AG ⟨D, C, hk, hn⟩
 refine m2 (s1 D (e_2 rfl D.e D.e) fun Z A => ?_); clear D m
 refine n2 ?_
 by_cases Y : (k : Int) < (xs.length : Int)
 ·skip
  rw [decide_eq_true Y] at A
  refine c_1 A rfl (c_0 (b_0 (b_6 (c_9 (m2 (s1 A (a_0 rfl A.e) fun n H => ?_)))))); clear A Z
  refine s1 H (a_1 rfl H.e) fun o I => ?_; clear H n
  refine n4 (s1 I (a_0 rfl I.e) fun q J => ?_); clear I o
  refine s1 J (a_0 rfl J.e) fun r K => ?_; clear J q
  refine s1 K (a_0 rfl K.e) fun s E => ?_; clear K r
  refine s1 E (b_8 rfl un_58 ty_57 E.e (i := k) E.e (C.ok 0 _ rfl) (by decide) (by omega)) fun t L => ?_; clear E s
  refine s1 L (e_1 rfl ty_57 L.e (C.ok 0 _ rfl) (n_6 (by omega)) rfl (by decide)) fun u F => ?_; clear L t
  refine s2 F (i_9 rfl (F.ev rfl) hf.1 (ev1 F.e) (hf.2 k (by omega) _ C.ext)) ?_
  rintro a _ AH ⟨rfl, g⟩ B; have X := C.step g; clear F C u
  refine n1 ?_
  rcases Bool.eq_false_or_eq_true (p k) with Q | Q
  ·skip
   rw [Q] at B
   refine c_1 B rfl (b_6 ?_)
   have M := B.as [(5, (iv (k : Int)))] rfl; clear B
   refine a_5 (s1 M (a_0 rfl M.e) fun x N => ?_); clear M a
   refine s1 N (a_1 rfl N.e) fun AD U => ?_; clear N x
   exact n1 (c_3 (d_2 (b_1 (b_1 (d_2 (b_1 (a_9 U (.inl rfl) (a_4 U rfl (.tmp rfl)) (⟨by first | rw [k_2 (by omega) hn (by assumption)] | rw [i_0 (fun i hi => hn i (by omega))], X.ext⟩))))))))
  skip
  rw [Q] at B
  refine b_3 B rfl (c_0 (f_8 (b_0 ?_)))
  have O := B.as [(8, (iv (k : Int))), (7, (iv (xs.length : Int))), (0, v), (1, (Value.func (.func fid) fs cs))] rfl; clear B
  refine a_5 (s1 O (c_6 rfl O.e (evc _ _) (by omega) (by omega)) fun y P => ?_); clear O a
  refine s1 P (a_0 rfl P.e) fun AE f => ?_; clear P y
  refine d_0 ?_
  exact b_0 ⟨k + 1, ⟨f.as _ rfl, X, by omega, (fun i hi => by rcases Nat.lt_succ_iff_lt_or_eq.1 hi with h | h; exact hn i h; subst h; assumption)⟩, by omega⟩
 skip
 rw [decide_eq_false Y] at A
 refine b_3 A rfl (g_5 (b_9 (b_9 (f_1 (b_0 (m2 (s1 A (a_1 rfl (evc _ _)) fun AF V => ?_))))))); clear A Z
 exact n1 (c_3 (a_9 V (.inl rfl) (a_4 V rfl (.tmp rfl)) (⟨by first | rw [k_2 (by omega) hn (by assumption)] | rw [i_0 (fun i hi => hn i (by omega))], C.ext⟩)))
theorem contf_want (xs : List p_1) (v : Value) (fid : Nat) (fs cs : Array Value) (p : Nat → Bool) (w : World) (hv : SlAt w v 8 xs.length (recC d_6 xs)) (hlen : xs.length ≤ 1000000) (hf : Asks Try.prog w fid fs cs xs.length (fun i => (Value.agg #[(iv ((xs.getD i w0).w)), (iv ((xs.getD i w0).l)), (Value.bool ((xs.getD i w0).turn)), (iv ((xs.getD i w0).worth)), (iv ((xs.getD i w0).xl)), (iv ((xs.getD i w0).xh)), (iv ((xs.getD i w0).yl)), (iv ((xs.getD i w0).yh))])) p) :
  Calls Try.prog 58 #[v, (Value.func (.func fid) fs cs)] w (Ret fun v w' => v = .bool ((List.range xs.length).any p) ∧ Ext NoB w w') := by
 refine b_2 Try.func58 rfl fun K B => ?_
 replace B : Fr 9 [] [(0, v), (1, (Value.func (.func fid) fs cs))] K := B
 have D : Sep NoB w w [(sl v 8 xs.length (recC d_6 xs))] := f_7 ⟨rfl, hv, trivial⟩
 refine m2 (s1 B (a_1 rfl (evc _ _)) fun M F => ?_); clear B K
 refine n4 (s1 F (a_0 rfl F.e) fun N G => ?_); clear F M
 refine s1 G (a_0 rfl G.e) fun O C => ?_; clear G N
 refine s2 C (b_5 rfl en_65 (ev2 C.e C.e) (indexf_want xs _ _ _ _ p _ (D.ok 0 _ rfl) hlen (hf.step D.ext))) ?_
 rintro P _ R ⟨rfl, I⟩ H; have J := D.step I; clear I C D O
 refine s1 H (l_9 rfl H.e (evc _ _)) fun L A => ?_; clear H P
 refine s1 A (a_1 rfl A.e) fun Q E => ?_; clear A L
 exact n1 (c_3 (a_9 E (.inl rfl) (a_4 E rfl (.tmp rfl)) (⟨congrArg Value.bool (fidx_any p xs.length), J.ext⟩)))
theorem clo_want (I J : Int) (K : Bool) (L M N O P : Int) (b fid : Nat) (fs cs : Array Value) (q : Bool) (w : World) (hb : (blk b 121 [.func (.func fid) fs cs]).p w) (hen : ∀ args W, (callFunc fid args).run Try.prog W = .ok (.enter fid args) W) (hf : ∀ W, Ext NoB w W → Calls Try.prog fid (fs ++ #[(Value.agg #[(iv I), (iv J), (Value.bool K), (iv L), (iv M), (iv N), (iv O), (iv P)])] ++ cs) W (Ret fun v w' => v = .bool q ∧ Ext NoB W w')) :
  Calls Try.prog 59 #[(Value.agg #[(iv I), (iv J), (Value.bool K), (iv L), (iv M), (iv N), (iv O), (iv P)]), (bptr b 0)] w (Ret fun v w' => v = .bool (!q) ∧ Ext NoB w w') := by
 refine b_2 Try.func59 rfl fun U B => ?_
 replace B : Fr 8 [] [(0, (Value.agg #[(iv I), (iv J), (Value.bool K), (iv L), (iv M), (iv N), (iv O), (iv P)])), (1, (bptr b 0))] U := B
 have R : Sep NoB w w [(rob b 121 [(Value.func (.func fid) fs cs)])] := f_7 ⟨rfl, hb, trivial⟩
 refine m2 (s2 B (e_5 R rfl B.e (cs := [(iv I), (iv J), (Value.bool K), (iv L), (iv M), (iv N), (iv O), (iv P)]) rfl) ?_)
 rintro Z _ h ⟨g, rfl, C⟩ Q; clear B R U
 refine s1 Q (a_1 rfl (evc _ _)) fun a G => ?_; clear Q Z
 refine n4 (s1 G (a_3 rfl ty_121 G.e (C.rk 1 rfl) rfl) fun c H => ?_); clear G a
 refine s1 H (c_2 rfl ty_57 (H.ev rfl) (C.bk 0 rfl) (l := [(iv I), (iv J), (Value.bool K), (iv L), (iv M), (iv N), (iv O), (iv P)]) rfl rfl) fun V A => ?_; clear H c
 refine s2 A (i_9 rfl (A.ev rfl) hen (ev1 A.e) (hf _ C.ext)) ?_
 rintro X _ f ⟨rfl, S⟩ D; have T := C.step S; clear A C V
 refine s1 D (e_4 rfl D.e) fun Y E => ?_; clear D X
 refine s1 E (a_1 rfl E.e) fun d F => ?_; clear E Y
 exact n1 (c_3 (a_9 F (.inl rfl) (a_4 F rfl (.tmp rfl)) (⟨rfl, T.ext⟩)))
theorem all_want (xs : List p_1) (v : Value) (fid : Nat) (fs cs : Array Value) (p : Nat → Bool) (w : World) (hv : SlAt w v 8 xs.length (recC d_6 xs)) (hlen : xs.length ≤ 1000000) (hf : Asks Try.prog w fid fs cs xs.length (fun i => (Value.agg #[(iv ((xs.getD i w0).w)), (iv ((xs.getD i w0).l)), (Value.bool ((xs.getD i w0).turn)), (iv ((xs.getD i w0).worth)), (iv ((xs.getD i w0).xl)), (iv ((xs.getD i w0).xh)), (iv ((xs.getD i w0).yl)), (iv ((xs.getD i w0).yh))])) p) :
  Calls Try.prog 51 #[v, (Value.func (.func fid) fs cs)] w (Ret fun v w' => v = .bool ((List.range xs.length).all p) ∧ Ext NoB w w') := by
 refine b_2 Try.func51 rfl fun M B => ?_
 replace B : Fr 9 [] [(0, v), (1, (Value.func (.func fid) fs cs))] M := B
 have K : Sep NoB w w [(sl v 8 xs.length (recC d_6 xs))] := f_7 ⟨rfl, hv, trivial⟩
 refine m2 (s2 B (e_5 K rfl B.e (cs := [(Value.func (.func fid) fs cs)]) rfl) ?_)
 rintro Q _ X ⟨T, rfl, C⟩ J; clear B K M
 refine s1 J (a_1 rfl (evc _ _)) fun R G => ?_; clear J Q
 refine n4 (s1 G (a_0 rfl G.e) fun S H => ?_); clear G R
 refine s1 H (m_3 rfl ev0 (ev1 H.e)) fun N A => ?_; clear H S
 refine s2 A (b_5 rfl en_58 (ev2 A.e A.e) (contf_want xs _ 59 #[] #[(bptr T 0)] (fun i => !p i) _ (C.ok 1 _ rfl) hlen ⟨en_59, fun i hi W hW => clo_want _ _ _ _ _ _ _ _ _ _ _ _ (p i) W ((C.step hW).bk 0 rfl) hf.1 (fun W' hW' => hf.2 i hi W' (C.ext.trans (hW.trans hW')))⟩)) ?_
 rintro O _ V ⟨rfl, I⟩ D; have L := C.step I; clear I A C N
 refine s1 D (e_4 rfl D.e) fun P E => ?_; clear D O
 refine s1 E (a_1 rfl E.e) fun U F => ?_; clear E P
 exact n1 (c_3 (a_9 F (.inl rfl) (a_4 F rfl (.tmp rfl)) (⟨congrArg Value.bool (any_not p xs.length), L.ext⟩)))
theorem indexf_int (xs : List Int) (v : Value) (fid : Nat) (fs cs : Array Value) (p : Nat → Bool) (w : World) (hv : SlAt w v 1 xs.length (ints xs)) (hlen : xs.length ≤ 1000000) (hf : Asks Try.prog w fid fs cs xs.length (fun i => (iv (xs.getD i 0))) p) :
  Calls Try.prog 56 #[v, (Value.func (.func fid) fs cs)] w (Ret fun v w' => v = .int .i64 (fidx p xs.length) ∧ Ext NoB w w') := by
 refine b_2 Try.func56 rfl fun j R => ?_
 replace R : Fr 19 [] [(0, v), (1, (Value.func (.func fid) fs cs))] j := R
 have W : Sep NoB w w [(sl v 1 xs.length (ints xs))] := f_7 ⟨rfl, hv, trivial⟩
 refine m2 (s1 R (a_1 rfl (evc _ _)) fun y S => ?_); clear R j
 refine n2 (m2 (s1 S (a_0 rfl S.e) fun z T => ?_)); clear S y
 refine s1 T (d_7 rfl k_0 T.e (W.ok 0 _ rfl)) fun a5 b => ?_; clear T z
 refine s1 b (a_0 rfl (evc _ _)) fun a7 c => ?_; clear b a5
 refine n1 (c_9 ?_)
 have d := c.as [(8, (iv 0)), (7, (iv (xs.length : Int))), (0, v), (1, (Value.func (.func fid) fs cs))] rfl; clear c
 refine g_6 (G := Nat) (fun (k : Nat) a_ w_ => Fr 19 [] [(8, (iv (k : Int))), (7, (iv (xs.length : Int))), (0, v), (1, (Value.func (.func fid) fs cs))] a_ ∧ Sep NoB w w_ [(sl v 1 xs.length (ints xs))] ∧ (k ≤ xs.length) ∧ (∀ i, i < k → p i = false)) (fun k => xs.length - k) 0 ⟨d.as _ rfl, W, by omega, by omega⟩ ?_
 clear d W a7
 rintro k l AF ⟨D, C, hk, hn⟩
 refine m2 (s1 D (e_2 rfl D.e D.e) fun Z A => ?_); clear D l
 refine n2 ?_
 by_cases Y : (k : Int) < (xs.length : Int)
 ·skip
  rw [decide_eq_true Y] at A
  refine c_1 A rfl (c_0 (b_0 (b_6 (c_9 (m2 (s1 A (a_0 rfl A.e) fun m H => ?_)))))); clear A Z
  refine s1 H (a_1 rfl H.e) fun n I => ?_; clear H m
  refine n4 (s1 I (a_0 rfl I.e) fun o J => ?_); clear I n
  refine s1 J (a_0 rfl J.e) fun q K => ?_; clear J o
  refine s1 K (a_0 rfl K.e) fun r E => ?_; clear K q
  refine s1 E (b_8 rfl k_0 ty_3 E.e (i := k) E.e (C.ok 0 _ rfl) (by decide) (by omega)) fun s L => ?_; clear E r
  refine s1 L (d_3 rfl ty_3 L.e (C.ok 0 _ rfl) (ints_at (by omega))) fun t F => ?_; clear L s
  refine s2 F (i_9 rfl (F.ev rfl) hf.1 (ev1 F.e) (hf.2 k (by omega) _ C.ext)) ?_
  rintro a _ AG ⟨rfl, g⟩ B; have X := C.step g; clear F C t
  refine n1 ?_
  rcases Bool.eq_false_or_eq_true (p k) with Q | Q
  ·skip
   rw [Q] at B
   refine c_1 B rfl (b_6 ?_)
   have M := B.as [(5, (iv (k : Int)))] rfl; clear B
   refine a_5 (s1 M (a_0 rfl M.e) fun u N => ?_); clear M a
   refine s1 N (a_1 rfl N.e) fun AC U => ?_; clear N u
   exact n1 (c_3 (d_2 (b_1 (b_1 (d_2 (b_1 (a_9 U (.inl rfl) (a_4 U rfl (.tmp rfl)) (⟨by first | rw [k_2 (by omega) hn (by assumption)] | rw [i_0 (fun i hi => hn i (by omega))], X.ext⟩))))))))
  skip
  rw [Q] at B
  refine b_3 B rfl (c_0 (f_8 (b_0 ?_)))
  have O := B.as [(8, (iv (k : Int))), (7, (iv (xs.length : Int))), (0, v), (1, (Value.func (.func fid) fs cs))] rfl; clear B
  refine a_5 (s1 O (c_6 rfl O.e (evc _ _) (by omega) (by omega)) fun x P => ?_); clear O a
  refine s1 P (a_0 rfl P.e) fun AD f => ?_; clear P x
  refine d_0 ?_
  exact b_0 ⟨k + 1, ⟨f.as _ rfl, X, by omega, (fun i hi => by rcases Nat.lt_succ_iff_lt_or_eq.1 hi with h | h; exact hn i h; subst h; assumption)⟩, by omega⟩
 skip
 rw [decide_eq_false Y] at A
 refine b_3 A rfl (g_5 (b_9 (b_9 (f_1 (b_0 (m2 (s1 A (a_1 rfl (evc _ _)) fun AE V => ?_))))))); clear A Z
 exact n1 (c_3 (a_9 V (.inl rfl) (a_4 V rfl (.tmp rfl)) (⟨by first | rw [k_2 (by omega) hn (by assumption)] | rw [i_0 (fun i hi => hn i (by omega))], C.ext⟩)))
theorem contf_int (xs : List Int) (v : Value) (fid : Nat) (fs cs : Array Value) (p : Nat → Bool) (w : World) (hv : SlAt w v 1 xs.length (ints xs)) (hlen : xs.length ≤ 1000000) (hf : Asks Try.prog w fid fs cs xs.length (fun i => (iv (xs.getD i 0))) p) :
  Calls Try.prog 45 #[v, (Value.func (.func fid) fs cs)] w (Ret fun v w' => v = .bool ((List.range xs.length).any p) ∧ Ext NoB w w') := by
 refine b_2 Try.func45 rfl fun K B => ?_
 replace B : Fr 9 [] [(0, v), (1, (Value.func (.func fid) fs cs))] K := B
 have D : Sep NoB w w [(sl v 1 xs.length (ints xs))] := f_7 ⟨rfl, hv, trivial⟩
 refine m2 (s1 B (a_1 rfl (evc _ _)) fun M F => ?_); clear B K
 refine n4 (s1 F (a_0 rfl F.e) fun N G => ?_); clear F M
 refine s1 G (a_0 rfl G.e) fun O C => ?_; clear G N
 refine s2 C (b_5 rfl en_56 (ev2 C.e C.e) (indexf_int xs _ _ _ _ p _ (D.ok 0 _ rfl) hlen (hf.step D.ext))) ?_
 rintro P _ R ⟨rfl, I⟩ H; have J := D.step I; clear I C D O
 refine s1 H (l_9 rfl H.e (evc _ _)) fun L A => ?_; clear H P
 refine s1 A (a_1 rfl A.e) fun Q E => ?_; clear A L
 exact n1 (c_3 (a_9 E (.inl rfl) (a_4 E rfl (.tmp rfl)) (⟨congrArg Value.bool (fidx_any p xs.length), J.ext⟩)))
theorem clo_int (x : Int) (b fid : Nat) (fs cs : Array Value) (q : Bool) (w : World) (hb : (blk b 103 [.func (.func fid) fs cs]).p w) (hen : ∀ args W, (callFunc fid args).run Try.prog W = .ok (.enter fid args) W) (hf : ∀ W, Ext NoB w W → Calls Try.prog fid (fs ++ #[(iv x)] ++ cs) W (Ret fun v w' => v = .bool q ∧ Ext NoB W w')) :
  Calls Try.prog 46 #[(iv x), (bptr b 0)] w (Ret fun v w' => v = .bool (!q) ∧ Ext NoB w w') := by
 refine b_2 Try.func46 rfl fun K B => ?_
 replace B : Fr 8 [] [(0, (iv x)), (1, (bptr b 0))] K := B
 have D : Sep NoB w w [(rob b 103 [(Value.func (.func fid) fs cs)])] := f_7 ⟨rfl, hb, trivial⟩
 refine m2 (s1 B (a_1 rfl (evc _ _)) fun M F => ?_); clear B K
 refine n4 (s1 F (a_3 rfl ty_103 F.e (D.rk 0 rfl) rfl) fun N G => ?_); clear F M
 refine s1 G (a_0 rfl G.e) fun O C => ?_; clear G N
 refine s2 C (i_9 rfl (C.ev rfl) hen (ev1 C.e) (hf _ D.ext)) ?_
 rintro P _ R ⟨rfl, I⟩ H; have J := D.step I; clear C D O
 refine s1 H (e_4 rfl H.e) fun L A => ?_; clear H P
 refine s1 A (a_1 rfl A.e) fun Q E => ?_; clear A L
 exact n1 (c_3 (a_9 E (.inl rfl) (a_4 E rfl (.tmp rfl)) (⟨rfl, J.ext⟩)))
theorem all_int (xs : List Int) (v : Value) (fid : Nat) (fs cs : Array Value) (p : Nat → Bool) (w : World) (hv : SlAt w v 1 xs.length (ints xs)) (hlen : xs.length ≤ 1000000) (hf : Asks Try.prog w fid fs cs xs.length (fun i => (iv (xs.getD i 0))) p) :
  Calls Try.prog 33 #[v, (Value.func (.func fid) fs cs)] w (Ret fun v w' => v = .bool ((List.range xs.length).all p) ∧ Ext NoB w w') := by
 refine b_2 Try.func33 rfl fun M B => ?_
 replace B : Fr 9 [] [(0, v), (1, (Value.func (.func fid) fs cs))] M := B
 have K : Sep NoB w w [(sl v 1 xs.length (ints xs))] := f_7 ⟨rfl, hv, trivial⟩
 refine m2 (s2 B (e_5 K rfl B.e (cs := [(Value.func (.func fid) fs cs)]) rfl) ?_)
 rintro Q _ X ⟨T, rfl, C⟩ J; clear B K M
 refine s1 J (a_1 rfl (evc _ _)) fun R G => ?_; clear J Q
 refine n4 (s1 G (a_0 rfl G.e) fun S H => ?_); clear G R
 refine s1 H (m_3 rfl ev0 (ev1 H.e)) fun N A => ?_; clear H S
 refine s2 A (b_5 rfl en_45 (ev2 A.e A.e) (contf_int xs _ 46 #[] #[(bptr T 0)] (fun i => !p i) _ (C.ok 1 _ rfl) hlen ⟨en_46, fun i hi W hW => clo_int _ _ _ _ _ (p i) W ((C.step hW).bk 0 rfl) hf.1 (fun W' hW' => hf.2 i hi W' (C.ext.trans (hW.trans hW')))⟩)) ?_
 rintro O _ V ⟨rfl, I⟩ D; have L := C.step I; clear I A C N
 refine s1 D (e_4 rfl D.e) fun P E => ?_; clear D O
 refine s1 E (a_1 rfl E.e) fun U F => ?_; clear E P
 exact n1 (c_3 (a_9 F (.inl rfl) (a_4 F rfl (.tmp rfl)) (⟨congrArg Value.bool (any_not p xs.length), L.ext⟩)))
theorem indexf_stage (xs : List g_1) (v : Value) (fid : Nat) (fs cs : Array Value) (p : Nat → Bool) (w : World) (hv : SlAt w v 3 xs.length (recC d_9 xs)) (hlen : xs.length ≤ 1000000) (hf : Asks Try.prog w fid fs cs xs.length (fun i => (Value.agg #[(iv ((xs.getD i s0).take)), (iv ((xs.getD i s0).acc)), (iv ((xs.getD i s0).rej))])) p) :
  Calls Try.prog 57 #[v, (Value.func (.func fid) fs cs)] w (Ret fun v w' => v = .int .i64 (fidx p xs.length) ∧ Ext NoB w w') := by
 refine b_2 Try.func57 rfl fun j R => ?_
 replace R : Fr 19 [] [(0, v), (1, (Value.func (.func fid) fs cs))] j := R
 have W : Sep NoB w w [(sl v 3 xs.length (recC d_9 xs))] := f_7 ⟨rfl, hv, trivial⟩
 refine m2 (s1 R (a_1 rfl (evc _ _)) fun y S => ?_); clear R j
 refine n2 (m2 (s1 S (a_0 rfl S.e) fun z T => ?_)); clear S y
 refine s1 T (d_7 rfl s_4 T.e (W.ok 0 _ rfl)) fun a5 b => ?_; clear T z
 refine s1 b (a_0 rfl (evc _ _)) fun a7 c => ?_; clear b a5
 refine n1 (c_9 ?_)
 have d := c.as [(8, (iv 0)), (7, (iv (xs.length : Int))), (0, v), (1, (Value.func (.func fid) fs cs))] rfl; clear c
 refine g_6 (G := Nat) (fun (k : Nat) a_ w_ => Fr 19 [] [(8, (iv (k : Int))), (7, (iv (xs.length : Int))), (0, v), (1, (Value.func (.func fid) fs cs))] a_ ∧ Sep NoB w w_ [(sl v 3 xs.length (recC d_9 xs))] ∧ (k ≤ xs.length) ∧ (∀ i, i < k → p i = false)) (fun k => xs.length - k) 0 ⟨d.as _ rfl, W, by omega, by omega⟩ ?_
 clear d W a7
 rintro k l AF ⟨D, C, hk, hn⟩
 refine m2 (s1 D (e_2 rfl D.e D.e) fun Z A => ?_); clear D l
 refine n2 ?_
 by_cases Y : (k : Int) < (xs.length : Int)
 ·skip
  rw [decide_eq_true Y] at A
  refine c_1 A rfl (c_0 (b_0 (b_6 (c_9 (m2 (s1 A (a_0 rfl A.e) fun m H => ?_)))))); clear A Z
  refine s1 H (a_1 rfl H.e) fun n I => ?_; clear H m
  refine n4 (s1 I (a_0 rfl I.e) fun o J => ?_); clear I n
  refine s1 J (a_0 rfl J.e) fun q K => ?_; clear J o
  refine s1 K (a_0 rfl K.e) fun r E => ?_; clear K q
  refine s1 E (b_8 rfl s_4 q_2 E.e (i := k) E.e (C.ok 0 _ rfl) (by decide) (by omega)) fun s L => ?_; clear E r
  refine s1 L (e_1 rfl q_2 L.e (C.ok 0 _ rfl) (stage_all (by omega)) rfl (by decide)) fun t F => ?_; clear L s
  refine s2 F (i_9 rfl (F.ev rfl) hf.1 (ev1 F.e) (hf.2 k (by omega) _ C.ext)) ?_
  rintro a _ AG ⟨rfl, g⟩ B; have X := C.step g; clear F C t
  refine n1 ?_
  rcases Bool.eq_false_or_eq_true (p k) with Q | Q
  ·skip
   rw [Q] at B
   refine c_1 B rfl (b_6 ?_)
   have M := B.as [(5, (iv (k : Int)))] rfl; clear B
   refine a_5 (s1 M (a_0 rfl M.e) fun u N => ?_); clear M a
   refine s1 N (a_1 rfl N.e) fun AC U => ?_; clear N u
   exact n1 (c_3 (d_2 (b_1 (b_1 (d_2 (b_1 (a_9 U (.inl rfl) (a_4 U rfl (.tmp rfl)) (⟨by first | rw [k_2 (by omega) hn (by assumption)] | rw [i_0 (fun i hi => hn i (by omega))], X.ext⟩))))))))
  skip
  rw [Q] at B
  refine b_3 B rfl (c_0 (f_8 (b_0 ?_)))
  have O := B.as [(8, (iv (k : Int))), (7, (iv (xs.length : Int))), (0, v), (1, (Value.func (.func fid) fs cs))] rfl; clear B
  refine a_5 (s1 O (c_6 rfl O.e (evc _ _) (by omega) (by omega)) fun x P => ?_); clear O a
  refine s1 P (a_0 rfl P.e) fun AD f => ?_; clear P x
  refine d_0 ?_
  exact b_0 ⟨k + 1, ⟨f.as _ rfl, X, by omega, (fun i hi => by rcases Nat.lt_succ_iff_lt_or_eq.1 hi with h | h; exact hn i h; subst h; assumption)⟩, by omega⟩
 skip
 rw [decide_eq_false Y] at A
 refine b_3 A rfl (g_5 (b_9 (b_9 (f_1 (b_0 (m2 (s1 A (a_1 rfl (evc _ _)) fun AE V => ?_))))))); clear A Z
 exact n1 (c_3 (a_9 V (.inl rfl) (a_4 V rfl (.tmp rfl)) (⟨by first | rw [k_2 (by omega) hn (by assumption)] | rw [i_0 (fun i hi => hn i (by omega))], C.ext⟩)))
theorem contf_stage (xs : List g_1) (v : Value) (fid : Nat) (fs cs : Array Value) (p : Nat → Bool) (w : World) (hv : SlAt w v 3 xs.length (recC d_9 xs)) (hlen : xs.length ≤ 1000000) (hf : Asks Try.prog w fid fs cs xs.length (fun i => (Value.agg #[(iv ((xs.getD i s0).take)), (iv ((xs.getD i s0).acc)), (iv ((xs.getD i s0).rej))])) p) :
  Calls Try.prog 48 #[v, (Value.func (.func fid) fs cs)] w (Ret fun v w' => v = .bool ((List.range xs.length).any p) ∧ Ext NoB w w') := by
 refine b_2 Try.func48 rfl fun K B => ?_
 replace B : Fr 9 [] [(0, v), (1, (Value.func (.func fid) fs cs))] K := B
 have D : Sep NoB w w [(sl v 3 xs.length (recC d_9 xs))] := f_7 ⟨rfl, hv, trivial⟩
 refine m2 (s1 B (a_1 rfl (evc _ _)) fun M F => ?_); clear B K
 refine n4 (s1 F (a_0 rfl F.e) fun N G => ?_); clear F M
 refine s1 G (a_0 rfl G.e) fun O C => ?_; clear G N
 refine s2 C (b_5 rfl en_57 (ev2 C.e C.e) (indexf_stage xs _ _ _ _ p _ (D.ok 0 _ rfl) hlen (hf.step D.ext))) ?_
 rintro P _ R ⟨rfl, I⟩ H; have J := D.step I; clear I C D O
 refine s1 H (l_9 rfl H.e (evc _ _)) fun L A => ?_; clear H P
 refine s1 A (a_1 rfl A.e) fun Q E => ?_; clear A L
 exact n1 (c_3 (a_9 E (.inl rfl) (a_4 E rfl (.tmp rfl)) (⟨congrArg Value.bool (fidx_any p xs.length), J.ext⟩)))
theorem clo_stage (I J K : Int) (b fid : Nat) (fs cs : Array Value) (q : Bool) (w : World) (hb : (blk b 107 [.func (.func fid) fs cs]).p w) (hen : ∀ args W, (callFunc fid args).run Try.prog W = .ok (.enter fid args) W) (hf : ∀ W, Ext NoB w W → Calls Try.prog fid (fs ++ #[(Value.agg #[(iv I), (iv J), (iv K)])] ++ cs) W (Ret fun v w' => v = .bool q ∧ Ext NoB W w')) :
  Calls Try.prog 49 #[(Value.agg #[(iv I), (iv J), (iv K)]), (bptr b 0)] w (Ret fun v w' => v = .bool (!q) ∧ Ext NoB w w') := by
 refine b_2 Try.func49 rfl fun P B => ?_
 replace B : Fr 8 [] [(0, (Value.agg #[(iv I), (iv J), (iv K)])), (1, (bptr b 0))] P := B
 have M : Sep NoB w w [(rob b 107 [(Value.func (.func fid) fs cs)])] := f_7 ⟨rfl, hb, trivial⟩
 refine m2 (s2 B (e_5 M rfl B.e (cs := [(iv I), (iv J), (iv K)]) rfl) ?_)
 rintro T _ a ⟨Z, rfl, C⟩ L; clear B M P
 refine s1 L (a_1 rfl (evc _ _)) fun U G => ?_; clear L T
 refine n4 (s1 G (a_3 rfl ty_107 G.e (C.rk 1 rfl) rfl) fun V H => ?_); clear G U
 refine s1 H (c_2 rfl q_2 (H.ev rfl) (C.bk 0 rfl) (l := [(iv I), (iv J), (iv K)]) rfl rfl) fun Q A => ?_; clear H V
 refine s2 A (i_9 rfl (A.ev rfl) hen (ev1 A.e) (hf _ C.ext)) ?_
 rintro R _ Y ⟨rfl, N⟩ D; have O := C.step N; clear A C Q
 refine s1 D (e_4 rfl D.e) fun S E => ?_; clear D R
 refine s1 E (a_1 rfl E.e) fun X F => ?_; clear E S
 exact n1 (c_3 (a_9 F (.inl rfl) (a_4 F rfl (.tmp rfl)) (⟨rfl, O.ext⟩)))
theorem all_stage (xs : List g_1) (v : Value) (fid : Nat) (fs cs : Array Value) (p : Nat → Bool) (w : World) (hv : SlAt w v 3 xs.length (recC d_9 xs)) (hlen : xs.length ≤ 1000000) (hf : Asks Try.prog w fid fs cs xs.length (fun i => (Value.agg #[(iv ((xs.getD i s0).take)), (iv ((xs.getD i s0).acc)), (iv ((xs.getD i s0).rej))])) p) :
  Calls Try.prog 38 #[v, (Value.func (.func fid) fs cs)] w (Ret fun v w' => v = .bool ((List.range xs.length).all p) ∧ Ext NoB w w') := by
 refine b_2 Try.func38 rfl fun M B => ?_
 replace B : Fr 9 [] [(0, v), (1, (Value.func (.func fid) fs cs))] M := B
 have K : Sep NoB w w [(sl v 3 xs.length (recC d_9 xs))] := f_7 ⟨rfl, hv, trivial⟩
 refine m2 (s2 B (e_5 K rfl B.e (cs := [(Value.func (.func fid) fs cs)]) rfl) ?_)
 rintro Q _ X ⟨T, rfl, C⟩ J; clear B K M
 refine s1 J (a_1 rfl (evc _ _)) fun R G => ?_; clear J Q
 refine n4 (s1 G (a_0 rfl G.e) fun S H => ?_); clear G R
 refine s1 H (m_3 rfl ev0 (ev1 H.e)) fun N A => ?_; clear H S
 refine s2 A (b_5 rfl en_48 (ev2 A.e A.e) (contf_stage xs _ 49 #[] #[(bptr T 0)] (fun i => !p i) _ (C.ok 1 _ rfl) hlen ⟨en_49, fun i hi W hW => clo_stage _ _ _ _ _ _ _ (p i) W ((C.step hW).bk 0 rfl) hf.1 (fun W' hW' => hf.2 i hi W' (C.ext.trans (hW.trans hW')))⟩)) ?_
 rintro O _ V ⟨rfl, I⟩ D; have L := C.step I; clear I A C N
 refine s1 D (e_4 rfl D.e) fun P E => ?_; clear D O
 refine s1 E (a_1 rfl E.e) fun U F => ?_; clear E P
 exact n1 (c_3 (a_9 F (.inl rfl) (a_4 F rfl (.tmp rfl)) (⟨congrArg Value.bool (any_not p xs.length), L.ext⟩)))
theorem all_true (p : Nat → Bool) (n : Nat) (h : ∀ i, i < n → p i = true) : (List.range n).all p = true := List.all_eq_true.2 fun i hi => h i (List.mem_range.1 hi)
theorem zone_ok (lo hi : Int) (h : 0 ≤ lo ∧ lo ≤ hi ∧ hi ≤ 7) (w : World) :
  Calls Try.prog 60 #[(Value.agg #[(iv lo), (iv hi)])] w (Ret fun v w' => v = .bool true ∧ Ext NoB w w') := by
 refine b_2 Try.func60 rfl fun Y E => ?_
 replace E : Fr 18 [] [(0, (Value.agg #[(iv lo), (iv hi)]))] Y := E
 have U : Sep NoB w w [] := Sep.start _ _
 refine m2 (s2 E (e_5 U rfl E.e (cs := [(iv lo), (iv hi)]) rfl) ?_)
 rintro p _ u ⟨t, rfl, F⟩ T; clear E U Y
 refine s1 T (a_1 rfl (evc _ _)) fun q R => ?_; clear T p
 refine n4 (s1 R (a_2 rfl fd_55_0 R.e) fun r S => ?_); clear R q
 refine s1 S (a_3 rfl ty_3 S.e (F.bk 0 rfl) rfl) fun Z G => ?_; clear S r
 refine s1 G (j_3 rfl (evc _ _) G.e) fun a C => ?_; clear G Z
 have V : 0 ≤ lo := (by omega)
 rw [decide_eq_true V] at C
 refine s1 C (a_0 rfl C.e) fun b H => ?_; clear C a
 refine s5 H (a_2 rfl fd_55_0 H.e) fun c I => ?_; clear H b
 refine s5 I (a_3 rfl ty_3 I.e (F.bk 0 rfl) rfl) fun d J => ?_; clear I c
 refine s5 J (a_2 rfl fd_55_1 J.e) fun f K => ?_; clear J d
 refine s5 K (a_3 rfl ty_3 K.e (F.bk 0 rfl) rfl) fun g D => ?_; clear K f
 refine s5 D (j_3 rfl D.e D.e) fun i A => ?_; clear D g
 have W : lo ≤ hi := (by omega)
 rw [decide_eq_true W] at A
 refine s1 A (a_6 rfl A.e A.e) fun j L => ?_; clear A i
 refine s1 L (a_0 rfl L.e) fun k M => ?_; clear L j
 refine s5 M (a_2 rfl fd_55_1 M.e) fun l N => ?_; clear M k
 refine s5 N (a_3 rfl ty_3 N.e (F.bk 0 rfl) rfl) fun m O => ?_; clear N l
 refine s5 O (e_2 rfl O.e (evc _ _)) fun n B => ?_; clear O m
 have X : hi < 8 := (by omega)
 rw [decide_eq_true X] at B
 refine s1 B (a_6 rfl B.e B.e) fun o P => ?_; clear B n
 refine s1 P (a_1 rfl P.e) fun s Q => ?_; clear P o
 exact n1 (c_3 (a_9 Q (.inl rfl) (a_4 Q rfl (.tmp rfl)) (⟨rfl, F.ext⟩)))
theorem valid_ok (d : p_1) (hd : WantV d) (w : World) :
  Calls Try.prog 52 #[(Value.agg #[(iv d.w), (iv d.l), (Value.bool d.turn), (iv d.worth), (iv d.xl), (iv d.xh), (iv d.yl), (iv d.yh)])] w (Ret fun v w' => v = .bool true ∧ Ext NoB w w') := by
 refine b_2 Try.func52 rfl fun r G => ?_
 replace G : Fr 26 [] [(0, (Value.agg #[(iv d.w), (iv d.l), (Value.bool d.turn), (iv d.worth), (iv d.xl), (iv d.xh), (iv d.yl), (iv d.yh)]))] r := G
 have h1 := hd.w; have h2 := hd.l; have h3 := hd.worth; have h4 := hd.x; have h5 := hd.y
 have m : Sep NoB w w [] := Sep.start _ _
 refine m2 (s2 G (e_5 m rfl G.e (cs := [(iv d.w), (iv d.l), (Value.bool d.turn), (iv d.worth), (iv d.xl), (iv d.xh), (iv d.yl), (iv d.yh)]) rfl) ?_)
 rintro a1 _ w3 ⟨b4, rfl, j⟩ k; clear G m r
 refine s1 k (a_1 rfl (evc _ _)) fun a6 a => ?_; clear k a1
 refine n4 (s1 a (a_2 rfl fd_57_0 a.e) fun a8 c => ?_); clear a a6
 refine s1 c (a_3 rfl ty_3 c.e (j.bk 0 rfl) rfl) fun s H => ?_; clear c a8
 refine s2 H (b_5 rfl en_50 (ev1 H.e) (side_ok _ _)) ?_
 rintro t _ AW ⟨rfl, f⟩ C; have Y := j.step f; clear f H j s
 have o : (inB d.w 1 8) = true := (g_3.2 (by omega))
 rw [o] at C
 refine s1 C (a_0 rfl C.e) fun u I => ?_; clear C t
 refine s5 I (a_2 rfl fd_57_1 I.e) fun z J => ?_; clear I u
 refine s5 J (a_3 rfl ty_3 J.e (Y.bk 0 rfl) rfl) fun AA K => ?_; clear J z
 refine s6 K (b_5 rfl en_50 (ev1 K.e) (side_ok _ _)) ?_
 rintro AB _ AX ⟨rfl, g⟩ A; have F := Y.step g; clear g K Y AA
 have p : (inB d.l 1 8) = true := (g_3.2 (by omega))
 rw [p] at A
 refine s1 A (a_6 rfl A.e A.e) fun AC L => ?_; clear A AB
 refine s1 L (a_0 rfl L.e) fun AD M => ?_; clear L AC
 refine s5 M (a_2 rfl fd_57_3 M.e) fun AE N => ?_; clear M AD
 refine s5 N (a_3 rfl ty_3 N.e (F.bk 0 rfl) rfl) fun AF O => ?_; clear N AE
 refine s6 O (b_5 rfl en_35 (ev3 O.e (evc _ _) (evc _ _)) (l_1 _ _ _ _)) ?_
 rintro AG _ W_ ⟨rfl, hW_⟩ B; have hW2_ := hW_.symm; subst hW2_; clear hW_ O AF
 have q : (inB d.worth 0 1000) = true := (g_3.2 (by omega))
 rw [q] at B
 refine s1 B (a_6 rfl B.e B.e) fun AH P => ?_; clear B AG
 refine s1 P (a_0 rfl P.e) fun AI Q => ?_; clear P AH
 refine s5 Q (a_2 rfl fd_57_4 Q.e) fun AJ R => ?_; clear Q AI
 refine s5 R (c_2 rfl ty_55 (R.ev rfl) (F.bk 0 rfl) (l := [(iv d.xl), (iv d.xh)]) rfl rfl) fun AK S => ?_; clear R AJ
 refine s6 S (b_5 rfl en_60 (ev1 S.e) (zone_ok _ _ (by omega) _)) ?_
 rintro AL _ AY ⟨rfl, h⟩ D; have Z := F.step h; clear h S F AK
 refine s1 D (a_6 rfl D.e D.e) fun AM T => ?_; clear D AL
 refine s1 T (a_0 rfl T.e) fun AN U => ?_; clear T AM
 refine s5 U (a_2 rfl fd_57_5 U.e) fun AO V => ?_; clear U AN
 refine s5 V (c_2 rfl ty_55 (V.ev rfl) (Z.bk 0 rfl) (l := [(iv d.yl), (iv d.yh)]) rfl rfl) fun AP W => ?_; clear V AO
 refine s6 W (b_5 rfl en_60 (ev1 W.e) (zone_ok _ _ (by omega) _)) ?_
 rintro AQ _ AZ ⟨rfl, i⟩ E; have n := Z.step i; clear i W Z AP
 refine s1 E (a_6 rfl E.e E.e) fun AR X => ?_; clear E AQ
 refine s1 X (a_1 rfl X.e) fun AV b => ?_; clear X AR
 exact n1 (c_3 (a_9 b (.inl rfl) (a_4 b rfl (.tmp rfl)) (⟨rfl, n.ext⟩)))
theorem checkplate_ok (p : g_2) (vw : Value) (w : World) (hvw : SlAt w vw 8 p.wants.length (recC d_6 p.wants)) (hV : n_0 p) :
  Calls Try.prog 41 #[(Value.agg #[(iv p.wide), (iv p.long), (iv p.saw), vw])] w (Ret fun v w' => v = .int .i64 0 ∧ Ext NoB w w') := by
 refine b_2 Try.func41 rfl fun a0 I => ?_
 replace I : Fr 31 [] [(0, (Value.agg #[(iv p.wide), (iv p.long), (iv p.saw), vw]))] a0 := I
 have h1 := hV.wide; have h2 := hV.long; have h3 := hV.saw; have h4 := hV.few
 have s : Sep NoB w w [(sl vw 8 p.wants.length (recC d_6 p.wants))] := f_7 ⟨rfl, hvw, trivial⟩
 refine m2 (s2 I (e_5 s rfl I.e (cs := [(iv p.wide), (iv p.long), (iv p.saw), vw]) rfl) ?_)
 rintro a1 _ w3 ⟨b4, rfl, J⟩ r; clear I s a0
 refine s1 r (a_1 rfl (evc _ _)) fun a6 j => ?_; clear r a1
 refine n2 (c_9 (m2 (s1 j (a_2 rfl fd_60_3 j.e) fun a8 m => ?_))); clear j a6
 refine s1 m (a_3 rfl ty_58 m.e (J.bk 0 rfl) rfl) fun AB K => ?_; clear m a8
 refine s1 K (d_7 rfl un_58 K.e (J.sk 1 rfl)) fun AC L => ?_; clear K AB
 refine s1 L (h_4 rfl L.e (evc _ _)) fun AD B => ?_; clear L AC
 have u : ¬ (4 < (p.wants.length : Int)) := (by omega)
 rw [decide_eq_false u] at B
 refine s1 B (a_1 rfl B.e) fun AE M => ?_; clear B AD
 refine n1 (b_3 M rfl (b_6 ?_))
 have N := M.as [(1, (bptr b4 0))] rfl; clear M
 refine a_5 (s1 N (a_2 rfl fd_60_0 N.e) fun AF O => ?_); clear N AE
 refine s1 O (a_3 rfl ty_3 O.e (J.bk 0 rfl) rfl) fun AG P => ?_; clear O AF
 refine s2 P (b_5 rfl en_50 (ev1 P.e) (side_ok _ _)) ?_
 rintro AH _ Ah ⟨rfl, n⟩ C; have h := J.step n; clear n P J AG
 have x : (inB p.wide 1 8) = true := (g_3.2 (by omega))
 rw [x] at C
 refine s1 C (e_4 rfl C.e) fun AI Q => ?_; clear C AH
 refine s1 Q (a_0 rfl Q.e) fun AJ R => ?_; clear Q AI
 refine s5 R (a_2 rfl fd_60_1 R.e) fun AK S => ?_; clear R AJ
 refine s5 S (a_3 rfl ty_3 S.e (h.bk 0 rfl) rfl) fun AL T => ?_; clear S AK
 refine s6 T (b_5 rfl en_50 (ev1 T.e) (side_ok _ _)) ?_
 rintro AM _ Ai ⟨rfl, o⟩ D; have A := h.step o; clear o T h AL
 have y : (inB p.long 1 8) = true := (g_3.2 (by omega))
 rw [y] at D
 refine s5 D (e_4 rfl D.e) fun AN E => ?_; clear D AM
 refine s1 E (a_8 rfl E.e E.e) fun AO U => ?_; clear E AN
 refine s1 U (a_0 rfl U.e) fun AP V => ?_; clear U AO
 refine s5 V (a_2 rfl fd_60_2 V.e) fun AQ X => ?_; clear V AP
 refine s5 X (a_3 rfl ty_3 X.e (A.bk 0 rfl) rfl) fun AR Y => ?_; clear X AQ
 refine s6 Y (b_5 rfl en_35 (ev3 Y.e (evc _ _) (evc _ _)) (l_1 _ _ _ _)) ?_
 rintro AS _ W_ ⟨rfl, hW_⟩ F; have hW2_ := hW_.symm; subst hW2_; clear hW_ Y AR
 have z : (inB p.saw 0 2) = true := (g_3.2 (by omega))
 rw [z] at F
 refine s5 F (e_4 rfl F.e) fun AT G => ?_; clear F AS
 refine s1 G (a_8 rfl G.e G.e) fun AU Z => ?_; clear G AT
 refine s1 Z (a_0 rfl Z.e) fun AV a => ?_; clear Z AU
 refine s5 a (a_2 rfl fd_60_3 a.e) fun AW b => ?_; clear a AV
 refine s5 b (a_3 rfl ty_58 b.e (A.bk 0 rfl) rfl) fun AX c => ?_; clear b AW
 refine s6 c (b_5 rfl en_51 (ev2 c.e (evf _ _)) (callsB (all_want p.wants _ 52 #[] #[] (fun _ => true) _ (A.sk 1 rfl) (by omega) ⟨en_52, fun i hi W hW => valid_ok _ (hV.want i hi) W⟩) true (all_true _ _ (fun _ _ => rfl)))) ?_
 rintro AY _ Aj ⟨rfl, q⟩ d; have t := A.step q; clear q c A AX
 refine s5 d (e_4 rfl d.e) fun AZ H => ?_; clear d AY
 refine s1 H (a_8 rfl H.e H.e) fun Aa f => ?_; clear H AZ
 refine s1 f (a_1 rfl f.e) fun Ab g => ?_; clear f Aa
 refine n1 (b_3 g rfl (c_0 (f_8 (b_0 (b_6 ?_)))))
 have k := g.as [] rfl; clear g
 refine a_5 (s1 k (a_1 rfl (evc _ _)) fun Ag l => ?_); clear k Ab
 exact n1 (c_3 (a_9 l (.inl rfl) (a_4 l rfl (.tmp rfl)) (⟨rfl, t.ext⟩)))
end Go.Proofs.Ytphkmnaohimdbaa

namespace Go.Proofs.Ytphkmnaohimdbaa
open Go.RowKit Go.Shelf Go.Eng Go.Top
theorem en_61 : ∀ args w, (callFunc 61 args).run Try.prog w = .ok (.enter 61 args) w := enters_of Try.func61 (by kernel_rfl) rfl
theorem en_62 : ∀ args w, (callFunc 62 args).run Try.prog w = .ok (.enter 62 args) w := enters_of Try.func62 (by kernel_rfl) rfl
theorem en_63 : ∀ args w, (callFunc 63 args).run Try.prog w = .ok (.enter 63 args) w := enters_of Try.func63 (by kernel_rfl) rfl
theorem en_64 : ∀ args w, (callFunc 64 args).run Try.prog w = .ok (.enter 64 args) w := enters_of Try.func64 (by kernel_rfl) rfl
theorem bd_117_0f_1f (x0_0 : Fn) (x0_0a x0_0b : Array Value) (x1_0 : Fn) (x1_0a x1_0b : Array Value) (w : World) : (Instr.build 117 #[(0, (.func x0_0 x0_0a x0_0b)), (1, (.func x1_0 x1_0a x1_0b))]).run Try.prog w = .ok (.agg #[(.func x0_0 x0_0a x0_0b), (.func x1_0 x1_0a x1_0b)]) w := by kernel_rfl
theorem ze_117 : (Try.prog.info? 117).bind (·.zero) = some (Value.agg #[Value.nilFunc, Value.nilFunc]) := by kernel_rfl
theorem bs_117_2_0vva_1vva (x0_0 : Value) (x0_1 : Value) (x1_0 : Value) (x1_1 : Value) : Instr.fill (fun i => some (i * 2, 2)) ((Array.range (2 * 2)).map ((Value.agg #[Value.nilFunc, Value.nilFunc]).cells[· % (Value.agg #[Value.nilFunc, Value.nilFunc]).cells.size]!)) [(0, .agg #[x0_0, x0_1]), (1, .agg #[x1_0, x1_1])] = some (([x0_0, x0_1, x1_0, x1_1] : List Value).toArray) := by kernel_rfl
theorem un_123 : Try.prog.underlying 123 = some (.slice 117) := by kernel_rfl
theorem q_6 : tyK Try.prog 117 = some (true, 2) := by kernel_rfl
theorem fd_109_1 : fldK Try.prog 109 1 = some 1 := by kernel_rfl
theorem en_54 : ∀ args w, (callFunc 54 args).run Try.prog w = .ok (.enter 54 args) w := enters_of Try.func54 (by kernel_rfl) rfl
theorem fd_117_0 : fldK Try.prog 117 0 = some 0 := by kernel_rfl
theorem ty_114 : tyK Try.prog 114 = some (false, 1) := by kernel_rfl
theorem fd_117_1 : fldK Try.prog 117 1 = some 1 := by kernel_rfl
theorem ty_115 : tyK Try.prog 115 = some (false, 1) := by kernel_rfl
def fwA (a : Bool) : Nat := if a = true then 63 else 61
def fpA (a : Bool) : Nat := if a = true then 64 else 62
theorem wide_ok (q : Quad) (w : World) :
  Calls Try.prog 61 #[(Value.agg #[(iv q.x), (iv q.y), (iv q.w), (iv q.l)])] w (Ret fun v w' => v = .int .i64 q.w ∧ Ext NoB w w') := by
 refine b_2 Try.func61 rfl fun I A => ?_
 replace A : Fr 5 [] [(0, (Value.agg #[(iv q.x), (iv q.y), (iv q.w), (iv q.l)]))] I := A
 have G : Sep NoB w w [] := Sep.start _ _
 refine m2 (s2 A (e_5 G rfl A.e (cs := [(iv q.x), (iv q.y), (iv q.w), (iv q.l)]) rfl) ?_)
 rintro K _ P ⟨O, rfl, H⟩ F; clear A G I
 refine s1 F (a_1 rfl (evc _ _)) fun L D => ?_; clear F K
 refine n4 (s1 D (a_2 rfl o_6 D.e) fun M E => ?_); clear D L
 refine s1 E (a_3 rfl ty_3 E.e (H.bk 0 rfl) rfl) fun J B => ?_; clear E M
 refine s1 B (a_1 rfl B.e) fun N C => ?_; clear B J
 exact n1 (c_3 (a_9 C (.inl rfl) (a_4 C rfl (.tmp rfl)) (⟨rfl, H.ext⟩)))
theorem long_ok (q : Quad) (w : World) :
  Calls Try.prog 63 #[(Value.agg #[(iv q.x), (iv q.y), (iv q.w), (iv q.l)])] w (Ret fun v w' => v = .int .i64 q.l ∧ Ext NoB w w') := by
 refine b_2 Try.func63 rfl fun I A => ?_
 replace A : Fr 5 [] [(0, (Value.agg #[(iv q.x), (iv q.y), (iv q.w), (iv q.l)]))] I := A
 have G : Sep NoB w w [] := Sep.start _ _
 refine m2 (s2 A (e_5 G rfl A.e (cs := [(iv q.x), (iv q.y), (iv q.w), (iv q.l)]) rfl) ?_)
 rintro K _ P ⟨O, rfl, H⟩ F; clear A G I
 refine s1 F (a_1 rfl (evc _ _)) fun L D => ?_; clear F K
 refine n4 (s1 D (a_2 rfl o_7 D.e) fun M E => ?_); clear D L
 refine s1 E (a_3 rfl ty_3 E.e (H.bk 0 rfl) rfl) fun J B => ?_; clear E M
 refine s1 B (a_1 rfl B.e) fun N C => ?_; clear B J
 exact n1 (c_3 (a_9 C (.inl rfl) (a_4 C rfl (.tmp rfl)) (⟨rfl, H.ext⟩)))
theorem upright_ok (q : Quad) (fr many : Int) (hq : n_7 q) (hf : 0 ≤ fr ∧ fr ≤ 20) (w : World) :
  Calls Try.prog 62 #[(Value.agg #[(iv q.x), (iv q.y), (iv q.w), (iv q.l)]), (iv fr), (iv many)] w (Ret fun v w' => v = .agg #[.int .i64 (d_4 q false fr many).x, .int .i64 (d_4 q false fr many).y, .int .i64 (d_4 q false fr many).w, .int .i64 (d_4 q false fr many).l] ∧ Ext NoB w w') := by
 refine b_2 Try.func62 rfl fun T E => ?_
 replace E : Fr 17 [] [(0, (Value.agg #[(iv q.x), (iv q.y), (iv q.w), (iv q.l)])), (1, (iv fr)), (2, (iv many))] T := E
 have hqx := hq.x; have hqy := hq.y; have hqw := hq.w; have hql := hq.l
 have R : Sep NoB w w [] := Sep.start _ _
 refine m2 (s2 E (e_5 R rfl E.e (cs := [(iv q.x), (iv q.y), (iv q.w), (iv q.l)]) rfl) ?_)
 rintro f _ m ⟨h, rfl, S⟩ Q; clear E R T
 refine s2 Q (e_6 S rfl ze_88 (cs := [(iv 0), (iv 0), (iv 0), (iv 0)]) rfl) ?_
 rintro g _ n ⟨j, rfl, B⟩ N; clear Q S f
 refine n4 (s1 N (a_2 rfl fd_88_0 N.e) fun U F => ?_); clear N g
 refine s1 F (a_3 rfl ty_3 F.e (B.bk 1 rfl) rfl) fun V G => ?_; clear F U
 refine s1 G (a_0 rfl G.e) fun W C => ?_; clear G V
 refine s1 C (c_6 rfl C.e C.e (by omega) (by omega)) fun X H => ?_; clear C W
 refine s1 H (a_2 rfl fd_88_1 H.e) fun Y I => ?_; clear H X
 refine s1 I (a_3 rfl ty_3 I.e (B.bk 1 rfl) rfl) fun Z J => ?_; clear I Y
 refine s1 J (a_0 rfl J.e) fun a K => ?_; clear J Z
 refine s1 K (a_2 rfl o_7 K.e) fun b L => ?_; clear K a
 refine s1 L (a_3 rfl ty_3 L.e (B.bk 1 rfl) rfl) fun c A => ?_; clear L b
 refine s1 A (e_8 rfl (pv4 A.e A.e A.e A.e) (k_8 _ _ _ _)) fun k D => ?_; clear A c
 refine s7 D (d_8 B rfl j_9 D.e D.e (i := 0) rfl (vs := [(iv (q.x + fr)), (iv q.y), (iv many), (iv q.l)]) rfl rfl rfl (Nat.le_of_ble_eq_true rfl)) ?_
 intro _ d O M; clear D
 have P : Sep NoB w d [(blk j 88 [(iv (q.x + fr)), (iv q.y), (iv many), (iv q.l)]), (blk h 88 [(iv q.x), (iv q.y), (iv q.w), (iv q.l)])] := O; clear O B
 refine n1 (c_3 (a_9 M (.inl rfl) (a_4 M rfl (.cellA rfl j_9 (P.bk 0 rfl) (l := [(iv (q.x + fr)), (iv q.y), (iv many), (iv q.l)]) rfl rfl)) ?_))
 exact ⟨rfl, P.ext⟩
theorem level_ok (q : Quad) (fr many : Int) (hq : n_7 q) (hf : 0 ≤ fr ∧ fr ≤ 20) (w : World) :
  Calls Try.prog 64 #[(Value.agg #[(iv q.x), (iv q.y), (iv q.w), (iv q.l)]), (iv fr), (iv many)] w (Ret fun v w' => v = .agg #[.int .i64 (d_4 q true fr many).x, .int .i64 (d_4 q true fr many).y, .int .i64 (d_4 q true fr many).w, .int .i64 (d_4 q true fr many).l] ∧ Ext NoB w w') := by
 refine b_2 Try.func64 rfl fun T E => ?_
 replace E : Fr 17 [] [(0, (Value.agg #[(iv q.x), (iv q.y), (iv q.w), (iv q.l)])), (1, (iv fr)), (2, (iv many))] T := E
 have hqx := hq.x; have hqy := hq.y; have hqw := hq.w; have hql := hq.l
 have R : Sep NoB w w [] := Sep.start _ _
 refine m2 (s2 E (e_5 R rfl E.e (cs := [(iv q.x), (iv q.y), (iv q.w), (iv q.l)]) rfl) ?_)
 rintro f _ m ⟨h, rfl, S⟩ Q; clear E R T
 refine s2 Q (e_6 S rfl ze_88 (cs := [(iv 0), (iv 0), (iv 0), (iv 0)]) rfl) ?_
 rintro g _ n ⟨j, rfl, B⟩ N; clear Q S f
 refine n4 (s1 N (a_2 rfl fd_88_0 N.e) fun U F => ?_); clear N g
 refine s1 F (a_3 rfl ty_3 F.e (B.bk 1 rfl) rfl) fun V G => ?_; clear F U
 refine s1 G (a_2 rfl fd_88_1 G.e) fun W H => ?_; clear G V
 refine s1 H (a_3 rfl ty_3 H.e (B.bk 1 rfl) rfl) fun X I => ?_; clear H W
 refine s1 I (a_0 rfl I.e) fun Y C => ?_; clear I X
 refine s1 C (c_6 rfl C.e C.e (by omega) (by omega)) fun Z J => ?_; clear C Y
 refine s1 J (a_2 rfl o_6 J.e) fun a K => ?_; clear J Z
 refine s1 K (a_3 rfl ty_3 K.e (B.bk 1 rfl) rfl) fun b L => ?_; clear K a
 refine s1 L (a_0 rfl L.e) fun c A => ?_; clear L b
 refine s1 A (e_8 rfl (pv4 A.e A.e A.e A.e) (k_8 _ _ _ _)) fun k D => ?_; clear A c
 refine s7 D (d_8 B rfl j_9 D.e D.e (i := 0) rfl (vs := [(iv q.x), (iv (q.y + fr)), (iv q.w), (iv many)]) rfl rfl rfl (Nat.le_of_ble_eq_true rfl)) ?_
 intro _ d O M; clear D
 have P : Sep NoB w d [(blk j 88 [(iv q.x), (iv (q.y + fr)), (iv q.w), (iv many)]), (blk h 88 [(iv q.x), (iv q.y), (iv q.w), (iv q.l)])] := O; clear O B
 refine n1 (c_3 (a_9 M (.inl rfl) (a_4 M rfl (.cellA rfl j_9 (P.bk 0 rfl) (l := [(iv q.x), (iv (q.y + fr)), (iv q.w), (iv many)]) rfl rfl)) ?_))
 exact ⟨rfl, P.ext⟩
theorem en_fw {a : Bool} : ∀ args W, (callFunc (fwA a) args).run Try.prog W = .ok (.enter (fwA a) args) W := by
 cases a
 ·exact en_61
 exact en_63
theorem en_fp {a : Bool} : ∀ args W, (callFunc (fpA a) args).run Try.prog W = .ok (.enter (fpA a) args) W := by
 cases a
 ·exact en_62
 exact en_64
theorem fw_ok (a : Bool) (q : Quad) (w : World) : Calls Try.prog (fwA a) #[.agg #[.int .i64 q.x, .int .i64 q.y, .int .i64 q.w, .int .i64 q.l]] w (Ret fun v w' => v = .int .i64 (farF q a) ∧ Ext NoB w w') := by
 cases a
 ·exact wide_ok q w
 exact long_ok q w
theorem fp_ok (a : Bool) (q : Quad) (fr many : Int) (hq : n_7 q) (hf : 0 ≤ fr ∧ fr ≤ 20) (w : World) : Calls Try.prog (fpA a) #[.agg #[.int .i64 q.x, .int .i64 q.y, .int .i64 q.w, .int .i64 q.l], .int .i64 fr, .int .i64 many] w (Ret fun v w' => v = .agg #[.int .i64 (d_4 q a fr many).x, .int .i64 (d_4 q a fr many).y, .int .i64 (d_4 q a fr many).w, .int .i64 (d_4 q a fr many).l] ∧ Ext NoB w w') := by
 cases a
 ·exact upright_ok q fr many hq hf w
 exact level_ok q fr many hq hf w
theorem dirs_ok (w : World) :
  Calls Try.prog 54 #[] w (Ret fun v w' => ∃ b, v = .slice (some ⟨b, 0, none⟩) 2 2 ∧ Sep NoB w w' [blk b 117 [(Value.func (.func 61) #[] #[]), (Value.func (.func 62) #[] #[]), (Value.func (.func 63) #[] #[]), (Value.func (.func 64) #[] #[])]]) := by
 refine b_2 Try.func54 rfl fun I A => ?_
 replace A : Fr 4 [] [] I := A
 have G : Sep NoB w w [] := Sep.start _ _
 refine m2 (s1 A (a_1 rfl (evc _ _)) fun J E => ?_); clear A I
 refine n4 (s1 E (e_8 rfl (pv2 (evf _ _) (evf _ _)) (bd_117_0f_1f _ _ _ _ _ _)) fun K F => ?_); clear E J
 refine s1 F (e_8 rfl (pv2 (evf _ _) (evf _ _)) (bd_117_0f_1f _ _ _ _ _ _)) fun L B => ?_; clear F K
 refine s2 B (c_7 G rfl (pv2 B.e B.e) un_123 q_6 ze_117 (by decide) (cs := [(Value.func (.func 61) #[] #[]), (Value.func (.func 62) #[] #[]), (Value.func (.func 63) #[] #[]), (Value.func (.func 64) #[] #[])]) (bs_117_2_0vva_1vva _ _ _ _)) ?_
 rintro M _ P ⟨O, rfl, H⟩ D; clear B G L
 refine s1 D (a_1 rfl D.e) fun N C => ?_; clear D M
 exact n1 (c_3 (a_9 C (.inl rfl) (a_4 C rfl (.tmp rfl)) (⟨_, rfl, H⟩)))
theorem of_ok (c : CutD) (w : World) :
  Calls Try.prog 43 #[(Value.agg #[(iv c.piece), (Value.bool c.across), (iv c.pos)])] w (Ret fun v w' => v = .agg #[(Value.func (.func (fwA c.across)) #[] #[]), (Value.func (.func (fpA c.across)) #[] #[])] ∧ Ext NoB w w') := by
 refine b_2 Try.func43 rfl fun a G => ?_
 replace G : Fr 11 [] [(0, (Value.agg #[(iv c.piece), (Value.bool c.across), (iv c.pos)]))] a := G
 have Y : Sep NoB w w [] := Sep.start _ _
 refine m2 (s2 G (e_5 Y rfl G.e (cs := [(iv c.piece), (Value.bool c.across), (iv c.pos)]) rfl) ?_)
 rintro r _ z ⟨m, rfl, Z⟩ X; clear G Y a
 refine s2 X (e_6 Z rfl ze_117 (cs := [Value.nilFunc, Value.nilFunc]) rfl) ?_
 rintro s _ w8 ⟨o, rfl, B⟩ P; clear X Z r
 refine n2 (m2 (s1 P (a_2 rfl fd_109_1 P.e) fun b H => ?_)); clear P s
 refine s1 H (a_3 rfl ty_4 H.e (B.bk 1 rfl) rfl) fun W A => ?_; clear H b
 refine n1 ?_
 rcases Bool.eq_false_or_eq_true (c.across) with M | M
 ·skip
  rw [M] at A
  refine c_1 A rfl (m2 (s2 A (b_5 rfl en_54 ev0 (dirs_ok _)) ?_))
  rintro d _ x ⟨j, rfl, U⟩ I; have E := B.q_1 U rfl; clear U A B W
  refine s1 I (b_8 rfl un_123 q_6 I.e (i := 1) (show _ = Value.int .i64 ((1 : Nat) : Int) from (evc _ _)) (SlAt.h_3 (sz := 2) (n := 2) (E.bk 0 rfl) rfl (Nat.le_of_ble_eq_true rfl)) (by decide) (by decide)) fun f J => ?_; clear I d
  refine s1 J (e_1 rfl q_6 J.e (SlAt.h_3 (sz := 2) (n := 2) (E.bk 0 rfl) rfl (Nat.le_of_ble_eq_true rfl)) rfl rfl (by decide)) fun t C => ?_; clear J f
  refine s7 C (d_8 E rfl q_6 C.e C.e (i := 1) rfl (vs := [(Value.func (.func 63) #[] #[]), (Value.func (.func 64) #[] #[])]) rfl rfl rfl (Nat.le_of_ble_eq_true rfl)) ?_
  intro _ p Q N; clear C
  have R : Sep NoB w p [(blk j 117 [(Value.func (.func 61) #[] #[]), (Value.func (.func 62) #[] #[]), (Value.func (.func 63) #[] #[]), (Value.func (.func 64) #[] #[])]), (blk o 117 [(Value.func (.func 63) #[] #[]), (Value.func (.func 64) #[] #[])]), (blk m 109 [(iv c.piece), (Value.bool c.across), (iv c.pos)])] := Q; clear Q E
  refine n1 (c_3 (b_1 (a_9 N (.inl rfl) (a_4 N rfl (.cellA rfl q_6 (R.bk 1 rfl) (l := [(Value.func (.func 63) #[] #[]), (Value.func (.func 64) #[] #[])]) rfl rfl)) ?_)))
  exact ⟨by rw [show c.across = true by assumption]; rfl, R.ext⟩
 skip
 rw [M] at A
 refine b_3 A rfl (c_0 (b_0 (m2 (s2 A (b_5 rfl en_54 ev0 (dirs_ok _)) ?_))))
 rintro g _ y ⟨k, rfl, V⟩ K; have F := B.q_1 V rfl; clear V A B W
 refine s1 K (b_8 rfl un_123 q_6 K.e (i := 0) (show _ = Value.int .i64 ((0 : Nat) : Int) from (evc _ _)) (SlAt.h_3 (sz := 2) (n := 2) (F.bk 0 rfl) rfl (Nat.le_of_ble_eq_true rfl)) (by decide) (by decide)) fun h L => ?_; clear K g
 refine s1 L (e_1 rfl q_6 L.e (SlAt.h_3 (sz := 2) (n := 2) (F.bk 0 rfl) rfl (Nat.le_of_ble_eq_true rfl)) rfl rfl (by decide)) fun u D => ?_; clear L h
 refine s7 D (d_8 F rfl q_6 D.e D.e (i := 1) rfl (vs := [(Value.func (.func 61) #[] #[]), (Value.func (.func 62) #[] #[])]) rfl rfl rfl (Nat.le_of_ble_eq_true rfl)) ?_
 intro _ q S O; clear D
 have T : Sep NoB w q [(blk k 117 [(Value.func (.func 61) #[] #[]), (Value.func (.func 62) #[] #[]), (Value.func (.func 63) #[] #[]), (Value.func (.func 64) #[] #[])]), (blk o 117 [(Value.func (.func 61) #[] #[]), (Value.func (.func 62) #[] #[])]), (blk m 109 [(iv c.piece), (Value.bool c.across), (iv c.pos)])] := S; clear S F
 refine n1 (c_3 (a_9 O (.inl rfl) (a_4 O rfl (.cellA rfl q_6 (T.bk 1 rfl) (l := [(Value.func (.func 61) #[] #[]), (Value.func (.func 62) #[] #[])]) rfl rfl)) ?_))
 exact ⟨by rw [show c.across = false by assumption]; rfl, T.ext⟩
theorem parts4_ok (a : Bool) (q : Quad) (pos saw : Int) (w : World) :
  Calls Try.prog 44 #[(Value.agg #[(Value.func (.func (fwA a)) #[] #[]), (Value.func (.func (fpA a)) #[] #[])]), (Value.agg #[(iv q.x), (iv q.y), (iv q.w), (iv q.l)]), (iv pos), (iv saw)] w (Ret fun v w' => ∃ ib1 ib2 ib3 ib4, v = .func (.func 55) #[] #[bptr ib1 0, bptr ib2 0, bptr ib3 0, bptr ib4 0] ∧ Sep NoB w w' [(blk ib1 117 [(Value.func (.func (fwA a)) #[] #[]), (Value.func (.func (fpA a)) #[] #[])]), (blk ib2 88 [(iv q.x), (iv q.y), (iv q.w), (iv q.l)]), (blk ib3 3 [(iv pos)]), (blk ib4 3 [(iv saw)])]) := by
 refine b_2 Try.func44 rfl fun N B => ?_
 replace B : Fr 10 [] [(0, (Value.agg #[(Value.func (.func (fwA a)) #[] #[]), (Value.func (.func (fpA a)) #[] #[])])), (1, (Value.agg #[(iv q.x), (iv q.y), (iv q.w), (iv q.l)])), (2, (iv pos)), (3, (iv saw))] N := B
 have K : Sep NoB w w [] := Sep.start _ _
 refine m2 (s2 B (e_5 K rfl B.e (cs := [(Value.func (.func (fwA a)) #[] #[]), (Value.func (.func (fpA a)) #[] #[])]) rfl) ?_)
 rintro S _ c ⟨Z, rfl, L⟩ F; clear B K N
 refine s2 F (e_5 L rfl F.e (cs := [(iv q.x), (iv q.y), (iv q.w), (iv q.l)]) rfl) ?_
 rintro T _ d ⟨b, rfl, I⟩ H; clear F L S
 refine s2 H (e_5 I rfl H.e (cs := [(iv pos)]) rfl) ?_
 rintro O _ X ⟨V, rfl, J⟩ C; clear H I T
 refine s2 C (e_5 J rfl C.e (cs := [(iv saw)]) rfl) ?_
 rintro P _ Y ⟨W, rfl, M⟩ E; clear C J O
 refine s1 E (a_1 rfl (evc _ _)) fun Q A => ?_; clear E P
 refine n4 (s1 A (m_3 rfl ev0 (ev4 A.e A.e A.e A.e)) fun R D => ?_); clear A Q
 refine s1 D (a_1 rfl D.e) fun U G => ?_; clear D R
 exact n1 (c_3 (a_9 G (.inl rfl) (a_4 G rfl (.tmp rfl)) (⟨_, _, _, _, rfl, M.keep [3, 2, 1, 0] (by decide) _ rfl rfl⟩)))
theorem parts_first {q : Quad} {a : Bool} {pos saw : Int} (h : ¬ nopart (farF q a) pos saw) (A : 0 < pos) : 0 < (a_7 q a pos saw).length ∧ (a_7 q a pos saw).getD 0 q0 = d_4 q a 0 pos := by
 by_cases B : 0 < farF q a - pos - saw
 ·rw [l_3 h A B]; exact ⟨Nat.zero_lt_succ _, rfl⟩
 rw [k_5 h A B]; exact ⟨Nat.zero_lt_succ _, rfl⟩
theorem parts_next {q : Quad} {a : Bool} {pos saw : Int} (h : ¬ nopart (farF q a) pos saw) (A : 0 < pos) (B : 0 < farF q a - pos - saw) : 1 < (a_7 q a pos saw).length ∧ (a_7 q a pos saw).getD 1 q0 = d_4 q a (pos + saw) (farF q a - pos - saw) := by
 rw [l_3 h A B]; exact ⟨Nat.lt_succ_self 1, rfl⟩
theorem parts_only {q : Quad} {a : Bool} {pos saw : Int} (h : ¬ nopart (farF q a) pos saw) (A : ¬ 0 < pos) (B : 0 < farF q a - pos - saw) : 0 < (a_7 q a pos saw).length ∧ (a_7 q a pos saw).getD 0 q0 = d_4 q a (pos + saw) (farF q a - pos - saw) := by
 rw [k_4 h A B]; exact ⟨Nat.lt_succ_self 0, rfl⟩
set_option maxHeartbeats 1000000 in
theorem parts_it (ac : Bool) (q : Quad) (pos saw : Int) (ib1 ib2 ib3 ib4 : Nat) (hqv : n_7 q) (hp : -1000 ≤ pos ∧ pos ≤ 1000) (hs : 0 ≤ saw ∧ saw ≤ 2) :
  IterG Try.prog 55 #[bptr ib1 0, bptr ib2 0, bptr ib3 0, bptr ib4 0] nilR [(rob ib1 117 [(Value.func (.func (fwA ac)) #[] #[]), (Value.func (.func (fpA ac)) #[] #[])]), (rob ib2 88 [(iv q.x), (iv q.y), (iv q.w), (iv q.l)]), (rob ib3 3 [(iv pos)]), (rob ib4 3 [(iv saw)])] (a_7 q ac pos saw).length (fun k => #[.agg #[.int .i64 ((a_7 q ac pos saw).getD k q0).x, .int .i64 ((a_7 q ac pos saw).getD k q0).y, .int .i64 ((a_7 q ac pos saw).getD k q0).w, .int .i64 ((a_7 q ac pos saw).getD k q0).l]]) := by
 intro l J Jx W hJ hJx hD hDx h0 hy
 have hqx := hqv.x; have hqy := hqv.y; have hqw := hqv.w; have hql := hqv.l; have hfb := far_bd hqv ac
 refine b_2 Try.func55 rfl fun a0 BY => ?_
 replace BY : Fr 57 [] [(0, (Value.func (.yield l) #[] #[])), (1, (bptr ib1 0)), (2, (bptr ib2 0)), (3, (bptr ib3 0)), (4, (bptr ib4 0))] a0 := BY
 have DH : Sep nilR.S W W [nilR, (rob ib1 117 [(Value.func (.func (fwA ac)) #[] #[]), (Value.func (.func (fpA ac)) #[] #[])]), (rob ib2 88 [(iv q.x), (iv q.y), (iv q.w), (iv q.l)]), (rob ib3 3 [(iv pos)]), (rob ib4 3 [(iv saw)])] := (hD _ _ _ h0).2
 refine b_6 ?_
 have DE := BY.as [(0, (Value.func (.yield l) #[] #[])), (1, (bptr ib1 0)), (2, (bptr ib2 0)), (3, (bptr ib3 0)), (4, (bptr ib4 0))] rfl; clear BY
 refine h_7 mixed DE DH 7 [[], [0], [], [1, 2], [], [3, 4], []] [(Yd.val (bptr ib1 0)), (Yd.val (Value.func (.func (fwA ac)) #[] #[])), (Yd.val (Value.agg #[(iv q.x), (iv q.y), (iv q.w), (iv q.l)])), (Yd.val (iv (farF q ac))), (Yd.val (iv pos)), (Yd.val (iv ((farF q ac) - pos))), (Yd.val (iv saw))] (by decide +kernel) rfl rfl ?_ ?_
 ·skip
  refine dq (fun a w hA hS hd => a_2 rfl fd_117_0 hA.e) ?_
  refine dq (fun a w hA hS hd => a_3 rfl ty_114 (hq hd 0) (hS.rk 1 rfl) rfl) ?_
  refine dq (fun a w hA hS hd => c_2 rfl j_9 (hA.ev rfl) (hS.rk 2 rfl) (l := [(iv q.x), (iv q.y), (iv q.w), (iv q.l)]) rfl rfl) ?_
  refine ⟨fun a w hA hS hd => by have e1 := hx hd 1; have e2 := hx hd 2; exact e_7 rfl (dx (i_9 rfl (e_0 e1) en_fw (ev1 (e_0 e2)) (fw_ok ac q _)) hS (fun _ => rfl)), ?_⟩
  refine dq (fun a w hA hS hd => a_3 rfl ty_3 hA.e (hS.rk 3 rfl) rfl) ?_
  refine dq (fun a w hA hS hd => f_9 rfl (hq hd 3) (hq hd 4) (by omega) (by omega)) ?_
  refine dq (fun a w hA hS hd => a_3 rfl ty_3 hA.e (hS.rk 4 rfl) rfl) ?_
  trivial
 intro a4 w5 DF A Cp; clear DE DH
 have DG := DF.add (hz Cp 5); clear DF
 have AI := DG.add (hz Cp 6); clear DG
 clear Cp
 refine s1 AI (f_9 rfl AI.e AI.e (by omega) (by omega)) fun Et BK => ?_; clear AI a4
 refine s1 BK (a_1 rfl BK.e) fun Eu BL => ?_; clear BK Et
 refine n2 (m2 (s1 BL (a_3 rfl ty_3 BL.e (A.rk 3 rfl) rfl) fun Ev BM => ?_)); clear BL Eu
 refine s1 BM (e_2 rfl BM.e (evc _ _)) fun Ew BN => ?_; clear BM Ev
 refine s1 BN (a_0 rfl BN.e) fun DA U => ?_; clear BN Ew
 by_cases Cq : pos < 0
 ·skip
  rw [decide_eq_true Cq] at U
  refine s3 U fun Ex CS => ?_; clear U DA
  refine s3 CS fun Ey BO => ?_; clear CS Ex
  refine s1 BO (a_6 rfl BO.e (evc _ _)) fun Ez BP => ?_; clear BO Ey
  refine s1 BP (a_0 rfl BP.e) fun E0 CT => ?_; clear BP Ez
  refine s3 CT fun E1 CU => ?_; clear CT E0
  refine s3 CU fun E2 CV => ?_; clear CU E1
  refine s3 CV fun E3 CW => ?_; clear CV E2
  refine s4 CW fun E4 CX => ?_; clear CW E3
  refine s4 CX fun E5 CY => ?_; clear CX E4
  refine s4 CY fun E6 CZ => ?_; clear CY E5
  refine s4 CZ fun E7 Ca => ?_; clear CZ E6
  refine s4 Ca fun E8 Cb => ?_; clear Ca E7
  refine s4 Cb fun E9 Cc => ?_; clear Cb E8
  refine s3 Cc fun FA BQ => ?_; clear Cc E9
  refine s1 BQ (a_6 rfl BQ.e (evc _ _)) fun Ft Cd => ?_; clear BQ FA
  refine n1 (c_1 Cd rfl (c_3 (b_1 (a_9 Cd (.inl rfl) (e_3 rfl _) ?_))))
  have hn_ : (a_7 q ac pos saw).length = 0 := by (first | rw [f_0 (by unfold nopart; omega)] | rw [f_6 (by unfold nopart; omega) (by omega) (by omega)]); rfl
  exact .inl (by rw [hn_]; exact (hJ _ _ _ _ _ h0 (Sep.keep A [0] (by decide) _ rfl rfl) rfl))
 skip
 rw [decide_eq_false Cq] at U
 refine s5 U (a_0 rfl U.e) fun FB BR => ?_; clear U DA
 refine s5 BR (e_2 rfl BR.e (evc _ _)) fun FC BD => ?_; clear BR FB
 refine s1 BD (a_8 rfl BD.e BD.e) fun FD BS => ?_; clear BD FC
 refine s1 BS (a_0 rfl BS.e) fun DB V => ?_; clear BS FD
 by_cases Cr : (((farF q ac) - pos) - saw) < 0
 ·skip
  rw [decide_eq_true Cr] at V
  refine s3 V fun FE Ce => ?_; clear V DB
  refine s3 Ce fun FF Cf => ?_; clear Ce FE
  refine s3 Cf fun FG Cg => ?_; clear Cf FF
  refine s4 Cg fun FH Ch => ?_; clear Cg FG
  refine s4 Ch fun FI Ci => ?_; clear Ch FH
  refine s4 Ci fun FJ Cj => ?_; clear Ci FI
  refine s4 Cj fun FK Ck => ?_; clear Cj FJ
  refine s4 Ck fun FL Cl => ?_; clear Ck FK
  refine s4 Cl fun FM Cm => ?_; clear Cl FL
  refine s3 Cm fun FN BT => ?_; clear Cm FM
  refine s1 BT (a_6 rfl BT.e (evc _ _)) fun Fu Cn => ?_; clear BT FN
  refine n1 (c_1 Cn rfl (c_3 (b_1 (a_9 Cn (.inl rfl) (e_3 rfl _) ?_))))
  have hn_ : (a_7 q ac pos saw).length = 0 := by (first | rw [f_0 (by unfold nopart; omega)] | rw [f_6 (by unfold nopart; omega) (by omega) (by omega)]); rfl
  exact .inl (by rw [hn_]; exact (hJ _ _ _ _ _ h0 (Sep.keep A [0] (by decide) _ rfl rfl) rfl))
 skip
 rw [decide_eq_false Cr] at V
 refine s5 V (a_3 rfl ty_3 V.e (A.rk 4 rfl) rfl) fun FO BU => ?_; clear V DB
 refine s5 BU (f_5 rfl BU.e (evc _ _)) fun FP BV => ?_; clear BU FO
 refine s5 BV (a_0 rfl BV.e) fun DC X => ?_; clear BV FP
 by_cases Cs : saw = 0
 ·skip
  rw [decide_eq_true Cs] at X
  refine s5 X (a_3 rfl ty_3 X.e (A.rk 3 rfl) rfl) fun FQ BW => ?_; clear X DC
  refine s5 BW (f_5 rfl BW.e (evc _ _)) fun FSa BX => ?_; clear BW FQ
  refine s5 BX (a_0 rfl BX.e) fun DD Y => ?_; clear BX FSa
  by_cases Ct : pos = 0
  ·skip
   rw [decide_eq_true Ct] at Y
   refine s3 Y fun FT Co => ?_; clear Y DD
   refine s3 Co fun FU AJ => ?_; clear Co FT
   refine s5 AJ (a_6 rfl AJ.e (evc _ _)) fun DI h => ?_; clear AJ FU
   refine s5 h (a_6 rfl h.e h.e) fun DJ i => ?_; clear h DI
   refine s1 i (a_8 rfl i.e i.e) fun FW BZ => ?_; clear i DJ
   refine n1 (c_1 BZ rfl (c_3 (b_1 (a_9 BZ (.inl rfl) (e_3 rfl _) ?_))))
   have hn_ : (a_7 q ac pos saw).length = 0 := by (first | rw [f_0 (by unfold nopart; omega)] | rw [f_6 (by unfold nopart; omega) (by omega) (by omega)]); rfl
   exact .inl (by rw [hn_]; exact (hJ _ _ _ _ _ h0 (Sep.keep A [0] (by decide) _ rfl rfl) rfl))
  skip
  rw [decide_eq_false Ct] at Y
  refine s5 Y (a_0 rfl Y.e) fun DK AK => ?_; clear Y DD
  refine s5 AK (f_5 rfl AK.e (evc _ _)) fun DL j => ?_; clear AK DK
  refine s5 j (a_8 rfl j.e j.e) fun DM m => ?_; clear j DL
  refine s5 m (a_6 rfl m.e m.e) fun DN n => ?_; clear m DM
  refine s1 n (a_8 rfl n.e n.e) fun DO F => ?_; clear n DN
  refine n1 ?_
  by_cases CB : (((farF q ac) - pos) - saw) = 0
  ·skip
   rw [decide_eq_true CB] at F
   refine c_1 F rfl (c_3 (b_1 (a_9 F (.inl rfl) (e_3 rfl _) ?_)))
   have hn_ : (a_7 q ac pos saw).length = 0 := by (first | rw [f_0 (by unfold nopart; omega)] | rw [f_6 (by unfold nopart; omega) (by omega) (by omega)]); rfl
   exact .inl (by rw [hn_]; exact (hJ _ _ _ _ _ h0 (Sep.keep A [0] (by decide) _ rfl rfl) rfl))
  skip
  rw [decide_eq_false CB] at F
  refine b_3 F rfl (c_0 (b_0 (b_6 (b_6 ?_))))
  have AL := F.as [(6, (iv (((farF q ac) - pos) - saw))), (0, (Value.func (.yield l) #[] #[])), (1, (bptr ib1 0)), (2, (bptr ib2 0)), (3, (bptr ib3 0)), (4, (bptr ib4 0))] rfl; clear F
  refine a_5 (s1 AL (a_3 rfl ty_3 AL.e (A.rk 3 rfl) rfl) fun DP AM => ?_); clear AL DO
  refine s1 AM (h_4 rfl AM.e (evc _ _)) fun DQ AN => ?_; clear AM DP
  refine s1 AN (a_0 rfl AN.e) fun CO G => ?_; clear AN DQ
  by_cases CC : 0 < pos
  ·skip
   rw [decide_eq_true CC] at G
   refine s5 G (a_0 rfl G.e) fun DR AO => ?_; clear G CO
   refine s5 AO (a_2 rfl fd_117_1 AO.e) fun DS AP => ?_; clear AO DR
   refine s5 AP (a_3 rfl ty_115 AP.e (A.rk 1 rfl) rfl) fun DT AQ => ?_; clear AP DS
   refine s5 AQ (c_2 rfl j_9 (AQ.ev rfl) (A.rk 2 rfl) (l := [(iv q.x), (iv q.y), (iv q.w), (iv q.l)]) rfl rfl) fun DU AR => ?_; clear AQ DT
   refine s5 AR (a_3 rfl ty_3 AR.e (A.rk 3 rfl) rfl) fun DV Z => ?_; clear AR DU
   refine s6 Z (i_9 rfl (Z.ev rfl) en_fp (ev3 Z.e (evc _ _) Z.e) (fp_ok ac q 0 pos hqv (by omega) _)) ?_
   rintro DW _ Fm ⟨rfl, Bz⟩ o; have B5 := A.step Bz; clear Bz Z A DV
   have CI := parts_first (q := q) (a := ac) (pos := pos) (saw := saw) (by unfold nopart; omega) (by omega)
   refine s6 o (op_yield rfl o.e (ev1 o.e) (by have hz := hy 0 CI.1 _ _ (hJ _ _ _ _ _ h0 (Sep.keep B5 [0] (by decide) _ rfl rfl) rfl); dsimp only at hz; rw [CI.2] at hz; exact hz)) ?_
   rintro CP Fg BE C4 L; clear o B5 DW
   rcases C4 with ⟨rfl, R⟩ | ⟨rfl, R⟩
   ·skip
    have I : Sep nilR.S BE BE [nilR, (rob ib1 117 [(Value.func (.func (fwA ac)) #[] #[]), (Value.func (.func (fpA ac)) #[] #[])]), (rob ib2 88 [(iv q.x), (iv q.y), (iv q.w), (iv q.l)]), (rob ib3 3 [(iv pos)]), (rob ib4 3 [(iv saw)])] := (hD _ _ _ R).2
    refine s5 L (e_4 rfl L.e) fun DX p => ?_; clear L CP
    refine s1 p (a_6 rfl p.e p.e) fun DY AS => ?_; clear p DX
    refine n1 (b_3 AS rfl (c_0 (b_0 (b_6 ?_))))
    have AT := AS.as [(6, (iv (((farF q ac) - pos) - saw))), (0, (Value.func (.yield l) #[] #[])), (1, (bptr ib1 0)), (2, (bptr ib2 0)), (3, (bptr ib3 0)), (4, (bptr ib4 0))] rfl; clear AS
    refine a_5 (s1 AT (a_0 rfl AT.e) fun DZ AU => ?_); clear AT DY
    refine s1 AU (h_4 rfl AU.e (evc _ _)) fun Da B => ?_; clear AU DZ
    refine n1 ?_
    by_cases CD : 0 < (((farF q ac) - pos) - saw)
    ·skip
     rw [decide_eq_true CD] at B
     refine c_1 B rfl (a_5 (s1 B (a_0 rfl B.e) fun Db AV => ?_)); clear B Da
     refine s1 AV (a_2 rfl fd_117_1 AV.e) fun Dc AW => ?_; clear AV Db
     refine s1 AW (a_3 rfl ty_115 AW.e (I.rk 1 rfl) rfl) fun Dd AX => ?_; clear AW Dc
     refine s1 AX (c_2 rfl j_9 (AX.ev rfl) (I.rk 2 rfl) (l := [(iv q.x), (iv q.y), (iv q.w), (iv q.l)]) rfl rfl) fun De AY => ?_; clear AX Dd
     refine s1 AY (a_3 rfl ty_3 AY.e (I.rk 3 rfl) rfl) fun Df AZ => ?_; clear AY De
     refine s1 AZ (a_3 rfl ty_3 AZ.e (I.rk 4 rfl) rfl) fun Dg r => ?_; clear AZ Df
     refine s1 r (c_6 rfl r.e r.e (by omega) (by omega)) fun Dh Aa => ?_; clear r Dg
     refine s1 Aa (a_0 rfl Aa.e) fun Di M => ?_; clear Aa Dh
     refine s2 M (i_9 rfl (M.ev rfl) en_fp (ev3 M.e M.e M.e) (fp_ok ac q (pos + saw) (((farF q ac) - pos) - saw) hqv (by omega) _)) ?_
     rintro Dj _ Fn ⟨rfl, B0⟩ s; have B6 := I.step B0; clear B0 M I Di
     have CJ := parts_next (q := q) (a := ac) (pos := pos) (saw := saw) (by unfold nopart; omega) (by omega) (by omega)
     refine s2 s (op_yield rfl s.e (ev1 s.e) (by have hz := hy 1 CJ.1 _ _ (hJ _ _ _ _ _ R (Sep.keep B6 [0] (by decide) _ rfl rfl) rfl); dsimp only at hz; rw [CJ.2] at hz; exact hz)) ?_
     rintro FX Fh BF C5 Ba; clear s B6 Dj
     rcases C5 with ⟨rfl, c⟩ | ⟨rfl, c⟩
     ·skip
      have Cu : Sep nilR.S BF BF [nilR, (rob ib1 117 [(Value.func (.func (fwA ac)) #[] #[]), (Value.func (.func (fpA ac)) #[] #[])]), (rob ib2 88 [(iv q.x), (iv q.y), (iv q.w), (iv q.l)]), (rob ib3 3 [(iv pos)]), (rob ib4 3 [(iv saw)])] := (hD _ _ _ c).2
      refine d_0 (a_9 Ba (.inr rfl) (e_3 rfl _) ?_)
      have hn_ : (a_7 q ac pos saw).length = 2 := by (rw [l_3 (by unfold nopart; omega) (by omega) (by omega)]); rfl
      exact .inl (by rw [hn_]; exact (hJ _ _ _ _ _ c (Sep.keep Cu [0] (by decide) _ rfl rfl) rfl))
     skip
     have Cv : Sep nilR.S BF BF [nilR, (rob ib1 117 [(Value.func (.func (fwA ac)) #[] #[]), (Value.func (.func (fpA ac)) #[] #[])]), (rob ib2 88 [(iv q.x), (iv q.y), (iv q.w), (iv q.l)]), (rob ib3 3 [(iv pos)]), (rob ib4 3 [(iv saw)])] := (hDx _ _ _ c).2
     exact d_0 (a_9 Ba (.inr rfl) (e_3 rfl _) (.inr ⟨_, (hJx _ _ _ _ _ c (Sep.keep Cv [0] (by decide) _ rfl rfl) rfl)⟩))
    skip
    rw [decide_eq_false CD] at B
    refine b_3 B rfl (c_0 (a_9 B (.inr rfl) (e_3 rfl _) ?_))
    have hn_ : (a_7 q ac pos saw).length = 1 := by (first | rw [k_5 (by unfold nopart; omega) (by omega) (by omega)] | rw [k_4 (by unfold nopart; omega) (by omega) (by omega)]); rfl
    exact .inl (by rw [hn_]; exact (hJ _ _ _ _ _ R (Sep.keep I [0] (by decide) _ rfl rfl) rfl))
   skip
   have Cw : Sep nilR.S BE BE [nilR, (rob ib1 117 [(Value.func (.func (fwA ac)) #[] #[]), (Value.func (.func (fpA ac)) #[] #[])]), (rob ib2 88 [(iv q.x), (iv q.y), (iv q.w), (iv q.l)]), (rob ib3 3 [(iv pos)]), (rob ib4 3 [(iv saw)])] := (hDx _ _ _ R).2
   refine s5 L (e_4 rfl L.e) fun Dk t => ?_; clear L CP
   refine s1 t (a_6 rfl t.e t.e) fun FY Bb => ?_; clear t Dk
   exact n1 (c_1 Bb rfl (c_3 (b_1 (a_9 Bb (.inl rfl) (e_3 rfl _) (.inr ⟨_, (hJx _ _ _ _ _ R (Sep.keep Cw [0] (by decide) _ rfl rfl) rfl)⟩)))))
  skip
  rw [decide_eq_false CC] at G
  refine s3 G fun Dl Bc => ?_; clear G CO
  refine s3 Bc fun Dm Bd => ?_; clear Bc Dl
  refine s3 Bd fun Dn Be => ?_; clear Bd Dm
  refine s3 Be fun Do Bf => ?_; clear Be Dn
  refine s3 Bf fun Dp Bg => ?_; clear Bf Do
  refine s3 Bg fun Dq Bh => ?_; clear Bg Dp
  refine s3 Bh fun Dr Bi => ?_; clear Bh Dq
  refine s3 Bi fun Ds Ab => ?_; clear Bi Dr
  refine s1 Ab (a_8 rfl Ab.e (evc _ _)) fun Dt Ac => ?_; clear Ab Ds
  refine n1 (b_3 Ac rfl (c_0 (b_0 (b_6 ?_))))
  have Ad := Ac.as [(6, (iv (((farF q ac) - pos) - saw))), (0, (Value.func (.yield l) #[] #[])), (1, (bptr ib1 0)), (2, (bptr ib2 0)), (3, (bptr ib3 0)), (4, (bptr ib4 0))] rfl; clear Ac
  refine a_5 (s1 Ad (a_0 rfl Ad.e) fun Du Ae => ?_); clear Ad Dt
  refine s1 Ae (h_4 rfl Ae.e (evc _ _)) fun Dv C => ?_; clear Ae Du
  refine n1 ?_
  by_cases CE : 0 < (((farF q ac) - pos) - saw)
  ·skip
   rw [decide_eq_true CE] at C
   refine c_1 C rfl (a_5 (s1 C (a_0 rfl C.e) fun Dw Af => ?_)); clear C Dv
   refine s1 Af (a_2 rfl fd_117_1 Af.e) fun Dx Ag => ?_; clear Af Dw
   refine s1 Ag (a_3 rfl ty_115 Ag.e (A.rk 1 rfl) rfl) fun Dy Ah => ?_; clear Ag Dx
   refine s1 Ah (c_2 rfl j_9 (Ah.ev rfl) (A.rk 2 rfl) (l := [(iv q.x), (iv q.y), (iv q.w), (iv q.l)]) rfl rfl) fun Dz Ai => ?_; clear Ah Dy
   refine s1 Ai (a_3 rfl ty_3 Ai.e (A.rk 3 rfl) rfl) fun D0 Aj => ?_; clear Ai Dz
   refine s1 Aj (a_3 rfl ty_3 Aj.e (A.rk 4 rfl) rfl) fun D1 u => ?_; clear Aj D0
   refine s1 u (c_6 rfl u.e u.e (by omega) (by omega)) fun D2 Ak => ?_; clear u D1
   refine s1 Ak (a_0 rfl Ak.e) fun D3 N => ?_; clear Ak D2
   refine s2 N (i_9 rfl (N.ev rfl) en_fp (ev3 N.e N.e N.e) (fp_ok ac q (pos + saw) (((farF q ac) - pos) - saw) hqv (by omega) _)) ?_
   rintro D4 _ Fo ⟨rfl, B1⟩ v; have B7 := A.step B1; clear B1 N A D3
   have CK := parts_only (q := q) (a := ac) (pos := pos) (saw := saw) (by unfold nopart; omega) (by omega) (by omega)
   refine s2 v (op_yield rfl v.e (ev1 v.e) (by have hz := hy 0 CK.1 _ _ (hJ _ _ _ _ _ h0 (Sep.keep B7 [0] (by decide) _ rfl rfl) rfl); dsimp only at hz; rw [CK.2] at hz; exact hz)) ?_
   rintro FZ Fi BG C6 Bj; clear v B7 D4
   rcases C6 with ⟨rfl, d⟩ | ⟨rfl, d⟩
   ·skip
    have Cx : Sep nilR.S BG BG [nilR, (rob ib1 117 [(Value.func (.func (fwA ac)) #[] #[]), (Value.func (.func (fpA ac)) #[] #[])]), (rob ib2 88 [(iv q.x), (iv q.y), (iv q.w), (iv q.l)]), (rob ib3 3 [(iv pos)]), (rob ib4 3 [(iv saw)])] := (hD _ _ _ d).2
    refine d_0 (a_9 Bj (.inr rfl) (e_3 rfl _) ?_)
    have hn_ : (a_7 q ac pos saw).length = 1 := by (first | rw [k_5 (by unfold nopart; omega) (by omega) (by omega)] | rw [k_4 (by unfold nopart; omega) (by omega) (by omega)]); rfl
    exact .inl (by rw [hn_]; exact (hJ _ _ _ _ _ d (Sep.keep Cx [0] (by decide) _ rfl rfl) rfl))
   skip
   have Cy : Sep nilR.S BG BG [nilR, (rob ib1 117 [(Value.func (.func (fwA ac)) #[] #[]), (Value.func (.func (fpA ac)) #[] #[])]), (rob ib2 88 [(iv q.x), (iv q.y), (iv q.w), (iv q.l)]), (rob ib3 3 [(iv pos)]), (rob ib4 3 [(iv saw)])] := (hDx _ _ _ d).2
   exact d_0 (a_9 Bj (.inr rfl) (e_3 rfl _) (.inr ⟨_, (hJx _ _ _ _ _ d (Sep.keep Cy [0] (by decide) _ rfl rfl) rfl)⟩))
  skip
  rw [decide_eq_false CE] at C
  refine b_3 C rfl (c_0 (a_9 C (.inr rfl) (e_3 rfl _) ?_))
  have hn_ : (a_7 q ac pos saw).length = 0 := by (first | rw [f_0 (by unfold nopart; omega)] | rw [f_6 (by unfold nopart; omega) (by omega) (by omega)]); rfl
  exact .inl (by rw [hn_]; exact (hJ _ _ _ _ _ h0 (Sep.keep A [0] (by decide) _ rfl rfl) rfl))
 skip
 rw [decide_eq_false Cs] at X
 refine s3 X fun D5 Bk => ?_; clear X DC
 refine s3 Bk fun D6 Bl => ?_; clear Bk D5
 refine s3 Bl fun D7 Bm => ?_; clear Bl D6
 refine s4 Bm fun D8 Bn => ?_; clear Bm D7
 refine s4 Bn fun D9 Bo => ?_; clear Bn D8
 refine s3 Bo fun EA Al => ?_; clear Bo D9
 refine s5 Al (a_8 rfl Al.e (evc _ _)) fun EB z => ?_; clear Al EA
 refine s1 z (a_8 rfl z.e z.e) fun EC Am => ?_; clear z EB
 refine n1 (b_3 Am rfl (c_0 (b_0 (b_6 (b_6 ?_)))))
 have An := Am.as [(6, (iv (((farF q ac) - pos) - saw))), (0, (Value.func (.yield l) #[] #[])), (1, (bptr ib1 0)), (2, (bptr ib2 0)), (3, (bptr ib3 0)), (4, (bptr ib4 0))] rfl; clear Am
 refine a_5 (s1 An (a_3 rfl ty_3 An.e (A.rk 3 rfl) rfl) fun ED Ao => ?_); clear An EC
 refine s1 Ao (h_4 rfl Ao.e (evc _ _)) fun EE Ap => ?_; clear Ao ED
 refine s1 Ap (a_0 rfl Ap.e) fun CQ H => ?_; clear Ap EE
 by_cases CF : 0 < pos
 ·skip
  rw [decide_eq_true CF] at H
  refine s5 H (a_0 rfl H.e) fun EF Aq => ?_; clear H CQ
  refine s5 Aq (a_2 rfl fd_117_1 Aq.e) fun EG Ar => ?_; clear Aq EF
  refine s5 Ar (a_3 rfl ty_115 Ar.e (A.rk 1 rfl) rfl) fun EH As => ?_; clear Ar EG
  refine s5 As (c_2 rfl j_9 (As.ev rfl) (A.rk 2 rfl) (l := [(iv q.x), (iv q.y), (iv q.w), (iv q.l)]) rfl rfl) fun EI At => ?_; clear As EH
  refine s5 At (a_3 rfl ty_3 At.e (A.rk 3 rfl) rfl) fun EJ b => ?_; clear At EI
  refine s6 b (i_9 rfl (b.ev rfl) en_fp (ev3 b.e (evc _ _) b.e) (fp_ok ac q 0 pos hqv (by omega) _)) ?_
  rintro EK _ Fp ⟨rfl, B2⟩ AA; have B8 := A.step B2; clear B2 b A EJ
  have CL := parts_first (q := q) (a := ac) (pos := pos) (saw := saw) (by unfold nopart; omega) (by omega)
  refine s6 AA (op_yield rfl AA.e (ev1 AA.e) (by have hz := hy 0 CL.1 _ _ (hJ _ _ _ _ _ h0 (Sep.keep B8 [0] (by decide) _ rfl rfl) rfl); dsimp only at hz; rw [CL.2] at hz; exact hz)) ?_
  rintro CR Fj BH C7 O; clear AA B8 EK
  rcases C7 with ⟨rfl, T⟩ | ⟨rfl, T⟩
  ·skip
   have K : Sep nilR.S BH BH [nilR, (rob ib1 117 [(Value.func (.func (fwA ac)) #[] #[]), (Value.func (.func (fpA ac)) #[] #[])]), (rob ib2 88 [(iv q.x), (iv q.y), (iv q.w), (iv q.l)]), (rob ib3 3 [(iv pos)]), (rob ib4 3 [(iv saw)])] := (hD _ _ _ T).2
   refine s5 O (e_4 rfl O.e) fun EL AB => ?_; clear O CR
   refine s1 AB (a_6 rfl AB.e AB.e) fun EM Au => ?_; clear AB EL
   refine n1 (b_3 Au rfl (c_0 (b_0 (b_6 ?_))))
   have Av := Au.as [(6, (iv (((farF q ac) - pos) - saw))), (0, (Value.func (.yield l) #[] #[])), (1, (bptr ib1 0)), (2, (bptr ib2 0)), (3, (bptr ib3 0)), (4, (bptr ib4 0))] rfl; clear Au
   refine a_5 (s1 Av (a_0 rfl Av.e) fun EN Aw => ?_); clear Av EM
   refine s1 Aw (h_4 rfl Aw.e (evc _ _)) fun EO D => ?_; clear Aw EN
   refine n1 ?_
   by_cases CG : 0 < (((farF q ac) - pos) - saw)
   ·skip
    rw [decide_eq_true CG] at D
    refine c_1 D rfl (a_5 (s1 D (a_0 rfl D.e) fun EP Ax => ?_)); clear D EO
    refine s1 Ax (a_2 rfl fd_117_1 Ax.e) fun EQ Ay => ?_; clear Ax EP
    refine s1 Ay (a_3 rfl ty_115 Ay.e (K.rk 1 rfl) rfl) fun ER Az => ?_; clear Ay EQ
    refine s1 Az (c_2 rfl j_9 (Az.ev rfl) (K.rk 2 rfl) (l := [(iv q.x), (iv q.y), (iv q.w), (iv q.l)]) rfl rfl) fun ES A0 => ?_; clear Az ER
    refine s1 A0 (a_3 rfl ty_3 A0.e (K.rk 3 rfl) rfl) fun ET A1 => ?_; clear A0 ES
    refine s1 A1 (a_3 rfl ty_3 A1.e (K.rk 4 rfl) rfl) fun EU AC => ?_; clear A1 ET
    refine s1 AC (c_6 rfl AC.e AC.e (by omega) (by omega)) fun EV A2 => ?_; clear AC EU
    refine s1 A2 (a_0 rfl A2.e) fun EW P => ?_; clear A2 EV
    refine s2 P (i_9 rfl (P.ev rfl) en_fp (ev3 P.e P.e P.e) (fp_ok ac q (pos + saw) (((farF q ac) - pos) - saw) hqv (by omega) _)) ?_
    rintro EX _ Fq ⟨rfl, B3⟩ AD; have B9 := K.step B3; clear B3 P K EW
    have CM := parts_next (q := q) (a := ac) (pos := pos) (saw := saw) (by unfold nopart; omega) (by omega) (by omega)
    refine s2 AD (op_yield rfl AD.e (ev1 AD.e) (by have hz := hy 1 CM.1 _ _ (hJ _ _ _ _ _ T (Sep.keep B9 [0] (by decide) _ rfl rfl) rfl); dsimp only at hz; rw [CM.2] at hz; exact hz)) ?_
    rintro Fa Fk BI C8 Bp; clear AD B9 EX
    rcases C8 with ⟨rfl, f⟩ | ⟨rfl, f⟩
    ·skip
     have Cz : Sep nilR.S BI BI [nilR, (rob ib1 117 [(Value.func (.func (fwA ac)) #[] #[]), (Value.func (.func (fpA ac)) #[] #[])]), (rob ib2 88 [(iv q.x), (iv q.y), (iv q.w), (iv q.l)]), (rob ib3 3 [(iv pos)]), (rob ib4 3 [(iv saw)])] := (hD _ _ _ f).2
     refine d_0 (a_9 Bp (.inr rfl) (e_3 rfl _) ?_)
     have hn_ : (a_7 q ac pos saw).length = 2 := by (rw [l_3 (by unfold nopart; omega) (by omega) (by omega)]); rfl
     exact .inl (by rw [hn_]; exact (hJ _ _ _ _ _ f (Sep.keep Cz [0] (by decide) _ rfl rfl) rfl))
    skip
    have C0 : Sep nilR.S BI BI [nilR, (rob ib1 117 [(Value.func (.func (fwA ac)) #[] #[]), (Value.func (.func (fpA ac)) #[] #[])]), (rob ib2 88 [(iv q.x), (iv q.y), (iv q.w), (iv q.l)]), (rob ib3 3 [(iv pos)]), (rob ib4 3 [(iv saw)])] := (hDx _ _ _ f).2
    exact d_0 (a_9 Bp (.inr rfl) (e_3 rfl _) (.inr ⟨_, (hJx _ _ _ _ _ f (Sep.keep C0 [0] (by decide) _ rfl rfl) rfl)⟩))
   skip
   rw [decide_eq_false CG] at D
   refine b_3 D rfl (c_0 (a_9 D (.inr rfl) (e_3 rfl _) ?_))
   have hn_ : (a_7 q ac pos saw).length = 1 := by (first | rw [k_5 (by unfold nopart; omega) (by omega) (by omega)] | rw [k_4 (by unfold nopart; omega) (by omega) (by omega)]); rfl
   exact .inl (by rw [hn_]; exact (hJ _ _ _ _ _ T (Sep.keep K [0] (by decide) _ rfl rfl) rfl))
  skip
  have C1 : Sep nilR.S BH BH [nilR, (rob ib1 117 [(Value.func (.func (fwA ac)) #[] #[]), (Value.func (.func (fpA ac)) #[] #[])]), (rob ib2 88 [(iv q.x), (iv q.y), (iv q.w), (iv q.l)]), (rob ib3 3 [(iv pos)]), (rob ib4 3 [(iv saw)])] := (hDx _ _ _ T).2
  refine s5 O (e_4 rfl O.e) fun EY AE => ?_; clear O CR
  refine s1 AE (a_6 rfl AE.e AE.e) fun Fb Bq => ?_; clear AE EY
  exact n1 (c_1 Bq rfl (c_3 (b_1 (a_9 Bq (.inl rfl) (e_3 rfl _) (.inr ⟨_, (hJx _ _ _ _ _ T (Sep.keep C1 [0] (by decide) _ rfl rfl) rfl)⟩)))))
 skip
 rw [decide_eq_false CF] at H
 refine s3 H fun EZ Br => ?_; clear H CQ
 refine s3 Br fun Ea Bs => ?_; clear Br EZ
 refine s3 Bs fun Eb Bt => ?_; clear Bs Ea
 refine s3 Bt fun Ec Bu => ?_; clear Bt Eb
 refine s3 Bu fun Ed Bv => ?_; clear Bu Ec
 refine s3 Bv fun Ee Bw => ?_; clear Bv Ed
 refine s3 Bw fun Ef Bx => ?_; clear Bw Ee
 refine s3 Bx fun Eg A3 => ?_; clear Bx Ef
 refine s1 A3 (a_8 rfl A3.e (evc _ _)) fun Eh A4 => ?_; clear A3 Eg
 refine n1 (b_3 A4 rfl (c_0 (b_0 (b_6 ?_))))
 have A5 := A4.as [(6, (iv (((farF q ac) - pos) - saw))), (0, (Value.func (.yield l) #[] #[])), (1, (bptr ib1 0)), (2, (bptr ib2 0)), (3, (bptr ib3 0)), (4, (bptr ib4 0))] rfl; clear A4
 refine a_5 (s1 A5 (a_0 rfl A5.e) fun Ei A6 => ?_); clear A5 Eh
 refine s1 A6 (h_4 rfl A6.e (evc _ _)) fun Ej E => ?_; clear A6 Ei
 refine n1 ?_
 by_cases CH : 0 < (((farF q ac) - pos) - saw)
 ·skip
  rw [decide_eq_true CH] at E
  refine c_1 E rfl (a_5 (s1 E (a_0 rfl E.e) fun Ek A7 => ?_)); clear E Ej
  refine s1 A7 (a_2 rfl fd_117_1 A7.e) fun El A8 => ?_; clear A7 Ek
  refine s1 A8 (a_3 rfl ty_115 A8.e (A.rk 1 rfl) rfl) fun Em A9 => ?_; clear A8 El
  refine s1 A9 (c_2 rfl j_9 (A9.ev rfl) (A.rk 2 rfl) (l := [(iv q.x), (iv q.y), (iv q.w), (iv q.l)]) rfl rfl) fun En BA => ?_; clear A9 Em
  refine s1 BA (a_3 rfl ty_3 BA.e (A.rk 3 rfl) rfl) fun Eo BB => ?_; clear BA En
  refine s1 BB (a_3 rfl ty_3 BB.e (A.rk 4 rfl) rfl) fun Ep AF => ?_; clear BB Eo
  refine s1 AF (c_6 rfl AF.e AF.e (by omega) (by omega)) fun Eq BC => ?_; clear AF Ep
  refine s1 BC (a_0 rfl BC.e) fun Er Q => ?_; clear BC Eq
  refine s2 Q (i_9 rfl (Q.ev rfl) en_fp (ev3 Q.e Q.e Q.e) (fp_ok ac q (pos + saw) (((farF q ac) - pos) - saw) hqv (by omega) _)) ?_
  rintro Es _ Fs ⟨rfl, B4⟩ AG; have CA := A.step B4; clear B4 Q A Er
  have CN := parts_only (q := q) (a := ac) (pos := pos) (saw := saw) (by unfold nopart; omega) (by omega) (by omega)
  refine s2 AG (op_yield rfl AG.e (ev1 AG.e) (by have hz := hy 0 CN.1 _ _ (hJ _ _ _ _ _ h0 (Sep.keep CA [0] (by decide) _ rfl rfl) rfl); dsimp only at hz; rw [CN.2] at hz; exact hz)) ?_
  rintro Fc Fl BJ C9 By; clear AG CA Es
  rcases C9 with ⟨rfl, g⟩ | ⟨rfl, g⟩
  ·skip
   have C2 : Sep nilR.S BJ BJ [nilR, (rob ib1 117 [(Value.func (.func (fwA ac)) #[] #[]), (Value.func (.func (fpA ac)) #[] #[])]), (rob ib2 88 [(iv q.x), (iv q.y), (iv q.w), (iv q.l)]), (rob ib3 3 [(iv pos)]), (rob ib4 3 [(iv saw)])] := (hD _ _ _ g).2
   refine d_0 (a_9 By (.inr rfl) (e_3 rfl _) ?_)
   have hn_ : (a_7 q ac pos saw).length = 1 := by (first | rw [k_5 (by unfold nopart; omega) (by omega) (by omega)] | rw [k_4 (by unfold nopart; omega) (by omega) (by omega)]); rfl
   exact .inl (by rw [hn_]; exact (hJ _ _ _ _ _ g (Sep.keep C2 [0] (by decide) _ rfl rfl) rfl))
  skip
  have C3 : Sep nilR.S BJ BJ [nilR, (rob ib1 117 [(Value.func (.func (fwA ac)) #[] #[]), (Value.func (.func (fpA ac)) #[] #[])]), (rob ib2 88 [(iv q.x), (iv q.y), (iv q.w), (iv q.l)]), (rob ib3 3 [(iv pos)]), (rob ib4 3 [(iv saw)])] := (hDx _ _ _ g).2
  exact d_0 (a_9 By (.inr rfl) (e_3 rfl _) (.inr ⟨_, (hJx _ _ _ _ _ g (Sep.keep C3 [0] (by decide) _ rfl rfl) rfl)⟩))
 skip
 rw [decide_eq_false CH] at E
 refine b_3 E rfl (c_0 (a_9 E (.inr rfl) (e_3 rfl _) ?_))
 have hn_ : (a_7 q ac pos saw).length = 0 := by (first | rw [f_0 (by unfold nopart; omega)] | rw [f_6 (by unfold nopart; omega) (by omega) (by omega)]); rfl
 exact .inl (by rw [hn_]; exact (hJ _ _ _ _ _ h0 (Sep.keep A [0] (by decide) _ rfl rfl) rfl))
end Go.Proofs.Ytphkmnaohimdbaa
