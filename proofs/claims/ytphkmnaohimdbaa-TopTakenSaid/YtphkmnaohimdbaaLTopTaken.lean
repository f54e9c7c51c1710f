/-
  Walks through the functions of the seat, printed by a program of ours (gowalk), a theorem a function: what the call returns and what it leaves in memory.
-/
import Derived.Test.YtphkmnaohimdbaaBd
set_option linter.unusedSimpArgs false
set_option linter.unusedVariables false
namespace Go.Proofs.Ytphkmnaohimdbaa
open Go.RowKit Go.Shelf Go.Eng Go.Top
theorem en_7 : ∀ args w, (callFunc 7 args).run Try.prog w = .ok (.enter 7 args) w := enters_of Try.func7 (by kernel_rfl) rfl
theorem en_4 : ∀ args w, (callFunc 4 args).run Try.prog w = .ok (.enter 4 args) w := enters_of Try.func4 (by kernel_rfl) rfl
theorem en_5 : ∀ args w, (callFunc 5 args).run Try.prog w = .ok (.enter 5 args) w := enters_of Try.func5 (by kernel_rfl) rfl
theorem en_6 : ∀ args w, (callFunc 6 args).run Try.prog w = .ok (.enter 6 args) w := enters_of Try.func6 (by kernel_rfl) rfl
theorem en_8 : ∀ args w, (callFunc 8 args).run Try.prog w = .ok (.enter 8 args) w := enters_of Try.func8 (by kernel_rfl) rfl
theorem en_9 : ∀ args w, (callFunc 9 args).run Try.prog w = .ok (.enter 9 args) w := enters_of Try.func9 (by kernel_rfl) rfl
theorem en_10 : ∀ args w, (callFunc 10 args).run Try.prog w = .ok (.enter 10 args) w := enters_of Try.func10 (by kernel_rfl) rfl
set_option maxHeartbeats 8000000 in
theorem TopTaken_ok (p : g_2) (vw : Value) (w : World) (hvw : SlAt w vw 8 p.wants.length (recC d_6 p.wants)) (ws : List Int) (vx : Value) (hvx : SlAt w vx 1 ws.length (ws.map (Value.int .u16))) (hwv : WordsV ws) (q : PlD) (vs : Value) (hvs : SlAt w vs 3 q.stages.length (recC d_9 q.stages)) (x1 : Nat) (Ks : x1 < 18446744073709551616) (x2 : Nat) (Kt : x2 < 18446744073709551616) :
  Calls Try.prog 3 #[(Value.agg #[(iv p.wide), (iv p.long), (iv p.saw), vw]), vx, (Value.agg #[(iv q.lot), vs]), (Value.int .u64 (x1 : Int)), (Value.int .u64 (x2 : Int))] w (Ret fun v w' => v = .bool true ∧ Ext NoB w w') := by
 refine b_2 Try.func3 rfl fun a0 DQ => ?_
 replace DQ : Fr 162 [] [(0, (Value.agg #[(iv p.wide), (iv p.long), (iv p.saw), vw])), (1, vx), (2, (Value.agg #[(iv q.lot), vs])), (3, (Value.int .u64 (x1 : Int))), (4, (Value.int .u64 (x2 : Int)))] a0 := DQ
 have Fy : Sep NoB w w [(sl vw 8 p.wants.length (recC d_6 p.wants)), (sl vx 1 ws.length (ws.map (Value.int .u16))), (sl vs 3 q.stages.length (recC d_9 q.stages))] := f_7 ⟨rfl, hvw, rfl, hvx, rfl, hvs, trivial⟩
 refine m2 (s2 DQ (e_5 Fy rfl DQ.e (cs := [(iv p.wide), (iv p.long), (iv p.saw), vw]) rfl) ?_)
 rintro a1 _ w3 ⟨b4, rfl, Fz⟩ FM; clear DQ Fy a0
 refine s2 FM (e_5 Fz rfl FM.e (cs := [(iv q.lot), vs]) rfl) ?_
 rintro a6 _ w8 ⟨F, rfl, V⟩ Fx; clear FM Fz a1
 refine s1 Fx (a_1 rfl (evc _ _)) fun Js DR => ?_; clear Fx a6
 refine n2 (m2 (s1 DR (a_2 rfl k_9 DR.e) fun Jt DS => ?_)); clear DR Js
 refine s1 DS (a_3 rfl r_3 DS.e (V.bk 1 rfl) rfl) fun Ju DT => ?_; clear DS Jt
 refine s1 DT (d_7 rfl r_4 DT.e (V.sk 2 rfl)) fun Jv DU => ?_; clear DT Ju
 refine s1 DU (h_4 rfl DU.e (evc _ _)) fun Jw DV => ?_; clear DU Jv
 refine s1 DV (a_0 rfl DV.e) fun Ft X => ?_; clear DV Jw
 by_cases Fc : 6 < (p.wants.length : Int)
 ·skip
  rw [decide_eq_true Fc] at X
  refine s3 X fun Jx FN => ?_; clear X Ft
  refine s3 FN fun Jy FO => ?_; clear FN Jx
  refine s3 FO fun Jz DW => ?_; clear FO Jy
  refine s1 DW (a_6 rfl DW.e (evc _ _)) fun J0 DX => ?_; clear DW Jz
  refine s1 DX (a_0 rfl DX.e) fun J1 FP => ?_; clear DX J0
  refine s3 FP fun J2 FQ => ?_; clear FP J1
  refine s3 FQ fun J3 FSa => ?_; clear FQ J2
  refine s3 FSa fun J4 DY => ?_; clear FSa J3
  refine s1 DY (a_6 rfl DY.e (evc _ _)) fun J5 DZ => ?_; clear DY J4
  refine s1 DZ (a_0 rfl DZ.e) fun J6 FT => ?_; clear DZ J5
  refine s3 FT fun J7 FU => ?_; clear FT J6
  refine s3 FU fun J8 FV => ?_; clear FU J7
  refine s3 FV fun J9 Da => ?_; clear FV J8
  refine s1 Da (a_6 rfl Da.e (evc _ _)) fun KA Db => ?_; clear Da J9
  refine n1 (c_1 Db rfl (b_6 ?_))
  have FW := Db.as [] rfl; clear Db
  refine a_5 (s2 FW (b_5 rfl en_7 ev0 (m_0 _)) ?_)
  rintro KB _ Ku ⟨rfl, FY⟩ Dc; have Jl := V.step FY; clear FY FW V KA
  refine s1 Dc (a_1 rfl Dc.e) fun Kq FX => ?_; clear Dc KB
  exact n1 (c_3 (b_1 (a_9 FX (.inl rfl) (a_4 FX rfl (.tmp rfl)) (⟨rfl, Jl.ext⟩))))
 skip
 rw [decide_eq_false Fc] at X
 refine s5 X (c_2 rfl s_0 (X.ev rfl) (V.bk 1 rfl) (l := [(iv p.wide), (iv p.long), (iv p.saw), vw]) rfl rfl) fun KC Dd => ?_; clear X Ft
 refine s6 Dd (b_5 rfl en_4 (ev1 Dd.e) (fault_ok p vw _ (V.sk 2 rfl))) ?_
 rintro KD _ Kv ⟨nf, rfl, hP, FZ⟩ De; have x := V.step FZ; clear FZ Dd V KC
 refine s5 De (j_7 rfl De.e (evc _ _)) fun KE DB => ?_; clear De KD
 refine s1 DB (a_8 rfl DB.e DB.e) fun KF Df => ?_; clear DB KE
 refine s1 Df (a_0 rfl Df.e) fun Fu Y => ?_; clear Df KF
 by_cases Dl : nf = 0
 ·skip
  rw [decide_eq_true Dl] at Y
  have hV := hP Dl; have Kr := hV.few
  refine s5 Y (c_2 rfl ty_28 (Y.ev rfl) (x.bk 0 rfl) (l := [(iv q.lot), vs]) rfl rfl) fun KG Dg => ?_; clear Y Fu
  refine s6 Dg (b_5 rfl en_5 (ev1 Dg.e) (thin_ok q vs _ (x.sk 4 rfl))) ?_
  rintro KH _ Kw ⟨rfl, Fa⟩ Dh; have y := x.step Fa; clear Fa Dg x KG
  refine s5 Dh (e_4 rfl Dh.e) fun KI DK => ?_; clear Dh KH
  refine s1 DK (a_8 rfl DK.e DK.e) fun KJ Di => ?_; clear DK KI
  refine s1 Di (a_0 rfl Di.e) fun Fv Z => ?_; clear Di KJ
  by_cases Fd : (q.stages.length : Int) ≤ 5
  ·skip
   rw [decide_eq_true Fd] at Z
   refine s5 Z (c_2 rfl ty_28 (Z.ev rfl) (y.bk 0 rfl) (l := [(iv q.lot), vs]) rfl rfl) fun KK Dj => ?_; clear Z Fv
   refine s6 Dj (b_5 rfl en_6 (ev1 Dj.e) (fault9_ok q vs _ (y.sk 4 rfl))) ?_
   rintro KL _ Kx ⟨ng, rfl, hQ, Fb⟩ Dk; have a := y.step Fb; clear Fb Dj y KK
   refine s5 Dk (j_7 rfl Dk.e (evc _ _)) fun KM DL => ?_; clear Dk KL
   refine s1 DL (a_8 rfl DL.e DL.e) fun Fw U => ?_; clear DL KM
   refine n1 ?_
   by_cases Dm : ng = 0
   ·skip
    rw [decide_eq_true Dm] at U
    have hV9 := hQ Dm; have h9one := hV9.one
    refine b_3 U rfl (c_0 (b_0 (b_6 ?_)))
    have Ah := U.as [(7, (bptr F 0)), (5, (bptr b4 0)), (1, vx), (3, (Value.int .u64 (x1 : Int))), (4, (Value.int .u64 (x2 : Int)))] rfl; clear U
    refine a_5 (s1 Ah (c_2 rfl s_0 (Ah.ev rfl) (a.bk 1 rfl) (l := [(iv p.wide), (iv p.long), (iv p.saw), vw]) rfl rfl) fun F0 Ai => ?_); clear Ah Fw
    refine s1 Ai (a_0 rfl Ai.e) fun F1 z => ?_; clear Ai F0
    refine s2 z (b_5 rfl en_8 (ev2 z.e z.e) (sawn_ok p vw _ (a.sk 2 rfl) ws _ (a.sk 3 rfl) hwv hV)) ?_
    rintro F2 _ Jm ⟨cuts, uses, ps, cs, C, D, rfl, hok, E5⟩ Dn; have E3 : Sep NoB w Jm [(row C 75 3 cuts.length (recC cutC cuts)), (row D 3 1 uses.length (ints uses)), (blk F 28 [(iv q.lot), vs]), (blk b4 24 [(iv p.wide), (iv p.long), (iv p.saw), vw]), (sl vw 8 p.wants.length (recC d_6 p.wants)), (sl vx 1 ws.length (ws.map (Value.int .u16))), (sl vs 3 q.stages.length (recC d_9 q.stages))] := a.q_1 E5 rfl; clear E5 z a F1
    have hulen := hok.ulen
    refine s2 Dn (e_6 E3 rfl ze_37 (cs := [(Value.slice none 0 0), (Value.slice none 0 0)]) rfl) ?_
    rintro F3 _ Kc ⟨T, rfl, Ab⟩ AA; clear Dn E3 F2
    refine s7 AA (d_8 Ab rfl s_1 AA.e AA.e (i := 0) rfl (vs := [C, D]) rfl rfl (j_8 (SlAt.one (SlAt.b_4 (Ab.b_7 1 rfl))) (j_8 (SlAt.one (SlAt.b_4 (Ab.b_7 2 rfl))) p_2)) (Nat.le_of_ble_eq_true rfl)) ?_
    intro _ Jn E4 Aj; clear AA
    have Q : Sep NoB w Jn [(blk T 37 [C, D]), (row C 75 3 cuts.length (recC cutC cuts)), (row D 3 1 uses.length (ints uses)), (blk F 28 [(iv q.lot), vs]), (blk b4 24 [(iv p.wide), (iv p.long), (iv p.saw), vw]), (sl vw 8 p.wants.length (recC d_6 p.wants)), (sl vx 1 ws.length (ws.map (Value.int .u16))), (sl vs 3 q.stages.length (recC d_9 q.stages))] := E4; clear E4 Ab
    refine n4 (s1 Aj (c_2 rfl s_0 (Aj.ev rfl) (Q.bk 4 rfl) (l := [(iv p.wide), (iv p.long), (iv p.saw), vw]) rfl rfl) fun F4 Ak => ?_); clear Aj F3
    refine s1 Ak (c_2 rfl s_1 (Ak.ev rfl) (Q.bk 0 rfl) (l := [C, D]) rfl rfl) fun F5 Al => ?_; clear Ak F4
    refine s1 Al (a_0 rfl Al.e) fun F6 c => ?_; clear Al F5
    refine s2 c (b_5 rfl en_9 (ev3 c.e c.e c.e) (flawed_ok p vw _ (Q.sk 5 rfl) cuts C (SlAt.b_4 (Q.b_7 1 rfl)) uses D (SlAt.b_4 (Q.b_7 2 rfl)) hV ps cs hok x1 (by first | omega | exact or64_lt (by omega) (by omega) | exact xor64_lt (by omega) (i_5 (by omega))))) ?_
    rintro F7 _ Jo ⟨fl130, bs131, A, rfl, hF133, E6⟩ Am; have R : Sep NoB w Jo [(row A 4 1 fl130.length (d_1 fl130)), (blk T 37 [C, D]), (row C 75 3 cuts.length (recC cutC cuts)), (row D 3 1 uses.length (ints uses)), (blk F 28 [(iv q.lot), vs]), (blk b4 24 [(iv p.wide), (iv p.long), (iv p.saw), vw]), (sl vw 8 p.wants.length (recC d_6 p.wants)), (sl vx 1 ws.length (ws.map (Value.int .u16))), (sl vs 3 q.stages.length (recC d_9 q.stages))] := Q.q_1 E6 rfl; clear E6 c Q F6
    have hbb136 := hF133.bes.1; have hfl137 := flaw_len hF133
    refine s1 Am (a_0 rfl Am.e) fun F8 An => ?_; clear Am F7
    refine s1 An (c_4 rfl An.e rfl) fun F9 Ao => ?_; clear An F8
    refine s1 Ao (c_4 rfl Ao.e rfl) fun GA Ap => ?_; clear Ao F9
    refine s1 Ap (c_4 rfl Ap.e rfl) fun GB Aq => ?_; clear Ap GA
    refine s1 Aq (a_1 rfl Aq.e) fun GC Ar => ?_; clear Aq GB
    refine s1 Ar (a_1 rfl Ar.e) fun GD As => ?_; clear Ar GC
    refine s1 As (a_1 rfl As.e) fun GE Do => ?_; clear As GD
    refine n2 ?_
    have At := Do.as [(14, (Value.bool true)), (13, (Value.int .u64 (bs131 : Int))), (12, A), (11, (bptr T 0)), (7, (bptr F 0)), (5, (bptr b4 0)), (3, (Value.int .u64 (x1 : Int))), (4, (Value.int .u64 (x2 : Int)))] rfl; clear Do
    refine a_5 (s1 At (c_2 rfl s_0 (At.ev rfl) (R.bk 5 rfl) (l := [(iv p.wide), (iv p.long), (iv p.saw), vw]) rfl rfl) fun GF Au => ?_); clear At GE
    refine s1 Au (c_2 rfl s_1 (Au.ev rfl) (R.bk 1 rfl) (l := [C, D]) rfl rfl) fun GG Av => ?_; clear Au GF
    refine s1 Av (a_0 rfl Av.e) fun GH Aw => ?_; clear Av GG
    refine s1 Aw (a_0 rfl Aw.e) fun GI Ax => ?_; clear Aw GH
    refine s1 Ax (a_0 rfl Ax.e) fun GJ AB => ?_; clear Ax GI
    refine s1 AB (op_and64 rfl (m := x2) AB.e (n := bs131) AB.e (by first | omega | exact r_5 (by omega) | exact i_5 (by omega)) (by first | omega | exact r_5 (by omega) | exact i_5 (by omega))) fun GK AC => ?_; clear AB GJ
    refine s1 AC (op_xor64 rfl (m := x1) AC.e (n := (x2 &&& bs131 : Nat)) AC.e (by first | omega | exact r_5 (by omega) | exact i_5 (by omega)) (by first | omega | exact r_5 (by omega) | exact i_5 (by omega))) fun GL d => ?_; clear AC GK
    refine s2 d (b_5 rfl en_9 (ev3 d.e d.e d.e) (flawed_ok p vw _ (R.sk 6 rfl) cuts C (SlAt.b_4 (R.b_7 2 rfl)) uses D (SlAt.b_4 (R.b_7 3 rfl)) hV ps cs hok (x1 ^^^ (x2 &&& bs131 : Nat) : Nat) (by first | omega | exact or64_lt (by omega) (by omega) | exact xor64_lt (by omega) (i_5 (by omega))))) ?_
    rintro GM _ Jp ⟨fl170, bs171, W, rfl, hF173, E7⟩ Ay; have S : Sep NoB w Jp [(row W 4 1 fl170.length (d_1 fl170)), (row A 4 1 fl130.length (d_1 fl130)), (blk T 37 [C, D]), (row C 75 3 cuts.length (recC cutC cuts)), (row D 3 1 uses.length (ints uses)), (blk F 28 [(iv q.lot), vs]), (blk b4 24 [(iv p.wide), (iv p.long), (iv p.saw), vw]), (sl vw 8 p.wants.length (recC d_6 p.wants)), (sl vx 1 ws.length (ws.map (Value.int .u16))), (sl vs 3 q.stages.length (recC d_9 q.stages))] := R.q_1 E7 rfl; clear E7 d R GL
    have hbb176 := hF173.bes.1; have hfl177 := flaw_len hF173
    refine s1 Ay (a_0 rfl Ay.e) fun GN Az => ?_; clear Ay GM
    refine s1 Az (c_4 rfl Az.e rfl) fun GO A0 => ?_; clear Az GN
    refine s1 A0 (c_4 rfl A0.e rfl) fun GP A1 => ?_; clear A0 GO
    refine s1 A1 (c_4 rfl A1.e rfl) fun GQ A2 => ?_; clear A1 GP
    refine s1 A2 (a_1 rfl A2.e) fun GR A3 => ?_; clear A2 GQ
    refine s1 A3 (a_1 rfl A3.e) fun GS A4 => ?_; clear A3 GR
    refine s1 A4 (a_1 rfl A4.e) fun GT Dp => ?_; clear A4 GS
    refine n2 ?_
    have A5 := Dp.as [(17, (Value.bool true)), (15, W), (14, (Value.bool true)), (12, A), (11, (bptr T 0)), (7, (bptr F 0)), (5, (bptr b4 0)), (3, (Value.int .u64 (x1 : Int))), (4, (Value.int .u64 (x2 : Int)))] rfl; clear Dp
    refine a_5 (s1 A5 (c_2 rfl s_0 (A5.ev rfl) (S.bk 6 rfl) (l := [(iv p.wide), (iv p.long), (iv p.saw), vw]) rfl rfl) fun GU A6 => ?_); clear A5 GT
    refine s1 A6 (c_2 rfl s_1 (A6.ev rfl) (S.bk 2 rfl) (l := [C, D]) rfl rfl) fun GV A7 => ?_; clear A6 GU
    refine s1 A7 (a_0 rfl A7.e) fun GW A8 => ?_; clear A7 GV
    refine s1 A8 (a_0 rfl A8.e) fun GX AD => ?_; clear A8 GW
    refine s1 AD (op_or64 rfl (m := x1) AD.e (n := x2) AD.e (by first | omega | exact r_5 (by omega) | exact i_5 (by omega)) (by first | omega | exact r_5 (by omega) | exact i_5 (by omega))) fun GY f => ?_; clear AD GX
    refine s2 f (b_5 rfl en_9 (ev3 f.e f.e f.e) (flawed_ok p vw _ (S.sk 7 rfl) cuts C (SlAt.b_4 (S.b_7 3 rfl)) uses D (SlAt.b_4 (S.b_7 4 rfl)) hV ps cs hok (x1 ||| x2 : Nat) (by first | omega | exact or64_lt (by omega) (by omega) | exact xor64_lt (by omega) (i_5 (by omega))))) ?_
    rintro GZ _ Jq ⟨fl206, bs207, b, rfl, hF209, E8⟩ A9; have s : Sep NoB w Jq [(row b 4 1 fl206.length (d_1 fl206)), (row W 4 1 fl170.length (d_1 fl170)), (row A 4 1 fl130.length (d_1 fl130)), (blk T 37 [C, D]), (row C 75 3 cuts.length (recC cutC cuts)), (row D 3 1 uses.length (ints uses)), (blk F 28 [(iv q.lot), vs]), (blk b4 24 [(iv p.wide), (iv p.long), (iv p.saw), vw]), (sl vw 8 p.wants.length (recC d_6 p.wants)), (sl vx 1 ws.length (ws.map (Value.int .u16))), (sl vs 3 q.stages.length (recC d_9 q.stages))] := S.q_1 E8 rfl; clear E8 f S GY
    have hbb212 := hF209.bes.1; have hfl213 := flaw_len hF209
    refine s1 A9 (a_0 rfl A9.e) fun Ga BA => ?_; clear A9 GZ
    refine s1 BA (c_4 rfl BA.e rfl) fun Gb BB => ?_; clear BA Ga
    refine s1 BB (c_4 rfl BB.e rfl) fun Gc BC => ?_; clear BB Gb
    refine s1 BC (c_4 rfl BC.e rfl) fun Gd BD => ?_; clear BC Gc
    refine s1 BD (a_1 rfl BD.e) fun Ge BE => ?_; clear BD Gd
    refine s1 BE (a_1 rfl BE.e) fun Gf BF => ?_; clear BE Ge
    refine s1 BF (a_1 rfl BF.e) fun Gg Dq => ?_; clear BF Gf
    refine n2 (b_6 ?_)
    have BG := Dq.as [(20, (Value.bool true)), (18, b), (17, (Value.bool true)), (15, W), (14, (Value.bool true)), (12, A), (7, (bptr F 0))] rfl; clear Dq
    refine a_5 (s1 BG (a_0 rfl BG.e) fun Gh BH => ?_); clear BG Gg
    refine s1 BH (e_4 rfl BH.e) fun Gi BI => ?_; clear BH Gh
    refine s1 BI (a_0 rfl BI.e) fun Gj BJ => ?_; clear BI Gi
    refine s5 BJ (a_0 rfl BJ.e) fun Gk BK => ?_; clear BJ Gj
    refine s5 BK (e_4 rfl BK.e) fun Gl AE => ?_; clear BK Gk
    refine s1 AE (a_8 rfl AE.e AE.e) fun Gm BL => ?_; clear AE Gl
    refine s1 BL (a_0 rfl BL.e) fun Gn BM => ?_; clear BL Gm
    refine s5 BM (a_0 rfl BM.e) fun Go BN => ?_; clear BM Gn
    refine s5 BN (e_4 rfl BN.e) fun Gp AF => ?_; clear BN Go
    refine s1 AF (a_8 rfl AF.e AF.e) fun Gq BO => ?_; clear AF Gp
    refine n1 (b_3 BO rfl (c_0 (b_0 (b_6 ?_))))
    have BP := BO.as [(18, b), (15, W), (12, A), (7, (bptr F 0))] rfl; clear BO
    refine a_5 (s1 BP (c_2 rfl ty_28 (BP.ev rfl) (s.bk 6 rfl) (l := [(iv q.lot), vs]) rfl rfl) fun Gr BQ => ?_); clear BP Gq
    refine s1 BQ (a_0 rfl BQ.e) fun Gs AG => ?_; clear BQ Gr
    refine s2 AG (b_5 rfl en_10 (ev2 AG.e AG.e) (verdict_ok q vs _ (s.sk 10 rfl) fl130 _ (SlAt.b_4 (s.b_7 2 rfl)) (by omega) hV9)) ?_
    rintro Gt _ Kd ⟨rfl, Es⟩ BR; have t := s.step Es; clear Es AG s Gs
    refine s1 BR (a_0 rfl BR.e) fun Gu BS => ?_; clear BR Gt
    refine s1 BS (c_4 rfl BS.e rfl) fun Gv BT => ?_; clear BS Gu
    refine s1 BT (c_4 rfl BT.e rfl) fun Gw BU => ?_; clear BT Gv
    refine s1 BU (a_1 rfl BU.e) fun Gx BV => ?_; clear BU Gw
    refine s1 BV (a_1 rfl BV.e) fun Gy Dr => ?_; clear BV Gx
    refine n2 ?_
    have BW := Dr.as [(22, (Value.bool true)), (21, (Value.int .u8 (j_1 q.stages fl130))), (18, b), (15, W), (12, A), (7, (bptr F 0))] rfl; clear Dr
    refine a_5 (s1 BW (c_2 rfl ty_28 (BW.ev rfl) (t.bk 6 rfl) (l := [(iv q.lot), vs]) rfl rfl) fun Gz BX => ?_); clear BW Gy
    refine s1 BX (a_0 rfl BX.e) fun G0 AH => ?_; clear BX Gz
    refine s2 AH (b_5 rfl en_10 (ev2 AH.e AH.e) (verdict_ok q vs _ (t.sk 10 rfl) fl170 _ (SlAt.b_4 (t.b_7 1 rfl)) (by omega) hV9)) ?_
    rintro G1 _ Ke ⟨rfl, Et⟩ BY; have u := t.step Et; clear Et AH t G0
    refine s1 BY (a_0 rfl BY.e) fun G2 BZ => ?_; clear BY G1
    refine s1 BZ (c_4 rfl BZ.e rfl) fun G3 Ba => ?_; clear BZ G2
    refine s1 Ba (c_4 rfl Ba.e rfl) fun G4 Bb => ?_; clear Ba G3
    refine s1 Bb (a_1 rfl Bb.e) fun G5 Bc => ?_; clear Bb G4
    refine s1 Bc (a_1 rfl Bc.e) fun G6 Ds => ?_; clear Bc G5
    refine n2 ?_
    have Bd := Ds.as [(24, (Value.bool true)), (23, (Value.int .u8 (j_1 q.stages fl170))), (22, (Value.bool true)), (21, (Value.int .u8 (j_1 q.stages fl130))), (18, b), (12, A), (7, (bptr F 0))] rfl; clear Ds
    refine a_5 (s1 Bd (c_2 rfl ty_28 (Bd.ev rfl) (u.bk 6 rfl) (l := [(iv q.lot), vs]) rfl rfl) fun G7 Be => ?_); clear Bd G6
    refine s1 Be (a_0 rfl Be.e) fun G8 AI => ?_; clear Be G7
    refine s2 AI (b_5 rfl en_10 (ev2 AI.e AI.e) (verdict_ok q vs _ (u.sk 10 rfl) fl206 _ (SlAt.b_4 (u.b_7 0 rfl)) (by omega) hV9)) ?_
    rintro G9 _ Kf ⟨rfl, Eu⟩ Bf; have Ac := u.step Eu; clear Eu AI u G8
    refine s1 Bf (a_0 rfl Bf.e) fun HA Bg => ?_; clear Bf G9
    refine s1 Bg (c_4 rfl Bg.e rfl) fun HB Bh => ?_; clear Bg HA
    refine s1 Bh (c_4 rfl Bh.e rfl) fun HC Bi => ?_; clear Bh HB
    refine s1 Bi (a_1 rfl Bi.e) fun HD Bj => ?_; clear Bi HC
    refine s1 Bj (a_1 rfl Bj.e) fun HE Dt => ?_; clear Bj HD
    refine n2 (b_6 ?_)
    have Bk := Dt.as [(26, (Value.bool true)), (25, (Value.int .u8 (j_1 q.stages fl206))), (24, (Value.bool true)), (23, (Value.int .u8 (j_1 q.stages fl170))), (22, (Value.bool true)), (21, (Value.int .u8 (j_1 q.stages fl130))), (12, A), (7, (bptr F 0))] rfl; clear Dt
    refine a_5 (s1 Bk (a_0 rfl Bk.e) fun HF Bl => ?_); clear Bk HE
    refine s1 Bl (e_4 rfl Bl.e) fun HG Bm => ?_; clear Bl HF
    refine s1 Bm (a_0 rfl Bm.e) fun HH Bn => ?_; clear Bm HG
    refine s5 Bn (a_0 rfl Bn.e) fun HI Bo => ?_; clear Bn HH
    refine s5 Bo (e_4 rfl Bo.e) fun HJ AJ => ?_; clear Bo HI
    refine s1 AJ (a_8 rfl AJ.e AJ.e) fun HK Bp => ?_; clear AJ HJ
    refine s1 Bp (a_0 rfl Bp.e) fun HL Bq => ?_; clear Bp HK
    refine s5 Bq (a_0 rfl Bq.e) fun HM Br => ?_; clear Bq HL
    refine s5 Br (e_4 rfl Br.e) fun HN AK => ?_; clear Br HM
    refine s1 AK (a_8 rfl AK.e AK.e) fun HO Bs => ?_; clear AK HN
    refine s1 Bs (a_0 rfl Bs.e) fun HP Bt => ?_; clear Bs HO
    refine s5 Bt (a_0 rfl Bt.e) fun HQ Bu => ?_; clear Bt HP
    refine s5 Bu (a_0 rfl Bu.e) fun HR AL => ?_; clear Bu HQ
    refine s5 AL (j_7 rfl AL.e AL.e) fun HS g => ?_; clear AL HR
    have Fq : (j_1 q.stages fl130) = (j_1 q.stages fl170) := (congrArg (j_1 q.stages) (flaw_eq (by have := hV.long; omega) hF133 hF173))
    rw [decide_eq_true Fq] at g
    refine s1 g (a_8 rfl g.e g.e) fun HT Bv => ?_; clear g HS
    refine s1 Bv (a_0 rfl Bv.e) fun HU Bw => ?_; clear Bv HT
    refine s5 Bw (a_0 rfl Bw.e) fun HV Bx => ?_; clear Bw HU
    refine s5 Bx (f_5 rfl Bx.e (evc _ _)) fun HW By => ?_; clear Bx HV
    refine s5 By (a_0 rfl By.e) fun FD J => ?_; clear By HW
    by_cases Ad : (j_1 q.stages fl130) = 2
    ·skip
     rw [decide_eq_true Ad] at J
     refine s5 J (a_0 rfl J.e) fun HX Bz => ?_; clear J FD
     refine s5 Bz (f_5 rfl Bz.e (evc _ _)) fun HY k => ?_; clear Bz HX
     have Fs : ¬ ((j_1 q.stages fl206) = 1) := (fun h_ => verd_more (flaw_more hF133 hF209) ⟨by assumption, h_⟩)
     rw [decide_eq_false Fs] at k
     refine s5 k (a_6 rfl k.e k.e) fun HZ AM => ?_; clear k HY
     refine s1 AM (a_8 rfl AM.e AM.e) fun Ha B0 => ?_; clear AM HZ
     refine n1 (b_3 B0 rfl (c_0 (b_0 (b_6 ?_))))
     have Du := B0.as [(21, (Value.int .u8 (j_1 q.stages fl130))), (12, A), (7, (bptr F 0))] rfl; clear B0
     refine a_5 (s1 Du (a_1 rfl (evc _ _)) fun Hb Dv => ?_); clear Du Ha
     refine n2 (m2 (s1 Dv (a_1 rfl (evc _ _)) fun Hc Dw => ?_)); clear Dv Hb
     refine n1 (c_9 ?_)
     have Dx := Dw.as [(28, (iv 0)), (27, (Value.bool false)), (21, (Value.int .u8 (j_1 q.stages fl130))), (12, A), (7, (bptr F 0))] rfl; clear Dw
     refine g_6 (G := Nat) (fun (i : Nat) a_ w_ => ∃ an : Bool, Fr 162 [] [(28, (iv (i : Int))), (27, (Value.bool an)), (21, (Value.int .u8 (j_1 q.stages fl130))), (12, A), (7, (bptr F 0))] a_ ∧ Sep NoB w w_ [(row b 4 1 fl206.length (d_1 fl206)), (row W 4 1 fl170.length (d_1 fl170)), (row A 4 1 fl130.length (d_1 fl130)), (blk T 37 [C, D]), (row C 75 3 cuts.length (recC cutC cuts)), (row D 3 1 uses.length (ints uses)), (blk F 28 [(iv q.lot), vs]), (blk b4 24 [(iv p.wide), (iv p.long), (iv p.saw), vw]), (sl vw 8 p.wants.length (recC d_6 p.wants)), (sl vx 1 ws.length (ws.map (Value.int .u16))), (sl vs 3 q.stages.length (recC d_9 q.stages))] ∧ (i ≤ fl130.length) ∧ (an = false → ∀ j, j < i → fl130.getD j false = false)) (fun i => fl130.length - i) 0 ⟨false, Dx.as _ rfl, Ac, Nat.zero_le _, (fun _ _ h => absurd h (Nat.not_lt_zero _))⟩ ?_
     clear Dx Ac Hc
     rintro i Hd Kg ⟨an, B1, E, hi, han⟩
     refine b_6 (m2 (s1 B1 (a_0 rfl B1.e) fun He B2 => ?_)); clear B1 Hd
     refine s1 B2 (a_0 rfl B2.e) fun Hf B3 => ?_; clear B2 He
     refine s1 B3 (d_7 rfl h_2 B3.e (SlAt.b_4 (E.b_7 2 rfl))) fun Hg AN => ?_; clear B3 Hf
     refine s1 AN (e_2 rfl AN.e AN.e) fun FE H => ?_; clear AN Hg
     refine n1 ?_
     by_cases E9 : (i : Int) < (fl130.length : Int)
     ·skip
      rw [decide_eq_true E9] at H
      refine c_1 H rfl (c_0 (b_0 (b_6 (c_9 (a_5 (s1 H (a_0 rfl H.e) fun Hh B4 => ?_)))))); clear H FE
      refine s1 B4 (a_0 rfl B4.e) fun FF K => ?_; clear B4 Hh
      rcases Bool.eq_false_or_eq_true (an) with DM | DM
      ·skip
       rw [DM] at K
       refine s3 K fun Hi Dy => ?_; clear K FF
       refine s3 Dy fun Hj Dz => ?_; clear Dy Hi
       refine s3 Dz fun Hk D0 => ?_; clear Dz Hj
       refine s3 D0 fun Hl B5 => ?_; clear D0 Hk
       refine s1 B5 (a_6 rfl B5.e (evc _ _)) fun Hm B6 => ?_; clear B5 Hl
       refine s1 B6 (a_1 rfl B6.e) fun Hn D1 => ?_; clear B6 Hm
       refine d_0 (f_8 (b_0 ?_))
       have B7 := D1.as [(27, (Value.bool true)), (28, (iv (i : Int))), (21, (Value.int .u8 (j_1 q.stages fl130))), (12, A), (7, (bptr F 0))] rfl; clear D1
       refine a_5 (s1 B7 (a_0 rfl B7.e) fun Ho B8 => ?_); clear B7 Hn
       refine s1 B8 (c_6 rfl B8.e (evc _ _) (by omega) (by omega)) fun Hp B9 => ?_; clear B8 Ho
       refine s1 B9 (a_1 rfl B9.e) fun KO Fe => ?_; clear B9 Hp
       refine d_0 ?_
       exact b_0 ⟨i + 1, ⟨true, Fe.as _ rfl, E, by omega, (by first | (intro h_; cases h_; done) | (intro h_ j hj; rcases Nat.lt_succ_iff_lt_or_eq.1 hj with e | e; exact han (by assumption) j e; subst e; first | exact h_ | assumption) | (intro h_; exact absurd (h_.symm.trans (by assumption)) (by decide)))⟩, by omega⟩
      skip
      rw [DM] at K
      refine s5 K (a_0 rfl K.e) fun Hq CA => ?_; clear K FF
      refine s5 CA (a_0 rfl CA.e) fun Hr AO => ?_; clear CA Hq
      refine s5 AO (b_8 rfl h_2 ty_4 AO.e (i := i) AO.e (SlAt.b_4 (E.b_7 2 rfl)) (by decide) (by omega)) fun Hs CB => ?_; clear AO Hr
      refine s5 CB (d_3 rfl ty_4 CB.e (SlAt.b_4 (E.b_7 2 rfl)) (h_6 (by omega))) fun Ht AP => ?_; clear CB Hs
      refine s1 AP (a_8 rfl AP.e AP.e) fun Hu CC => ?_; clear AP Ht
      refine s1 CC (a_1 rfl CC.e) fun Hv D2 => ?_; clear CC Hu
      refine d_0 (f_8 (b_0 ?_))
      have CD := D2.as [(27, (Value.bool (fl130.getD i false))), (28, (iv (i : Int))), (21, (Value.int .u8 (j_1 q.stages fl130))), (12, A), (7, (bptr F 0))] rfl; clear D2
      refine a_5 (s1 CD (a_0 rfl CD.e) fun Hw CE => ?_); clear CD Hv
      refine s1 CE (c_6 rfl CE.e (evc _ _) (by omega) (by omega)) fun Hx CF => ?_; clear CE Hw
      refine s1 CF (a_1 rfl CF.e) fun KP Ff => ?_; clear CF Hx
      refine d_0 ?_
      exact b_0 ⟨i + 1, ⟨(fl130.getD i false), Ff.as _ rfl, E, by omega, (by first | (intro h_; cases h_; done) | (intro h_ j hj; rcases Nat.lt_succ_iff_lt_or_eq.1 hj with e | e; exact han (by assumption) j e; subst e; first | exact h_ | assumption) | (intro h_; exact absurd (h_.symm.trans (by assumption)) (by decide)))⟩, by omega⟩
     skip
     rw [decide_eq_false E9] at H
     refine b_3 H rfl (g_5 (b_9 (b_9 (f_1 (b_0 (b_6 ?_))))))
     have CG := H.as [(27, (Value.bool an)), (21, (Value.int .u8 (j_1 q.stages fl130))), (7, (bptr F 0))] rfl; clear H
     refine a_5 (s1 CG (a_0 rfl CG.e) fun Hy CH => ?_); clear CG FE
     refine s1 CH (a_0 rfl CH.e) fun FG L => ?_; clear CH Hy
     rcases Bool.eq_false_or_eq_true (an) with DN | DN
     ·skip
      rw [DN] at L
      refine s3 L fun Hz D3 => ?_; clear L FG
      refine s3 D3 fun H0 D4 => ?_; clear D3 Hz
      refine s3 D4 fun H1 D5 => ?_; clear D4 H0
      refine s3 D5 fun H2 D6 => ?_; clear D5 H1
      refine s3 D6 fun H3 D7 => ?_; clear D6 H2
      refine s3 D7 fun H4 CI => ?_; clear D7 H3
      refine s1 CI (a_6 rfl CI.e (evc _ _)) fun H5 CJ => ?_; clear CI H4
      refine s1 CJ (a_0 rfl CJ.e) fun H6 D8 => ?_; clear CJ H5
      refine s3 D8 fun H7 D9 => ?_; clear D8 H6
      refine s3 D9 fun H8 CK => ?_; clear D9 H7
      refine s1 CK (a_6 rfl CK.e (evc _ _)) fun H9 CL => ?_; clear CK H8
      refine s1 CL (a_0 rfl CL.e) fun IA EA => ?_; clear CL H9
      refine s6 EA (b_5 rfl en_7 ev0 (m_0 _)) ?_
      rintro IB _ Kh ⟨rfl, Ev⟩ AQ; have Fi := E.step Ev; clear Ev EA E IA
      refine s1 AQ (a_6 rfl AQ.e AQ.e) fun IC CM => ?_; clear AQ IB
      refine s1 CM (a_1 rfl CM.e) fun KQ EB => ?_; clear CM IC
      exact n1 (c_3 (a_9 EB (.inl rfl) (a_4 EB rfl (.tmp rfl)) (⟨rfl, Fi.ext⟩)))
     skip
     rw [DN] at L
     refine s5 L (a_2 rfl k_1 L.e) fun ID CN => ?_; clear L FG
     refine s5 CN (a_3 rfl q_7 CN.e (E.bk 6 rfl) rfl) fun IE CO => ?_; clear CN ID
     refine s5 CO (b_8 rfl q_9 s_2 CO.e (i := 0) (show _ = Value.int .i64 ((0 : Nat) : Int) from (evc _ _)) (E.sk 10 rfl) (by decide) (by omega)) fun IF CP => ?_; clear CO IE
     refine s5 CP (l_5 rfl o_4 CP.e (E.sk 10 rfl) (by rw [((E.sk 10 rfl)).1]; first | omega | (simp only [List.length_set]; omega))) fun IG CQ => ?_; clear CP IF
     refine s5 CQ (d_3 rfl ty_3 CQ.e (E.sk 10 rfl) (stage_at2 (by omega))) fun IH CR => ?_; clear CQ IG
     refine s5 CR (j_3 rfl CR.e (evc _ _)) fun II AR => ?_; clear CR IH
     refine s1 AR (a_8 rfl AR.e AR.e) fun IJ CS => ?_; clear AR II
     refine s1 CS (a_0 rfl CS.e) fun FH M => ?_; clear CS IJ
     by_cases FA : ((q.stages.getD 0 s0).rej) ≤ 0
     ·skip
      rw [decide_eq_true FA] at M
      refine s3 M fun IK EC => ?_; clear M FH
      refine s3 EC fun IL CT => ?_; clear EC IK
      refine s1 CT (a_6 rfl CT.e (evc _ _)) fun IM CU => ?_; clear CT IL
      refine s1 CU (a_0 rfl CU.e) fun IN ED => ?_; clear CU IM
      refine s6 ED (b_5 rfl en_7 ev0 (m_0 _)) ?_
      rintro IOa _ Ki ⟨rfl, Ew⟩ AS; have Fj := E.step Ew; clear Ew ED E IN
      refine s1 AS (a_6 rfl AS.e AS.e) fun IP CV => ?_; clear AS IOa
      refine s1 CV (a_1 rfl CV.e) fun KR EE => ?_; clear CV IP
      exact n1 (c_3 (a_9 EE (.inl rfl) (a_4 EE rfl (.tmp rfl)) (⟨rfl, Fj.ext⟩)))
     skip
     rw [decide_eq_false FA] at M
     refine s5 M (a_0 rfl M.e) fun IQ CW => ?_; clear M FH
     refine s5 CW (j_7 rfl CW.e (evc _ _)) fun IR o => ?_; clear CW IQ
     rw [decide_eq_true Ad] at o
     refine s1 o (a_8 rfl o.e o.e) fun IS CX => ?_; clear o IR
     refine s1 CX (a_0 rfl CX.e) fun IT EF => ?_; clear CX IS
     refine s3 EF fun IU CY => ?_; clear EF IT
     refine s1 CY (a_8 rfl CY.e (evc _ _)) fun IV CZ => ?_; clear CY IU
     refine s1 CZ (a_1 rfl CZ.e) fun KS EG => ?_; clear CZ IV
     refine n1 (c_3 (a_9 EG (.inl rfl) (a_4 EG rfl (.tmp rfl)) ?_))
     exact absurd (show j_1 q.stages fl130 = 2 by assumption) (verd_none hV9 (fun j hj => han (by assumption) j (by omega)) (by omega))
    skip
    rw [decide_eq_false Ad] at J
    refine s3 J fun IW EH => ?_; clear J FD
    refine s3 EH fun IX Ca => ?_; clear EH IW
    refine s5 Ca (a_8 rfl Ca.e (evc _ _)) fun IY AT => ?_; clear Ca IX
    refine s1 AT (a_8 rfl AT.e AT.e) fun IZ Cb => ?_; clear AT IY
    refine n1 (b_3 Cb rfl (c_0 (b_0 (b_6 ?_))))
    have EI := Cb.as [(21, (Value.int .u8 (j_1 q.stages fl130))), (12, A), (7, (bptr F 0))] rfl; clear Cb
    refine a_5 (s1 EI (a_1 rfl (evc _ _)) fun Ia EJ => ?_); clear EI IZ
    refine n2 (m2 (s1 EJ (a_1 rfl (evc _ _)) fun Ib EK => ?_)); clear EJ Ia
    refine n1 (c_9 ?_)
    have EL := EK.as [(28, (iv 0)), (27, (Value.bool false)), (21, (Value.int .u8 (j_1 q.stages fl130))), (12, A), (7, (bptr F 0))] rfl; clear EK
    refine g_6 (G := Nat) (fun (i : Nat) a_ w_ => ∃ an : Bool, Fr 162 [] [(28, (iv (i : Int))), (27, (Value.bool an)), (21, (Value.int .u8 (j_1 q.stages fl130))), (12, A), (7, (bptr F 0))] a_ ∧ Sep NoB w w_ [(row b 4 1 fl206.length (d_1 fl206)), (row W 4 1 fl170.length (d_1 fl170)), (row A 4 1 fl130.length (d_1 fl130)), (blk T 37 [C, D]), (row C 75 3 cuts.length (recC cutC cuts)), (row D 3 1 uses.length (ints uses)), (blk F 28 [(iv q.lot), vs]), (blk b4 24 [(iv p.wide), (iv p.long), (iv p.saw), vw]), (sl vw 8 p.wants.length (recC d_6 p.wants)), (sl vx 1 ws.length (ws.map (Value.int .u16))), (sl vs 3 q.stages.length (recC d_9 q.stages))] ∧ (i ≤ fl130.length) ∧ (an = false → ∀ j, j < i → fl130.getD j false = false)) (fun i => fl130.length - i) 0 ⟨false, EL.as _ rfl, Ac, Nat.zero_le _, (fun _ _ h => absurd h (Nat.not_lt_zero _))⟩ ?_
    clear EL Ac Ib
    rintro i Ic Kj ⟨an, Cc, B, hi, han⟩
    refine b_6 (m2 (s1 Cc (a_0 rfl Cc.e) fun Id Cd => ?_)); clear Cc Ic
    refine s1 Cd (a_0 rfl Cd.e) fun Ie Ce => ?_; clear Cd Id
    refine s1 Ce (d_7 rfl h_2 Ce.e (SlAt.b_4 (B.b_7 2 rfl))) fun If AU => ?_; clear Ce Ie
    refine s1 AU (e_2 rfl AU.e AU.e) fun FI I => ?_; clear AU If
    refine n1 ?_
    by_cases FB : (i : Int) < (fl130.length : Int)
    ·skip
     rw [decide_eq_true FB] at I
     refine c_1 I rfl (c_0 (b_0 (b_6 (c_9 (a_5 (s1 I (a_0 rfl I.e) fun Ig Cf => ?_)))))); clear I FI
     refine s1 Cf (a_0 rfl Cf.e) fun FJ N => ?_; clear Cf Ig
     rcases Bool.eq_false_or_eq_true (an) with DO | DO
     ·skip
      rw [DO] at N
      refine s3 N fun Ih EM => ?_; clear N FJ
      refine s3 EM fun Ii EN => ?_; clear EM Ih
      refine s3 EN fun Ij EO => ?_; clear EN Ii
      refine s3 EO fun Ik Cg => ?_; clear EO Ij
      refine s1 Cg (a_6 rfl Cg.e (evc _ _)) fun Il Ch => ?_; clear Cg Ik
      refine s1 Ch (a_1 rfl Ch.e) fun Im EP => ?_; clear Ch Il
      refine d_0 (f_8 (b_0 ?_))
      have Ci := EP.as [(27, (Value.bool true)), (28, (iv (i : Int))), (21, (Value.int .u8 (j_1 q.stages fl130))), (12, A), (7, (bptr F 0))] rfl; clear EP
      refine a_5 (s1 Ci (a_0 rfl Ci.e) fun In Cj => ?_); clear Ci Im
      refine s1 Cj (c_6 rfl Cj.e (evc _ _) (by omega) (by omega)) fun Io Ck => ?_; clear Cj In
      refine s1 Ck (a_1 rfl Ck.e) fun KT Fg => ?_; clear Ck Io
      refine d_0 ?_
      exact b_0 ⟨i + 1, ⟨true, Fg.as _ rfl, B, by omega, (by first | (intro h_; cases h_; done) | (intro h_ j hj; rcases Nat.lt_succ_iff_lt_or_eq.1 hj with e | e; exact han (by assumption) j e; subst e; first | exact h_ | assumption) | (intro h_; exact absurd (h_.symm.trans (by assumption)) (by decide)))⟩, by omega⟩
     skip
     rw [DO] at N
     refine s5 N (a_0 rfl N.e) fun Ip Cl => ?_; clear N FJ
     refine s5 Cl (a_0 rfl Cl.e) fun Iq AV => ?_; clear Cl Ip
     refine s5 AV (b_8 rfl h_2 ty_4 AV.e (i := i) AV.e (SlAt.b_4 (B.b_7 2 rfl)) (by decide) (by omega)) fun Ir Cm => ?_; clear AV Iq
     refine s5 Cm (d_3 rfl ty_4 Cm.e (SlAt.b_4 (B.b_7 2 rfl)) (h_6 (by omega))) fun Is AW => ?_; clear Cm Ir
     refine s1 AW (a_8 rfl AW.e AW.e) fun It Cn => ?_; clear AW Is
     refine s1 Cn (a_1 rfl Cn.e) fun Iu EQ => ?_; clear Cn It
     refine d_0 (f_8 (b_0 ?_))
     have Co := EQ.as [(27, (Value.bool (fl130.getD i false))), (28, (iv (i : Int))), (21, (Value.int .u8 (j_1 q.stages fl130))), (12, A), (7, (bptr F 0))] rfl; clear EQ
     refine a_5 (s1 Co (a_0 rfl Co.e) fun Iv Cp => ?_); clear Co Iu
     refine s1 Cp (c_6 rfl Cp.e (evc _ _) (by omega) (by omega)) fun Iw Cq => ?_; clear Cp Iv
     refine s1 Cq (a_1 rfl Cq.e) fun KU Fh => ?_; clear Cq Iw
     refine d_0 ?_
     exact b_0 ⟨i + 1, ⟨(fl130.getD i false), Fh.as _ rfl, B, by omega, (by first | (intro h_; cases h_; done) | (intro h_ j hj; rcases Nat.lt_succ_iff_lt_or_eq.1 hj with e | e; exact han (by assumption) j e; subst e; first | exact h_ | assumption) | (intro h_; exact absurd (h_.symm.trans (by assumption)) (by decide)))⟩, by omega⟩
    skip
    rw [decide_eq_false FB] at I
    refine b_3 I rfl (g_5 (b_9 (b_9 (f_1 (b_0 (b_6 ?_))))))
    have Cr := I.as [(27, (Value.bool an)), (21, (Value.int .u8 (j_1 q.stages fl130))), (7, (bptr F 0))] rfl; clear I
    refine a_5 (s1 Cr (a_0 rfl Cr.e) fun Ix Cs => ?_); clear Cr FI
    refine s1 Cs (a_0 rfl Cs.e) fun FK O => ?_; clear Cs Ix
    rcases Bool.eq_false_or_eq_true (an) with DP | DP
    ·skip
     rw [DP] at O
     refine s3 O fun Iy ER => ?_; clear O FK
     refine s3 ER fun Iz ES => ?_; clear ER Iy
     refine s3 ES fun I0 ET => ?_; clear ES Iz
     refine s3 ET fun I1 EU => ?_; clear ET I0
     refine s3 EU fun I2 EV => ?_; clear EU I1
     refine s3 EV fun I3 Ct => ?_; clear EV I2
     refine s1 Ct (a_6 rfl Ct.e (evc _ _)) fun I4 Cu => ?_; clear Ct I3
     refine s1 Cu (a_0 rfl Cu.e) fun I5 EW => ?_; clear Cu I4
     refine s3 EW fun I6 EX => ?_; clear EW I5
     refine s3 EX fun I7 Cv => ?_; clear EX I6
     refine s1 Cv (a_6 rfl Cv.e (evc _ _)) fun I8 Cw => ?_; clear Cv I7
     refine s1 Cw (a_0 rfl Cw.e) fun I9 EY => ?_; clear Cw I8
     refine s6 EY (b_5 rfl en_7 ev0 (m_0 _)) ?_
     rintro JA _ Kk ⟨rfl, Ex⟩ AX; have Fk := B.step Ex; clear Ex EY B I9
     refine s1 AX (a_6 rfl AX.e AX.e) fun JB Cx => ?_; clear AX JA
     refine s1 Cx (a_1 rfl Cx.e) fun KW EZ => ?_; clear Cx JB
     exact n1 (c_3 (a_9 EZ (.inl rfl) (a_4 EZ rfl (.tmp rfl)) (⟨rfl, Fk.ext⟩)))
    skip
    rw [DP] at O
    refine s5 O (a_2 rfl k_1 O.e) fun JC Cy => ?_; clear O FK
    refine s5 Cy (a_3 rfl q_7 Cy.e (B.bk 6 rfl) rfl) fun JD Cz => ?_; clear Cy JC
    refine s5 Cz (b_8 rfl q_9 s_2 Cz.e (i := 0) (show _ = Value.int .i64 ((0 : Nat) : Int) from (evc _ _)) (B.sk 10 rfl) (by decide) (by omega)) fun JE C0 => ?_; clear Cz JD
    refine s5 C0 (l_5 rfl o_4 C0.e (B.sk 10 rfl) (by rw [((B.sk 10 rfl)).1]; first | omega | (simp only [List.length_set]; omega))) fun JF C1 => ?_; clear C0 JE
    refine s5 C1 (d_3 rfl ty_3 C1.e (B.sk 10 rfl) (stage_at2 (by omega))) fun JG C2 => ?_; clear C1 JF
    refine s5 C2 (j_3 rfl C2.e (evc _ _)) fun JH AY => ?_; clear C2 JG
    refine s1 AY (a_8 rfl AY.e AY.e) fun JI C3 => ?_; clear AY JH
    refine s1 C3 (a_0 rfl C3.e) fun FL P => ?_; clear C3 JI
    by_cases FC : ((q.stages.getD 0 s0).rej) ≤ 0
    ·skip
     rw [decide_eq_true FC] at P
     refine s3 P fun JJ Ea => ?_; clear P FL
     refine s3 Ea fun JK C4 => ?_; clear Ea JJ
     refine s1 C4 (a_6 rfl C4.e (evc _ _)) fun JL C5 => ?_; clear C4 JK
     refine s1 C5 (a_0 rfl C5.e) fun JM Eb => ?_; clear C5 JL
     refine s6 Eb (b_5 rfl en_7 ev0 (m_0 _)) ?_
     rintro JN _ Kl ⟨rfl, Ey⟩ AZ; have Fl := B.step Ey; clear Ey Eb B JM
     refine s1 AZ (a_6 rfl AZ.e AZ.e) fun JO C6 => ?_; clear AZ JN
     refine s1 C6 (a_1 rfl C6.e) fun KX Ec => ?_; clear C6 JO
     exact n1 (c_3 (a_9 Ec (.inl rfl) (a_4 Ec rfl (.tmp rfl)) (⟨rfl, Fl.ext⟩)))
    skip
    rw [decide_eq_false FC] at P
    refine s5 P (a_0 rfl P.e) fun JP C7 => ?_; clear P FL
    refine s5 C7 (j_7 rfl C7.e (evc _ _)) fun JQ r => ?_; clear C7 JP
    rw [decide_eq_false Ad] at r
    refine s1 r (a_8 rfl r.e r.e) fun JR C8 => ?_; clear r JQ
    refine s1 C8 (a_0 rfl C8.e) fun JS Ed => ?_; clear C8 JR
    refine s6 Ed (b_5 rfl en_7 ev0 (m_0 _)) ?_
    rintro JT _ Km ⟨rfl, Ez⟩ Aa; have Fm := B.step Ez; clear Ez Ed B JS
    refine s1 Aa (a_6 rfl Aa.e Aa.e) fun JU C9 => ?_; clear Aa JT
    refine s1 C9 (a_1 rfl C9.e) fun KY Ee => ?_; clear C9 JU
    exact n1 (c_3 (a_9 Ee (.inl rfl) (a_4 Ee rfl (.tmp rfl)) (⟨rfl, Fm.ext⟩)))
   skip
   rw [decide_eq_false Dm] at U
   refine c_1 U rfl (b_6 ?_)
   have Ef := U.as [] rfl; clear U
   refine a_5 (s2 Ef (b_5 rfl en_7 ev0 (m_0 _)) ?_)
   rintro JV _ Kn ⟨rfl, E0⟩ DA; have Fn := a.step E0; clear E0 Ef a Fw
   refine s1 DA (a_1 rfl DA.e) fun KZ Eg => ?_; clear DA JV
   exact n1 (c_3 (b_1 (a_9 Eg (.inl rfl) (a_4 Eg rfl (.tmp rfl)) (⟨rfl, Fn.ext⟩))))
  skip
  rw [decide_eq_false Fd] at Z
  refine s3 Z fun JW Eh => ?_; clear Z Fv
  refine s3 Eh fun JX Ei => ?_; clear Eh JW
  refine s3 Ei fun JY DC => ?_; clear Ei JX
  refine s1 DC (a_6 rfl DC.e (evc _ _)) fun JZ DD => ?_; clear DC JY
  refine n1 (c_1 DD rfl (b_6 ?_))
  have Ej := DD.as [] rfl; clear DD
  refine a_5 (s2 Ej (b_5 rfl en_7 ev0 (m_0 _)) ?_)
  rintro Ja _ Ko ⟨rfl, E1⟩ DE; have Fo := y.step E1; clear E1 Ej y JZ
  refine s1 DE (a_1 rfl DE.e) fun Ka Ek => ?_; clear DE Ja
  exact n1 (c_3 (b_1 (a_9 Ek (.inl rfl) (a_4 Ek rfl (.tmp rfl)) (⟨rfl, Fo.ext⟩))))
 skip
 rw [decide_eq_false Dl] at Y
 refine s3 Y fun Jb El => ?_; clear Y Fu
 refine s3 El fun Jc Em => ?_; clear El Jb
 refine s3 Em fun Jd DF => ?_; clear Em Jc
 refine s1 DF (a_6 rfl DF.e (evc _ _)) fun Je DG => ?_; clear DF Jd
 refine s1 DG (a_0 rfl DG.e) fun Jf En => ?_; clear DG Je
 refine s3 En fun Jg Eo => ?_; clear En Jf
 refine s3 Eo fun Jh Ep => ?_; clear Eo Jg
 refine s3 Ep fun Ji DH => ?_; clear Ep Jh
 refine s1 DH (a_6 rfl DH.e (evc _ _)) fun Jj DI => ?_; clear DH Ji
 refine n1 (c_1 DI rfl (b_6 ?_))
 have Eq := DI.as [] rfl; clear DI
 refine a_5 (s2 Eq (b_5 rfl en_7 ev0 (m_0 _)) ?_)
 rintro Jk _ Kp ⟨rfl, E2⟩ DJ; have Fp := x.step E2; clear E2 Eq x Jj
 refine s1 DJ (a_1 rfl DJ.e) fun Kb Er => ?_; clear DJ Jk
 exact n1 (c_3 (b_1 (a_9 Er (.inl rfl) (a_4 Er rfl (.tmp rfl)) (⟨rfl, Fp.ext⟩))))
end Go.Proofs.Ytphkmnaohimdbaa
