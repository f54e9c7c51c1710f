/-
  Walks through the functions of the seat, printed by a program of ours (gowalk), a theorem a function: what the call returns and what it leaves in memory.
-/
import Derived.Test.YtphkmnaohimdbaaBc
import Derived.Test.YtphkmnaohimdbaaBa
import Derived.Test.YtphkmnaohimdbaaEngb
set_option linter.unusedSimpArgs false
set_option linter.unusedVariables false
namespace Go.Proofs.Ytphkmnaohimdbaa
open Go.RowKit Go.Shelf Go.Eng Go.Top
theorem ze_37 : (Try.prog.info? 37).bind (·.zero) = some (Value.agg #[(Value.slice none 0 0), (Value.slice none 0 0)]) := by kernel_rfl
theorem un_25 : Try.prog.underlying 25 = some (.slice 70) := by kernel_rfl
theorem ty_70 : tyK Try.prog 70 = some (false, 1) := by kernel_rfl
theorem un_70 : Try.prog.underlying 70 = some (.int .u16) := by kernel_rfl
theorem en_15 : ∀ args w, (callFunc 15 args).run Try.prog w = .ok (.enter 15 args) w := enters_of Try.func15 (by kernel_rfl) rfl
theorem bd_75_0i_1b (x0_0 : Int) (x1_0 : Bool) (w : World) : (Instr.build 75 #[(0, (.int .i64 x0_0)), (1, (.bool x1_0))]).run Try.prog w = .ok (.agg #[(.int .i64 x0_0), (.bool x1_0), (iv 0)]) w := by kernel_rfl
theorem bs_75_0_  : Instr.fill (fun i => some (i * 3, 3)) ((Array.range (0 * 3)).map ((Value.agg #[(iv 0), (Value.bool false), (iv 0)]).cells[· % (Value.agg #[(iv 0), (Value.bool false), (iv 0)]).cells.size]!)) [] = some (([] : List Value).toArray) := by kernel_rfl
theorem bs_75_1_0ibia (x0_0 : Int) (x0_1 : Bool) (x0_2 : Int) : Instr.fill (fun i => some (i * 3, 3)) ((Array.range (1 * 3)).map ((Value.agg #[(iv 0), (Value.bool false), (iv 0)]).cells[· % (Value.agg #[(iv 0), (Value.bool false), (iv 0)]).cells.size]!)) [(0, .agg #[(.int .i64 x0_0), (.bool x0_1), (.int .i64 x0_2)])] = some (([(.int .i64 x0_0), (.bool x0_1), (.int .i64 x0_2)] : List Value).toArray) := by kernel_rfl
theorem el_75 : elK Try.prog 75 = some ((Value.agg #[(iv 0), (Value.bool false), (iv 0)]), 3, 24) := by kernel_rfl
theorem bd_37_1s (x0_0 : Value) (hx0_0 : IsSl x0_0) (w : World) : (Instr.build 37 #[(1, x0_0)]).run Try.prog w = .ok (.agg #[(Value.slice none 0 0), x0_0]) w := by obtain ⟨Ax0_0, Bx0_0, Cx0_0, rfl⟩ := hx0_0; kernel_rfl
theorem en_17 : ∀ args w, (callFunc 17 args).run Try.prog w = .ok (.enter 17 args) w := enters_of Try.func17 (by kernel_rfl) rfl
theorem en_18 : ∀ args w, (callFunc 18 args).run Try.prog w = .ok (.enter 18 args) w := enters_of Try.func18 (by kernel_rfl) rfl
set_option maxHeartbeats 8000000 in
theorem sawn_ok (p : g_2) (vw : Value) (w : World) (hvw : SlAt w vw 8 p.wants.length (recC d_6 p.wants)) (ws : List Int) (vx : Value) (hvx : SlAt w vx 1 ws.length (ws.map (Value.int .u16))) (hwv : WordsV ws) (hV : n_0 p) :
  Calls Try.prog 8 #[(Value.agg #[(iv p.wide), (iv p.long), (iv p.saw), vw]), vx] w (Ret fun v w' => ∃ (cuts : List CutD) (uses : List Int) (ps : List Quad) (cs : List Bool) (u1 u2 : Value), v = .agg #[u1, u2] ∧ PlanOk p cuts uses ps cs ∧ Sep NoB w w' [row u1 75 3 cuts.length (recC cutC cuts), row u2 3 1 uses.length (ints uses)]) := by
 refine b_2 Try.func8 rfl fun a0 DF => ?_
 replace DF : Fr 150 [] [(0, (Value.agg #[(iv p.wide), (iv p.long), (iv p.saw), vw])), (1, vx)] a0 := DF
 have Ko := hV.few; have hsw := hV.saw
 have GX : Sep NoB w w [(sl vw 8 p.wants.length (recC d_6 p.wants)), (sl vx 1 ws.length (ws.map (Value.int .u16)))] := f_7 ⟨rfl, hvw, rfl, hvx, trivial⟩
 refine m2 (s2 DF (e_5 GX rfl DF.e (cs := [(iv p.wide), (iv p.long), (iv p.saw), vw]) rfl) ?_)
 rintro a1 _ w3 ⟨B, rfl, GY⟩ GV; clear DF GX a0
 refine s2 GV (e_6 GY rfl ze_37 (cs := [(Value.slice none 0 0), (Value.slice none 0 0)]) rfl) ?_
 rintro a6 _ w8 ⟨C, rfl, Fp⟩ GW; clear GV GY a1
 refine n4 (s2 GW (e_6 Fp rfl ze_37 (cs := [(Value.slice none 0 0), (Value.slice none 0 0)]) rfl) ?_)
 rintro JM _ Kr ⟨A, rfl, Fq⟩ Fl; clear GW Fp a6
 refine n2 (m2 (s1 Fl (a_1 rfl (evc _ _)) fun JN Fm => ?_)); clear Fl JM
 refine n1 (c_9 ?_)
 have Fs := Fq.i_4 75 3; clear Fq
 have Fn := Fm.as [(6, (iv 0)), (5, (bptr A 0)), (4, (bptr C 0)), (2, (bptr B 0)), (1, vx)] rfl; clear Fm
 refine g_6 (G := Nat) (fun (n : Nat) a_ w_ => ∃ vc_ : Value, ∃ cuts : List CutD, ∃ ps : List Quad, ∃ cs : List Bool, Fr 150 [] [(6, (iv (n : Int))), (5, (bptr A 0)), (4, (bptr C 0)), (2, (bptr B 0)), (1, vx)] a_ ∧ Sep NoB w w_ [(row vc_ 75 3 cuts.length (recC cutC cuts)), (blk A 37 [vc_, (Value.slice none 0 0)]), (blk C 37 [(Value.slice none 0 0), (Value.slice none 0 0)]), (blk B 24 [(iv p.wide), (iv p.long), (iv p.saw), vw]), (sl vw 8 p.wants.length (recC d_6 p.wants)), (sl vx 1 ws.length (ws.map (Value.int .u16)))] ∧ (n ≤ 12) ∧ (cuts.length ≤ n) ∧ (CutB cuts) ∧ (l_7 p cuts = some (ps, cs))) (fun n => 12 - n) 0 ⟨(Value.slice none 0 0), [], [(⟨0, 0, p.wide, p.long⟩ : Quad)], [false], Fn.as _ rfl, (Fs.c_5 (i := 0) rfl rfl rfl), by omega, Nat.le_refl _, CutB.nil, rfl⟩ ?_
 clear Fn Fs JN
 rintro n JO Ks ⟨vc_, cuts, ps, cs, DH, J, hn, hcl, hcb, hd⟩
 have hpc := pieces_V hV _ _ hd; have hps : cs.length = ps.length := hpc.same; have hpf : ps.length ≤ 2 * cuts.length + 1 := hpc.few; have hpp : 1 ≤ ps.length := hpc.pos
 refine b_6 (m2 (s1 DH (a_0 rfl DH.e) fun JP DI => ?_)); clear DH JO
 refine s1 DI (a_0 rfl DI.e) fun JQ DJ => ?_; clear DI JP
 refine s1 DJ (d_7 rfl un_25 DJ.e (J.sk 5 rfl)) fun JR Bd => ?_; clear DJ JQ
 refine s1 Bd (e_2 rfl Bd.e Bd.e) fun JS DK => ?_; clear Bd JR
 refine s1 DK (a_0 rfl DK.e) fun GT f => ?_; clear DK JS
 by_cases Fu : (n : Int) < (ws.length : Int)
 ·skip
  rw [decide_eq_true Fu] at f
  refine s5 f (a_0 rfl f.e) fun JT DL => ?_; clear f GT
  refine s5 DL (e_2 rfl DL.e (evc _ _)) fun JU Bs => ?_; clear DL JT
  refine s1 Bs (a_6 rfl Bs.e Bs.e) fun GU X => ?_; clear Bs JU
  refine n1 ?_
  by_cases Fv : (n : Int) < 12
  ·skip
   rw [decide_eq_true Fv] at X
   refine c_1 X rfl (c_0 (b_0 (b_6 (c_9 (b_6 ?_)))))
   have DM := X.as [(6, (iv (n : Int))), (5, (bptr A 0)), (4, (bptr C 0)), (2, (bptr B 0)), (1, vx)] rfl; clear X
   have hwb := word_bd hwv (i := n) (by omega)
   refine a_5 (s1 DM (a_0 rfl DM.e) fun JV DN => ?_); clear DM GU
   refine s1 DN (a_0 rfl DN.e) fun JW CE => ?_; clear DN JV
   refine s1 CE (b_8 rfl un_25 ty_70 CE.e (i := n) CE.e (J.sk 5 rfl) (by decide) (by omega)) fun JX DO => ?_; clear CE JW
   refine s1 DO (d_3 rfl ty_70 DO.e (J.sk 5 rfl) (words_at1 (by omega))) fun JY DP => ?_; clear DO JX
   refine s1 DP (op_conv un_70 un_3 rfl DP.e (v := (ws.getD n 0)) (wrap_i64 (by omega) (by omega))) fun JZ DQ => ?_; clear DP JY
   refine s1 DQ (a_1 rfl DQ.e) fun Ja DR => ?_; clear DQ JZ
   refine n4 (s1 DR (c_2 rfl s_0 (DR.ev rfl) (J.bk 3 rfl) (l := [(iv p.wide), (iv p.long), (iv p.saw), vw]) rfl rfl) fun Jb DS => ?_); clear DR Ja
   refine s1 DS (a_2 rfl fd_37_0 DS.e) fun Jc DT => ?_; clear DS Jb
   refine s1 DT (a_3 rfl ty_34 DT.e (J.bk 1 rfl) rfl) fun Jd Cf => ?_; clear DT Jc
   refine s2 Cf (b_5 rfl en_15 (ev2 Cf.e Cf.e) (pieces_ok p vw _ (J.sk 4 rfl) cuts vc_ (SlAt.b_4 (J.b_7 0 rfl)) hV (by first | omega | (simp only [List.length_append, List.length_singleton]; omega)) (by first | exact hcb | exact hcb.snoc (by dsimp only; omega)) hd)) ?_
   rintro Je _ J3 ⟨Y, Aw, rfl, Ft⟩ DU; have Di : Sep NoB w J3 [(row Y 78 4 ps.length (recC d_5 ps)), (row Aw 4 1 cs.length (d_1 cs)), (row vc_ 75 3 cuts.length (recC cutC cuts)), (blk A 37 [vc_, (Value.slice none 0 0)]), (blk C 37 [(Value.slice none 0 0), (Value.slice none 0 0)]), (blk B 24 [(iv p.wide), (iv p.long), (iv p.saw), vw]), (sl vw 8 p.wants.length (recC d_6 p.wants)), (sl vx 1 ws.length (ws.map (Value.int .u16)))] := J.q_1 Ft rfl; clear Ft Cf J Jd
   refine s1 DU (a_0 rfl DU.e) fun Jf DV => ?_; clear DU Je
   refine s1 DV (c_4 rfl DV.e rfl) fun Jg DW => ?_; clear DV Jf
   refine s1 DW (c_4 rfl DW.e rfl) fun Jh DX => ?_; clear DW Jg
   refine s1 DX (c_4 rfl DX.e rfl) fun Ji DY => ?_; clear DX Jh
   refine s1 DY (a_1 rfl DY.e) fun Jj DZ => ?_; clear DY Ji
   refine s1 DZ (a_1 rfl DZ.e) fun Jk Da => ?_; clear DZ Jj
   refine s1 Da (a_1 rfl Da.e) fun Jl Fo => ?_; clear Da Jk
   refine n2 ?_
   have Db := Fo.as [(8, Y), (7, (iv (ws.getD n 0))), (6, (iv (n : Int))), (5, (bptr A 0)), (4, (bptr C 0)), (2, (bptr B 0)), (1, vx)] rfl; clear Fo
   have hrm := rem_bd (y := (ws.getD n 0)) (d := (ps.length : Int)) hwb.1 (by omega); have I5 := quo_bd (y := (ws.getD n 0)) hwb.1 hwb.2 (d := 64) (by decide); have GZ := rem_bd (y := (ws.getD n 0).tdiv 64) (d := 2) I5.1 (by decide); have GS := quo_bd (y := (ws.getD n 0)) hwb.1 hwb.2 (d := 128) (by decide)
   refine a_5 (s1 Db (a_0 rfl Db.e) fun Jm Dc => ?_); clear Db Jl
   refine s1 Dc (a_0 rfl Dc.e) fun Jn Dd => ?_; clear Dc Jm
   refine s1 Dd (d_7 rfl j_0 Dd.e (SlAt.b_4 (Di.b_7 0 rfl))) fun Jo C1 => ?_; clear Dd Jn
   refine s1 C1 (op_rem rfl C1.e C1.e (by omega)) fun Jp De => ?_; clear C1 Jo
   refine s1 De (a_0 rfl De.e) fun Jq Df => ?_; clear De Jp
   refine s1 Df (op_quo rfl Df.e (evc _ _) (by omega) (by omega) (by omega)) fun Jr Dg => ?_; clear Df Jq
   refine s1 Dg (op_rem rfl Dg.e (evc _ _) (by omega)) fun Js Dh => ?_; clear Dg Jr
   refine s1 Dh (f_5 rfl Dh.e (evc _ _)) fun Jt C2 => ?_; clear Dh Js
   refine s1 C2 (e_8 rfl (pv2 C2.e C2.e) (bd_75_0i_1b _ _)) fun Ju Dj => ?_; clear C2 Jt
   refine s2 Dj (e_6 Di rfl ze_75 (cs := [(iv 0), (Value.bool false), (iv 0)]) rfl) ?_
   rintro J5 _ KP ⟨M, rfl, E2⟩ o; clear Dj Di Ju
   refine s7 o (d_8 E2 rfl ty_75 o.e o.e (i := 0) rfl (vs := [(iv (((ws.getD n 0)).tmod (ps.length : Int))), (Value.bool (decide ((((((ws.getD n 0)).tdiv 64)).tmod 2) = 1))), (iv 0)]) rfl rfl rfl (Nat.le_of_ble_eq_true rfl)) ?_
   intro _ JA E3 Dk; clear o
   have Ak : Sep NoB w JA [(blk M 75 [(iv (((ws.getD n 0)).tmod (ps.length : Int))), (Value.bool (decide ((((((ws.getD n 0)).tdiv 64)).tmod 2) = 1))), (iv 0)]), (row Y 78 4 ps.length (recC d_5 ps)), (row Aw 4 1 cs.length (d_1 cs)), (row vc_ 75 3 cuts.length (recC cutC cuts)), (blk A 37 [vc_, (Value.slice none 0 0)]), (blk C 37 [(Value.slice none 0 0), (Value.slice none 0 0)]), (blk B 24 [(iv p.wide), (iv p.long), (iv p.saw), vw]), (sl vw 8 p.wants.length (recC d_6 p.wants)), (sl vx 1 ws.length (ws.map (Value.int .u16)))] := E3; clear E3 E2
   refine n2 ?_
   have Dl := Dk.as [(11, (bptr M 0)), (8, Y), (7, (iv (ws.getD n 0))), (6, (iv (n : Int))), (5, (bptr A 0)), (4, (bptr C 0)), (2, (bptr B 0)), (1, vx)] rfl; clear Dk
   obtain ⟨cp, Fb, hcp1, hcp2⟩ : ∃ cp : Int, ((ws.getD n 0)).tmod (ps.length : Int) = cp ∧ 0 ≤ cp ∧ cp < (ps.length : Int) := ⟨_, rfl, hrm.1, hrm.2⟩
   rw [Fb] at Ak; clear Fb
   obtain ⟨ca, Fc⟩ : ∃ ca : Bool, decide ((((((ws.getD n 0)).tdiv 64)).tmod 2) = 1) = ca := ⟨_, rfl⟩
   rw [Fc] at Ak; clear Fc
   clear hrm
   have hqv : n_7 (ps.getD cp.toNat q0) := hpc.quad cp.toNat (show cp.toNat < ps.length by omega); have hfb := far_bd hqv ca; have hrf := rem_bd (y := (ws.getD n 0).tdiv 128) (d := farF (ps.getD cp.toNat q0) ca + 1) GS.1 (by omega)
   have Dm := Dl.as [(11, (bptr M 0)), (8, Y), (7, (iv (ws.getD n 0))), (6, (iv (n : Int))), (5, (bptr A 0)), (4, (bptr C 0)), (2, (bptr B 0)), (1, vx)] rfl; clear Dl
   refine h_7 mixed Dm Ak 11 [[], [0], [], [], [3], [2, 4], [5], [], [7], [6, 8], [9]] [(Yd.val (iv (ws.getD n 0))), (Yd.val (iv (((ws.getD n 0)).tdiv 128))), (Yd.val Y), (Yd.val (bptr M 0)), (Yd.val (iv cp)), (Yd.val (eptr Y (cp.toNat * 4))), (Yd.val (Value.agg #[(iv ((ps.getD cp.toNat q0).x)), (iv ((ps.getD cp.toNat q0).y)), (iv ((ps.getD cp.toNat q0).w)), (iv ((ps.getD cp.toNat q0).l))])), (Yd.val (bptr M 1)), (Yd.val (Value.bool ca)), (Yd.val (iv (farF (ps.getD cp.toNat q0) ca))), (Yd.val (iv ((farF (ps.getD cp.toNat q0) ca) + 1)))] (by decide +kernel) rfl rfl ?_ ?_
   ·skip
    refine dq (fun a w hA hS hd => a_0 rfl hA.e) ?_
    refine dq (fun a w hA hS hd => op_quo rfl (hq hd 0) (evc _ _) (by omega) (by omega) (by omega)) ?_
    refine dq (fun a w hA hS hd => a_0 rfl hA.e) ?_
    refine dq (fun a w hA hS hd => a_2 rfl fd_75_0 hA.e) ?_
    refine dq (fun a w hA hS hd => a_3 rfl ty_3 (hq hd 3) (hS.bk 0 rfl) rfl) ?_
    refine dq (fun a w hA hS hd => b_8 rfl j_0 h_9 (hq hd 2) (i := cp.toNat) ((hq hd 4).trans (i_8 (by omega))) (SlAt.b_4 (hS.b_7 1 rfl)) (by decide) (by omega)) ?_
    refine dq (fun a w hA hS hd => e_1 rfl h_9 (hq hd 5) (SlAt.b_4 (hS.b_7 1 rfl)) (k_6 (by omega)) rfl (by decide)) ?_
    refine dq (fun a w hA hS hd => a_2 rfl fd_75_1 hA.e) ?_
    refine dq (fun a w hA hS hd => a_3 rfl ty_4 (hq hd 7) (hS.bk 0 rfl) rfl) ?_
    refine ⟨fun a w hA hS hd => by have k := hx hd 6; have e8 := hx hd 8; exact e_7 rfl (dx (b_5 rfl en_16 (ev2 (e_0 k) (e_0 e8)) (far_ok (ps.getD cp.toNat q0) ca _)) hS (fun _ => rfl)), ?_⟩
    refine dq (fun a w hA hS hd => c_6 rfl (hq hd 9) (evc _ _) (by omega) (by omega)) ?_
    trivial
   intro Gb KQ Dn E4 C3; clear Dm Ak
   have Do := Dn.add (hz C3 1); clear Dn
   have q := Do.add (hz C3 10); clear Do
   clear C3
   refine s1 q (op_rem rfl q.e q.e (by omega)) fun Gc Ax => ?_; clear q Gb
   refine s1 Ax (a_2 rfl fd_75_2 Ax.e) fun J6 r => ?_; clear Ax Gc
   refine s7 r (d_8 E4 rfl ty_3 r.e r.e (i := 0) rfl (vs := [(iv (((((ws.getD n 0)).tdiv 128)).tmod ((farF (ps.getD cp.toNat q0) ca) + 1)))]) rfl rfl rfl (Nat.le_of_ble_eq_true rfl)) ?_
   intro _ JB E5 Dp; clear r
   have C4 : Sep NoB w JB [(blk M 75 [(iv cp), (Value.bool ca), (iv (((((ws.getD n 0)).tdiv 128)).tmod ((farF (ps.getD cp.toNat q0) ca) + 1)))]), (row Y 78 4 ps.length (recC d_5 ps)), (row Aw 4 1 cs.length (d_1 cs)), (row vc_ 75 3 cuts.length (recC cutC cuts)), (blk A 37 [vc_, (Value.slice none 0 0)]), (blk C 37 [(Value.slice none 0 0), (Value.slice none 0 0)]), (blk B 24 [(iv p.wide), (iv p.long), (iv p.saw), vw]), (sl vw 8 p.wants.length (recC d_6 p.wants)), (sl vx 1 ws.length (ws.map (Value.int .u16)))] := E5; clear E5 E4
   refine n2 ?_
   have Dq := Dp.as [(11, (bptr M 0)), (6, (iv (n : Int))), (5, (bptr A 0)), (4, (bptr C 0)), (2, (bptr B 0)), (1, vx)] rfl; clear Dp
   obtain ⟨cq, Fd, hcq1, hcq2⟩ : ∃ cq : Int, ((((ws.getD n 0)).tdiv 128)).tmod ((farF (ps.getD cp.toNat q0) ca) + 1) = cq ∧ 0 ≤ cq ∧ cq ≤ 8 := ⟨_, rfl, hrf.1, Int.le_trans (Int.lt_add_one_iff.1 hrf.2) hfb.2⟩
   rw [Fd] at C4; clear Fd
   clear hrf
   have Dr := Dq.as [(11, (bptr M 0)), (6, (iv (n : Int))), (5, (bptr A 0)), (4, (bptr C 0)), (2, (bptr B 0)), (1, vx)] rfl; clear Dq
   refine c_drawCC mixed Dr C4 6 [(3, 0)] [[], [], [1], [0, 2], [], [4]] [(fun (I : Nat → Value) (v_ : Value) (rs_ : List Res) => ∃ (b0_ : Nat), v_ = (Value.slice (some ⟨b0_, 0, none⟩) 0 0) ∧ rs_ = [(blk b0_ 75 [])]), (yw (bptr A 0)), (yw vc_), (fun (I : Nat → Value) (v_ : Value) (rs_ : List Res) => True ∧ rs_ = [(row v_ 75 3 cuts.length (recC cutC cuts))]), (yw (Value.agg #[(iv cp), (Value.bool ca), (iv cq)])), (fun (I : Nat → Value) (v_ : Value) (rs_ : List Res) => True ∧ rs_ = [(row v_ 75 3 1 [(iv cp), (Value.bool ca), (iv cq)])])] (by decide +kernel) (by decide +kernel) (by decide +kernel) (by decide +kernel) rfl rfl ⟨(fun _ _ _ _ _ h_ => h_), dw, dw, (fun _ _ _ _ _ h_ => h_), dw, (fun _ _ _ _ _ h_ => h_), trivial⟩ (by decide +kernel) ?_ ?_ ?_
   ·skip
    refine ⟨fun hj_ a w I hA hS hd => e_7 rfl (vblz rfl pv0 un_34 ty_75 ze_75 bs_75_0_ (fun b_ => ⟨b_, rfl, rfl⟩)), ?_⟩
    refine ⟨fun hj_ a w I hA hS hd => gv1 (a_2 rfl fd_37_0 hA.e), ?_⟩
    refine ⟨fun hj_ a w I hA hS hd => gv1 (a_3 rfl ty_34 (gu hd 1) (hS.bk 4 rfl) rfl), ?_⟩
    refine ⟨fun hj_ => absurd hj_ (by decide), ?_⟩
    refine ⟨fun hj_ a w I hA hS hd => gv1 (c_2 rfl ty_75 (hA.ev rfl) (hS.bk 0 rfl) (l := [(iv cp), (Value.bool ca), (iv cq)]) rfl rfl), ?_⟩
    refine ⟨fun hj_ a w I hA hS hd => e_7 rfl (vblt rfl (pv1 (gu hd 4)) un_34 ty_75 ze_75 (by decide) (cs := [(iv cp), (Value.bool ca), (iv cq)]) (bs_75_1_0ibia _ _ _) rfl (by decide) (fun _ => And.intro trivial rfl)), ?_⟩
    trivial
   ·skip
    refine ⟨fun o_ ho_ => ?_, ?_⟩
    ·skip
     obtain rfl := Option.some.inj ho_; clear ho_
     intro a w I Kp Lr hA Ga Jz hd hL hS
     obtain ⟨b0_, Jx, Jw⟩ := Jz; subst Jw
     rw [Jx] at Ga
     replace hS := hS.blk_row (i := 0) (sz := 3) (n := 0) rfl rfl (by decide)
     obtain ⟨e2, Kq, J0, Kn⟩ := hd 2 (by decide) (by decide)
     obtain ⟨Jy, GZ⟩ := J0; subst GZ
     rw [Jy] at e2
     exact e_7 rfl (n_4 (e_9 hS rfl un_34 el_75 (e_0 (j_5 Ga rfl)) (e_0 (j_5 e2 rfl)) (i := 0) rfl (SlAt.b_4 (hL.b_7 3 rfl)) (cut_one _) (by simp only [maxLen]; omega) (by omega)) fun v_ w_ h_ => ⟨_, And.intro trivial rfl, h_.c_5 (i := 0) rfl (n' := cuts.length) (xs' := (recC cutC cuts)) (by simp only [Nat.zero_add]) (List.nil_append _)⟩)
    trivial
   skip
   intro DG JC I rsf139 Ds b hrq C5; clear Dr C4
   have hrq_0 := hrq (3, 0) (by decide)
   obtain ⟨Fy, I8⟩ := b 3 (by decide) (by decide)
   obtain ⟨I6, Fw⟩ := I8
   obtain ⟨Fz, I9⟩ := b 5 (by decide) (by decide)
   obtain ⟨I7, Fx⟩ := I9
   have C6 : Sep NoB w JC [(row (I 3) 75 3 cuts.length (recC cutC cuts)), (row (I 5) 75 3 1 [(iv cp), (Value.bool ca), (iv cq)]), (blk M 75 [(iv cp), (Value.bool ca), (iv cq)]), (row Y 78 4 ps.length (recC d_5 ps)), (row Aw 4 1 cs.length (d_1 cs)), (row vc_ 75 3 cuts.length (recC cutC cuts)), (blk A 37 [vc_, (Value.slice none 0 0)]), (blk C 37 [(Value.slice none 0 0), (Value.slice none 0 0)]), (blk B 24 [(iv p.wide), (iv p.long), (iv p.saw), vw]), (sl vw 8 p.wants.length (recC d_6 p.wants)), (sl vx 1 ws.length (ws.map (Value.int .u16)))] := by rw [show catR rsf139 0 6 = ([(row (I 3) 75 3 cuts.length (recC cutC cuts)), (row (I 5) 75 3 1 [(iv cp), (Value.bool ca), (iv cq)])] : List Res) by (try simp only [catR, gr (b 1 (by decide) (by decide)), gr (b 2 (by decide) (by decide)), Fw, gr (b 4 (by decide) (by decide)), Fx, hrq_0]); (try rfl)] at C5; exact C5
   have Dt : Fr 150 [] [(69, (I 3)), (11, (bptr M 0)), (6, (iv (n : Int))), (5, (bptr A 0)), (4, (bptr C 0)), (2, (bptr B 0)), (1, vx)] DG := Ds.add (j_5 Fy rfl); clear Ds
   have s : Fr 150 [] [(71, (I 5)), (69, (I 3)), (11, (bptr M 0)), (6, (iv (n : Int))), (5, (bptr A 0)), (4, (bptr C 0)), (2, (bptr B 0)), (1, vx)] DG := Dt.add (j_5 Fz rfl); clear Dt
   clear b C5 Fy Fz hrq hrq_0
   clear Fw
   clear I6
   clear Fx
   clear I7
   refine s2 s (e_9 C6 rfl un_34 el_75 s.e s.e (i := 0) rfl (SlAt.b_4 (C6.b_7 1 rfl)) rfl (by simp only [maxLen]; omega) (by omega)) ?_
   intro Gd W KR E6 Ay
   have N := E6.c_5 (i := 0) rfl (n' := (cuts ++ [(⟨cp, ca, cq⟩ : CutD)]).length) (xs' := (recC cutC (cuts ++ [(⟨cp, ca, cq⟩ : CutD)]))) (g_4 cuts (⟨cp, ca, cq⟩ : CutD)) (g_9 cutC cuts (⟨cp, ca, cq⟩ : CutD)); clear E6 s C6 DG
   refine s1 Ay (a_1 rfl Ay.e) fun Fe Z => ?_; clear Ay Gd
   refine n2 ?_
   rcases Fa : l_7 p (cuts ++ [(⟨cp, ca, cq⟩ : CutD)]) with _ | ⟨ps2, cs2⟩
   ·skip
    refine a_5 (s1 Z (c_2 rfl s_0 (Z.ev rfl) (N.bk 8 rfl) (l := [(iv p.wide), (iv p.long), (iv p.saw), vw]) rfl rfl) fun Ge Az => ?_); clear Z Fe
    refine s1 Az (a_0 rfl Az.e) fun Gf t => ?_; clear Az Ge
    refine s2 t (b_5 rfl en_15 (ev2 t.e t.e) (pieces_none p vw _ (N.sk 9 rfl) (cuts ++ [(⟨cp, ca, cq⟩ : CutD)]) W (SlAt.b_4 (N.b_7 0 rfl)) hV (by first | omega | (simp only [List.length_append, List.length_singleton]; omega)) (by first | exact hcb | exact hcb.snoc (by dsimp only; omega)) Fa)) ?_
    rintro Gg _ KS ⟨rfl, Ez⟩ A0; have E7 := N.step Ez; clear Ez t N Gf
    refine s1 A0 (a_0 rfl A0.e) fun Gh A1 => ?_; clear A0 Gg
    refine s1 A1 (c_4 rfl A1.e rfl) fun Gi A2 => ?_; clear A1 Gh
    refine s1 A2 (c_4 rfl A2.e rfl) fun Gj A3 => ?_; clear A2 Gi
    refine s1 A3 (c_4 rfl A3.e rfl) fun Gk A4 => ?_; clear A3 Gj
    refine s1 A4 (a_1 rfl A4.e) fun Gl A5 => ?_; clear A4 Gk
    refine s1 A5 (a_1 rfl A5.e) fun Gm A6 => ?_; clear A5 Gl
    refine s1 A6 (a_1 rfl A6.e) fun Gn Du => ?_; clear A6 Gm
    refine n2 ?_
    have A7 := Du.as [(15, (Value.bool false)), (12, W), (6, (iv (n : Int))), (5, (bptr A 0)), (4, (bptr C 0)), (2, (bptr B 0)), (1, vx)] rfl; clear Du
    refine a_5 (s1 A7 (a_0 rfl A7.e) fun Go u => ?_); clear A7 Gn
    refine n1 (b_3 u rfl (c_0 (f_8 (b_0 (a_5 (s1 u (a_0 rfl u.e) fun Gp A8 => ?_)))))); clear u Go
    refine s1 A8 (c_6 rfl A8.e (evc _ _) (by omega) (by omega)) fun Gq A9 => ?_; clear A8 Gp
    refine s1 A9 (a_1 rfl A9.e) fun J7 F2 => ?_; clear A9 Gq
    refine d_0 ?_
    have GG := E7.gkp (gpc 5 (gpc 6 (gpc 7 (gpc 8 (gpc 9 (gpc 10 gpn)))))); clear E7
    exact b_0 ⟨n + 1, ⟨vc_, cuts, ps, cs, F2.as _ rfl, GG, by omega, (by first | omega | (simp only [List.length_append, List.length_singleton]; omega)), (by first | exact hcb | exact hcb.snoc (by dsimp only; omega)), (by first | exact hd | exact Fa)⟩, by omega⟩
   skip
   refine a_5 (s1 Z (c_2 rfl s_0 (Z.ev rfl) (N.bk 8 rfl) (l := [(iv p.wide), (iv p.long), (iv p.saw), vw]) rfl rfl) fun Gr BA => ?_); clear Z Fe
   refine s1 BA (a_0 rfl BA.e) fun Gs z => ?_; clear BA Gr
   refine s2 z (b_5 rfl en_15 (ev2 z.e z.e) (pieces_ok p vw _ (N.sk 9 rfl) (cuts ++ [(⟨cp, ca, cq⟩ : CutD)]) W (SlAt.b_4 (N.b_7 0 rfl)) hV (by first | omega | (simp only [List.length_append, List.length_singleton]; omega)) (by first | exact hcb | exact hcb.snoc (by dsimp only; omega)) Fa)) ?_
   rintro Gt _ JD ⟨F0, F1, rfl, FQ⟩ BB; have Al : Sep NoB w JD [(row F0 78 4 ps2.length (recC d_5 ps2)), (row F1 4 1 cs2.length (d_1 cs2)), (row W 75 3 ((cuts ++ [(⟨cp, ca, cq⟩ : CutD)]).length) (recC cutC (cuts ++ [(⟨cp, ca, cq⟩ : CutD)]))), (row (I 5) 75 3 1 [(iv cp), (Value.bool ca), (iv cq)]), (blk M 75 [(iv cp), (Value.bool ca), (iv cq)]), (row Y 78 4 ps.length (recC d_5 ps)), (row Aw 4 1 cs.length (d_1 cs)), (row vc_ 75 3 cuts.length (recC cutC cuts)), (blk A 37 [vc_, (Value.slice none 0 0)]), (blk C 37 [(Value.slice none 0 0), (Value.slice none 0 0)]), (blk B 24 [(iv p.wide), (iv p.long), (iv p.saw), vw]), (sl vw 8 p.wants.length (recC d_6 p.wants)), (sl vx 1 ws.length (ws.map (Value.int .u16)))] := N.q_1 FQ rfl; clear FQ z N Gs
   refine s1 BB (a_0 rfl BB.e) fun Gu BC => ?_; clear BB Gt
   refine s1 BC (c_4 rfl BC.e rfl) fun Gv BD => ?_; clear BC Gu
   refine s1 BD (c_4 rfl BD.e rfl) fun Gw BE => ?_; clear BD Gv
   refine s1 BE (c_4 rfl BE.e rfl) fun Gx BF => ?_; clear BE Gw
   refine s1 BF (a_1 rfl BF.e) fun Gy BG => ?_; clear BF Gx
   refine s1 BG (a_1 rfl BG.e) fun Gz BH => ?_; clear BG Gy
   refine s1 BH (a_1 rfl BH.e) fun G0 Dv => ?_; clear BH Gz
   refine n2 ?_
   have BI := Dv.as [(15, (Value.bool true)), (12, W), (6, (iv (n : Int))), (5, (bptr A 0)), (4, (bptr C 0)), (2, (bptr B 0)), (1, vx)] rfl; clear Dv
   refine a_5 (s1 BI (a_0 rfl BI.e) fun G1 AA => ?_); clear BI G0
   refine n1 (c_1 AA rfl (a_5 (s1 AA (a_0 rfl AA.e) fun G2 BJ => ?_))); clear AA G1
   refine s1 BJ (a_2 rfl fd_37_0 BJ.e) fun G3 AB => ?_; clear BJ G2
   refine s7 AB (d_8 Al rfl ty_34 AB.e AB.e (i := 8) rfl (vs := [W]) (i_3 (SlAt.isSl (SlAt.b_4 (Al.b_7 2 rfl)))) rfl (j_8 (SlAt.one (SlAt.b_4 (Al.b_7 2 rfl))) p_2) (Nat.le_of_ble_eq_true rfl)) ?_
   intro _ JE E8 BK; clear AB
   have E9 : Sep NoB w JE [(row F0 78 4 ps2.length (recC d_5 ps2)), (row F1 4 1 cs2.length (d_1 cs2)), (row W 75 3 ((cuts ++ [(⟨cp, ca, cq⟩ : CutD)]).length) (recC cutC (cuts ++ [(⟨cp, ca, cq⟩ : CutD)]))), (row (I 5) 75 3 1 [(iv cp), (Value.bool ca), (iv cq)]), (blk M 75 [(iv cp), (Value.bool ca), (iv cq)]), (row Y 78 4 ps.length (recC d_5 ps)), (row Aw 4 1 cs.length (d_1 cs)), (row vc_ 75 3 cuts.length (recC cutC cuts)), (blk A 37 [W, (Value.slice none 0 0)]), (blk C 37 [(Value.slice none 0 0), (Value.slice none 0 0)]), (blk B 24 [(iv p.wide), (iv p.long), (iv p.saw), vw]), (sl vw 8 p.wants.length (recC d_6 p.wants)), (sl vx 1 ws.length (ws.map (Value.int .u16)))] := E8; clear E8 Al
   refine d_0 (f_8 (b_0 (a_5 (s1 BK (a_0 rfl BK.e) fun G4 BL => ?_)))); clear BK G3
   refine s1 BL (c_6 rfl BL.e (evc _ _) (by omega) (by omega)) fun G5 BM => ?_; clear BL G4
   refine s1 BM (a_1 rfl BM.e) fun J8 F3 => ?_; clear BM G5
   refine d_0 ?_
   have GH := E9.gkp (gpc 2 (gpc 8 (gpc 9 (gpc 10 (gpc 11 (gpc 12 gpn)))))); clear E9
   exact b_0 ⟨n + 1, ⟨W, (cuts ++ [(⟨cp, ca, cq⟩ : CutD)]), ps2, cs2, F3.as _ rfl, GH, by omega, (by first | omega | (simp only [List.length_append, List.length_singleton]; omega)), (by first | exact hcb | exact hcb.snoc (by dsimp only; omega)), (by first | exact hd | exact Fa)⟩, by omega⟩
  skip
  rw [decide_eq_false Fv] at X
  refine b_3 X rfl (g_5 (b_9 (b_9 (f_1 (b_0 (b_6 ?_))))))
  have BN := X.as [(5, (bptr A 0)), (4, (bptr C 0)), (2, (bptr B 0))] rfl; clear X
  refine a_5 (s1 BN (c_2 rfl s_0 (BN.ev rfl) (J.bk 3 rfl) (l := [(iv p.wide), (iv p.long), (iv p.saw), vw]) rfl rfl) fun G6 BO => ?_); clear BN GU
  refine s1 BO (a_2 rfl fd_37_0 BO.e) fun G7 BP => ?_; clear BO G6
  refine s1 BP (a_3 rfl ty_34 BP.e (J.bk 1 rfl) rfl) fun G8 AC => ?_; clear BP G7
  refine s2 AC (b_5 rfl en_15 (ev2 AC.e AC.e) (pieces_ok p vw _ (J.sk 4 rfl) cuts vc_ (SlAt.b_4 (J.b_7 0 rfl)) hV (by first | omega | (simp only [List.length_append, List.length_singleton]; omega)) (by first | exact hcb | exact hcb.snoc (by dsimp only; omega)) hd)) ?_
  rintro G9 _ JF ⟨F, D, rfl, FSa⟩ BQ; have FA : Sep NoB w JF [(row F 78 4 ps.length (recC d_5 ps)), (row D 4 1 cs.length (d_1 cs)), (row vc_ 75 3 cuts.length (recC cutC cuts)), (blk A 37 [vc_, (Value.slice none 0 0)]), (blk C 37 [(Value.slice none 0 0), (Value.slice none 0 0)]), (blk B 24 [(iv p.wide), (iv p.long), (iv p.saw), vw]), (sl vw 8 p.wants.length (recC d_6 p.wants)), (sl vx 1 ws.length (ws.map (Value.int .u16)))] := J.q_1 FSa rfl; clear FSa AC J G8
  refine s1 BQ (a_0 rfl BQ.e) fun HA BR => ?_; clear BQ G9
  refine s1 BR (c_4 rfl BR.e rfl) fun HB BS => ?_; clear BR HA
  refine s1 BS (c_4 rfl BS.e rfl) fun HC BT => ?_; clear BS HB
  refine s1 BT (c_4 rfl BT.e rfl) fun HD BU => ?_; clear BT HC
  refine s1 BU (a_1 rfl BU.e) fun HE BV => ?_; clear BU HD
  refine s1 BV (a_1 rfl BV.e) fun HF BW => ?_; clear BV HE
  refine s1 BW (a_1 rfl BW.e) fun HG Dw => ?_; clear BW HF
  refine n2 (b_6 ?_)
  have Dx := Dw.as [(17, D), (16, F), (5, (bptr A 0)), (4, (bptr C 0)), (2, (bptr B 0))] rfl; clear Dw
  refine a_5 (s1 Dx (a_1 rfl (evc _ _)) fun HH Dy => ?_); clear Dx HG
  refine n1 (c_9 ?_)
  have FB := FA.i_4 3 1; clear FA
  have Dz := Dy.as [(19, (iv 0)), (17, D), (16, F), (5, (bptr A 0)), (4, (bptr C 0)), (2, (bptr B 0))] rfl; clear Dy
  refine g_6 (G := Nat) (fun (m : Nat) a_ w_ => ∃ vu_ : Value, ∃ us : List Int, Fr 150 [] [(19, (iv (m : Int))), (17, D), (16, F), (5, (bptr A 0)), (4, (bptr C 0)), (2, (bptr B 0))] a_ ∧ Sep NoB w w_ [(row vu_ 3 1 us.length (ints us)), (row F 78 4 ps.length (recC d_5 ps)), (row D 4 1 cs.length (d_1 cs)), (row vc_ 75 3 cuts.length (recC cutC cuts)), (blk A 37 [vc_, vu_]), (blk C 37 [(Value.slice none 0 0), (Value.slice none 0 0)]), (blk B 24 [(iv p.wide), (iv p.long), (iv p.saw), vw]), (sl vw 8 p.wants.length (recC d_6 p.wants)), (sl vx 1 ws.length (ws.map (Value.int .u16)))] ∧ (m ≤ p.wants.length) ∧ (UseI p ps cs us m)) (fun m => p.wants.length - m) 0 ⟨(Value.slice none 0 0), [], Dz.as _ rfl, (FB.c_5 (i := 0) rfl rfl rfl), Nat.zero_le _, UseI.zero⟩ ?_
  clear Dz FB HH
  rintro m HI KT ⟨vu_, us, BX, O, hm, hus⟩
  have hul := hus.len
  refine b_6 (m2 (s1 BX (a_0 rfl BX.e) fun HJ BY => ?_)); clear BX HI
  refine s1 BY (a_2 rfl k_9 BY.e) fun HK BZ => ?_; clear BY HJ
  refine s1 BZ (a_3 rfl r_3 BZ.e (O.bk 6 rfl) rfl) fun HL Ba => ?_; clear BZ HK
  refine s1 Ba (d_7 rfl r_4 Ba.e (O.sk 7 rfl)) fun HM AD => ?_; clear Ba HL
  refine s1 AD (e_2 rfl AD.e AD.e) fun Ff Q => ?_; clear AD HM
  refine n1 ?_
  by_cases FU : (m : Int) < (p.wants.length : Int)
  ·skip
   rw [decide_eq_true FU] at Q
   refine c_1 Q rfl (c_0 (b_0 (b_6 (c_9 (m2 (s1 Q (a_2 rfl g_8 Q.e) fun HN Bb => ?_)))))); clear Q Ff
   refine s1 Bb (a_3 rfl l_8 Bb.e (O.bk 4 rfl) rfl) fun HO D0 => ?_; clear Bb HN
   refine s2 D0 (c_7 O rfl (pv1 (evc _ _)) k_0 ty_3 ze_3 (by decide) (cs := [(iv (-1))]) (bs_3_1_0i _)) ?_
   rintro HP _ KU ⟨Fj, rfl, C7⟩ AE; clear D0 O HO
   refine s2 AE (e_9 C7 rfl k_0 el_3 AE.e AE.e (i := 1) rfl (SlAt.h_3 (n := 1) (C7.bk 0 rfl) rfl (Nat.le_of_ble_eq_true rfl)) rfl (by simp only [maxLen]; omega) (by omega)) ?_
   intro HQ DD KV FC Bc
   have Am := FC.c_5 (i := 1) rfl (n' := (us ++ [-1]).length) (xs' := (ints (us ++ [-1]))) (by simp) (by simp [ints]); clear FC AE C7 HP
   refine s1 Bc (a_2 rfl g_8 Bc.e) fun HR AF => ?_; clear Bc HQ
   refine s7 AF (d_8 Am rfl l_8 AF.e AF.e (i := 5) rfl (vs := [DD]) (i_3 (SlAt.isSl (SlAt.b_4 (Am.b_7 1 rfl)))) rfl (j_8 (SlAt.one (SlAt.b_4 (Am.b_7 1 rfl))) p_2) (Nat.le_of_ble_eq_true rfl)) ?_
   intro _ JG FD D1; clear AF
   have FE : Sep NoB w JG [(blk Fj 3 [(iv (-1))]), (row DD 3 1 ((us ++ [-1]).length) (ints (us ++ [-1]))), (row F 78 4 ps.length (recC d_5 ps)), (row D 4 1 cs.length (d_1 cs)), (row vc_ 75 3 cuts.length (recC cutC cuts)), (blk A 37 [vc_, DD]), (blk C 37 [(Value.slice none 0 0), (Value.slice none 0 0)]), (blk B 24 [(iv p.wide), (iv p.long), (iv p.saw), vw]), (sl vw 8 p.wants.length (recC d_6 p.wants)), (sl vx 1 ws.length (ws.map (Value.int .u16)))] := FD; clear FD Am
   refine n2 ?_
   have D2 := D1.as [(19, (iv (m : Int))), (17, D), (16, F), (5, (bptr A 0)), (4, (bptr C 0)), (2, (bptr B 0))] rfl; clear D1
   refine a_5 (s1 D2 (a_1 rfl (evc _ _)) fun HS D3 => ?_); clear D2 HR
   refine n1 (c_9 ?_)
   have D4 := D3.as [(20, (iv 0)), (19, (iv (m : Int))), (17, D), (16, F), (5, (bptr A 0)), (4, (bptr C 0)), (2, (bptr B 0))] rfl; clear D3
   refine g_6 (G := Nat) (fun (i : Nat) a_ w_ => ∃ vu2_ : Value, ∃ us2 : List Int, Fr 150 [] [(20, (iv (i : Int))), (19, (iv (m : Int))), (17, D), (16, F), (5, (bptr A 0)), (4, (bptr C 0)), (2, (bptr B 0))] a_ ∧ Sep NoB w w_ [(blk Fj 3 [(iv (-1))]), (row vu2_ 3 1 us2.length (ints us2)), (row F 78 4 ps.length (recC d_5 ps)), (row D 4 1 cs.length (d_1 cs)), (row vc_ 75 3 cuts.length (recC cutC cuts)), (blk A 37 [vc_, vu2_]), (blk C 37 [(Value.slice none 0 0), (Value.slice none 0 0)]), (blk B 24 [(iv p.wide), (iv p.long), (iv p.saw), vw]), (sl vw 8 p.wants.length (recC d_6 p.wants)), (sl vx 1 ws.length (ws.map (Value.int .u16)))] ∧ (i ≤ ps.length) ∧ (UseI p ps cs us2 (m + 1))) (fun i => ps.length - i) 0 ⟨DD, (us ++ [-1]), D4.as _ rfl, FE, Nat.zero_le _, hus.more⟩ ?_
   clear D4 FE HS
   rintro i HT KW ⟨vu2_, us2, Be, K, hi, hus2⟩
   have hul2 := hus2.len
   refine b_6 (m2 (s1 Be (a_0 rfl Be.e) fun HU Bf => ?_)); clear Be HT
   refine s1 Bf (a_0 rfl Bf.e) fun HV Bg => ?_; clear Bf HU
   refine s1 Bg (d_7 rfl j_0 Bg.e (SlAt.b_4 (K.b_7 2 rfl))) fun HW AG => ?_; clear Bg HV
   refine s1 AG (e_2 rfl AG.e AG.e) fun HX R => ?_; clear AG HW
   refine n1 ?_
   by_cases FV : (i : Int) < (ps.length : Int)
   ·skip
    rw [decide_eq_true FV] at R
    refine c_1 R rfl (c_0 (b_0 (b_6 (c_9 (b_6 ?_)))))
    have AH := R.as [(20, (iv (i : Int))), (19, (iv (m : Int))), (17, D), (16, F), (5, (bptr A 0)), (4, (bptr C 0)), (2, (bptr B 0))] rfl; clear R
    by_cases Ao : (us2.getD m 0) < 0
    ·skip
     have AI := AH.as [(20, (iv (i : Int))), (19, (iv (m : Int))), (17, D), (16, F), (5, (bptr A 0)), (4, (bptr C 0)), (2, (bptr B 0))] rfl; clear AH
     rcases Bool.eq_false_or_eq_true ((cs.getD i false)) with Ap | Ap
     ·skip
      have D5 := AI.as [(20, (iv (i : Int))), (19, (iv (m : Int))), (17, D), (16, F), (5, (bptr A 0)), (4, (bptr C 0)), (2, (bptr B 0))] rfl; clear AI
      refine h_7 mixed D5 K 32 [[], [0], [], [1, 2], [3], [4], [5], [6], [6], [6, 7, 8], [6, 9], [6, 10], [6, 11], [12], [13], [13, 14], [13], [13, 15, 16], [13, 17], [13], [13], [13, 19, 20], [13, 21], [13, 18, 22], [13, 23], [24], [25], [25, 26], [25], [25, 27, 28], [25, 29], [25]] [(Yd.val (bptr A 1)), (Yd.val vu2_), (Yd.val (iv (m : Int))), (Yd.val (eptr vu2_ (m * 1))), (Yd.val (iv (us2.getD m 0))), (Yd.val (Value.bool true)), (Yd.val (Value.bool true)), (Yd.val D), (Yd.val (iv (i : Int))), (Yd.val (eptr D (i * 1))), (Yd.val (Value.bool true)), (Yd.val (Value.bool (!true))), (Yd.val (Value.bool (!true))), (Yd.val (Value.bool (!true))), (Yd.val undef), (Yd.val undef), (Yd.val undef), (Yd.val undef), (Yd.val undef), (Yd.val undef), (Yd.val undef), (Yd.val undef), (Yd.val undef), (Yd.val undef), (Yd.val (Value.bool false)), (Yd.val (Value.bool false)), (Yd.val undef), (Yd.val undef), (Yd.val undef), (Yd.val undef), (Yd.val undef), (Yd.val undef)] (by decide +kernel) rfl rfl ?_ ?_
      ·skip
       refine dq (fun a w hA hS hd => a_2 rfl g_8 hA.e) ?_
       refine dq (fun a w hA hS hd => a_3 rfl l_8 (hq hd 0) (hS.bk 5 rfl) rfl) ?_
       refine dq (fun a w hA hS hd => a_0 rfl hA.e) ?_
       refine dq (fun a w hA hS hd => b_8 rfl k_0 ty_3 (hq hd 1) (i := m) (hq hd 2) (SlAt.b_4 (hS.b_7 1 rfl)) (by decide) (by omega)) ?_
       refine dq (fun a w hA hS hd => d_3 rfl ty_3 (hq hd 3) (SlAt.b_4 (hS.b_7 1 rfl)) (ints_at (by omega))) ?_
       refine ⟨fun a w hA hS hd => by have c := hx hd 4; exact e_7 rfl (dv (e_2 rfl (e_0 c) (evc _ _)) hS (by show Value.bool _ = _; simp only [decide_eq_true Ao, decide_true, decide_false, Bool.not_true, Bool.not_false])), ?_⟩
       refine dq (fun a w hA hS hd => a_0 rfl (hq hd 5)) ?_
       refine dy 6 (fun a w hA hS hd => a_0 rfl hA.e) ?_
       refine dy 6 (fun a w hA hS hd => a_0 rfl hA.e) ?_
       refine dy 6 (fun a w hA hS hd => b_8 rfl h_2 ty_4 (hq hd 7) (i := i) (hq hd 8) (SlAt.b_4 (hS.b_7 3 rfl)) (by decide) (by omega)) ?_
       refine ⟨fun a w hA hS hd => by have k := hx hd 6; have e9 := hx hd 9; exact k_3 rfl rfl k (dv (d_3 rfl ty_4 (e_0 e9) (SlAt.b_4 (hS.b_7 3 rfl)) (h_6 (by omega))) hS (by show Value.bool _ = _; simp only [Ap, decide_true, decide_false, Bool.not_true, Bool.not_false])), ?_⟩
       refine dy 6 (fun a w hA hS hd => e_4 rfl (hq hd 10)) ?_
       refine dq (fun a w hA hS hd => a_6 rfl (hq hd 6) (hq hd 11)) ?_
       refine dq (fun a w hA hS hd => a_0 rfl (hq hd 12)) ?_
       refine dn 13 (dn 13 (dn 13 (dn 13 (dn 13 (dn 13 (dn 13 (dn 13 (dn 13 (dn 13 (dq (fun a w hA hS hd => a_8 rfl (hq hd 13) (evc _ _)) ?_))))))))))
       refine dq (fun a w hA hS hd => a_0 rfl (hq hd 24)) ?_
       refine dn 25 (dn 25 (dn 25 (dn 25 (dn 25 (dn 25 ?_)))))
       trivial
      intro HY KX D6 GI Ac; clear D5 K
      have D7 := D6.add (hz Ac 25); clear D6
      have D8 := D7.add (hz Ac 30); clear D7
      have D9 := D8.add (hz Ac 31); clear D8
      clear Ac
      refine s3 D9 fun HZ EA => ?_; clear D9 HY
      refine s3 EA fun Ha Bh => ?_; clear EA HZ
      refine s1 Bh (a_8 rfl Bh.e (evc _ _)) fun Hb Bi => ?_; clear Bh Ha
      refine n1 (b_3 Bi rfl (c_0 (f_8 (b_0 ?_))))
      have Bj := Bi.as [(20, (iv (i : Int))), (19, (iv (m : Int))), (17, D), (16, F), (5, (bptr A 0)), (4, (bptr C 0)), (2, (bptr B 0))] rfl; clear Bi
      refine a_5 (s1 Bj (a_0 rfl Bj.e) fun Hc Bk => ?_); clear Bj Hb
      refine s1 Bk (c_6 rfl Bk.e (evc _ _) (by omega) (by omega)) fun Hd Bl => ?_; clear Bk Hc
      refine s1 Bl (a_1 rfl Bl.e) fun J9 F4 => ?_; clear Bl Hd
      refine d_0 ?_
      exact b_0 ⟨i + 1, ⟨vu2_, us2, F4.as _ rfl, GI, by omega, (by first | exact hus2 | exact hus2.put (by omega) (by assumption) (by assumption) (by assumption))⟩, by omega⟩
     skip
     have AJ := AI.as [(20, (iv (i : Int))), (19, (iv (m : Int))), (17, D), (16, F), (5, (bptr A 0)), (4, (bptr C 0)), (2, (bptr B 0))] rfl; clear AI
     rcases Bool.eq_false_or_eq_true ((i_1 (p.wants.getD m w0) (ps.getD i q0))) with DB | DB
     ·skip
      have EB := AJ.as [(20, (iv (i : Int))), (19, (iv (m : Int))), (17, D), (16, F), (5, (bptr A 0)), (4, (bptr C 0)), (2, (bptr B 0))] rfl; clear AJ
      refine h_7 mixed EB K 32 [[], [0], [], [1, 2], [3], [4], [5], [6], [6], [6, 7, 8], [6, 9], [6, 10], [6, 11], [12], [13], [13, 14], [13], [13, 15, 16], [13, 17], [13], [13], [13, 19, 20], [13, 21], [13, 18, 22], [13, 23], [24], [25], [25, 26], [25], [25, 27, 28], [25, 29], [25]] [(Yd.val (bptr A 1)), (Yd.val vu2_), (Yd.val (iv (m : Int))), (Yd.val (eptr vu2_ (m * 1))), (Yd.val (iv (us2.getD m 0))), (Yd.val (Value.bool true)), (Yd.val (Value.bool true)), (Yd.val D), (Yd.val (iv (i : Int))), (Yd.val (eptr D (i * 1))), (Yd.val (Value.bool false)), (Yd.val (Value.bool (!false))), (Yd.val (Value.bool (!false))), (Yd.val (Value.bool (!false))), (Yd.val (bptr B 3)), (Yd.val vw), (Yd.val (iv (m : Int))), (Yd.val (eptr vw (m * 8))), (Yd.val (Value.agg #[(iv ((p.wants.getD m w0).w)), (iv ((p.wants.getD m w0).l)), (Value.bool ((p.wants.getD m w0).turn)), (iv ((p.wants.getD m w0).worth)), (iv ((p.wants.getD m w0).xl)), (iv ((p.wants.getD m w0).xh)), (iv ((p.wants.getD m w0).yl)), (iv ((p.wants.getD m w0).yh))])), (Yd.val F), (Yd.val (iv (i : Int))), (Yd.val (eptr F (i * 4))), (Yd.val (Value.agg #[(iv ((ps.getD i q0).x)), (iv ((ps.getD i q0).y)), (iv ((ps.getD i q0).w)), (iv ((ps.getD i q0).l))])), (Yd.val (Value.bool true)), (Yd.val (Value.bool true)), (Yd.val (Value.bool true)), (Yd.val (bptr A 1)), (Yd.val vu2_), (Yd.val (iv (m : Int))), (Yd.val (slcut vu2_ 0 m 1)), (Yd.val (Value.agg #[(Value.slice none 0 0), (slcut vu2_ 0 m 1)])), (Yd.val (iv (i : Int)))] (by decide +kernel) rfl rfl ?_ ?_
      ·skip
       refine dq (fun a w hA hS hd => a_2 rfl g_8 hA.e) ?_
       refine dq (fun a w hA hS hd => a_3 rfl l_8 (hq hd 0) (hS.bk 5 rfl) rfl) ?_
       refine dq (fun a w hA hS hd => a_0 rfl hA.e) ?_
       refine dq (fun a w hA hS hd => b_8 rfl k_0 ty_3 (hq hd 1) (i := m) (hq hd 2) (SlAt.b_4 (hS.b_7 1 rfl)) (by decide) (by omega)) ?_
       refine dq (fun a w hA hS hd => d_3 rfl ty_3 (hq hd 3) (SlAt.b_4 (hS.b_7 1 rfl)) (ints_at (by omega))) ?_
       refine ⟨fun a w hA hS hd => by have c := hx hd 4; exact e_7 rfl (dv (e_2 rfl (e_0 c) (evc _ _)) hS (by show Value.bool _ = _; simp only [decide_eq_true Ao, decide_true, decide_false, Bool.not_true, Bool.not_false])), ?_⟩
       refine dq (fun a w hA hS hd => a_0 rfl (hq hd 5)) ?_
       refine dy 6 (fun a w hA hS hd => a_0 rfl hA.e) ?_
       refine dy 6 (fun a w hA hS hd => a_0 rfl hA.e) ?_
       refine dy 6 (fun a w hA hS hd => b_8 rfl h_2 ty_4 (hq hd 7) (i := i) (hq hd 8) (SlAt.b_4 (hS.b_7 3 rfl)) (by decide) (by omega)) ?_
       refine ⟨fun a w hA hS hd => by have k := hx hd 6; have e9 := hx hd 9; exact k_3 rfl rfl k (dv (d_3 rfl ty_4 (e_0 e9) (SlAt.b_4 (hS.b_7 3 rfl)) (h_6 (by omega))) hS (by show Value.bool _ = _; simp only [Ap, decide_true, decide_false, Bool.not_true, Bool.not_false])), ?_⟩
       refine dy 6 (fun a w hA hS hd => e_4 rfl (hq hd 10)) ?_
       refine dq (fun a w hA hS hd => a_6 rfl (hq hd 6) (hq hd 11)) ?_
       refine dq (fun a w hA hS hd => a_0 rfl (hq hd 12)) ?_
       refine dy 13 (fun a w hA hS hd => a_2 rfl k_9 hA.e) ?_
       refine dy 13 (fun a w hA hS hd => a_3 rfl r_3 (hq hd 14) (hS.bk 7 rfl) rfl) ?_
       refine dy 13 (fun a w hA hS hd => a_0 rfl hA.e) ?_
       refine dy 13 (fun a w hA hS hd => b_8 rfl r_4 q_8 (hq hd 15) (i := m) (hq hd 16) (hS.sk 8 rfl) (by decide) (by omega)) ?_
       refine dy 13 (fun a w hA hS hd => e_1 rfl q_8 (hq hd 17) (hS.sk 8 rfl) (n_6 (by omega)) rfl (by decide)) ?_
       refine dy 13 (fun a w hA hS hd => a_0 rfl hA.e) ?_
       refine dy 13 (fun a w hA hS hd => a_0 rfl hA.e) ?_
       refine dy 13 (fun a w hA hS hd => b_8 rfl j_0 h_9 (hq hd 19) (i := i) (hq hd 20) (SlAt.b_4 (hS.b_7 2 rfl)) (by decide) (by omega)) ?_
       refine dy 13 (fun a w hA hS hd => e_1 rfl h_9 (hq hd 21) (SlAt.b_4 (hS.b_7 2 rfl)) (k_6 (by omega)) rfl (by decide)) ?_
       refine ⟨fun a w hA hS hd => by have As := hx hd 13; have At := hx hd 18; have Au := hx hd 22; exact k_3 rfl rfl As (dx (b_5 rfl en_17 (ev2 (e_0 At) (e_0 Au)) (fits_ok (p.wants.getD m w0) (ps.getD i q0) (hpc.quad i (show i < ps.length by omega)) _)) hS (fun _ => (by show Value.bool _ = _; simp only [DB, decide_true, decide_false, Bool.not_true, Bool.not_false]))), ?_⟩
       refine dq (fun a w hA hS hd => a_6 rfl (hq hd 13) (hq hd 23)) ?_
       refine dq (fun a w hA hS hd => a_0 rfl (hq hd 24)) ?_
       refine dy 25 (fun a w hA hS hd => a_2 rfl g_8 hA.e) ?_
       refine dy 25 (fun a w hA hS hd => a_3 rfl l_8 (hq hd 26) (hS.bk 5 rfl) rfl) ?_
       refine dy 25 (fun a w hA hS hd => a_0 rfl hA.e) ?_
       refine dy 25 (fun a w hA hS hd => op_sliceHi rfl k_0 ty_3 (hq hd 27) (h := m) (hq hd 28) (SlAt.b_4 (hS.b_7 1 rfl)) (by omega)) ?_
       refine dy 25 (fun a w hA hS hd => e_8 rfl (pv1 (hq hd 29)) (bd_37_1s _ (SlAt.isSl (SlAt.say (n' := (us2.take m).length) (cs' := (ints (us2.take m))) (SlAt.cut (SlAt.b_4 (hS.b_7 1 rfl)) (Nat.zero_le _) (by omega)) (by rw [List.length_take]; omega) (ints_cutHi _ _))))) ?_
       refine dy 25 (fun a w hA hS hd => a_0 rfl hA.e) ?_
       trivial
      intro He KY EC C8 Ad; clear EB K
      have ED := EC.add (hz Ad 25); clear EC
      have EE := ED.add (hz Ad 30); clear ED
      have AK := EE.add (hz Ad 31); clear EE
      clear Ad
      refine s6 AK (b_5 rfl en_18 (ev2 AK.e AK.e) (used_ok (us2.take m) _ (i : Int) _ (SlAt.say (n' := (us2.take m).length) (cs' := (ints (us2.take m))) (SlAt.cut (SlAt.b_4 (C8.b_7 1 rfl)) (Nat.zero_le _) (by omega)) (by rw [List.length_take]; omega) (ints_cutHi _ _)) (by first | omega | (rw [List.length_take]; omega)))) ?_
      rintro Hf _ KZ ⟨rfl, E0⟩ Bm; have g := C8.step E0; clear E0 AK C8 He
      refine s5 Bm (e_2 rfl Bm.e (evc _ _)) fun Hg AL => ?_; clear Bm Hf
      refine s1 AL (a_6 rfl AL.e AL.e) fun Fg U => ?_; clear AL Hg
      refine n1 ?_
      by_cases FW : (r_6 (us2.take m) (i : Int)) < 0
      ·skip
       rw [decide_eq_true FW] at U
       refine c_1 U rfl ?_
       have Bn := U.as [(20, (iv (i : Int))), (19, (iv (m : Int))), (17, D), (16, F), (5, (bptr A 0)), (4, (bptr C 0)), (2, (bptr B 0))] rfl; clear U
       refine a_5 (s1 Bn (a_2 rfl g_8 Bn.e) fun Hh Bo => ?_); clear Bn Fg
       refine s1 Bo (a_3 rfl l_8 Bo.e (g.bk 5 rfl) rfl) fun Hi Bp => ?_; clear Bo Hh
       refine s1 Bp (a_0 rfl Bp.e) fun Hj Bq => ?_; clear Bp Hi
       refine s1 Bq (a_0 rfl Bq.e) fun Hk AM => ?_; clear Bq Hj
       refine s1 AM (b_8 rfl k_0 ty_3 AM.e (i := m) AM.e (SlAt.b_4 (g.b_7 1 rfl)) (by decide) (by omega)) fun Hl AN => ?_; clear AM Hk
       refine s7 AN (o_2 g rfl ty_3 AN.e AN.e (i := 1) rfl (vs := [(iv (i : Int))]) rfl rfl rfl (by rw [ints_length]; omega) (by decide)) ?_
       intro _ Ka FF Br; have GJ := FF.c_5 (i := 1) rfl (n' := (us2.set m (i : Int)).length) (xs' := (ints (us2.set m (i : Int)))) (by simp) (by simp [m_7, ints, List.map_set]); clear FF AN g
       refine d_0 (f_8 (b_0 (a_5 (s1 Br (a_0 rfl Br.e) fun Hm Bt => ?_)))); clear Br Hl
       refine s1 Bt (c_6 rfl Bt.e (evc _ _) (by omega) (by omega)) fun Hn Bu => ?_; clear Bt Hm
       refine s1 Bu (a_1 rfl Bu.e) fun KA F5 => ?_; clear Bu Hn
       refine d_0 ?_
       exact b_0 ⟨i + 1, ⟨vu2_, (us2.set m (i : Int)), F5.as _ rfl, GJ, by omega, (by first | exact hus2 | exact hus2.put (by omega) (by assumption) (by assumption) (by assumption))⟩, by omega⟩
      skip
      rw [decide_eq_false FW] at U
      refine b_3 U rfl (c_0 (f_8 (b_0 ?_)))
      have Bv := U.as [(20, (iv (i : Int))), (19, (iv (m : Int))), (17, D), (16, F), (5, (bptr A 0)), (4, (bptr C 0)), (2, (bptr B 0))] rfl; clear U
      refine a_5 (s1 Bv (a_0 rfl Bv.e) fun Ho Bw => ?_); clear Bv Fg
      refine s1 Bw (c_6 rfl Bw.e (evc _ _) (by omega) (by omega)) fun Hp Bx => ?_; clear Bw Ho
      refine s1 Bx (a_1 rfl Bx.e) fun KB F6 => ?_; clear Bx Hp
      refine d_0 ?_
      exact b_0 ⟨i + 1, ⟨vu2_, us2, F6.as _ rfl, g, by omega, (by first | exact hus2 | exact hus2.put (by omega) (by assumption) (by assumption) (by assumption))⟩, by omega⟩
     skip
     have EF := AJ.as [(20, (iv (i : Int))), (19, (iv (m : Int))), (17, D), (16, F), (5, (bptr A 0)), (4, (bptr C 0)), (2, (bptr B 0))] rfl; clear AJ
     refine h_7 mixed EF K 32 [[], [0], [], [1, 2], [3], [4], [5], [6], [6], [6, 7, 8], [6, 9], [6, 10], [6, 11], [12], [13], [13, 14], [13], [13, 15, 16], [13, 17], [13], [13], [13, 19, 20], [13, 21], [13, 18, 22], [13, 23], [24], [25], [25, 26], [25], [25, 27, 28], [25, 29], [25]] [(Yd.val (bptr A 1)), (Yd.val vu2_), (Yd.val (iv (m : Int))), (Yd.val (eptr vu2_ (m * 1))), (Yd.val (iv (us2.getD m 0))), (Yd.val (Value.bool true)), (Yd.val (Value.bool true)), (Yd.val D), (Yd.val (iv (i : Int))), (Yd.val (eptr D (i * 1))), (Yd.val (Value.bool false)), (Yd.val (Value.bool (!false))), (Yd.val (Value.bool (!false))), (Yd.val (Value.bool (!false))), (Yd.val (bptr B 3)), (Yd.val vw), (Yd.val (iv (m : Int))), (Yd.val (eptr vw (m * 8))), (Yd.val (Value.agg #[(iv ((p.wants.getD m w0).w)), (iv ((p.wants.getD m w0).l)), (Value.bool ((p.wants.getD m w0).turn)), (iv ((p.wants.getD m w0).worth)), (iv ((p.wants.getD m w0).xl)), (iv ((p.wants.getD m w0).xh)), (iv ((p.wants.getD m w0).yl)), (iv ((p.wants.getD m w0).yh))])), (Yd.val F), (Yd.val (iv (i : Int))), (Yd.val (eptr F (i * 4))), (Yd.val (Value.agg #[(iv ((ps.getD i q0).x)), (iv ((ps.getD i q0).y)), (iv ((ps.getD i q0).w)), (iv ((ps.getD i q0).l))])), (Yd.val (Value.bool false)), (Yd.val (Value.bool false)), (Yd.val (Value.bool false)), (Yd.val undef), (Yd.val undef), (Yd.val undef), (Yd.val undef), (Yd.val undef), (Yd.val undef)] (by decide +kernel) rfl rfl ?_ ?_
     ·skip
      refine dq (fun a w hA hS hd => a_2 rfl g_8 hA.e) ?_
      refine dq (fun a w hA hS hd => a_3 rfl l_8 (hq hd 0) (hS.bk 5 rfl) rfl) ?_
      refine dq (fun a w hA hS hd => a_0 rfl hA.e) ?_
      refine dq (fun a w hA hS hd => b_8 rfl k_0 ty_3 (hq hd 1) (i := m) (hq hd 2) (SlAt.b_4 (hS.b_7 1 rfl)) (by decide) (by omega)) ?_
      refine dq (fun a w hA hS hd => d_3 rfl ty_3 (hq hd 3) (SlAt.b_4 (hS.b_7 1 rfl)) (ints_at (by omega))) ?_
      refine ⟨fun a w hA hS hd => by have c := hx hd 4; exact e_7 rfl (dv (e_2 rfl (e_0 c) (evc _ _)) hS (by show Value.bool _ = _; simp only [decide_eq_true Ao, decide_true, decide_false, Bool.not_true, Bool.not_false])), ?_⟩
      refine dq (fun a w hA hS hd => a_0 rfl (hq hd 5)) ?_
      refine dy 6 (fun a w hA hS hd => a_0 rfl hA.e) ?_
      refine dy 6 (fun a w hA hS hd => a_0 rfl hA.e) ?_
      refine dy 6 (fun a w hA hS hd => b_8 rfl h_2 ty_4 (hq hd 7) (i := i) (hq hd 8) (SlAt.b_4 (hS.b_7 3 rfl)) (by decide) (by omega)) ?_
      refine ⟨fun a w hA hS hd => by have k := hx hd 6; have e9 := hx hd 9; exact k_3 rfl rfl k (dv (d_3 rfl ty_4 (e_0 e9) (SlAt.b_4 (hS.b_7 3 rfl)) (h_6 (by omega))) hS (by show Value.bool _ = _; simp only [Ap, decide_true, decide_false, Bool.not_true, Bool.not_false])), ?_⟩
      refine dy 6 (fun a w hA hS hd => e_4 rfl (hq hd 10)) ?_
      refine dq (fun a w hA hS hd => a_6 rfl (hq hd 6) (hq hd 11)) ?_
      refine dq (fun a w hA hS hd => a_0 rfl (hq hd 12)) ?_
      refine dy 13 (fun a w hA hS hd => a_2 rfl k_9 hA.e) ?_
      refine dy 13 (fun a w hA hS hd => a_3 rfl r_3 (hq hd 14) (hS.bk 7 rfl) rfl) ?_
      refine dy 13 (fun a w hA hS hd => a_0 rfl hA.e) ?_
      refine dy 13 (fun a w hA hS hd => b_8 rfl r_4 q_8 (hq hd 15) (i := m) (hq hd 16) (hS.sk 8 rfl) (by decide) (by omega)) ?_
      refine dy 13 (fun a w hA hS hd => e_1 rfl q_8 (hq hd 17) (hS.sk 8 rfl) (n_6 (by omega)) rfl (by decide)) ?_
      refine dy 13 (fun a w hA hS hd => a_0 rfl hA.e) ?_
      refine dy 13 (fun a w hA hS hd => a_0 rfl hA.e) ?_
      refine dy 13 (fun a w hA hS hd => b_8 rfl j_0 h_9 (hq hd 19) (i := i) (hq hd 20) (SlAt.b_4 (hS.b_7 2 rfl)) (by decide) (by omega)) ?_
      refine dy 13 (fun a w hA hS hd => e_1 rfl h_9 (hq hd 21) (SlAt.b_4 (hS.b_7 2 rfl)) (k_6 (by omega)) rfl (by decide)) ?_
      refine ⟨fun a w hA hS hd => by have As := hx hd 13; have At := hx hd 18; have Au := hx hd 22; exact k_3 rfl rfl As (dx (b_5 rfl en_17 (ev2 (e_0 At) (e_0 Au)) (fits_ok (p.wants.getD m w0) (ps.getD i q0) (hpc.quad i (show i < ps.length by omega)) _)) hS (fun _ => (by show Value.bool _ = _; simp only [DB, decide_true, decide_false, Bool.not_true, Bool.not_false]))), ?_⟩
      refine dq (fun a w hA hS hd => a_6 rfl (hq hd 13) (hq hd 23)) ?_
      refine dq (fun a w hA hS hd => a_0 rfl (hq hd 24)) ?_
      refine dn 25 (dn 25 (dn 25 (dn 25 (dn 25 (dn 25 ?_)))))
      trivial
     intro Hq Kb EG GK Ae; clear EF K
     have EH := EG.add (hz Ae 25); clear EG
     have EI := EH.add (hz Ae 30); clear EH
     have EJ := EI.add (hz Ae 31); clear EI
     clear Ae
     refine s3 EJ fun Hr EK => ?_; clear EJ Hq
     refine s3 EK fun Hs By => ?_; clear EK Hr
     refine s1 By (a_8 rfl By.e (evc _ _)) fun Ht Bz => ?_; clear By Hs
     refine n1 (b_3 Bz rfl (c_0 (f_8 (b_0 ?_))))
     have B0 := Bz.as [(20, (iv (i : Int))), (19, (iv (m : Int))), (17, D), (16, F), (5, (bptr A 0)), (4, (bptr C 0)), (2, (bptr B 0))] rfl; clear Bz
     refine a_5 (s1 B0 (a_0 rfl B0.e) fun Hu B1 => ?_); clear B0 Ht
     refine s1 B1 (c_6 rfl B1.e (evc _ _) (by omega) (by omega)) fun Hv B2 => ?_; clear B1 Hu
     refine s1 B2 (a_1 rfl B2.e) fun KC F7 => ?_; clear B2 Hv
     refine d_0 ?_
     exact b_0 ⟨i + 1, ⟨vu2_, us2, F7.as _ rfl, GK, by omega, (by first | exact hus2 | exact hus2.put (by omega) (by assumption) (by assumption) (by assumption))⟩, by omega⟩
    skip
    have EL := AH.as [(20, (iv (i : Int))), (19, (iv (m : Int))), (17, D), (16, F), (5, (bptr A 0)), (4, (bptr C 0)), (2, (bptr B 0))] rfl; clear AH
    refine h_7 mixed EL K 32 [[], [0], [], [1, 2], [3], [4], [5], [6], [6], [6, 7, 8], [6, 9], [6, 10], [6, 11], [12], [13], [13, 14], [13], [13, 15, 16], [13, 17], [13], [13], [13, 19, 20], [13, 21], [13, 18, 22], [13, 23], [24], [25], [25, 26], [25], [25, 27, 28], [25, 29], [25]] [(Yd.val (bptr A 1)), (Yd.val vu2_), (Yd.val (iv (m : Int))), (Yd.val (eptr vu2_ (m * 1))), (Yd.val (iv (us2.getD m 0))), (Yd.val (Value.bool false)), (Yd.val (Value.bool false)), (Yd.val undef), (Yd.val undef), (Yd.val undef), (Yd.val undef), (Yd.val undef), (Yd.val (Value.bool false)), (Yd.val (Value.bool false)), (Yd.val undef), (Yd.val undef), (Yd.val undef), (Yd.val undef), (Yd.val undef), (Yd.val undef), (Yd.val undef), (Yd.val undef), (Yd.val undef), (Yd.val undef), (Yd.val (Value.bool false)), (Yd.val (Value.bool false)), (Yd.val undef), (Yd.val undef), (Yd.val undef), (Yd.val undef), (Yd.val undef), (Yd.val undef)] (by decide +kernel) rfl rfl ?_ ?_
    ·skip
     refine dq (fun a w hA hS hd => a_2 rfl g_8 hA.e) ?_
     refine dq (fun a w hA hS hd => a_3 rfl l_8 (hq hd 0) (hS.bk 5 rfl) rfl) ?_
     refine dq (fun a w hA hS hd => a_0 rfl hA.e) ?_
     refine dq (fun a w hA hS hd => b_8 rfl k_0 ty_3 (hq hd 1) (i := m) (hq hd 2) (SlAt.b_4 (hS.b_7 1 rfl)) (by decide) (by omega)) ?_
     refine dq (fun a w hA hS hd => d_3 rfl ty_3 (hq hd 3) (SlAt.b_4 (hS.b_7 1 rfl)) (ints_at (by omega))) ?_
     refine ⟨fun a w hA hS hd => by have c := hx hd 4; exact e_7 rfl (dv (e_2 rfl (e_0 c) (evc _ _)) hS (by show Value.bool _ = _; simp only [decide_eq_false Ao, decide_true, decide_false, Bool.not_true, Bool.not_false])), ?_⟩
     refine dq (fun a w hA hS hd => a_0 rfl (hq hd 5)) ?_
     refine dn 6 (dn 6 (dn 6 (dn 6 (dn 6 (dq (fun a w hA hS hd => a_8 rfl (hq hd 6) (evc _ _)) ?_)))))
     refine dq (fun a w hA hS hd => a_0 rfl (hq hd 12)) ?_
     refine dn 13 (dn 13 (dn 13 (dn 13 (dn 13 (dn 13 (dn 13 (dn 13 (dn 13 (dn 13 (dq (fun a w hA hS hd => a_8 rfl (hq hd 13) (evc _ _)) ?_))))))))))
     refine dq (fun a w hA hS hd => a_0 rfl (hq hd 24)) ?_
     refine dn 25 (dn 25 (dn 25 (dn 25 (dn 25 (dn 25 ?_)))))
     trivial
    intro Hw Kc EM GL Af; clear EL K
    have EN := EM.add (hz Af 25); clear EM
    have EO := EN.add (hz Af 30); clear EN
    have EP := EO.add (hz Af 31); clear EO
    clear Af
    refine s3 EP fun Hx EQ => ?_; clear EP Hw
    refine s3 EQ fun Hy B3 => ?_; clear EQ Hx
    refine s1 B3 (a_8 rfl B3.e (evc _ _)) fun Hz B4 => ?_; clear B3 Hy
    refine n1 (b_3 B4 rfl (c_0 (f_8 (b_0 ?_))))
    have B5 := B4.as [(20, (iv (i : Int))), (19, (iv (m : Int))), (17, D), (16, F), (5, (bptr A 0)), (4, (bptr C 0)), (2, (bptr B 0))] rfl; clear B4
    refine a_5 (s1 B5 (a_0 rfl B5.e) fun H0 B6 => ?_); clear B5 Hz
    refine s1 B6 (c_6 rfl B6.e (evc _ _) (by omega) (by omega)) fun H1 B7 => ?_; clear B6 H0
    refine s1 B7 (a_1 rfl B7.e) fun KD F8 => ?_; clear B7 H1
    refine d_0 ?_
    exact b_0 ⟨i + 1, ⟨vu2_, us2, F8.as _ rfl, GL, by omega, (by first | exact hus2 | exact hus2.put (by omega) (by assumption) (by assumption) (by assumption))⟩, by omega⟩
   skip
   rw [decide_eq_false FV] at R
   refine b_3 R rfl (g_5 (b_9 (b_9 (f_1 (f_8 (b_0 (a_5 (s1 R (a_0 rfl R.e) fun H2 B8 => ?_)))))))); clear R HX
   refine s1 B8 (c_6 rfl B8.e (evc _ _) (by omega) (by omega)) fun H3 B9 => ?_; clear B8 H2
   refine s1 B9 (a_1 rfl B9.e) fun KE F9 => ?_; clear B9 H3
   refine d_0 ?_
   have GM := K.gkp (gpc 1 (gpc 2 (gpc 3 (gpc 4 (gpc 5 (gpc 6 (gpc 7 (gpc 8 (gpc 9 gpn))))))))); clear K
   exact b_0 ⟨m + 1, ⟨vu2_, us2, F9.as _ rfl, GM, by omega, hus2⟩, by omega⟩
  skip
  rw [decide_eq_false FU] at Q
  refine b_3 Q rfl (g_5 (b_9 (b_9 (f_1 (b_0 (b_6 ?_))))))
  have CA := Q.as [(5, (bptr A 0)), (4, (bptr C 0))] rfl; clear Q
  refine a_5 (s1 CA (c_2 rfl s_1 (CA.ev rfl) (O.bk 4 rfl) (l := [vc_, vu_]) rfl rfl) fun KF AO => ?_); clear CA Ff
  refine s7 AO (d_8 O rfl s_1 AO.e AO.e (i := 5) rfl (vs := [vc_, vu_]) rfl rfl (j_8 (SlAt.one (SlAt.b_4 (O.b_7 3 rfl))) (j_8 (SlAt.one (SlAt.b_4 (O.b_7 0 rfl))) p_2)) (Nat.le_of_ble_eq_true rfl)) ?_
  intro _ JH FG ER; clear AO
  have FH : Sep NoB w JH [(row vu_ 3 1 us.length (ints us)), (row F 78 4 ps.length (recC d_5 ps)), (row D 4 1 cs.length (d_1 cs)), (row vc_ 75 3 cuts.length (recC cutC cuts)), (blk A 37 [vc_, vu_]), (blk C 37 [vc_, vu_]), (blk B 24 [(iv p.wide), (iv p.long), (iv p.saw), vw]), (sl vw 8 p.wants.length (recC d_6 p.wants)), (sl vx 1 ws.length (ws.map (Value.int .u16)))] := FG; clear FG O
  refine n1 (c_3 (a_9 ER (.inl rfl) (a_4 ER rfl (.cellA rfl s_1 (FH.bk 5 rfl) (l := [vc_, vu_]) rfl rfl)) ?_))
  obtain rfl : m = p.wants.length := by omega
  exact ⟨cuts, us, ps, cs, _, _, rfl, ⟨hd, by omega, hcb, hus.len, fun i_ hi_ => hus.use i_ (by omega), fun i_ j_ h1_ h2_ h3_ => hus.once i_ j_ h1_ (by omega) h3_⟩, FH.keep [3, 0] (by decide) _ rfl rfl⟩
 skip
 rw [decide_eq_false Fu] at f
 refine s3 f fun H4 ES => ?_; clear f GT
 refine s3 ES fun H5 CB => ?_; clear ES H4
 refine s1 CB (a_8 rfl CB.e (evc _ _)) fun H6 CC => ?_; clear CB H5
 refine n1 (b_3 CC rfl (g_5 (b_9 (b_9 (f_1 (b_0 (b_6 ?_)))))))
 have CD := CC.as [(5, (bptr A 0)), (4, (bptr C 0)), (2, (bptr B 0))] rfl; clear CC
 refine a_5 (s1 CD (c_2 rfl s_0 (CD.ev rfl) (J.bk 3 rfl) (l := [(iv p.wide), (iv p.long), (iv p.saw), vw]) rfl rfl) fun H7 CF => ?_); clear CD H6
 refine s1 CF (a_2 rfl fd_37_0 CF.e) fun H8 CG => ?_; clear CF H7
 refine s1 CG (a_3 rfl ty_34 CG.e (J.bk 1 rfl) rfl) fun H9 AP => ?_; clear CG H8
 refine s2 AP (b_5 rfl en_15 (ev2 AP.e AP.e) (pieces_ok p vw _ (J.sk 4 rfl) cuts vc_ (SlAt.b_4 (J.b_7 0 rfl)) hV (by first | omega | (simp only [List.length_append, List.length_singleton]; omega)) (by first | exact hcb | exact hcb.snoc (by dsimp only; omega)) hd)) ?_
 rintro IA _ JI ⟨H, E, rfl, FT⟩ CH; have FI : Sep NoB w JI [(row H 78 4 ps.length (recC d_5 ps)), (row E 4 1 cs.length (d_1 cs)), (row vc_ 75 3 cuts.length (recC cutC cuts)), (blk A 37 [vc_, (Value.slice none 0 0)]), (blk C 37 [(Value.slice none 0 0), (Value.slice none 0 0)]), (blk B 24 [(iv p.wide), (iv p.long), (iv p.saw), vw]), (sl vw 8 p.wants.length (recC d_6 p.wants)), (sl vx 1 ws.length (ws.map (Value.int .u16)))] := J.q_1 FT rfl; clear FT AP J H9
 refine s1 CH (a_0 rfl CH.e) fun IB CI => ?_; clear CH IA
 refine s1 CI (c_4 rfl CI.e rfl) fun IC CJ => ?_; clear CI IB
 refine s1 CJ (c_4 rfl CJ.e rfl) fun ID CK => ?_; clear CJ IC
 refine s1 CK (c_4 rfl CK.e rfl) fun IE CL => ?_; clear CK ID
 refine s1 CL (a_1 rfl CL.e) fun IF CM => ?_; clear CL IE
 refine s1 CM (a_1 rfl CM.e) fun IG CN => ?_; clear CM IF
 refine s1 CN (a_1 rfl CN.e) fun IH ET => ?_; clear CN IG
 refine n2 (b_6 ?_)
 have EU := ET.as [(17, E), (16, H), (5, (bptr A 0)), (4, (bptr C 0)), (2, (bptr B 0))] rfl; clear ET
 refine a_5 (s1 EU (a_1 rfl (evc _ _)) fun II EV => ?_); clear EU IH
 refine n1 (c_9 ?_)
 have FJ := FI.i_4 3 1; clear FI
 have EW := EV.as [(19, (iv 0)), (17, E), (16, H), (5, (bptr A 0)), (4, (bptr C 0)), (2, (bptr B 0))] rfl; clear EV
 refine g_6 (G := Nat) (fun (m : Nat) a_ w_ => ∃ vu_ : Value, ∃ us : List Int, Fr 150 [] [(19, (iv (m : Int))), (17, E), (16, H), (5, (bptr A 0)), (4, (bptr C 0)), (2, (bptr B 0))] a_ ∧ Sep NoB w w_ [(row vu_ 3 1 us.length (ints us)), (row H 78 4 ps.length (recC d_5 ps)), (row E 4 1 cs.length (d_1 cs)), (row vc_ 75 3 cuts.length (recC cutC cuts)), (blk A 37 [vc_, vu_]), (blk C 37 [(Value.slice none 0 0), (Value.slice none 0 0)]), (blk B 24 [(iv p.wide), (iv p.long), (iv p.saw), vw]), (sl vw 8 p.wants.length (recC d_6 p.wants)), (sl vx 1 ws.length (ws.map (Value.int .u16)))] ∧ (m ≤ p.wants.length) ∧ (UseI p ps cs us m)) (fun m => p.wants.length - m) 0 ⟨(Value.slice none 0 0), [], EW.as _ rfl, (FJ.c_5 (i := 0) rfl rfl rfl), Nat.zero_le _, UseI.zero⟩ ?_
 clear EW FJ II
 rintro m IJ Kd ⟨vu_, us, CO, P, hm, hus⟩
 have hul := hus.len
 refine b_6 (m2 (s1 CO (a_0 rfl CO.e) fun IK CP => ?_)); clear CO IJ
 refine s1 CP (a_2 rfl k_9 CP.e) fun IL CQ => ?_; clear CP IK
 refine s1 CQ (a_3 rfl r_3 CQ.e (P.bk 6 rfl) rfl) fun IM CR => ?_; clear CQ IL
 refine s1 CR (d_7 rfl r_4 CR.e (P.sk 7 rfl)) fun IN AQ => ?_; clear CR IM
 refine s1 AQ (e_2 rfl AQ.e AQ.e) fun Fh S => ?_; clear AQ IN
 refine n1 ?_
 by_cases FX : (m : Int) < (p.wants.length : Int)
 ·skip
  rw [decide_eq_true FX] at S
  refine c_1 S rfl (c_0 (b_0 (b_6 (c_9 (m2 (s1 S (a_2 rfl g_8 S.e) fun IOa CS => ?_)))))); clear S Fh
  refine s1 CS (a_3 rfl l_8 CS.e (P.bk 4 rfl) rfl) fun IP EX => ?_; clear CS IOa
  refine s2 EX (c_7 P rfl (pv1 (evc _ _)) k_0 ty_3 ze_3 (by decide) (cs := [(iv (-1))]) (bs_3_1_0i _)) ?_
  rintro IQ _ Ke ⟨Fk, rfl, C9⟩ AR; clear EX P IP
  refine s2 AR (e_9 C9 rfl k_0 el_3 AR.e AR.e (i := 1) rfl (SlAt.h_3 (n := 1) (C9.bk 0 rfl) rfl (Nat.le_of_ble_eq_true rfl)) rfl (by simp only [maxLen]; omega) (by omega)) ?_
  intro IR DE Kf FK CT
  have An := FK.c_5 (i := 1) rfl (n' := (us ++ [-1]).length) (xs' := (ints (us ++ [-1]))) (by simp) (by simp [ints]); clear FK AR C9 IQ
  refine s1 CT (a_2 rfl g_8 CT.e) fun IS AS => ?_; clear CT IR
  refine s7 AS (d_8 An rfl l_8 AS.e AS.e (i := 5) rfl (vs := [DE]) (i_3 (SlAt.isSl (SlAt.b_4 (An.b_7 1 rfl)))) rfl (j_8 (SlAt.one (SlAt.b_4 (An.b_7 1 rfl))) p_2) (Nat.le_of_ble_eq_true rfl)) ?_
  intro _ JJ FL EY; clear AS
  have FM : Sep NoB w JJ [(blk Fk 3 [(iv (-1))]), (row DE 3 1 ((us ++ [-1]).length) (ints (us ++ [-1]))), (row H 78 4 ps.length (recC d_5 ps)), (row E 4 1 cs.length (d_1 cs)), (row vc_ 75 3 cuts.length (recC cutC cuts)), (blk A 37 [vc_, DE]), (blk C 37 [(Value.slice none 0 0), (Value.slice none 0 0)]), (blk B 24 [(iv p.wide), (iv p.long), (iv p.saw), vw]), (sl vw 8 p.wants.length (recC d_6 p.wants)), (sl vx 1 ws.length (ws.map (Value.int .u16)))] := FL; clear FL An
  refine n2 ?_
  have EZ := EY.as [(19, (iv (m : Int))), (17, E), (16, H), (5, (bptr A 0)), (4, (bptr C 0)), (2, (bptr B 0))] rfl; clear EY
  refine a_5 (s1 EZ (a_1 rfl (evc _ _)) fun IT Ea => ?_); clear EZ IS
  refine n1 (c_9 ?_)
  have Eb := Ea.as [(20, (iv 0)), (19, (iv (m : Int))), (17, E), (16, H), (5, (bptr A 0)), (4, (bptr C 0)), (2, (bptr B 0))] rfl; clear Ea
  refine g_6 (G := Nat) (fun (i : Nat) a_ w_ => ∃ vu2_ : Value, ∃ us2 : List Int, Fr 150 [] [(20, (iv (i : Int))), (19, (iv (m : Int))), (17, E), (16, H), (5, (bptr A 0)), (4, (bptr C 0)), (2, (bptr B 0))] a_ ∧ Sep NoB w w_ [(blk Fk 3 [(iv (-1))]), (row vu2_ 3 1 us2.length (ints us2)), (row H 78 4 ps.length (recC d_5 ps)), (row E 4 1 cs.length (d_1 cs)), (row vc_ 75 3 cuts.length (recC cutC cuts)), (blk A 37 [vc_, vu2_]), (blk C 37 [(Value.slice none 0 0), (Value.slice none 0 0)]), (blk B 24 [(iv p.wide), (iv p.long), (iv p.saw), vw]), (sl vw 8 p.wants.length (recC d_6 p.wants)), (sl vx 1 ws.length (ws.map (Value.int .u16)))] ∧ (i ≤ ps.length) ∧ (UseI p ps cs us2 (m + 1))) (fun i => ps.length - i) 0 ⟨DE, (us ++ [-1]), Eb.as _ rfl, FM, Nat.zero_le _, hus.more⟩ ?_
  clear Eb FM IT
  rintro i IU Kg ⟨vu2_, us2, CU, L, hi, hus2⟩
  have hul2 := hus2.len
  refine b_6 (m2 (s1 CU (a_0 rfl CU.e) fun IV CV => ?_)); clear CU IU
  refine s1 CV (a_0 rfl CV.e) fun IW CW => ?_; clear CV IV
  refine s1 CW (d_7 rfl j_0 CW.e (SlAt.b_4 (L.b_7 2 rfl))) fun IX AT => ?_; clear CW IW
  refine s1 AT (e_2 rfl AT.e AT.e) fun IY T => ?_; clear AT IX
  refine n1 ?_
  by_cases FY : (i : Int) < (ps.length : Int)
  ·skip
   rw [decide_eq_true FY] at T
   refine c_1 T rfl (c_0 (b_0 (b_6 (c_9 (b_6 ?_)))))
   have AU := T.as [(20, (iv (i : Int))), (19, (iv (m : Int))), (17, E), (16, H), (5, (bptr A 0)), (4, (bptr C 0)), (2, (bptr B 0))] rfl; clear T
   by_cases Aq : (us2.getD m 0) < 0
   ·skip
    have AV := AU.as [(20, (iv (i : Int))), (19, (iv (m : Int))), (17, E), (16, H), (5, (bptr A 0)), (4, (bptr C 0)), (2, (bptr B 0))] rfl; clear AU
    rcases Bool.eq_false_or_eq_true ((cs.getD i false)) with Ar | Ar
    ·skip
     have Ec := AV.as [(20, (iv (i : Int))), (19, (iv (m : Int))), (17, E), (16, H), (5, (bptr A 0)), (4, (bptr C 0)), (2, (bptr B 0))] rfl; clear AV
     refine h_7 mixed Ec L 32 [[], [0], [], [1, 2], [3], [4], [5], [6], [6], [6, 7, 8], [6, 9], [6, 10], [6, 11], [12], [13], [13, 14], [13], [13, 15, 16], [13, 17], [13], [13], [13, 19, 20], [13, 21], [13, 18, 22], [13, 23], [24], [25], [25, 26], [25], [25, 27, 28], [25, 29], [25]] [(Yd.val (bptr A 1)), (Yd.val vu2_), (Yd.val (iv (m : Int))), (Yd.val (eptr vu2_ (m * 1))), (Yd.val (iv (us2.getD m 0))), (Yd.val (Value.bool true)), (Yd.val (Value.bool true)), (Yd.val E), (Yd.val (iv (i : Int))), (Yd.val (eptr E (i * 1))), (Yd.val (Value.bool true)), (Yd.val (Value.bool (!true))), (Yd.val (Value.bool (!true))), (Yd.val (Value.bool (!true))), (Yd.val undef), (Yd.val undef), (Yd.val undef), (Yd.val undef), (Yd.val undef), (Yd.val undef), (Yd.val undef), (Yd.val undef), (Yd.val undef), (Yd.val undef), (Yd.val (Value.bool false)), (Yd.val (Value.bool false)), (Yd.val undef), (Yd.val undef), (Yd.val undef), (Yd.val undef), (Yd.val undef), (Yd.val undef)] (by decide +kernel) rfl rfl ?_ ?_
     ·skip
      refine dq (fun a w hA hS hd => a_2 rfl g_8 hA.e) ?_
      refine dq (fun a w hA hS hd => a_3 rfl l_8 (hq hd 0) (hS.bk 5 rfl) rfl) ?_
      refine dq (fun a w hA hS hd => a_0 rfl hA.e) ?_
      refine dq (fun a w hA hS hd => b_8 rfl k_0 ty_3 (hq hd 1) (i := m) (hq hd 2) (SlAt.b_4 (hS.b_7 1 rfl)) (by decide) (by omega)) ?_
      refine dq (fun a w hA hS hd => d_3 rfl ty_3 (hq hd 3) (SlAt.b_4 (hS.b_7 1 rfl)) (ints_at (by omega))) ?_
      refine ⟨fun a w hA hS hd => by have c := hx hd 4; exact e_7 rfl (dv (e_2 rfl (e_0 c) (evc _ _)) hS (by show Value.bool _ = _; simp only [decide_eq_true Aq, decide_true, decide_false, Bool.not_true, Bool.not_false])), ?_⟩
      refine dq (fun a w hA hS hd => a_0 rfl (hq hd 5)) ?_
      refine dy 6 (fun a w hA hS hd => a_0 rfl hA.e) ?_
      refine dy 6 (fun a w hA hS hd => a_0 rfl hA.e) ?_
      refine dy 6 (fun a w hA hS hd => b_8 rfl h_2 ty_4 (hq hd 7) (i := i) (hq hd 8) (SlAt.b_4 (hS.b_7 3 rfl)) (by decide) (by omega)) ?_
      refine ⟨fun a w hA hS hd => by have k := hx hd 6; have e9 := hx hd 9; exact k_3 rfl rfl k (dv (d_3 rfl ty_4 (e_0 e9) (SlAt.b_4 (hS.b_7 3 rfl)) (h_6 (by omega))) hS (by show Value.bool _ = _; simp only [Ar, decide_true, decide_false, Bool.not_true, Bool.not_false])), ?_⟩
      refine dy 6 (fun a w hA hS hd => e_4 rfl (hq hd 10)) ?_
      refine dq (fun a w hA hS hd => a_6 rfl (hq hd 6) (hq hd 11)) ?_
      refine dq (fun a w hA hS hd => a_0 rfl (hq hd 12)) ?_
      refine dn 13 (dn 13 (dn 13 (dn 13 (dn 13 (dn 13 (dn 13 (dn 13 (dn 13 (dn 13 (dq (fun a w hA hS hd => a_8 rfl (hq hd 13) (evc _ _)) ?_))))))))))
      refine dq (fun a w hA hS hd => a_0 rfl (hq hd 24)) ?_
      refine dn 25 (dn 25 (dn 25 (dn 25 (dn 25 (dn 25 ?_)))))
      trivial
     intro IZ Kh Ed GN Ag; clear Ec L
     have Ee := Ed.add (hz Ag 25); clear Ed
     have Ef := Ee.add (hz Ag 30); clear Ee
     have Eg := Ef.add (hz Ag 31); clear Ef
     clear Ag
     refine s3 Eg fun Ia Eh => ?_; clear Eg IZ
     refine s3 Eh fun Ib CX => ?_; clear Eh Ia
     refine s1 CX (a_8 rfl CX.e (evc _ _)) fun Ic CY => ?_; clear CX Ib
     refine n1 (b_3 CY rfl (c_0 (f_8 (b_0 ?_))))
     have CZ := CY.as [(20, (iv (i : Int))), (19, (iv (m : Int))), (17, E), (16, H), (5, (bptr A 0)), (4, (bptr C 0)), (2, (bptr B 0))] rfl; clear CY
     refine a_5 (s1 CZ (a_0 rfl CZ.e) fun Id Ca => ?_); clear CZ Ic
     refine s1 Ca (c_6 rfl Ca.e (evc _ _) (by omega) (by omega)) fun Ie Cb => ?_; clear Ca Id
     refine s1 Cb (a_1 rfl Cb.e) fun KG GA => ?_; clear Cb Ie
     refine d_0 ?_
     exact b_0 ⟨i + 1, ⟨vu2_, us2, GA.as _ rfl, GN, by omega, (by first | exact hus2 | exact hus2.put (by omega) (by assumption) (by assumption) (by assumption))⟩, by omega⟩
    skip
    have AW := AV.as [(20, (iv (i : Int))), (19, (iv (m : Int))), (17, E), (16, H), (5, (bptr A 0)), (4, (bptr C 0)), (2, (bptr B 0))] rfl; clear AV
    rcases Bool.eq_false_or_eq_true ((i_1 (p.wants.getD m w0) (ps.getD i q0))) with DC | DC
    ·skip
     have Ei := AW.as [(20, (iv (i : Int))), (19, (iv (m : Int))), (17, E), (16, H), (5, (bptr A 0)), (4, (bptr C 0)), (2, (bptr B 0))] rfl; clear AW
     refine h_7 mixed Ei L 32 [[], [0], [], [1, 2], [3], [4], [5], [6], [6], [6, 7, 8], [6, 9], [6, 10], [6, 11], [12], [13], [13, 14], [13], [13, 15, 16], [13, 17], [13], [13], [13, 19, 20], [13, 21], [13, 18, 22], [13, 23], [24], [25], [25, 26], [25], [25, 27, 28], [25, 29], [25]] [(Yd.val (bptr A 1)), (Yd.val vu2_), (Yd.val (iv (m : Int))), (Yd.val (eptr vu2_ (m * 1))), (Yd.val (iv (us2.getD m 0))), (Yd.val (Value.bool true)), (Yd.val (Value.bool true)), (Yd.val E), (Yd.val (iv (i : Int))), (Yd.val (eptr E (i * 1))), (Yd.val (Value.bool false)), (Yd.val (Value.bool (!false))), (Yd.val (Value.bool (!false))), (Yd.val (Value.bool (!false))), (Yd.val (bptr B 3)), (Yd.val vw), (Yd.val (iv (m : Int))), (Yd.val (eptr vw (m * 8))), (Yd.val (Value.agg #[(iv ((p.wants.getD m w0).w)), (iv ((p.wants.getD m w0).l)), (Value.bool ((p.wants.getD m w0).turn)), (iv ((p.wants.getD m w0).worth)), (iv ((p.wants.getD m w0).xl)), (iv ((p.wants.getD m w0).xh)), (iv ((p.wants.getD m w0).yl)), (iv ((p.wants.getD m w0).yh))])), (Yd.val H), (Yd.val (iv (i : Int))), (Yd.val (eptr H (i * 4))), (Yd.val (Value.agg #[(iv ((ps.getD i q0).x)), (iv ((ps.getD i q0).y)), (iv ((ps.getD i q0).w)), (iv ((ps.getD i q0).l))])), (Yd.val (Value.bool true)), (Yd.val (Value.bool true)), (Yd.val (Value.bool true)), (Yd.val (bptr A 1)), (Yd.val vu2_), (Yd.val (iv (m : Int))), (Yd.val (slcut vu2_ 0 m 1)), (Yd.val (Value.agg #[(Value.slice none 0 0), (slcut vu2_ 0 m 1)])), (Yd.val (iv (i : Int)))] (by decide +kernel) rfl rfl ?_ ?_
     ·skip
      refine dq (fun a w hA hS hd => a_2 rfl g_8 hA.e) ?_
      refine dq (fun a w hA hS hd => a_3 rfl l_8 (hq hd 0) (hS.bk 5 rfl) rfl) ?_
      refine dq (fun a w hA hS hd => a_0 rfl hA.e) ?_
      refine dq (fun a w hA hS hd => b_8 rfl k_0 ty_3 (hq hd 1) (i := m) (hq hd 2) (SlAt.b_4 (hS.b_7 1 rfl)) (by decide) (by omega)) ?_
      refine dq (fun a w hA hS hd => d_3 rfl ty_3 (hq hd 3) (SlAt.b_4 (hS.b_7 1 rfl)) (ints_at (by omega))) ?_
      refine ⟨fun a w hA hS hd => by have c := hx hd 4; exact e_7 rfl (dv (e_2 rfl (e_0 c) (evc _ _)) hS (by show Value.bool _ = _; simp only [decide_eq_true Aq, decide_true, decide_false, Bool.not_true, Bool.not_false])), ?_⟩
      refine dq (fun a w hA hS hd => a_0 rfl (hq hd 5)) ?_
      refine dy 6 (fun a w hA hS hd => a_0 rfl hA.e) ?_
      refine dy 6 (fun a w hA hS hd => a_0 rfl hA.e) ?_
      refine dy 6 (fun a w hA hS hd => b_8 rfl h_2 ty_4 (hq hd 7) (i := i) (hq hd 8) (SlAt.b_4 (hS.b_7 3 rfl)) (by decide) (by omega)) ?_
      refine ⟨fun a w hA hS hd => by have k := hx hd 6; have e9 := hx hd 9; exact k_3 rfl rfl k (dv (d_3 rfl ty_4 (e_0 e9) (SlAt.b_4 (hS.b_7 3 rfl)) (h_6 (by omega))) hS (by show Value.bool _ = _; simp only [Ar, decide_true, decide_false, Bool.not_true, Bool.not_false])), ?_⟩
      refine dy 6 (fun a w hA hS hd => e_4 rfl (hq hd 10)) ?_
      refine dq (fun a w hA hS hd => a_6 rfl (hq hd 6) (hq hd 11)) ?_
      refine dq (fun a w hA hS hd => a_0 rfl (hq hd 12)) ?_
      refine dy 13 (fun a w hA hS hd => a_2 rfl k_9 hA.e) ?_
      refine dy 13 (fun a w hA hS hd => a_3 rfl r_3 (hq hd 14) (hS.bk 7 rfl) rfl) ?_
      refine dy 13 (fun a w hA hS hd => a_0 rfl hA.e) ?_
      refine dy 13 (fun a w hA hS hd => b_8 rfl r_4 q_8 (hq hd 15) (i := m) (hq hd 16) (hS.sk 8 rfl) (by decide) (by omega)) ?_
      refine dy 13 (fun a w hA hS hd => e_1 rfl q_8 (hq hd 17) (hS.sk 8 rfl) (n_6 (by omega)) rfl (by decide)) ?_
      refine dy 13 (fun a w hA hS hd => a_0 rfl hA.e) ?_
      refine dy 13 (fun a w hA hS hd => a_0 rfl hA.e) ?_
      refine dy 13 (fun a w hA hS hd => b_8 rfl j_0 h_9 (hq hd 19) (i := i) (hq hd 20) (SlAt.b_4 (hS.b_7 2 rfl)) (by decide) (by omega)) ?_
      refine dy 13 (fun a w hA hS hd => e_1 rfl h_9 (hq hd 21) (SlAt.b_4 (hS.b_7 2 rfl)) (k_6 (by omega)) rfl (by decide)) ?_
      refine ⟨fun a w hA hS hd => by have As := hx hd 13; have At := hx hd 18; have Au := hx hd 22; exact k_3 rfl rfl As (dx (b_5 rfl en_17 (ev2 (e_0 At) (e_0 Au)) (fits_ok (p.wants.getD m w0) (ps.getD i q0) (hpc.quad i (show i < ps.length by omega)) _)) hS (fun _ => (by show Value.bool _ = _; simp only [DC, decide_true, decide_false, Bool.not_true, Bool.not_false]))), ?_⟩
      refine dq (fun a w hA hS hd => a_6 rfl (hq hd 13) (hq hd 23)) ?_
      refine dq (fun a w hA hS hd => a_0 rfl (hq hd 24)) ?_
      refine dy 25 (fun a w hA hS hd => a_2 rfl g_8 hA.e) ?_
      refine dy 25 (fun a w hA hS hd => a_3 rfl l_8 (hq hd 26) (hS.bk 5 rfl) rfl) ?_
      refine dy 25 (fun a w hA hS hd => a_0 rfl hA.e) ?_
      refine dy 25 (fun a w hA hS hd => op_sliceHi rfl k_0 ty_3 (hq hd 27) (h := m) (hq hd 28) (SlAt.b_4 (hS.b_7 1 rfl)) (by omega)) ?_
      refine dy 25 (fun a w hA hS hd => e_8 rfl (pv1 (hq hd 29)) (bd_37_1s _ (SlAt.isSl (SlAt.say (n' := (us2.take m).length) (cs' := (ints (us2.take m))) (SlAt.cut (SlAt.b_4 (hS.b_7 1 rfl)) (Nat.zero_le _) (by omega)) (by rw [List.length_take]; omega) (ints_cutHi _ _))))) ?_
      refine dy 25 (fun a w hA hS hd => a_0 rfl hA.e) ?_
      trivial
     intro If Ki Ej DA Ah; clear Ei L
     have Ek := Ej.add (hz Ah 25); clear Ej
     have El := Ek.add (hz Ah 30); clear Ek
     have AX := El.add (hz Ah 31); clear El
     clear Ah
     refine s6 AX (b_5 rfl en_18 (ev2 AX.e AX.e) (used_ok (us2.take m) _ (i : Int) _ (SlAt.say (n' := (us2.take m).length) (cs' := (ints (us2.take m))) (SlAt.cut (SlAt.b_4 (DA.b_7 1 rfl)) (Nat.zero_le _) (by omega)) (by rw [List.length_take]; omega) (ints_cutHi _ _)) (by first | omega | (rw [List.length_take]; omega)))) ?_
     rintro Ig _ Kj ⟨rfl, E1⟩ Cc; have j := DA.step E1; clear E1 AX DA If
     refine s5 Cc (e_2 rfl Cc.e (evc _ _)) fun Ih AY => ?_; clear Cc Ig
     refine s1 AY (a_6 rfl AY.e AY.e) fun Fi V => ?_; clear AY Ih
     refine n1 ?_
     by_cases FZ : (r_6 (us2.take m) (i : Int)) < 0
     ·skip
      rw [decide_eq_true FZ] at V
      refine c_1 V rfl ?_
      have Cd := V.as [(20, (iv (i : Int))), (19, (iv (m : Int))), (17, E), (16, H), (5, (bptr A 0)), (4, (bptr C 0)), (2, (bptr B 0))] rfl; clear V
      refine a_5 (s1 Cd (a_2 rfl g_8 Cd.e) fun Ii Ce => ?_); clear Cd Fi
      refine s1 Ce (a_3 rfl l_8 Ce.e (j.bk 5 rfl) rfl) fun Ij Cg => ?_; clear Ce Ii
      refine s1 Cg (a_0 rfl Cg.e) fun Ik Ch => ?_; clear Cg Ij
      refine s1 Ch (a_0 rfl Ch.e) fun Il AZ => ?_; clear Ch Ik
      refine s1 AZ (b_8 rfl k_0 ty_3 AZ.e (i := m) AZ.e (SlAt.b_4 (j.b_7 1 rfl)) (by decide) (by omega)) fun Im Aa => ?_; clear AZ Il
      refine s7 Aa (o_2 j rfl ty_3 Aa.e Aa.e (i := 1) rfl (vs := [(iv (i : Int))]) rfl rfl rfl (by rw [ints_length]; omega) (by decide)) ?_
      intro _ Kk FN Ci; have GO := FN.c_5 (i := 1) rfl (n' := (us2.set m (i : Int)).length) (xs' := (ints (us2.set m (i : Int)))) (by simp) (by simp [m_7, ints, List.map_set]); clear FN Aa j
      refine d_0 (f_8 (b_0 (a_5 (s1 Ci (a_0 rfl Ci.e) fun In Cj => ?_)))); clear Ci Im
      refine s1 Cj (c_6 rfl Cj.e (evc _ _) (by omega) (by omega)) fun Io Ck => ?_; clear Cj In
      refine s1 Ck (a_1 rfl Ck.e) fun KI GB => ?_; clear Ck Io
      refine d_0 ?_
      exact b_0 ⟨i + 1, ⟨vu2_, (us2.set m (i : Int)), GB.as _ rfl, GO, by omega, (by first | exact hus2 | exact hus2.put (by omega) (by assumption) (by assumption) (by assumption))⟩, by omega⟩
     skip
     rw [decide_eq_false FZ] at V
     refine b_3 V rfl (c_0 (f_8 (b_0 ?_)))
     have Cl := V.as [(20, (iv (i : Int))), (19, (iv (m : Int))), (17, E), (16, H), (5, (bptr A 0)), (4, (bptr C 0)), (2, (bptr B 0))] rfl; clear V
     refine a_5 (s1 Cl (a_0 rfl Cl.e) fun Ip Cm => ?_); clear Cl Fi
     refine s1 Cm (c_6 rfl Cm.e (evc _ _) (by omega) (by omega)) fun Iq Cn => ?_; clear Cm Ip
     refine s1 Cn (a_1 rfl Cn.e) fun KJ GC => ?_; clear Cn Iq
     refine d_0 ?_
     exact b_0 ⟨i + 1, ⟨vu2_, us2, GC.as _ rfl, j, by omega, (by first | exact hus2 | exact hus2.put (by omega) (by assumption) (by assumption) (by assumption))⟩, by omega⟩
    skip
    have Em := AW.as [(20, (iv (i : Int))), (19, (iv (m : Int))), (17, E), (16, H), (5, (bptr A 0)), (4, (bptr C 0)), (2, (bptr B 0))] rfl; clear AW
    refine h_7 mixed Em L 32 [[], [0], [], [1, 2], [3], [4], [5], [6], [6], [6, 7, 8], [6, 9], [6, 10], [6, 11], [12], [13], [13, 14], [13], [13, 15, 16], [13, 17], [13], [13], [13, 19, 20], [13, 21], [13, 18, 22], [13, 23], [24], [25], [25, 26], [25], [25, 27, 28], [25, 29], [25]] [(Yd.val (bptr A 1)), (Yd.val vu2_), (Yd.val (iv (m : Int))), (Yd.val (eptr vu2_ (m * 1))), (Yd.val (iv (us2.getD m 0))), (Yd.val (Value.bool true)), (Yd.val (Value.bool true)), (Yd.val E), (Yd.val (iv (i : Int))), (Yd.val (eptr E (i * 1))), (Yd.val (Value.bool false)), (Yd.val (Value.bool (!false))), (Yd.val (Value.bool (!false))), (Yd.val (Value.bool (!false))), (Yd.val (bptr B 3)), (Yd.val vw), (Yd.val (iv (m : Int))), (Yd.val (eptr vw (m * 8))), (Yd.val (Value.agg #[(iv ((p.wants.getD m w0).w)), (iv ((p.wants.getD m w0).l)), (Value.bool ((p.wants.getD m w0).turn)), (iv ((p.wants.getD m w0).worth)), (iv ((p.wants.getD m w0).xl)), (iv ((p.wants.getD m w0).xh)), (iv ((p.wants.getD m w0).yl)), (iv ((p.wants.getD m w0).yh))])), (Yd.val H), (Yd.val (iv (i : Int))), (Yd.val (eptr H (i * 4))), (Yd.val (Value.agg #[(iv ((ps.getD i q0).x)), (iv ((ps.getD i q0).y)), (iv ((ps.getD i q0).w)), (iv ((ps.getD i q0).l))])), (Yd.val (Value.bool false)), (Yd.val (Value.bool false)), (Yd.val (Value.bool false)), (Yd.val undef), (Yd.val undef), (Yd.val undef), (Yd.val undef), (Yd.val undef), (Yd.val undef)] (by decide +kernel) rfl rfl ?_ ?_
    ·skip
     refine dq (fun a w hA hS hd => a_2 rfl g_8 hA.e) ?_
     refine dq (fun a w hA hS hd => a_3 rfl l_8 (hq hd 0) (hS.bk 5 rfl) rfl) ?_
     refine dq (fun a w hA hS hd => a_0 rfl hA.e) ?_
     refine dq (fun a w hA hS hd => b_8 rfl k_0 ty_3 (hq hd 1) (i := m) (hq hd 2) (SlAt.b_4 (hS.b_7 1 rfl)) (by decide) (by omega)) ?_
     refine dq (fun a w hA hS hd => d_3 rfl ty_3 (hq hd 3) (SlAt.b_4 (hS.b_7 1 rfl)) (ints_at (by omega))) ?_
     refine ⟨fun a w hA hS hd => by have c := hx hd 4; exact e_7 rfl (dv (e_2 rfl (e_0 c) (evc _ _)) hS (by show Value.bool _ = _; simp only [decide_eq_true Aq, decide_true, decide_false, Bool.not_true, Bool.not_false])), ?_⟩
     refine dq (fun a w hA hS hd => a_0 rfl (hq hd 5)) ?_
     refine dy 6 (fun a w hA hS hd => a_0 rfl hA.e) ?_
     refine dy 6 (fun a w hA hS hd => a_0 rfl hA.e) ?_
     refine dy 6 (fun a w hA hS hd => b_8 rfl h_2 ty_4 (hq hd 7) (i := i) (hq hd 8) (SlAt.b_4 (hS.b_7 3 rfl)) (by decide) (by omega)) ?_
     refine ⟨fun a w hA hS hd => by have k := hx hd 6; have e9 := hx hd 9; exact k_3 rfl rfl k (dv (d_3 rfl ty_4 (e_0 e9) (SlAt.b_4 (hS.b_7 3 rfl)) (h_6 (by omega))) hS (by show Value.bool _ = _; simp only [Ar, decide_true, decide_false, Bool.not_true, Bool.not_false])), ?_⟩
     refine dy 6 (fun a w hA hS hd => e_4 rfl (hq hd 10)) ?_
     refine dq (fun a w hA hS hd => a_6 rfl (hq hd 6) (hq hd 11)) ?_
     refine dq (fun a w hA hS hd => a_0 rfl (hq hd 12)) ?_
     refine dy 13 (fun a w hA hS hd => a_2 rfl k_9 hA.e) ?_
     refine dy 13 (fun a w hA hS hd => a_3 rfl r_3 (hq hd 14) (hS.bk 7 rfl) rfl) ?_
     refine dy 13 (fun a w hA hS hd => a_0 rfl hA.e) ?_
     refine dy 13 (fun a w hA hS hd => b_8 rfl r_4 q_8 (hq hd 15) (i := m) (hq hd 16) (hS.sk 8 rfl) (by decide) (by omega)) ?_
     refine dy 13 (fun a w hA hS hd => e_1 rfl q_8 (hq hd 17) (hS.sk 8 rfl) (n_6 (by omega)) rfl (by decide)) ?_
     refine dy 13 (fun a w hA hS hd => a_0 rfl hA.e) ?_
     refine dy 13 (fun a w hA hS hd => a_0 rfl hA.e) ?_
     refine dy 13 (fun a w hA hS hd => b_8 rfl j_0 h_9 (hq hd 19) (i := i) (hq hd 20) (SlAt.b_4 (hS.b_7 2 rfl)) (by decide) (by omega)) ?_
     refine dy 13 (fun a w hA hS hd => e_1 rfl h_9 (hq hd 21) (SlAt.b_4 (hS.b_7 2 rfl)) (k_6 (by omega)) rfl (by decide)) ?_
     refine ⟨fun a w hA hS hd => by have As := hx hd 13; have At := hx hd 18; have Au := hx hd 22; exact k_3 rfl rfl As (dx (b_5 rfl en_17 (ev2 (e_0 At) (e_0 Au)) (fits_ok (p.wants.getD m w0) (ps.getD i q0) (hpc.quad i (show i < ps.length by omega)) _)) hS (fun _ => (by show Value.bool _ = _; simp only [DC, decide_true, decide_false, Bool.not_true, Bool.not_false]))), ?_⟩
     refine dq (fun a w hA hS hd => a_6 rfl (hq hd 13) (hq hd 23)) ?_
     refine dq (fun a w hA hS hd => a_0 rfl (hq hd 24)) ?_
     refine dn 25 (dn 25 (dn 25 (dn 25 (dn 25 (dn 25 ?_)))))
     trivial
    intro Ir Kl En GP Ai; clear Em L
    have Eo := En.add (hz Ai 25); clear En
    have Ep := Eo.add (hz Ai 30); clear Eo
    have Eq := Ep.add (hz Ai 31); clear Ep
    clear Ai
    refine s3 Eq fun Is Er => ?_; clear Eq Ir
    refine s3 Er fun It Co => ?_; clear Er Is
    refine s1 Co (a_8 rfl Co.e (evc _ _)) fun Iu Cp => ?_; clear Co It
    refine n1 (b_3 Cp rfl (c_0 (f_8 (b_0 ?_))))
    have Cq := Cp.as [(20, (iv (i : Int))), (19, (iv (m : Int))), (17, E), (16, H), (5, (bptr A 0)), (4, (bptr C 0)), (2, (bptr B 0))] rfl; clear Cp
    refine a_5 (s1 Cq (a_0 rfl Cq.e) fun Iv Cr => ?_); clear Cq Iu
    refine s1 Cr (c_6 rfl Cr.e (evc _ _) (by omega) (by omega)) fun Iw Cs => ?_; clear Cr Iv
    refine s1 Cs (a_1 rfl Cs.e) fun KK GD => ?_; clear Cs Iw
    refine d_0 ?_
    exact b_0 ⟨i + 1, ⟨vu2_, us2, GD.as _ rfl, GP, by omega, (by first | exact hus2 | exact hus2.put (by omega) (by assumption) (by assumption) (by assumption))⟩, by omega⟩
   skip
   have Es := AU.as [(20, (iv (i : Int))), (19, (iv (m : Int))), (17, E), (16, H), (5, (bptr A 0)), (4, (bptr C 0)), (2, (bptr B 0))] rfl; clear AU
   refine h_7 mixed Es L 32 [[], [0], [], [1, 2], [3], [4], [5], [6], [6], [6, 7, 8], [6, 9], [6, 10], [6, 11], [12], [13], [13, 14], [13], [13, 15, 16], [13, 17], [13], [13], [13, 19, 20], [13, 21], [13, 18, 22], [13, 23], [24], [25], [25, 26], [25], [25, 27, 28], [25, 29], [25]] [(Yd.val (bptr A 1)), (Yd.val vu2_), (Yd.val (iv (m : Int))), (Yd.val (eptr vu2_ (m * 1))), (Yd.val (iv (us2.getD m 0))), (Yd.val (Value.bool false)), (Yd.val (Value.bool false)), (Yd.val undef), (Yd.val undef), (Yd.val undef), (Yd.val undef), (Yd.val undef), (Yd.val (Value.bool false)), (Yd.val (Value.bool false)), (Yd.val undef), (Yd.val undef), (Yd.val undef), (Yd.val undef), (Yd.val undef), (Yd.val undef), (Yd.val undef), (Yd.val undef), (Yd.val undef), (Yd.val undef), (Yd.val (Value.bool false)), (Yd.val (Value.bool false)), (Yd.val undef), (Yd.val undef), (Yd.val undef), (Yd.val undef), (Yd.val undef), (Yd.val undef)] (by decide +kernel) rfl rfl ?_ ?_
   ·skip
    refine dq (fun a w hA hS hd => a_2 rfl g_8 hA.e) ?_
    refine dq (fun a w hA hS hd => a_3 rfl l_8 (hq hd 0) (hS.bk 5 rfl) rfl) ?_
    refine dq (fun a w hA hS hd => a_0 rfl hA.e) ?_
    refine dq (fun a w hA hS hd => b_8 rfl k_0 ty_3 (hq hd 1) (i := m) (hq hd 2) (SlAt.b_4 (hS.b_7 1 rfl)) (by decide) (by omega)) ?_
    refine dq (fun a w hA hS hd => d_3 rfl ty_3 (hq hd 3) (SlAt.b_4 (hS.b_7 1 rfl)) (ints_at (by omega))) ?_
    refine ⟨fun a w hA hS hd => by have c := hx hd 4; exact e_7 rfl (dv (e_2 rfl (e_0 c) (evc _ _)) hS (by show Value.bool _ = _; simp only [decide_eq_false Aq, decide_true, decide_false, Bool.not_true, Bool.not_false])), ?_⟩
    refine dq (fun a w hA hS hd => a_0 rfl (hq hd 5)) ?_
    refine dn 6 (dn 6 (dn 6 (dn 6 (dn 6 (dq (fun a w hA hS hd => a_8 rfl (hq hd 6) (evc _ _)) ?_)))))
    refine dq (fun a w hA hS hd => a_0 rfl (hq hd 12)) ?_
    refine dn 13 (dn 13 (dn 13 (dn 13 (dn 13 (dn 13 (dn 13 (dn 13 (dn 13 (dn 13 (dq (fun a w hA hS hd => a_8 rfl (hq hd 13) (evc _ _)) ?_))))))))))
    refine dq (fun a w hA hS hd => a_0 rfl (hq hd 24)) ?_
    refine dn 25 (dn 25 (dn 25 (dn 25 (dn 25 (dn 25 ?_)))))
    trivial
   intro Ix Km Et GQ Aj; clear Es L
   have Eu := Et.add (hz Aj 25); clear Et
   have Ev := Eu.add (hz Aj 30); clear Eu
   have Ew := Ev.add (hz Aj 31); clear Ev
   clear Aj
   refine s3 Ew fun Iy Ex => ?_; clear Ew Ix
   refine s3 Ex fun Iz Ct => ?_; clear Ex Iy
   refine s1 Ct (a_8 rfl Ct.e (evc _ _)) fun I0 Cu => ?_; clear Ct Iz
   refine n1 (b_3 Cu rfl (c_0 (f_8 (b_0 ?_))))
   have Cv := Cu.as [(20, (iv (i : Int))), (19, (iv (m : Int))), (17, E), (16, H), (5, (bptr A 0)), (4, (bptr C 0)), (2, (bptr B 0))] rfl; clear Cu
   refine a_5 (s1 Cv (a_0 rfl Cv.e) fun I1 Cw => ?_); clear Cv I0
   refine s1 Cw (c_6 rfl Cw.e (evc _ _) (by omega) (by omega)) fun I2 Cx => ?_; clear Cw I1
   refine s1 Cx (a_1 rfl Cx.e) fun KL GE => ?_; clear Cx I2
   refine d_0 ?_
   exact b_0 ⟨i + 1, ⟨vu2_, us2, GE.as _ rfl, GQ, by omega, (by first | exact hus2 | exact hus2.put (by omega) (by assumption) (by assumption) (by assumption))⟩, by omega⟩
  skip
  rw [decide_eq_false FY] at T
  refine b_3 T rfl (g_5 (b_9 (b_9 (f_1 (f_8 (b_0 (a_5 (s1 T (a_0 rfl T.e) fun I3 Cy => ?_)))))))); clear T IY
  refine s1 Cy (c_6 rfl Cy.e (evc _ _) (by omega) (by omega)) fun I4 Cz => ?_; clear Cy I3
  refine s1 Cz (a_1 rfl Cz.e) fun KM GF => ?_; clear Cz I4
  refine d_0 ?_
  have GR := L.gkp (gpc 1 (gpc 2 (gpc 3 (gpc 4 (gpc 5 (gpc 6 (gpc 7 (gpc 8 (gpc 9 gpn))))))))); clear L
  exact b_0 ⟨m + 1, ⟨vu2_, us2, GF.as _ rfl, GR, by omega, hus2⟩, by omega⟩
 skip
 rw [decide_eq_false FX] at S
 refine b_3 S rfl (g_5 (b_9 (b_9 (f_1 (b_0 (b_6 ?_))))))
 have C0 := S.as [(5, (bptr A 0)), (4, (bptr C 0))] rfl; clear S
 refine a_5 (s1 C0 (c_2 rfl s_1 (C0.ev rfl) (P.bk 4 rfl) (l := [vc_, vu_]) rfl rfl) fun KN Ab => ?_); clear C0 Fh
 refine s7 Ab (d_8 P rfl s_1 Ab.e Ab.e (i := 5) rfl (vs := [vc_, vu_]) rfl rfl (j_8 (SlAt.one (SlAt.b_4 (P.b_7 3 rfl))) (j_8 (SlAt.one (SlAt.b_4 (P.b_7 0 rfl))) p_2)) (Nat.le_of_ble_eq_true rfl)) ?_
 intro _ JK FO Ey; clear Ab
 have FP : Sep NoB w JK [(row vu_ 3 1 us.length (ints us)), (row H 78 4 ps.length (recC d_5 ps)), (row E 4 1 cs.length (d_1 cs)), (row vc_ 75 3 cuts.length (recC cutC cuts)), (blk A 37 [vc_, vu_]), (blk C 37 [vc_, vu_]), (blk B 24 [(iv p.wide), (iv p.long), (iv p.saw), vw]), (sl vw 8 p.wants.length (recC d_6 p.wants)), (sl vx 1 ws.length (ws.map (Value.int .u16)))] := FO; clear FO P
 refine n1 (c_3 (a_9 Ey (.inl rfl) (a_4 Ey rfl (.cellA rfl s_1 (FP.bk 5 rfl) (l := [vc_, vu_]) rfl rfl)) ?_))
 obtain rfl : m = p.wants.length := by omega
 exact ⟨cuts, us, ps, cs, _, _, rfl, ⟨hd, by omega, hcb, hus.len, fun i_ hi_ => hus.use i_ (by omega), fun i_ j_ h1_ h2_ h3_ => hus.once i_ j_ h1_ (by omega) h3_⟩, FP.keep [3, 0] (by decide) _ rfl rfl⟩
end Go.Proofs.Ytphkmnaohimdbaa
