/-
  Walks through the functions of the seat, printed by a program of ours (gowalk), a theorem a function: what the call returns and what it leaves in memory.
-/
import Derived.Test.YtohgladndklciaaBd
import Derived.Test.YtohgladndklciaaEngb
import Derived.Test.YtohgladndklciaaEnga
set_option linter.unusedSimpArgs false
set_option linter.unusedVariables false
namespace Go.Proofs.Ytohgladndklciaa
open Go.RowKit Go.Shelf Go.Eng Go.Hard
theorem one_ro {X : Nat → Prop} {A w : World} {L : List Res} {j k : Nat} {tb : TabD} {vr vb : Value} (h : Sep X A w L) (hj : L[j]? = some (sl vr 2 tb.rows.length (pairs tb.rows))) (hk : L[k]? = some (sl vb 1 tb.brk.length (ints tb.brk))) :
  (∀ q, q < [tb].length → RoSl w L ((fun _ => vr : Nat → Value) q) 2 (j_6 [tb] q) (j_5 [tb] q)) ∧ ∀ q, q < [tb].length → RoSl w L ((fun _ => vb : Nat → Value) q) 1 (brkN [tb] q) (brkC [tb] q) := by
 constructor <;> intro q hq <;> obtain rfl : q = 0 := (by rw [List.length_singleton] at hq; omega)
 ·exact roSl_sl h hj
 exact roSl_sl h hk
abbrev NILs0 : Value := .slice none 0 0
theorem p_3 (w : World) (f : Nat → Value) : o_4 w NILs0 f [] := ⟨slAt_nil w 2, fun i hi => absurd hi (Nat.not_lt_zero _)⟩
set_option maxHeartbeats 4000000 in
theorem HardBack_ok (t : TabD) (vr vb : Value) (w : World) (hvr : SlAt w vr 2 t.rows.length (pairs t.rows)) (hvb : SlAt w vb 1 t.brk.length (ints t.brk)) (nv : Int) (hn : 0 ≤ nv ∧ nv ≤ 65535) :
  Calls Try.prog 8 #[(Value.agg #[(iv t.frm), (iv t.dst), vr, vb, (iv t.err)]), (Value.int .u16 nv)] w (Ret fun v w' => v = .bool true ∧ Ext NoB w w') := by
 refine b_0 Try.func8 rfl fun a0 DI => ?_
 replace DI : Fr 187 [] [(0, (Value.agg #[(iv t.frm), (iv t.dst), vr, vb, (iv t.err)])), (1, (Value.int .u16 nv))] a0 := DI
 have Gu : Sep NoB w w [(sl vr 2 t.rows.length (pairs t.rows)), (sl vb 1 t.brk.length (ints t.brk))] := f_1 ⟨rfl, hvr, rfl, hvb, trivial⟩
 refine m2 (s2 DI (f_2 Gu rfl DI.e (cs := [(iv t.frm), (iv t.dst), vr, vb, (iv t.err)]) rfl) ?_)
 rintro a1 _ w3 ⟨E, rfl, Gv⟩ Gt; clear DI Gu a0
 refine s1 Gt (a_0 rfl (evc _ _)) fun a6 Fv => ?_; clear Gt a1
 refine n4 (s1 Fv (a_3 rfl fd_46_0 Fv.e) fun a8 Fy => ?_); clear Fv a6
 refine s7 Fy (b_6 Gv rfl ty_3 Fy.e (evc _ _) (i := 0) rfl (vs := [(iv 0)]) rfl rfl rfl (Nat.le_of_ble_eq_true rfl)) ?_
 intro _ KS F4 DK; clear Fy
 have F5 : Sep NoB w KS [(blk E 46 [(iv 0), (iv t.dst), vr, vb, (iv t.err)]), (sl vr 2 t.rows.length (pairs t.rows)), (sl vb 1 t.brk.length (ints t.brk))] := F4; clear F4 Gv
 refine s1 DK (a_3 rfl fd_46_1 DK.e) fun J4 DL => ?_; clear DK a8
 refine s7 DL (b_6 F5 rfl ty_3 DL.e (evc _ _) (i := 0) rfl (vs := [(iv 1)]) rfl rfl rfl (Nat.le_of_ble_eq_true rfl)) ?_
 intro _ KT F6 DM; clear DL
 have F7 : Sep NoB w KT [(blk E 46 [(iv 0), (iv 1), vr, vb, (iv t.err)]), (sl vr 2 t.rows.length (pairs t.rows)), (sl vb 1 t.brk.length (ints t.brk))] := F6; clear F6 F5
 refine s1 DM (a_3 rfl fd_46_4 DM.e) fun J5 DN => ?_; clear DM J4
 refine s7 DN (b_6 F7 rfl ty_3 DN.e (evc _ _) (i := 0) rfl (vs := [(iv 0)]) rfl rfl rfl (Nat.le_of_ble_eq_true rfl)) ?_
 intro _ KU F8 DO; clear DN
 have Dd : Sep NoB w KU [(blk E 46 [(iv 0), (iv 1), vr, vb, (iv 0)]), (sl vr 2 t.rows.length (pairs t.rows)), (sl vb 1 t.brk.length (ints t.brk))] := F8; clear F8 F7
 refine n4 (s1 DO (c_5 rfl z_4 (DO.ev rfl) (Dd.bk 0 rfl) (l := [(iv 0), (iv 1), vr, vb, (iv 0)]) rfl rfl) fun J6 DP => ?_); clear DO J5
 refine s2 DP (f_4 Dd rfl (pv1 DP.e) y_7 z_4 ze_46 (by decide) (cs := [(iv 0), (iv 1), vr, vb, (iv 0)]) (bs_46_1_0iivvia _ _ _ _ _)) ?_
 rintro J7 _ LI ⟨C, rfl, F9⟩ DQ; clear DP Dd J6
 refine s1 DQ (e_1 rfl (pv2 (evc _ _) DQ.e) (bd_25_0i_1s _ _ ⟨_, _, _, rfl⟩)) fun J8 Ft => ?_; clear DQ J7
 refine s2 Ft (d_8 F9 rfl ze_25 (cs := [(iv 0), (Value.slice none 0 0), (Value.slice none 0 0)]) rfl) ?_
 rintro J9 _ LJ ⟨B, rfl, GA⟩ Bu; clear Ft F9 J8
 refine s7 Bu (b_6 GA rfl ty_25 Bu.e Bu.e (i := 0) rfl (vs := [(iv 2), (Value.slice (some ⟨C, 0, none⟩) 1 1), (Value.slice none 0 0)]) rfl rfl (g_8 rfl (g_8 rfl (g_8 rfl q_9))) (Nat.le_of_ble_eq_true rfl)) ?_
 intro _ GQ GB Fu; clear Bu
 have GC : Sep NoB w GQ [(blk B 25 [(iv 2), (Value.slice (some ⟨C, 0, none⟩) 1 1), (Value.slice none 0 0)]), (blk C 46 [(iv 0), (iv 1), vr, vb, (iv 0)]), (blk E 46 [(iv 0), (iv 1), vr, vb, (iv 0)]), (sl vr 2 t.rows.length (pairs t.rows)), (sl vb 1 t.brk.length (ints t.brk))] := GB; clear GB GA
 refine n2 (b_9 ?_)
 have DR := Fu.as [(5, (bptr B 0)), (2, (bptr E 0)), (1, (Value.int .u16 nv))] rfl; clear Fu
 have GD := GC.gkp (gpc 1 (gpc 0 (gpc 2 (gpc 3 (gpc 4 gpn))))); clear GC
 have GE := GD.t_8 (i := 0) (sz := 5) (n := 1) rfl rfl (by decide)
 have De : Sep NoB w GQ [(row (Value.slice (some ⟨C, 0, none⟩) 1 1) 46 5 [fwdT t].length (m_1 (fun _ => vr) (fun _ => vb) [fwdT t])), (blk B 25 [(iv 2), (Value.slice (some ⟨C, 0, none⟩) 1 1), (Value.slice none 0 0)]), (blk E 46 [(iv 0), (iv 1), vr, vb, (iv 0)]), (sl vr 2 t.rows.length (pairs t.rows)), (sl vb 1 t.brk.length (ints t.brk))] := GE
 have Dc := one_ro (tb := fwdT t) De.tail (j := 2) (k := 3) rfl rfl
 have C9 : Sep NoB w GQ [(d_5 false (Value.slice (some ⟨C, 0, none⟩) 1 1) (fun _ => vr) (fun _ => vb) (j_9 t).tabs), (blk B 25 [(iv 2), (Value.slice (some ⟨C, 0, none⟩) 1 1), (Value.slice none 0 0)]), (blk E 46 [(iv 0), (iv 1), vr, vb, (iv 0)]), (sl vr 2 t.rows.length (pairs t.rows)), (sl vb 1 t.brk.length (ints t.brk))] := sep_tabs_ro De Dc.1 Dc.2; clear GD GE De Dc
 refine a_5 (s1 DR (c_5 rfl ty_25 (DR.ev rfl) (C9.bk 1 rfl) (l := [(iv 2), (Value.slice (some ⟨C, 0, none⟩) 1 1), (Value.slice none 0 0)]) rfl rfl) fun KA DS => ?_); clear DR J9
 refine s2 DS (b_2 rfl en_16 (ev2 DS.e (evc _ _)) (thin0_ok (j_9 t) (Value.slice (some ⟨C, 0, none⟩) 1 1) (Value.slice none 0 0) (fun _ => vr) (fun _ => vb) (fun _ => NILs0) _ (b_7 (C9.ok 0 _ rfl)) (p_3 _ _))) ?_
 rintro KB _ LK ⟨rfl, F2⟩ DT; have AC := C9.step F2; clear F2 DS C9 KA
 refine s1 DT (f_7 rfl DT.e) fun KC DU => ?_; clear DT KB
 refine s1 DU (a_1 rfl DU.e) fun Gq g => ?_; clear DU KC
 rcases Bool.eq_false_or_eq_true ((z_5 (j_9 t) 0)) with DC | DC
 ·skip
  rw [DC] at g
  have hth1 := (thin_iff.1 DC).1; have Ko : t.rows.length ≤ 12 ∧ t.brk.length ≤ 12 := hth1.tab 0
  refine s5 g (c_5 rfl ty_25 (g.ev rfl) (AC.bk 1 rfl) (l := [(iv 2), (Value.slice (some ⟨C, 0, none⟩) 1 1), (Value.slice none 0 0)]) rfl rfl) fun KD DV => ?_; clear g Gq
  refine s6 DV (b_2 rfl en_21 (ev1 DV.e) (rfault_ok (j_9 t) (Value.slice (some ⟨C, 0, none⟩) 1 1) (Value.slice none 0 0) (fun _ => vr) (fun _ => vb) (fun _ => NILs0) _ (b_7 (AC.ok 0 _ rfl)) (p_3 _ _) hth1)) ?_
  rintro KE _ LL ⟨rfl, F3⟩ DW; have AD := AC.step F3; clear F3 DV AC KD
  refine s5 DW (y_1 rfl DW.e (evc _ _)) fun KF Cu => ?_; clear DW KE
  refine s1 Cu (d_1 rfl Cu.e Cu.e) fun Gr Z => ?_; clear Cu KF
  refine n1 ?_
  by_cases Df : (f_6 (j_9 t)) = 0
  ·skip
   rw [decide_eq_true Df] at Z
   have GJ : f_6 (j_9 t) = 0 := Df; have Gw := back_check GJ; have hth2 := back_thin hth1; have hV := (q_1 GJ).tabs (fwdT t) (List.mem_singleton.2 rfl); have LG : 2 ≤ t.rows.length := hV.len; have hbrk : ∀ b ∈ t.brk, 0 ≤ b ∧ b ≤ (t.rows.length : Int) - 2 := hV.brk
   refine b_8 Z rfl (d_4 (b_1 (b_9 ?_)))
   have DX := Z.as [(5, (bptr B 0)), (2, (bptr E 0)), (1, (Value.int .u16 nv))] rfl; clear Z
   refine a_5 (s1 DX (a_3 rfl g_0 DX.e) fun KG DY => ?_); clear DX Gr
   refine s1 DY (a_4 rfl l_8 DY.e (AD.bk 2 rfl) rfl) fun KH DZ => ?_; clear DY KG
   refine s1 DZ (e_0 rfl l_9 DZ.e (AD.sk 3 rfl)) fun KI Da => ?_; clear DZ KH
   refine s1 Da (i_5 rfl Da.e (evc _ _) (by omega) (by omega)) fun KJ Db => ?_; clear Da KI
   refine s1 Db (a_0 rfl Db.e) fun KK Fw => ?_; clear Db KJ
   refine n4 (s1 Fw (e_1 rfl (pv2 (evc _ _) (evc _ _)) (bd_46_0i_1i _ _)) fun KL Fx => ?_); clear Fw KK
   refine s2 Fx (d_8 AD rfl ze_46 (cs := [(iv 0), (iv 0), (Value.slice none 0 0), (Value.slice none 0 0), (iv 0)]) rfl) ?_
   rintro KM _ LM ⟨D, rfl, GF⟩ Cy; clear Fx AD KL
   refine s7 Cy (b_6 GF rfl z_4 Cy.e Cy.e (i := 0) rfl (vs := [(iv 1), (iv 0), (Value.slice none 0 0), (Value.slice none 0 0), (iv 0)]) rfl rfl (g_8 rfl (g_8 rfl (g_8 rfl (g_8 rfl (g_8 rfl q_9))))) (Nat.le_of_ble_eq_true rfl)) ?_
   intro _ KV GG Fz; clear Cy
   have GH : Sep NoB w KV [(blk D 46 [(iv 1), (iv 0), (Value.slice none 0 0), (Value.slice none 0 0), (iv 0)]), (d_5 false (Value.slice (some ⟨C, 0, none⟩) 1 1) (fun _ => vr) (fun _ => vb) (j_9 t).tabs), (blk B 25 [(iv 2), (Value.slice (some ⟨C, 0, none⟩) 1 1), (Value.slice none 0 0)]), (blk E 46 [(iv 0), (iv 1), vr, vb, (iv 0)]), (sl vr 2 t.rows.length (pairs t.rows)), (sl vb 1 t.brk.length (ints t.brk))] := GG; clear GG GF
   refine n2 (m2 (s1 Fz (a_0 rfl (evc _ _)) fun KN F0 => ?_)); clear Fz KM
   refine n1 (c_6 ?_)
   have GI := GH.v_7 75 2; clear GH
   have F1 := F0.as [(8, (iv 0)), (7, (bptr D 0)), (6, (iv ((t.rows.length : Int) - 1))), (5, (bptr B 0)), (2, (bptr E 0)), (1, (Value.int .u16 nv))] rfl; clear F0
   refine h_7 (G := Nat) (fun (k : Nat) a_ w_ => ∃ vn75_ : Value, Fr 187 [] [(8, (iv (k : Int))), (7, (bptr D 0)), (6, (iv ((t.rows.length : Int) - 1))), (5, (bptr B 0)), (2, (bptr E 0)), (1, (Value.int .u16 nv))] a_ ∧ Sep NoB w w_ [(row vn75_ 75 2 ((l_7 t k).length) (pairs (l_7 t k))), (blk D 46 [(iv 1), (iv 0), vn75_, (Value.slice none 0 0), (iv 0)]), (d_5 false (Value.slice (some ⟨C, 0, none⟩) 1 1) (fun _ => vr) (fun _ => vb) (j_9 t).tabs), (blk B 25 [(iv 2), (Value.slice (some ⟨C, 0, none⟩) 1 1), (Value.slice none 0 0)]), (blk E 46 [(iv 0), (iv 1), vr, vb, (iv 0)]), (sl vr 2 t.rows.length (pairs t.rows)), (sl vb 1 t.brk.length (ints t.brk))] ∧ (k ≤ t.rows.length)) (fun k => t.rows.length - k) 0 ⟨(Value.slice none 0 0), F1.as _ rfl, (GI.h_2 (i := 0) rfl (by rfl) (by rfl)), (Nat.zero_le _)⟩ ?_
   clear F1 GI KN
   rintro k Gz Kp ⟨vn75_, A9, W, hkk⟩
   have hul_k : (l_7 t k).length = k := rowsU_len (by omega)
   refine b_9 (m2 (s1 A9 (a_1 rfl A9.e) fun G0 BA => ?_)); clear A9 Gz
   refine s1 BA (a_1 rfl BA.e) fun G1 AE => ?_; clear BA G0
   refine s1 AE (s_5 rfl AE.e AE.e) fun Fm S => ?_; clear AE G1
   refine n1 ?_
   by_cases Fe : (k : Int) ≤ ((t.rows.length : Int) - 1)
   ·skip
    rw [decide_eq_true Fe] at S
    refine c_0 S rfl (d_4 (b_1 (b_9 (c_6 (m2 (s1 S (a_3 rfl g_0 S.e) fun G2 BB => ?_)))))); clear S Fm
    refine s1 BB (a_4 rfl l_8 BB.e (W.bk 4 rfl) rfl) fun G3 BC => ?_; clear BB G2
    refine s1 BC (a_1 rfl BC.e) fun G4 AF => ?_; clear BC G3
    refine s1 AF (b_4 rfl l_9 o_3 AF.e (i := k) AF.e (W.sk 5 rfl) (by decide) (by omega)) fun G5 BD => ?_; clear AF G4
    refine s1 BD (e_6 rfl o_3 BD.e (W.sk 5 rfl) (h_4 (by omega)) rfl (by decide)) fun G6 Dj => ?_; clear BD G5
    refine s2 Dj (d_8 W rfl ze_75 (cs := [(iv 0), (iv 0)]) rfl) ?_
    rintro KX _ Kq ⟨f, rfl, E1⟩ AG; clear Dj W G6
    refine s7 AG (b_6 E1 rfl o_3 AG.e AG.e (i := 0) rfl (vs := [(iv ((t.rows.getD k (0, 0)).1)), (iv ((t.rows.getD k (0, 0)).2))]) rfl rfl rfl (Nat.le_of_ble_eq_true rfl)) ?_
    intro _ Jp E2 Dk; clear AG
    have E3 : Sep NoB w Jp [(blk f 75 [(iv ((t.rows.getD k (0, 0)).1)), (iv ((t.rows.getD k (0, 0)).2))]), (row vn75_ 75 2 ((l_7 t k).length) (pairs (l_7 t k))), (blk D 46 [(iv 1), (iv 0), vn75_, (Value.slice none 0 0), (iv 0)]), (d_5 false (Value.slice (some ⟨C, 0, none⟩) 1 1) (fun _ => vr) (fun _ => vb) (j_9 t).tabs), (blk B 25 [(iv 2), (Value.slice (some ⟨C, 0, none⟩) 1 1), (Value.slice none 0 0)]), (blk E 46 [(iv 0), (iv 1), vr, vb, (iv 0)]), (sl vr 2 t.rows.length (pairs t.rows)), (sl vb 1 t.brk.length (ints t.brk))] := E2; clear E2 E1
    refine n2 (b_9 ?_)
    have Dl := Dk.as [(9, (bptr f 0)), (8, (iv (k : Int))), (7, (bptr D 0)), (6, (iv ((t.rows.length : Int) - 1))), (5, (bptr B 0)), (2, (bptr E 0)), (1, (Value.int .u16 nv))] rfl; clear Dk
    have Dm := Dl.as [(9, (bptr f 0)), (8, (iv (k : Int))), (7, (bptr D 0)), (6, (iv ((t.rows.length : Int) - 1))), (5, (bptr B 0)), (2, (bptr E 0)), (1, (Value.int .u16 nv))] rfl; clear Dl
    refine i_2 mixed Dm E3 10 [[], [0], [1], [2], [3], [], [5], [6], [7], [8]] [(Yd.val (bptr E 2)), (Yd.val vr), (Yd.val (eptr vr (0 * 2))), (Yd.val (eptr vr (0 * 2 + 1))), (Yd.val (iv ((t.rows.getD 0 (0, 0)).2))), (Yd.val (bptr E 2)), (Yd.val vr), (Yd.val (eptr vr (1 * 2))), (Yd.val (eptr vr (1 * 2 + 1))), (Yd.val (iv ((t.rows.getD 1 (0, 0)).2)))] (by decide +kernel) rfl rfl ?_ ?_
    ·skip
     refine dq (fun a w hA hS hd => a_3 rfl g_0 hA.e) ?_
     refine dq (fun a w hA hS hd => a_4 rfl l_8 (hq hd 0) (hS.bk 5 rfl) rfl) ?_
     refine dq (fun a w hA hS hd => b_4 rfl l_9 o_3 (hq hd 1) (i := 0) (show _ = Value.int .i64 ((0 : Nat) : Int) from (evc _ _)) (hS.sk 6 rfl) (by decide) (by omega)) ?_
     refine dq (fun a w hA hS hd => e_2 rfl n_2 (hq hd 2) (hS.sk 6 rfl) (by rw [((hS.sk 6 rfl)).1]; first | omega | (simp only [List.length_set]; omega))) ?_
     refine dq (fun a w hA hS hd => d_0 rfl ty_3 (hq hd 3) (hS.sk 6 rfl) (i_6 (by omega))) ?_
     refine dq (fun a w hA hS hd => a_3 rfl g_0 hA.e) ?_
     refine dq (fun a w hA hS hd => a_4 rfl l_8 (hq hd 5) (hS.bk 5 rfl) rfl) ?_
     refine dq (fun a w hA hS hd => b_4 rfl l_9 o_3 (hq hd 6) (i := 1) (show _ = Value.int .i64 ((1 : Nat) : Int) from (evc _ _)) (hS.sk 6 rfl) (by decide) (by omega)) ?_
     refine dq (fun a w hA hS hd => e_2 rfl n_2 (hq hd 7) (hS.sk 6 rfl) (by rw [((hS.sk 6 rfl)).1]; first | omega | (simp only [List.length_set]; omega))) ?_
     refine dq (fun a w hA hS hd => d_0 rfl ty_3 (hq hd 8) (hS.sk 6 rfl) (i_6 (by omega))) ?_
     trivial
    intro G7 Kr Dn R Cz; clear Dm E3
    have Do := Dn.add (hz Cz 4); clear Dn
    have AH := Do.add (hz Cz 9); clear Do
    clear Cz
    refine s1 AH (l_1 rfl AH.e AH.e) fun Fn P => ?_; clear AH G7
    refine n1 ?_
    by_cases Ff : ((t.rows.getD 1 (0, 0)).2) < ((t.rows.getD 0 (0, 0)).2)
    ·skip
     rw [decide_eq_true Ff] at P
     refine c_0 P rfl (a_5 (s1 P (a_3 rfl g_0 P.e) fun G8 BE => ?_)); clear P Fn
     refine s1 BE (a_4 rfl l_8 BE.e (R.bk 5 rfl) rfl) fun G9 BF => ?_; clear BE G8
     refine s1 BF (a_1 rfl BF.e) fun HA BG => ?_; clear BF G9
     refine s1 BG (a_1 rfl BG.e) fun HB AI => ?_; clear BG HA
     refine s1 AI (i_5 rfl AI.e AI.e (by omega) (by omega)) fun HC AJ => ?_; clear AI HB
     refine s1 AJ (b_4 rfl l_9 o_3 AJ.e (i := (((t.rows.length : Int) - 1) - (k : Int)).toNat) (AJ.e.trans (k_8 (by omega))) (R.sk 6 rfl) (by decide) (by omega)) fun HD BH => ?_; clear AJ HC
     refine s1 BH (e_6 rfl o_3 BH.e (R.sk 6 rfl) (h_4 (by omega)) rfl (by decide)) fun HE AK => ?_; clear BH HD
     refine s7 AK (b_6 R rfl o_3 AK.e AK.e (i := 0) rfl (vs := [(iv ((t.rows.getD ((((t.rows.length : Int) - 1) - (k : Int)).toNat) (0, 0)).1)), (iv ((t.rows.getD ((((t.rows.length : Int) - 1) - (k : Int)).toNat) (0, 0)).2))]) rfl rfl rfl (Nat.le_of_ble_eq_true rfl)) ?_
     intro _ Jq E4 Dp; clear AK
     have z : Sep NoB w Jq [(blk f 75 [(iv ((t.rows.getD ((((t.rows.length : Int) - 1) - (k : Int)).toNat) (0, 0)).1)), (iv ((t.rows.getD ((((t.rows.length : Int) - 1) - (k : Int)).toNat) (0, 0)).2))]), (row vn75_ 75 2 ((l_7 t k).length) (pairs (l_7 t k))), (blk D 46 [(iv 1), (iv 0), vn75_, (Value.slice none 0 0), (iv 0)]), (d_5 false (Value.slice (some ⟨C, 0, none⟩) 1 1) (fun _ => vr) (fun _ => vb) (j_9 t).tabs), (blk B 25 [(iv 2), (Value.slice (some ⟨C, 0, none⟩) 1 1), (Value.slice none 0 0)]), (blk E 46 [(iv 0), (iv 1), vr, vb, (iv 0)]), (sl vr 2 t.rows.length (pairs t.rows)), (sl vb 1 t.brk.length (ints t.brk))] := E4; clear E4 R
     refine n1 ?_
     have BI := Dp.as [(9, (bptr f 0)), (8, (iv (k : Int))), (7, (bptr D 0)), (6, (iv ((t.rows.length : Int) - 1))), (5, (bptr B 0)), (2, (bptr E 0)), (1, (Value.int .u16 nv))] rfl; clear Dp
     refine a_5 (s1 BI (a_3 rfl g_0 BI.e) fun HF BJ => ?_); clear BI HE
     refine s1 BJ (a_4 rfl l_8 BJ.e (z.bk 2 rfl) rfl) fun HG BK => ?_; clear BJ HF
     refine s1 BK (a_3 rfl n_2 BK.e) fun HH BL => ?_; clear BK HG
     refine s1 BL (a_4 rfl ty_3 BL.e (z.bk 0 rfl) rfl) fun HI BM => ?_; clear BL HH
     refine s1 BM (a_3 rfl u_1 BM.e) fun HJ BN => ?_; clear BM HI
     refine s1 BN (a_4 rfl ty_3 BN.e (z.bk 0 rfl) rfl) fun HK AL => ?_; clear BN HJ
     refine s1 AL (e_1 rfl (pv2 AL.e AL.e) (bd_75_0i_1i _ _)) fun HL BO => ?_; clear AL HK
     refine s2 BO (f_4 z rfl (pv1 BO.e) l_9 o_3 ze_75 (by decide) (cs := [(iv ((t.rows.getD ((((t.rows.length : Int) - 1) - (k : Int)).toNat) (0, 0)).2)), (iv ((t.rows.getD ((((t.rows.length : Int) - 1) - (k : Int)).toNat) (0, 0)).1))]) (bs_75_1_0iia _ _)) ?_
     rintro HM _ Ks ⟨Jf, rfl, C2⟩ AM; clear BO z HL
     refine s2 AM (m_6 C2 rfl l_9 el_75 AM.e AM.e (i := 2) rfl (SlAt.of_blk (n := 1) (C2.bk 0 rfl) rfl (Nat.le_of_ble_eq_true rfl)) rfl (by simp only [maxLen]; omega) (by omega)) ?_
     intro HN DE Kt E5 BP
     have Aw := E5.h_2 (i := 2) rfl (n' := ((l_7 t k) ++ [((t.rows.getD ((((t.rows.length : Int) - 1) - (k : Int)).toNat) (0, 0)).2, (t.rows.getD ((((t.rows.length : Int) - 1) - (k : Int)).toNat) (0, 0)).1)]).length) (xs' := (pairs ((l_7 t k) ++ [((t.rows.getD ((((t.rows.length : Int) - 1) - (k : Int)).toNat) (0, 0)).2, (t.rows.getD ((((t.rows.length : Int) - 1) - (k : Int)).toNat) (0, 0)).1)]))) (by simp) (by simp [pairs]); clear E5 AM C2 HM
     refine s1 BP (a_3 rfl g_0 BP.e) fun HO AN => ?_; clear BP HN
     refine s7 AN (b_6 Aw rfl l_8 AN.e AN.e (i := 3) rfl (vs := [DE]) (m_9 (SlAt.isSl (SlAt.g_9 (Aw.i_1 2 rfl)))) rfl (g_8 (SlAt.one (SlAt.g_9 (Aw.i_1 2 rfl))) q_9) (Nat.le_of_ble_eq_true rfl)) ?_
     intro _ Jr E6 Dq; clear AN
     have E7 : Sep NoB w Jr [(blk Jf 75 [(iv ((t.rows.getD ((((t.rows.length : Int) - 1) - (k : Int)).toNat) (0, 0)).2)), (iv ((t.rows.getD ((((t.rows.length : Int) - 1) - (k : Int)).toNat) (0, 0)).1))]), (blk f 75 [(iv ((t.rows.getD ((((t.rows.length : Int) - 1) - (k : Int)).toNat) (0, 0)).1)), (iv ((t.rows.getD ((((t.rows.length : Int) - 1) - (k : Int)).toNat) (0, 0)).2))]), (row DE 75 2 (((l_7 t k) ++ [((t.rows.getD ((((t.rows.length : Int) - 1) - (k : Int)).toNat) (0, 0)).2, (t.rows.getD ((((t.rows.length : Int) - 1) - (k : Int)).toNat) (0, 0)).1)]).length) (pairs ((l_7 t k) ++ [((t.rows.getD ((((t.rows.length : Int) - 1) - (k : Int)).toNat) (0, 0)).2, (t.rows.getD ((((t.rows.length : Int) - 1) - (k : Int)).toNat) (0, 0)).1)]))), (blk D 46 [(iv 1), (iv 0), DE, (Value.slice none 0 0), (iv 0)]), (d_5 false (Value.slice (some ⟨C, 0, none⟩) 1 1) (fun _ => vr) (fun _ => vb) (j_9 t).tabs), (blk B 25 [(iv 2), (Value.slice (some ⟨C, 0, none⟩) 1 1), (Value.slice none 0 0)]), (blk E 46 [(iv 0), (iv 1), vr, vb, (iv 0)]), (sl vr 2 t.rows.length (pairs t.rows)), (sl vb 1 t.brk.length (ints t.brk))] := E6; clear E6 Aw
     refine e_8 (h_0 (b_1 ?_))
     have BQ := Dq.as [(8, (iv (k : Int))), (7, (bptr D 0)), (6, (iv ((t.rows.length : Int) - 1))), (5, (bptr B 0)), (2, (bptr E 0)), (1, (Value.int .u16 nv))] rfl; clear Dq
     refine a_5 (s1 BQ (a_1 rfl BQ.e) fun HP BR => ?_); clear BQ HO
     refine s1 BR (g_1 rfl BR.e (evc _ _) (by omega) (by omega)) fun HQ BS => ?_; clear BR HP
     refine s1 BS (a_0 rfl BS.e) fun KY GR => ?_; clear BS HQ
     refine e_8 ?_
     have hus_k : ((l_7 t k) ++ [((t.rows.getD ((((t.rows.length : Int) - 1) - (k : Int)).toNat) (0, 0)).2, (t.rows.getD ((((t.rows.length : Int) - 1) - (k : Int)).toNat) (0, 0)).1)]) = (l_7 t (k + 1)) := (rowsU_succ (by omega) (by rw [turn_t (by assumption) (by omega), show (((t.rows.length : Int) - 1) - (k : Int)).toNat = t.rows.length - 1 - k by omega]))
     have GV := E7.gkp (gpc 2 (gpc 3 (gpc 4 (gpc 5 (gpc 6 (gpc 7 (gpc 8 gpn))))))); clear E7
     exact b_1 ⟨k + 1, ⟨DE, GR.as _ rfl, (GV.h_2 (i := 0) rfl (by rw [hus_k]) (by rw [hus_k])), by omega⟩, by omega⟩
    skip
    rw [decide_eq_false Ff] at P
    refine b_8 P rfl (d_4 (b_1 (a_5 (s1 P (a_3 rfl g_0 P.e) fun HR BT => ?_)))); clear P Fn
    refine s1 BT (a_4 rfl l_8 BT.e (R.bk 2 rfl) rfl) fun HS BU => ?_; clear BT HR
    refine s1 BU (a_3 rfl n_2 BU.e) fun HT BV => ?_; clear BU HS
    refine s1 BV (a_4 rfl ty_3 BV.e (R.bk 0 rfl) rfl) fun HU BW => ?_; clear BV HT
    refine s1 BW (a_3 rfl u_1 BW.e) fun HV BX => ?_; clear BW HU
    refine s1 BX (a_4 rfl ty_3 BX.e (R.bk 0 rfl) rfl) fun HW AO => ?_; clear BX HV
    refine s1 AO (e_1 rfl (pv2 AO.e AO.e) (bd_75_0i_1i _ _)) fun HX BY => ?_; clear AO HW
    refine s2 BY (f_4 R rfl (pv1 BY.e) l_9 o_3 ze_75 (by decide) (cs := [(iv ((t.rows.getD k (0, 0)).2)), (iv ((t.rows.getD k (0, 0)).1))]) (bs_75_1_0iia _ _)) ?_
    rintro HY _ Ku ⟨Jg, rfl, C3⟩ AP; clear BY R HX
    refine s2 AP (m_6 C3 rfl l_9 el_75 AP.e AP.e (i := 2) rfl (SlAt.of_blk (n := 1) (C3.bk 0 rfl) rfl (Nat.le_of_ble_eq_true rfl)) rfl (by simp only [maxLen]; omega) (by omega)) ?_
    intro HZ DF Kv E8 BZ
    have Ax := E8.h_2 (i := 2) rfl (n' := ((l_7 t k) ++ [((t.rows.getD k (0, 0)).2, (t.rows.getD k (0, 0)).1)]).length) (xs' := (pairs ((l_7 t k) ++ [((t.rows.getD k (0, 0)).2, (t.rows.getD k (0, 0)).1)]))) (by simp) (by simp [pairs]); clear E8 AP C3 HY
    refine s1 BZ (a_3 rfl g_0 BZ.e) fun Ha AQ => ?_; clear BZ HZ
    refine s7 AQ (b_6 Ax rfl l_8 AQ.e AQ.e (i := 3) rfl (vs := [DF]) (m_9 (SlAt.isSl (SlAt.g_9 (Ax.i_1 2 rfl)))) rfl (g_8 (SlAt.one (SlAt.g_9 (Ax.i_1 2 rfl))) q_9) (Nat.le_of_ble_eq_true rfl)) ?_
    intro _ Js E9 Dr; clear AQ
    have FA : Sep NoB w Js [(blk Jg 75 [(iv ((t.rows.getD k (0, 0)).2)), (iv ((t.rows.getD k (0, 0)).1))]), (blk f 75 [(iv ((t.rows.getD k (0, 0)).1)), (iv ((t.rows.getD k (0, 0)).2))]), (row DF 75 2 (((l_7 t k) ++ [((t.rows.getD k (0, 0)).2, (t.rows.getD k (0, 0)).1)]).length) (pairs ((l_7 t k) ++ [((t.rows.getD k (0, 0)).2, (t.rows.getD k (0, 0)).1)]))), (blk D 46 [(iv 1), (iv 0), DF, (Value.slice none 0 0), (iv 0)]), (d_5 false (Value.slice (some ⟨C, 0, none⟩) 1 1) (fun _ => vr) (fun _ => vb) (j_9 t).tabs), (blk B 25 [(iv 2), (Value.slice (some ⟨C, 0, none⟩) 1 1), (Value.slice none 0 0)]), (blk E 46 [(iv 0), (iv 1), vr, vb, (iv 0)]), (sl vr 2 t.rows.length (pairs t.rows)), (sl vb 1 t.brk.length (ints t.brk))] := E9; clear E9 Ax
    refine e_8 (h_0 (b_1 ?_))
    have Ba := Dr.as [(8, (iv (k : Int))), (7, (bptr D 0)), (6, (iv ((t.rows.length : Int) - 1))), (5, (bptr B 0)), (2, (bptr E 0)), (1, (Value.int .u16 nv))] rfl; clear Dr
    refine a_5 (s1 Ba (a_1 rfl Ba.e) fun Hb Bb => ?_); clear Ba Ha
    refine s1 Bb (g_1 rfl Bb.e (evc _ _) (by omega) (by omega)) fun Hc Bc => ?_; clear Bb Hb
    refine s1 Bc (a_0 rfl Bc.e) fun KZ GS => ?_; clear Bc Hc
    refine e_8 ?_
    have hus_k : ((l_7 t k) ++ [((t.rows.getD k (0, 0)).2, (t.rows.getD k (0, 0)).1)]) = (l_7 t (k + 1)) := (rowsU_succ (by omega) (turn_f (by assumption)))
    have GW := FA.gkp (gpc 2 (gpc 3 (gpc 4 (gpc 5 (gpc 6 (gpc 7 (gpc 8 gpn))))))); clear FA
    exact b_1 ⟨k + 1, ⟨DF, GS.as _ rfl, (GW.h_2 (i := 0) rfl (by rw [hus_k]) (by rw [hus_k])), by omega⟩, by omega⟩
   skip
   rw [decide_eq_false Fe] at S
   refine b_8 S rfl (h_6 (b_5 (b_5 (f_9 (b_1 (b_9 (m2 (s1 S (a_0 rfl (evc _ _)) fun Hd Ds => ?_)))))))); clear S Fm
   refine n1 (c_6 ?_)
   have FB := W.v_7 3 1; clear W
   have Dt := Ds.as [(10, (iv 0)), (7, (bptr D 0)), (6, (iv ((t.rows.length : Int) - 1))), (5, (bptr B 0)), (2, (bptr E 0)), (1, (Value.int .u16 nv))] rfl; clear Ds
   refine h_7 (G := Nat) (fun (q : Nat) a_ w_ => ∃ vn3_ : Value, Fr 187 [] [(10, (iv (q : Int))), (7, (bptr D 0)), (6, (iv ((t.rows.length : Int) - 1))), (5, (bptr B 0)), (2, (bptr E 0)), (1, (Value.int .u16 nv))] a_ ∧ Sep NoB w w_ [(row vn3_ 3 1 ((brkU t q).length) (ints (brkU t q))), (row vn75_ 75 2 ((l_7 t k).length) (pairs (l_7 t k))), (blk D 46 [(iv 1), (iv 0), vn75_, vn3_, (iv 0)]), (d_5 false (Value.slice (some ⟨C, 0, none⟩) 1 1) (fun _ => vr) (fun _ => vb) (j_9 t).tabs), (blk B 25 [(iv 2), (Value.slice (some ⟨C, 0, none⟩) 1 1), (Value.slice none 0 0)]), (blk E 46 [(iv 0), (iv 1), vr, vb, (iv 0)]), (sl vr 2 t.rows.length (pairs t.rows)), (sl vb 1 t.brk.length (ints t.brk))] ∧ (q ≤ t.brk.length)) (fun q => t.brk.length - q) 0 ⟨(Value.slice none 0 0), Dt.as _ rfl, (FB.h_2 (i := 0) rfl (by rw [brkU_zero]; rfl) (by rw [brkU_zero]; rfl)), (Nat.zero_le _)⟩ ?_
   clear Dt FB Hd
   rintro q He GO ⟨vn3_, Bd, c, hkq⟩
   have hul_q : (brkU t q).length = q := brkU_len (by omega)
   refine b_9 (m2 (s1 Bd (a_1 rfl Bd.e) fun Hf Be => ?_)); clear Bd He
   refine s1 Be (a_3 rfl n_9 Be.e) fun Hg Bf => ?_; clear Be Hf
   refine s1 Bf (a_4 rfl w_1 Bf.e (c.bk 5 rfl) rfl) fun Hh Bg => ?_; clear Bf Hg
   refine s1 Bg (e_0 rfl n_0 Bg.e (c.sk 7 rfl)) fun Hi AR => ?_; clear Bg Hh
   refine s1 AR (g_2 rfl AR.e AR.e) fun Hj U => ?_; clear AR Hi
   refine n1 ?_
   by_cases Fg : (q : Int) < (t.brk.length : Int)
   ·skip
    rw [decide_eq_true Fg] at U
    have hbq := hbrk _ (n_4 (l := t.brk) (d := 0) (show q < t.brk.length by omega))
    refine c_0 U rfl (d_4 (b_1 (b_9 (c_6 (b_9 ?_)))))
    have Du := U.as [(10, (iv (q : Int))), (7, (bptr D 0)), (6, (iv ((t.rows.length : Int) - 1))), (5, (bptr B 0)), (2, (bptr E 0)), (1, (Value.int .u16 nv))] rfl; clear U
    refine i_2 mixed Du c 10 [[], [0], [1], [2], [3], [], [5], [6], [7], [8]] [(Yd.val (bptr E 2)), (Yd.val vr), (Yd.val (eptr vr (0 * 2))), (Yd.val (eptr vr (0 * 2 + 1))), (Yd.val (iv ((t.rows.getD 0 (0, 0)).2))), (Yd.val (bptr E 2)), (Yd.val vr), (Yd.val (eptr vr (1 * 2))), (Yd.val (eptr vr (1 * 2 + 1))), (Yd.val (iv ((t.rows.getD 1 (0, 0)).2)))] (by decide +kernel) rfl rfl ?_ ?_
    ·skip
     refine dq (fun a w hA hS hd => a_3 rfl g_0 hA.e) ?_
     refine dq (fun a w hA hS hd => a_4 rfl l_8 (hq hd 0) (hS.bk 5 rfl) rfl) ?_
     refine dq (fun a w hA hS hd => b_4 rfl l_9 o_3 (hq hd 1) (i := 0) (show _ = Value.int .i64 ((0 : Nat) : Int) from (evc _ _)) (hS.sk 6 rfl) (by decide) (by omega)) ?_
     refine dq (fun a w hA hS hd => e_2 rfl n_2 (hq hd 2) (hS.sk 6 rfl) (by rw [((hS.sk 6 rfl)).1]; first | omega | (simp only [List.length_set]; omega))) ?_
     refine dq (fun a w hA hS hd => d_0 rfl ty_3 (hq hd 3) (hS.sk 6 rfl) (i_6 (by omega))) ?_
     refine dq (fun a w hA hS hd => a_3 rfl g_0 hA.e) ?_
     refine dq (fun a w hA hS hd => a_4 rfl l_8 (hq hd 5) (hS.bk 5 rfl) rfl) ?_
     refine dq (fun a w hA hS hd => b_4 rfl l_9 o_3 (hq hd 6) (i := 1) (show _ = Value.int .i64 ((1 : Nat) : Int) from (evc _ _)) (hS.sk 6 rfl) (by decide) (by omega)) ?_
     refine dq (fun a w hA hS hd => e_2 rfl n_2 (hq hd 7) (hS.sk 6 rfl) (by rw [((hS.sk 6 rfl)).1]; first | omega | (simp only [List.length_set]; omega))) ?_
     refine dq (fun a w hA hS hd => d_0 rfl ty_3 (hq hd 8) (hS.sk 6 rfl) (i_6 (by omega))) ?_
     trivial
    intro Hk Kw Dv Ay C0; clear Du c
    have Dw := Dv.add (hz C0 4); clear Dv
    have AS := Dw.add (hz C0 9); clear Dw
    clear C0
    refine s1 AS (l_1 rfl AS.e AS.e) fun Ka V => ?_; clear AS Hk
    refine n1 ?_
    by_cases Fh : ((t.rows.getD 1 (0, 0)).2) < ((t.rows.getD 0 (0, 0)).2)
    ·skip
     rw [decide_eq_true Fh] at V
     refine c_0 V rfl ?_
     have Dx := V.as [(10, (iv (q : Int))), (7, (bptr D 0)), (6, (iv ((t.rows.length : Int) - 1))), (5, (bptr B 0)), (2, (bptr E 0)), (1, (Value.int .u16 nv))] rfl; clear V
     refine x_2 mixed Dx Ay 11 [[], [0], [], [2], [], [3, 4], [5], [1, 6], [7], [], [9]] [(yw (iv ((t.rows.length : Int) - 1))), (yw (iv (((t.rows.length : Int) - 1) - 1))), (yw (bptr E 3)), (yw vb), (yw (iv (q : Int))), (yw (eptr vb (q * 1))), (yw (iv (t.brk.getD q 0))), (yw (iv ((((t.rows.length : Int) - 1) - 1) - (t.brk.getD q 0)))), (fun (J : Nat → Value) (v_ : Value) (rs_ : List Res) => True ∧ rs_ = [(row v_ 3 1 1 [(iv ((((t.rows.length : Int) - 1) - 1) - (t.brk.getD q 0)))])]), (yw (bptr D 3)), (yw vn3_)] (by decide +kernel) (by decide +kernel) rfl rfl ⟨dw, dw, dw, dw, dw, dw, dw, dw, (fun _ _ _ _ _ h_ => h_), dw, dw, trivial⟩ ?_ ?_
     ·skip
      refine ⟨fun a w J hA hS hd => gv1 (a_1 rfl hA.e), ?_⟩
      refine ⟨fun a w J hA hS hd => gv1 (i_5 rfl (gu hd 0) (evc _ _) (by omega) (by omega)), ?_⟩
      refine ⟨fun a w J hA hS hd => gv1 (a_3 rfl n_9 hA.e), ?_⟩
      refine ⟨fun a w J hA hS hd => gv1 (a_4 rfl w_1 (gu hd 2) (hS.bk 5 rfl) rfl), ?_⟩
      refine ⟨fun a w J hA hS hd => gv1 (a_1 rfl hA.e), ?_⟩
      refine ⟨fun a w J hA hS hd => gv1 (b_4 rfl n_0 ty_3 (gu hd 3) (i := q) (gu hd 4) (hS.sk 7 rfl) (by decide) (by omega)), ?_⟩
      refine ⟨fun a w J hA hS hd => gv1 (d_0 rfl ty_3 (gu hd 5) (hS.sk 7 rfl) (ints_at (by omega))), ?_⟩
      refine ⟨fun a w J hA hS hd => gv1 (i_5 rfl (gu hd 1) (gu hd 6) (by omega) (by omega)), ?_⟩
      refine ⟨fun a w J hA hS hd => d_6 rfl (vblt rfl (pv1 (gu hd 7)) n_0 ty_3 ze_3 (by decide) (cs := [(iv ((((t.rows.length : Int) - 1) - 1) - (t.brk.getD q 0)))]) (bs_3_1_0i _) rfl (by decide) (fun _ => And.intro trivial rfl)), ?_⟩
      refine ⟨fun a w J hA hS hd => gv1 (a_3 rfl n_9 hA.e), ?_⟩
      refine ⟨fun a w J hA hS hd => gv1 (a_4 rfl w_1 (gu hd 9) (hS.bk 2 rfl) rfl), ?_⟩
      trivial
     intro Fo Jt J rsf278 Dy M C4; clear Dx Ay
     obtain ⟨GN, Jo⟩ := M 8 (by decide)
     obtain ⟨Jm, GL⟩ := Jo
     have C5 : Sep NoB w Jt [(row (J 8) 3 1 1 [(iv ((((t.rows.length : Int) - 1) - 1) - (t.brk.getD q 0)))]), (row vn3_ 3 1 ((brkU t q).length) (ints (brkU t q))), (row vn75_ 75 2 ((l_7 t k).length) (pairs (l_7 t k))), (blk D 46 [(iv 1), (iv 0), vn75_, vn3_, (iv 0)]), (d_5 false (Value.slice (some ⟨C, 0, none⟩) 1 1) (fun _ => vr) (fun _ => vb) (j_9 t).tabs), (blk B 25 [(iv 2), (Value.slice (some ⟨C, 0, none⟩) 1 1), (Value.slice none 0 0)]), (blk E 46 [(iv 0), (iv 1), vr, vb, (iv 0)]), (sl vr 2 t.rows.length (pairs t.rows)), (sl vb 1 t.brk.length (ints t.brk))] := by rw [show catR rsf278 0 11 = ([(row (J 8) 3 1 1 [(iv ((((t.rows.length : Int) - 1) - 1) - (t.brk.getD q 0)))])] : List Res) by (try simp only [catR, gr (M 0 (by decide)), gr (M 1 (by decide)), gr (M 2 (by decide)), gr (M 3 (by decide)), gr (M 4 (by decide)), gr (M 5 (by decide)), gr (M 6 (by decide)), gr (M 7 (by decide)), GL, gr (M 9 (by decide)), gr (M 10 (by decide))]); (try rfl)] at C4; exact C4
     have Dz : Fr 187 [] [(100, (J 8)), (10, (iv (q : Int))), (7, (bptr D 0)), (6, (iv ((t.rows.length : Int) - 1))), (5, (bptr B 0)), (2, (bptr E 0)), (1, (Value.int .u16 nv))] Fo := Dy.add (j_0 GN rfl); clear Dy
     have AT := Dz.add (gs (M 10 (by decide))); clear Dz
     clear M C4 GN
     clear GL
     clear Jm
     refine s2 AT (m_6 C5 rfl n_0 el_3 AT.e AT.e (i := 0) rfl (SlAt.g_9 (C5.i_1 1 rfl)) (ints_one _) (by simp only [maxLen]; omega) (by omega)) ?_
     intro Hl DG Kx FC Bh
     have Az := FC.h_2 (i := 0) rfl (n' := ([(((t.rows.length : Int) - 1) - 1) - (t.brk.getD q 0)] ++ (brkU t q)).length) (xs' := (ints ([(((t.rows.length : Int) - 1) - 1) - (t.brk.getD q 0)] ++ (brkU t q)))) (by simp [Nat.add_comm]) (by simp [ints]); clear FC AT C5 Fo
     refine s1 Bh (a_3 rfl n_9 Bh.e) fun Hm AU => ?_; clear Bh Hl
     refine s7 AU (b_6 Az rfl w_1 AU.e AU.e (i := 3) rfl (vs := [DG]) (m_9 (SlAt.isSl (SlAt.g_9 (Az.i_1 0 rfl)))) rfl (g_8 (SlAt.one (SlAt.g_9 (Az.i_1 0 rfl))) q_9) (Nat.le_of_ble_eq_true rfl)) ?_
     intro _ Ju FD Bi; clear AU
     have FE : Sep NoB w Ju [(row DG 3 1 (([(((t.rows.length : Int) - 1) - 1) - (t.brk.getD q 0)] ++ (brkU t q)).length) (ints ([(((t.rows.length : Int) - 1) - 1) - (t.brk.getD q 0)] ++ (brkU t q)))), (row vn3_ 3 1 ((brkU t q).length) (ints (brkU t q))), (row vn75_ 75 2 ((l_7 t k).length) (pairs (l_7 t k))), (blk D 46 [(iv 1), (iv 0), vn75_, DG, (iv 0)]), (d_5 false (Value.slice (some ⟨C, 0, none⟩) 1 1) (fun _ => vr) (fun _ => vb) (j_9 t).tabs), (blk B 25 [(iv 2), (Value.slice (some ⟨C, 0, none⟩) 1 1), (Value.slice none 0 0)]), (blk E 46 [(iv 0), (iv 1), vr, vb, (iv 0)]), (sl vr 2 t.rows.length (pairs t.rows)), (sl vb 1 t.brk.length (ints t.brk))] := FD; clear FD Az
     refine e_8 (h_0 (b_1 (a_5 (s1 Bi (a_1 rfl Bi.e) fun Hn Bj => ?_)))); clear Bi Hm
     refine s1 Bj (g_1 rfl Bj.e (evc _ _) (by omega) (by omega)) fun Ho Bk => ?_; clear Bj Hn
     refine s1 Bk (a_0 rfl Bk.e) fun Kb GT => ?_; clear Bk Ho
     refine e_8 ?_
     have hus_q : ([(((t.rows.length : Int) - 1) - 1) - (t.brk.getD q 0)] ++ (brkU t q)) = (brkU t (q + 1)) := (brkU_t (by assumption) (by omega))
     have GX := FE.gkp (gpc 0 (gpc 2 (gpc 3 (gpc 4 (gpc 5 (gpc 6 (gpc 7 (gpc 8 gpn)))))))); clear FE
     exact b_1 ⟨q + 1, ⟨DG, GT.as _ rfl, (GX.h_2 (i := 0) rfl (by rw [hus_q]) (by rw [hus_q])), by omega⟩, by omega⟩
    skip
    rw [decide_eq_false Fh] at V
    refine b_8 V rfl ?_
    have D0 := V.as [(10, (iv (q : Int))), (7, (bptr D 0)), (6, (iv ((t.rows.length : Int) - 1))), (5, (bptr B 0)), (2, (bptr E 0)), (1, (Value.int .u16 nv))] rfl; clear V
    refine x_2 mixed D0 Ay 8 [[], [0], [], [2], [], [3, 4], [5], [6]] [(yw (bptr D 3)), (yw vn3_), (yw (bptr E 3)), (yw vb), (yw (iv (q : Int))), (yw (eptr vb (q * 1))), (yw (iv (t.brk.getD q 0))), (fun (N : Nat → Value) (v_ : Value) (rs_ : List Res) => True ∧ rs_ = [(row v_ 3 1 1 [(iv (t.brk.getD q 0))])])] (by decide +kernel) (by decide +kernel) rfl rfl ⟨dw, dw, dw, dw, dw, dw, dw, (fun _ _ _ _ _ h_ => h_), trivial⟩ ?_ ?_
    ·skip
     refine ⟨fun a w N hA hS hd => gv1 (a_3 rfl n_9 hA.e), ?_⟩
     refine ⟨fun a w N hA hS hd => gv1 (a_4 rfl w_1 (gu hd 0) (hS.bk 2 rfl) rfl), ?_⟩
     refine ⟨fun a w N hA hS hd => gv1 (a_3 rfl n_9 hA.e), ?_⟩
     refine ⟨fun a w N hA hS hd => gv1 (a_4 rfl w_1 (gu hd 2) (hS.bk 5 rfl) rfl), ?_⟩
     refine ⟨fun a w N hA hS hd => gv1 (a_1 rfl hA.e), ?_⟩
     refine ⟨fun a w N hA hS hd => gv1 (b_4 rfl n_0 ty_3 (gu hd 3) (i := q) (gu hd 4) (hS.sk 7 rfl) (by decide) (by omega)), ?_⟩
     refine ⟨fun a w N hA hS hd => gv1 (d_0 rfl ty_3 (gu hd 5) (hS.sk 7 rfl) (ints_at (by omega))), ?_⟩
     refine ⟨fun a w N hA hS hd => d_6 rfl (vblt rfl (pv1 (gu hd 6)) n_0 ty_3 ze_3 (by decide) (cs := [(iv (t.brk.getD q 0))]) (bs_3_1_0i _) rfl (by decide) (fun _ => And.intro trivial rfl)), ?_⟩
     trivial
    intro Fp Jv N rsf308 D1 Q C6; clear D0 Ay
    obtain ⟨GM, Jn⟩ := Q 7 (by decide)
    obtain ⟨Jl, GK⟩ := Jn
    have C7 : Sep NoB w Jv [(row (N 7) 3 1 1 [(iv (t.brk.getD q 0))]), (row vn3_ 3 1 ((brkU t q).length) (ints (brkU t q))), (row vn75_ 75 2 ((l_7 t k).length) (pairs (l_7 t k))), (blk D 46 [(iv 1), (iv 0), vn75_, vn3_, (iv 0)]), (d_5 false (Value.slice (some ⟨C, 0, none⟩) 1 1) (fun _ => vr) (fun _ => vb) (j_9 t).tabs), (blk B 25 [(iv 2), (Value.slice (some ⟨C, 0, none⟩) 1 1), (Value.slice none 0 0)]), (blk E 46 [(iv 0), (iv 1), vr, vb, (iv 0)]), (sl vr 2 t.rows.length (pairs t.rows)), (sl vb 1 t.brk.length (ints t.brk))] := by rw [show catR rsf308 0 8 = ([(row (N 7) 3 1 1 [(iv (t.brk.getD q 0))])] : List Res) by (try simp only [catR, gr (Q 0 (by decide)), gr (Q 1 (by decide)), gr (Q 2 (by decide)), gr (Q 3 (by decide)), gr (Q 4 (by decide)), gr (Q 5 (by decide)), gr (Q 6 (by decide)), GK]); (try rfl)] at C6; exact C6
    have D2 := D1.add (gs (Q 1 (by decide))); clear D1
    have AV : Fr 187 [] [(112, (N 7)), (106, vn3_), (10, (iv (q : Int))), (7, (bptr D 0)), (6, (iv ((t.rows.length : Int) - 1))), (5, (bptr B 0)), (2, (bptr E 0)), (1, (Value.int .u16 nv))] Fp := D2.add (j_0 GM rfl); clear D2
    clear Q C6 GM
    clear GK
    clear Jl
    refine s2 AV (m_6 C7 rfl n_0 el_3 AV.e AV.e (i := 1) rfl (SlAt.g_9 (C7.i_1 0 rfl)) rfl (by simp only [maxLen]; omega) (by omega)) ?_
    intro Hp DH Ky FF Bl
    have A0 := FF.h_2 (i := 1) rfl (n' := ((brkU t q) ++ [t.brk.getD q 0]).length) (xs' := (ints ((brkU t q) ++ [t.brk.getD q 0]))) (by simp) (by simp [ints]); clear FF AV C7 Fp
    refine s1 Bl (a_3 rfl n_9 Bl.e) fun Hq AW => ?_; clear Bl Hp
    refine s7 AW (b_6 A0 rfl w_1 AW.e AW.e (i := 3) rfl (vs := [DH]) (m_9 (SlAt.isSl (SlAt.g_9 (A0.i_1 1 rfl)))) rfl (g_8 (SlAt.one (SlAt.g_9 (A0.i_1 1 rfl))) q_9) (Nat.le_of_ble_eq_true rfl)) ?_
    intro _ Jw FG Bm; clear AW
    have FH : Sep NoB w Jw [(row (N 7) 3 1 1 [(iv (t.brk.getD q 0))]), (row DH 3 1 (((brkU t q) ++ [t.brk.getD q 0]).length) (ints ((brkU t q) ++ [t.brk.getD q 0]))), (row vn75_ 75 2 ((l_7 t k).length) (pairs (l_7 t k))), (blk D 46 [(iv 1), (iv 0), vn75_, DH, (iv 0)]), (d_5 false (Value.slice (some ⟨C, 0, none⟩) 1 1) (fun _ => vr) (fun _ => vb) (j_9 t).tabs), (blk B 25 [(iv 2), (Value.slice (some ⟨C, 0, none⟩) 1 1), (Value.slice none 0 0)]), (blk E 46 [(iv 0), (iv 1), vr, vb, (iv 0)]), (sl vr 2 t.rows.length (pairs t.rows)), (sl vb 1 t.brk.length (ints t.brk))] := FG; clear FG A0
    refine e_8 (h_0 (b_1 (a_5 (s1 Bm (a_1 rfl Bm.e) fun Hr Bn => ?_)))); clear Bm Hq
    refine s1 Bn (g_1 rfl Bn.e (evc _ _) (by omega) (by omega)) fun Hs Bo => ?_; clear Bn Hr
    refine s1 Bo (a_0 rfl Bo.e) fun Kc GU => ?_; clear Bo Hs
    refine e_8 ?_
    have hus_q : ((brkU t q) ++ [t.brk.getD q 0]) = (brkU t (q + 1)) := (brkU_f (by assumption) (by omega))
    have GY := FH.gkp (gpc 1 (gpc 2 (gpc 3 (gpc 4 (gpc 5 (gpc 6 (gpc 7 (gpc 8 gpn)))))))); clear FH
    exact b_1 ⟨q + 1, ⟨DH, GU.as _ rfl, (GY.h_2 (i := 0) rfl (by rw [hus_q]) (by rw [hus_q])), by omega⟩, by omega⟩
   skip
   rw [decide_eq_false Fg] at U
   refine b_8 U rfl (h_6 (b_5 (b_5 (f_9 (b_1 (b_9 ?_))))))
   have Bp := U.as [(7, (bptr D 0)), (5, (bptr B 0)), (1, (Value.int .u16 nv))] rfl; clear U
   have FI := c.h_2 (i := 1) rfl (n' := (g_4 t).rows.length) (xs' := pairs (g_4 t).rows) (by rw [show k = t.rows.length by omega]; rfl) (by rw [show k = t.rows.length by omega]; rfl)
   have FJ : Sep NoB w GO [(row vn3_ 3 1 ((brkU t q).length) (ints (brkU t q))), (sl vn75_ 2 ((g_4 t).rows.length) (pairs ((g_4 t).rows))), (blk D 46 [(iv 1), (iv 0), vn75_, vn3_, (iv 0)]), (d_5 false (Value.slice (some ⟨C, 0, none⟩) 1 1) (fun _ => vr) (fun _ => vb) (j_9 t).tabs), (blk B 25 [(iv 2), (Value.slice (some ⟨C, 0, none⟩) 1 1), (Value.slice none 0 0)]), (blk E 46 [(iv 0), (iv 1), vr, vb, (iv 0)]), (sl vr 2 t.rows.length (pairs t.rows)), (sl vb 1 t.brk.length (ints t.brk))] := sep_row_sl FI (i := 1) rfl; clear c FI
   have FK := FJ.h_2 (i := 0) rfl (n' := (g_4 t).brk.length) (xs' := ints (g_4 t).brk) (by rw [show q = t.brk.length by omega]; rfl) (by rw [show q = t.brk.length by omega]; rfl)
   have A1 : Sep NoB w GO [(sl vn3_ 1 ((g_4 t).brk.length) (ints ((g_4 t).brk))), (sl vn75_ 2 ((g_4 t).rows.length) (pairs ((g_4 t).rows))), (blk D 46 [(iv 1), (iv 0), vn75_, vn3_, (iv 0)]), (d_5 false (Value.slice (some ⟨C, 0, none⟩) 1 1) (fun _ => vr) (fun _ => vb) (j_9 t).tabs), (blk B 25 [(iv 2), (Value.slice (some ⟨C, 0, none⟩) 1 1), (Value.slice none 0 0)]), (blk E 46 [(iv 0), (iv 1), vr, vb, (iv 0)]), (sl vr 2 t.rows.length (pairs t.rows)), (sl vb 1 t.brk.length (ints t.brk))] := sep_row_sl FK (i := 0) rfl; clear FJ FK
   refine a_5 (s1 Bp (a_3 rfl p_1 Bp.e) fun Ht Bq => ?_); clear Bp Hj
   refine s1 Bq (a_4 rfl z_3 Bq.e (A1.bk 4 rfl) rfl) fun Hu Br => ?_; clear Bq Ht
   refine s1 Br (c_5 rfl z_4 (Br.ev rfl) (A1.bk 2 rfl) (l := [(iv 1), (iv 0), vn75_, vn3_, (iv 0)]) rfl rfl) fun Hv Bs => ?_; clear Br Hu
   refine s2 Bs (f_4 A1 rfl (pv1 Bs.e) y_7 z_4 ze_46 (by decide) (cs := [(iv 1), (iv 0), vn75_, vn3_, (iv 0)]) (bs_46_1_0iivvia _ _ _ _ _)) ?_
   rintro Hw _ Kz ⟨Y, rfl, A2⟩ AX; clear Bs A1 Hv
   refine s2 AX (op_appendF (A := (some ⟨C, 0, none⟩)) (n := 1) rfl y_7 el_46 AX.e AX.e (b_7 (A2.ok 4 _ rfl)).tabs (by decide) (SlAt.of_blk (n := 1) (A2.bk 0 rfl) rfl (Nat.le_of_ble_eq_true rfl)) (by decide) (by decide) (by decide)) ?_
   rintro Hx F GP ⟨Eq, hO353⟩ Bt
   have C8 : Sep NoB w GP [(row F 46 5 (a_9 t).tabs.length (m_1 (putV 1 (fun _ => vr) vn75_) (putV 1 (fun _ => vb) vn3_) (a_9 t).tabs)), (blk Y 46 [(iv 1), (iv 0), vn75_, vn3_, (iv 0)]), (sl vn3_ 1 ((g_4 t).brk.length) (ints ((g_4 t).brk))), (sl vn75_ 2 ((g_4 t).rows.length) (pairs ((g_4 t).rows))), (blk D 46 [(iv 1), (iv 0), vn75_, vn3_, (iv 0)]), (d_5 false (Value.slice (some ⟨C, 0, none⟩) 1 1) (fun _ => vr) (fun _ => vb) (j_9 t).tabs), (blk B 25 [(iv 2), (Value.slice (some ⟨C, 0, none⟩) 1 1), (Value.slice none 0 0)]), (blk E 46 [(iv 0), (iv 1), vr, vb, (iv 0)]), (sl vr 2 t.rows.length (pairs t.rows)), (sl vb 1 t.brk.length (ints t.brk))] := (A2.new_row Eq hO353).h_2 (i := 0) rfl rfl (tabs_snoc (lr := fun _ => vr) (lb := fun _ => vb) (ts := [fwdT t]) (g_4 t) vn75_ vn3_); clear Eq hO353 AX A2 Hw
   have C1 := snoc_ro (ts := [fwdT t]) (tb := g_4 t) C8.tail (i := 4) (j := 2) (k := 1) rfl rfl rfl
   have A3 : Sep NoB w GP [(d_5 false F (putV 1 (fun _ => vr) vn75_) (putV 1 (fun _ => vb) vn3_) (a_9 t).tabs), (blk Y 46 [(iv 1), (iv 0), vn75_, vn3_, (iv 0)]), (sl vn3_ 1 ((g_4 t).brk.length) (ints ((g_4 t).brk))), (sl vn75_ 2 ((g_4 t).rows.length) (pairs ((g_4 t).rows))), (blk D 46 [(iv 1), (iv 0), vn75_, vn3_, (iv 0)]), (d_5 false (Value.slice (some ⟨C, 0, none⟩) 1 1) (fun _ => vr) (fun _ => vb) (j_9 t).tabs), (blk B 25 [(iv 2), (Value.slice (some ⟨C, 0, none⟩) 1 1), (Value.slice none 0 0)]), (blk E 46 [(iv 0), (iv 1), vr, vb, (iv 0)]), (sl vr 2 t.rows.length (pairs t.rows)), (sl vb 1 t.brk.length (ints t.brk))] := sep_tabs_ro C8 C1.1 C1.2; clear C8 C1
   refine s1 Bt (a_3 rfl p_1 Bt.e) fun Hy AY => ?_; clear Bt Hx
   refine s7 AY (b_6 A3 rfl z_3 AY.e AY.e (i := 6) rfl (vs := [F]) (m_9 (SlAt.isSl (b_7 (A3.ok 0 _ rfl)).tabs)) rfl (g_8 (SlAt.one (b_7 (A3.ok 0 _ rfl)).tabs) q_9) (Nat.le_of_ble_eq_true rfl)) ?_
   intro _ Jx FL D3; clear AY
   have A4 : Sep NoB w Jx [(d_5 false F (putV 1 (fun _ => vr) vn75_) (putV 1 (fun _ => vb) vn3_) (a_9 t).tabs), (blk Y 46 [(iv 1), (iv 0), vn75_, vn3_, (iv 0)]), (sl vn3_ 1 ((g_4 t).brk.length) (ints ((g_4 t).brk))), (sl vn75_ 2 ((g_4 t).rows.length) (pairs ((g_4 t).rows))), (blk D 46 [(iv 1), (iv 0), vn75_, vn3_, (iv 0)]), (d_5 false (Value.slice (some ⟨C, 0, none⟩) 1 1) (fun _ => vr) (fun _ => vb) (j_9 t).tabs), (blk B 25 [(iv 2), F, (Value.slice none 0 0)]), (blk E 46 [(iv 0), (iv 1), vr, vb, (iv 0)]), (sl vr 2 t.rows.length (pairs t.rows)), (sl vb 1 t.brk.length (ints t.brk))] := FL; clear FL A3
   refine n2 ?_
   have Bv := D3.as [(5, (bptr B 0)), (1, (Value.int .u16 nv))] rfl; clear D3
   refine a_5 (s1 Bv (a_1 rfl Bv.e) fun Hz Bw => ?_); clear Bv Hy
   refine s1 Bw (op_conv un_69 un_3 rfl Bw.e (v := nv) (wrap_i64 (by omega) (by omega))) fun H0 Bx => ?_; clear Bw Hz
   refine s1 Bx (a_0 rfl Bx.e) fun H1 By => ?_; clear Bx H0
   refine n4 (s1 By (c_5 rfl ty_25 (By.ev rfl) (A4.bk 6 rfl) (l := [(iv 2), F, (Value.slice none 0 0)]) rfl rfl) fun H2 Bz => ?_); clear By H1
   refine s2 Bz (b_2 rfl en_19 (ev1 Bz.e) (Book_ok (a_9 t) F (Value.slice none 0 0) (putV 1 (fun _ => vr) vn75_) (putV 1 (fun _ => vb) vn3_) (fun _ => NILs0) _ (b_7 (A4.ok 0 _ rfl)) (p_3 _ _) hth2)) ?_
   rintro H3 _ K0 ⟨vt374, vm375, lr376, lb377, lk378, rfl, Fb⟩ B0; have FM := A4.y_3 Fb rfl; clear Fb Bz A4 H2
   refine s1 B0 (a_1 rfl B0.e) fun H4 B1 => ?_; clear B0 H3
   refine s1 B1 (a_1 rfl B1.e) fun H5 AZ => ?_; clear B1 H4
   refine s2 AZ (b_2 rfl z_0 (ev2 AZ.e AZ.e) (j_1 _ _ _)) ?_
   rintro H6 _ K1 ⟨rfl, Er⟩ Aa; have A5 := FM.step Er; clear Er AZ FM H5
   refine s2 Aa (b_2 rfl en_18 (ev3 Aa.e (evc _ _) Aa.e) (Convert_ok (a_9 t) vt374 vm375 lr376 lb377 lk378 _ (b_7 (A5.ok 0 _ rfl)) (c_9 (A5.ok 1 _ rfl)) hth2 0 nv nv)) ?_
   rintro H7 _ K2 ⟨rfl, Es⟩ B2; have FN := A5.step Es; clear Es Aa A5 H6
   refine s1 B2 (a_1 rfl B2.e) fun H8 B3 => ?_; clear B2 H7
   refine s1 B3 (e_7 rfl B3.e rfl) fun H9 B4 => ?_; clear B3 H8
   refine s1 B4 (e_7 rfl B4.e rfl) fun IA D4 => ?_; clear B4 H9
   refine s2 D4 (d_8 FN rfl w_9 (cs := [(iv 0), (iv 0)]) rfl) ?_
   rintro IB _ K3 ⟨O, rfl, FO⟩ Ab; clear D4 FN IA
   refine s7 Ab (b_6 FO rfl f_5 Ab.e Ab.e (i := 0) rfl (vs := [(iv ((c_7 (a_9 t) 0 (nv, nv)).1)), (iv ((c_7 (a_9 t) 0 (nv, nv)).2))]) rfl rfl rfl (Nat.le_of_ble_eq_true rfl)) ?_
   intro _ Jy FP B5; clear Ab
   have H : Sep NoB w Jy [(blk O 30 [(iv ((c_7 (a_9 t) 0 (nv, nv)).1)), (iv ((c_7 (a_9 t) 0 (nv, nv)).2))]), (d_5 true vt374 lr376 lb377 (a_9 t).tabs), (f_0 true vm375 lk378 (a_9 t).macs), (d_5 false F (putV 1 (fun _ => vr) vn75_) (putV 1 (fun _ => vb) vn3_) (a_9 t).tabs), (blk Y 46 [(iv 1), (iv 0), vn75_, vn3_, (iv 0)]), (sl vn3_ 1 ((g_4 t).brk.length) (ints ((g_4 t).brk))), (sl vn75_ 2 ((g_4 t).rows.length) (pairs ((g_4 t).rows))), (blk D 46 [(iv 1), (iv 0), vn75_, vn3_, (iv 0)]), (d_5 false (Value.slice (some ⟨C, 0, none⟩) 1 1) (fun _ => vr) (fun _ => vb) (j_9 t).tabs), (blk B 25 [(iv 2), F, (Value.slice none 0 0)]), (blk E 46 [(iv 0), (iv 1), vr, vb, (iv 0)]), (sl vr 2 t.rows.length (pairs t.rows)), (sl vb 1 t.brk.length (ints t.brk))] := FP; clear FP FO
   refine s1 B5 (a_0 rfl B5.e) fun DJ D5 => ?_; clear B5 IB
   refine n2 (b_9 ?_)
   have T := D5.as [(13, (iv (l_0 (a_9 t) 0 (nv, nv)))), (12, (bptr O 0)), (11, (iv nv)), (5, (bptr B 0))] rfl; clear D5
   rcases back_one (t := t) (v := nv) GJ hn.1 (by omega) with Gs | ⟨Fl, hnx, hxb⟩ | ⟨Fl, y, hcy, Gx, hcz⟩
   ·skip
    refine a_5 (s1 T (a_1 rfl T.e) fun IC B6 => ?_); clear T DJ
    refine s1 B6 (y_1 rfl B6.e (evc _ _)) fun ID Ac => ?_; clear B6 IC
    have Gf : ¬ ((l_0 (a_9 t) 0 (nv, nv)) = 0) := (by rw [Gs]; decide)
    rw [decide_eq_false Gf] at Ac
    refine s1 Ac (a_1 rfl Ac.e) fun IE D6 => ?_; clear Ac ID
    refine s3 D6 fun IF D7 => ?_; clear D6 IE
    refine s3 D7 fun IG D8 => ?_; clear D7 IF
    refine s3 D8 fun IH D9 => ?_; clear D8 IG
    refine s3 D9 fun II EA => ?_; clear D9 IH
    refine s3 EA fun IJ B7 => ?_; clear EA II
    refine s1 B7 (b_3 rfl B7.e (evc _ _)) fun IK B8 => ?_; clear B7 IJ
    refine n1 (c_0 B8 rfl (b_9 ?_))
    have B9 := B8.as [(13, (iv (l_0 (a_9 t) 0 (nv, nv)))), (12, (bptr O 0)), (5, (bptr B 0))] rfl; clear B8
    refine a_5 (s1 B9 (a_1 rfl B9.e) fun IL CA => ?_); clear B9 IK
    refine s1 CA (o_2 rfl CA.e (evc _ _)) fun IM Ad => ?_; clear CA IL
    have Gg : (l_0 (a_9 t) 0 (nv, nv)) = 10 := Gs
    rw [decide_eq_true Gg] at Ad
    refine s1 Ad (a_1 rfl Ad.e) fun IN EB => ?_; clear Ad IM
    refine s3 EB fun IOa EC => ?_; clear EB IN
    refine s3 EC fun IP ED => ?_; clear EC IOa
    refine s3 ED fun IQ EE => ?_; clear ED IP
    refine s4 EE fun IR EF => ?_; clear EE IQ
    refine s4 EF fun IS EG => ?_; clear EF IR
    refine s4 EG fun IT EH => ?_; clear EG IS
    refine s4 EH fun IU EI => ?_; clear EH IT
    refine s4 EI fun IV EJ => ?_; clear EI IU
    refine s4 EJ fun IW EK => ?_; clear EJ IV
    refine s3 EK fun IX CB => ?_; clear EK IW
    refine s1 CB (b_3 rfl CB.e (evc _ _)) fun IY CC => ?_; clear CB IX
    refine s1 CC (a_1 rfl CC.e) fun IZ CD => ?_; clear CC IY
    refine s5 CD (c_5 rfl ty_25 (CD.ev rfl) (H.bk 9 rfl) (l := [(iv 2), F, (Value.slice none 0 0)]) rfl rfl) fun Ia CE => ?_; clear CD IZ
    refine s6 CE (b_2 rfl en_19 (ev1 CE.e) (Book_ok (a_9 t) F (Value.slice none 0 0) (putV 1 (fun _ => vr) vn75_) (putV 1 (fun _ => vb) vn3_) (fun _ => NILs0) _ (b_7 (H.ok 3 _ rfl)) (p_3 _ _) hth2)) ?_
    rintro Ib _ K4 ⟨vt469, vm470, lr471, lb472, lk473, rfl, Fc⟩ CF; have A6 := H.y_3 Fc rfl; clear Fc CE H Ia
    refine s6 CF (b_2 rfl en_32 (ev1 CF.e) (u_5 (a_9 t) vt469 vm470 lr471 lb472 lk473 _ (b_7 (A6.ok 0 _ rfl)) (c_9 (A6.ok 1 _ rfl)) hth2)) ?_
    rintro Ic _ K5 ⟨rfl, Et⟩ CG; have FQ := A6.step Et; clear Et CF A6 Ib
    refine s5 CG (o_2 rfl CG.e (evc _ _)) fun Id m => ?_; clear CG Ic
    have Gh : (f_6 (a_9 t)) = 0 := Gw
    rw [decide_eq_true Gh] at m
    refine s1 m (b_3 rfl m.e m.e) fun Ie CH => ?_; clear m Id
    refine s1 CH (a_1 rfl CH.e) fun If EL => ?_; clear CH Ie
    refine s6 EL (b_2 rfl en_17 ev0 (awake_ok _)) ?_
    rintro Ig _ K6 ⟨rfl, Eu⟩ Ae; have GZ := FQ.step Eu; clear Eu EL FQ If
    refine s1 Ae (b_3 rfl Ae.e Ae.e) fun Ih CI => ?_; clear Ae Ig
    refine s1 CI (a_0 rfl CI.e) fun Kd EM => ?_; clear CI Ih
    exact n1 (c_2 (a_6 (a_8 EM (.inl rfl) (a_2 EM rfl (.tmp rfl)) (⟨rfl, GZ.ext⟩))))
   ·skip
    refine a_5 (s1 T (a_1 rfl T.e) fun Ii CJ => ?_); clear T DJ
    refine s1 CJ (y_1 rfl CJ.e (evc _ _)) fun Ij Af => ?_; clear CJ Ii
    have Fi : (l_0 (a_9 t) 0 (nv, nv)) = 0 := Fl
    rw [decide_eq_true Fi] at Af
    refine s1 Af (a_1 rfl Af.e) fun Ik CK => ?_; clear Af Ij
    refine s5 CK (a_3 rfl m_3 CK.e) fun Il CL => ?_; clear CK Ik
    refine s5 CL (a_4 rfl ty_3 CL.e (H.bk 0 rfl) rfl) fun Im CM => ?_; clear CL Il
    refine s5 CM (a_3 rfl m_4 CM.e) fun In CN => ?_; clear CM Im
    refine s5 CN (a_4 rfl ty_3 CN.e (H.bk 0 rfl) rfl) fun Io Ag => ?_; clear CN In
    refine s5 Ag (y_1 rfl Ag.e Ag.e) fun Ip o => ?_; clear Ag Io
    have Gi : ¬ (((c_7 (a_9 t) 0 (nv, nv)).1) = ((c_7 (a_9 t) 0 (nv, nv)).2)) := (by omega)
    rw [decide_eq_false Gi] at o
    refine s1 o (d_1 rfl o.e o.e) fun Iq CO => ?_; clear o Ip
    refine n1 (c_0 CO rfl (b_9 ?_))
    have CP := CO.as [(13, (iv (l_0 (a_9 t) 0 (nv, nv)))), (12, (bptr O 0)), (5, (bptr B 0))] rfl; clear CO
    refine a_5 (s1 CP (a_1 rfl CP.e) fun Ir CQ => ?_); clear CP Iq
    refine s1 CQ (o_2 rfl CQ.e (evc _ _)) fun Is Ah => ?_; clear CQ Ir
    have Gj : ¬ ((l_0 (a_9 t) 0 (nv, nv)) = 10) := (by rw [Fl]; decide)
    rw [decide_eq_false Gj] at Ah
    refine s1 Ah (a_1 rfl Ah.e) fun It CR => ?_; clear Ah Is
    refine s5 CR (a_1 rfl CR.e) fun Iu CS => ?_; clear CR It
    refine s5 CS (o_2 rfl CS.e (evc _ _)) fun Iv Ai => ?_; clear CS Iu
    rw [decide_eq_true Fi] at Ai
    refine s5 Ai (a_1 rfl Ai.e) fun Iw CT => ?_; clear Ai Iv
    refine s5 CT (a_3 rfl m_4 CT.e) fun Ix CU => ?_; clear CT Iw
    refine s5 CU (a_4 rfl ty_3 CU.e (H.bk 0 rfl) rfl) fun Iy CV => ?_; clear CU Ix
    refine s5 CV (a_3 rfl m_3 CV.e) fun Iz CW => ?_; clear CV Iy
    refine s5 CW (a_4 rfl ty_3 CW.e (H.bk 0 rfl) rfl) fun I0 CX => ?_; clear CW Iz
    refine s5 CX (g_1 rfl CX.e (evc _ _) (by omega) (by omega)) fun I1 Aj => ?_; clear CX I0
    refine s5 Aj (o_2 rfl Aj.e Aj.e) fun I2 p => ?_; clear Aj I1
    have Gk : ((c_7 (a_9 t) 0 (nv, nv)).2) = (((c_7 (a_9 t) 0 (nv, nv)).1) + 1) := hnx
    rw [decide_eq_true Gk] at p
    refine s5 p (b_3 rfl p.e p.e) fun I3 Ak => ?_; clear p I2
    refine s1 Ak (d_1 rfl Ak.e Ak.e) fun I4 CY => ?_; clear Ak I3
    refine s1 CY (a_1 rfl CY.e) fun I5 CZ => ?_; clear CY I4
    refine s5 CZ (c_5 rfl ty_25 (CZ.ev rfl) (H.bk 9 rfl) (l := [(iv 2), F, (Value.slice none 0 0)]) rfl rfl) fun I6 Ca => ?_; clear CZ I5
    refine s6 Ca (b_2 rfl en_19 (ev1 Ca.e) (Book_ok (a_9 t) F (Value.slice none 0 0) (putV 1 (fun _ => vr) vn75_) (putV 1 (fun _ => vb) vn3_) (fun _ => NILs0) _ (b_7 (H.ok 3 _ rfl)) (p_3 _ _) hth2)) ?_
    rintro I7 _ K7 ⟨vt555, vm556, lr557, lb558, lk559, rfl, Fd⟩ Cb; have A7 := H.y_3 Fd rfl; clear Fd Ca H I6
    refine s6 Cb (b_2 rfl en_32 (ev1 Cb.e) (u_5 (a_9 t) vt555 vm556 lr557 lb558 lk559 _ (b_7 (A7.ok 0 _ rfl)) (c_9 (A7.ok 1 _ rfl)) hth2)) ?_
    rintro I8 _ K8 ⟨rfl, Ev⟩ Cc; have FSa := A7.step Ev; clear Ev Cb A7 I7
    refine s5 Cc (o_2 rfl Cc.e (evc _ _)) fun I9 r => ?_; clear Cc I8
    have Gl : (f_6 (a_9 t)) = 0 := Gw
    rw [decide_eq_true Gl] at r
    refine s1 r (b_3 rfl r.e r.e) fun JA Cd => ?_; clear r I9
    refine s1 Cd (a_1 rfl Cd.e) fun JB EN => ?_; clear Cd JA
    refine s6 EN (b_2 rfl en_17 ev0 (awake_ok _)) ?_
    rintro JC _ K9 ⟨rfl, Ew⟩ Al; have Ga := FSa.step Ew; clear Ew EN FSa JB
    refine s1 Al (b_3 rfl Al.e Al.e) fun JD Ce => ?_; clear Al JC
    refine s1 Ce (a_0 rfl Ce.e) fun Ke EO => ?_; clear Ce JD
    exact n1 (c_2 (a_6 (a_8 EO (.inl rfl) (a_2 EO rfl (.tmp rfl)) (⟨rfl, Ga.ext⟩))))
   skip
   refine a_5 (s1 T (a_1 rfl T.e) fun JE Cf => ?_); clear T DJ
   refine s1 Cf (y_1 rfl Cf.e (evc _ _)) fun JF Am => ?_; clear Cf JE
   have Gm : (l_0 (a_9 t) 0 (nv, nv)) = 0 := Fl
   rw [decide_eq_true Gm] at Am
   refine s1 Am (a_1 rfl Am.e) fun JG Cg => ?_; clear Am JF
   refine s5 Cg (a_3 rfl m_3 Cg.e) fun JH Ch => ?_; clear Cg JG
   refine s5 Ch (a_4 rfl ty_3 Ch.e (H.bk 0 rfl) rfl) fun JI Ci => ?_; clear Ch JH
   refine s5 Ci (a_3 rfl m_4 Ci.e) fun JJ Cj => ?_; clear Ci JI
   refine s5 Cj (a_4 rfl ty_3 Cj.e (H.bk 0 rfl) rfl) fun JK An => ?_; clear Cj JJ
   refine s5 An (y_1 rfl An.e An.e) fun JL s => ?_; clear An JK
   have Gn : ((c_7 (a_9 t) 0 (nv, nv)).1) = ((c_7 (a_9 t) 0 (nv, nv)).2) := (by rw [hcy])
   rw [decide_eq_true Gn] at s
   refine s1 s (d_1 rfl s.e s.e) fun Kg Ck => ?_; clear s JL
   refine n1 (b_8 Ck rfl (d_4 (b_1 (b_9 ?_))))
   have EP := Ck.as [(12, (bptr O 0)), (11, (iv nv)), (5, (bptr B 0))] rfl; clear Ck
   have Cl := EP.as [(12, (bptr O 0)), (11, (iv nv)), (5, (bptr B 0))] rfl; clear EP
   refine c_drawF mixed Cl H 12 10 rfl rfl [[], [0], [], [2], [], [4], [3, 5], [1, 6], [7], [8], [8], []] [(yw (Value.agg #[(iv 2), F, (Value.slice none 0 0)])), (fun (K : Nat → Value) (v_ : Value) (rs_ : List Res) => ∃ (vt1_ : Value), ∃ (vm1_ : Value), ∃ (lr1_ : Nat → Value), ∃ (lb1_ : Nat → Value), ∃ (lk1_ : Nat → Value), v_ = (Value.agg #[(iv ((a_9 t).scales)), vt1_, vm1_]) ∧ rs_ = [(d_5 true vt1_ lr1_ lb1_ (a_9 t).tabs), (f_0 true vm1_ lk1_ (a_9 t).macs)]), (yw (bptr O 0)), (yw (iv ((c_7 (a_9 t) 0 (nv, nv)).1))), (yw (bptr O 1)), (yw (iv ((c_7 (a_9 t) 0 (nv, nv)).2))), (yw (Value.agg #[(iv ((c_7 (a_9 t) 0 (nv, nv)).1)), (iv ((c_7 (a_9 t) 0 (nv, nv)).2))])), (yw (Value.tuple #[(Value.agg #[(iv ((c_7 (a_9 t) 1 ((c_7 (a_9 t) 0 (nv, nv)).1, (c_7 (a_9 t) 0 (nv, nv)).2)).1)), (iv ((c_7 (a_9 t) 1 ((c_7 (a_9 t) 0 (nv, nv)).1, (c_7 (a_9 t) 0 (nv, nv)).2)).2))]), (iv (l_0 (a_9 t) 1 ((c_7 (a_9 t) 0 (nv, nv)).1, (c_7 (a_9 t) 0 (nv, nv)).2)))])), (yw (Value.tuple #[(Value.agg #[(iv ((c_7 (a_9 t) 1 ((c_7 (a_9 t) 0 (nv, nv)).1, (c_7 (a_9 t) 0 (nv, nv)).2)).1)), (iv ((c_7 (a_9 t) 1 ((c_7 (a_9 t) 0 (nv, nv)).1, (c_7 (a_9 t) 0 (nv, nv)).2)).2))]), (iv (l_0 (a_9 t) 1 ((c_7 (a_9 t) 0 (nv, nv)).1, (c_7 (a_9 t) 0 (nv, nv)).2)))])), (yw (Value.agg #[(iv ((c_7 (a_9 t) 1 ((c_7 (a_9 t) 0 (nv, nv)).1, (c_7 (a_9 t) 0 (nv, nv)).2)).1)), (iv ((c_7 (a_9 t) 1 ((c_7 (a_9 t) 0 (nv, nv)).1, (c_7 (a_9 t) 0 (nv, nv)).2)).2))])), (yw (iv (l_0 (a_9 t) 1 ((c_7 (a_9 t) 0 (nv, nv)).1, (c_7 (a_9 t) 0 (nv, nv)).2)))), (fun (K : Nat → Value) (v_ : Value) (rs_ : List Res) => ∃ (b11_ : Nat), v_ = (bptr b11_ 0) ∧ rs_ = [(blk b11_ 30 [(iv 0), (iv 0)])])] (by decide +kernel) (by decide +kernel) (by decide +kernel) rfl rfl ⟨dw, (fun _ _ _ _ _ h_ => h_), dw, dw, dw, dw, dw, dw, dw, dw, dw, (fun _ _ _ _ _ h_ => h_), trivial⟩ ?_ ?_ ?_
   ·skip
    refine ⟨fun a w K hA hS hd => gv1 (c_5 rfl ty_25 (hA.ev rfl) (hS.bk 9 rfl) (l := [(iv 2), F, (Value.slice none 0 0)]) rfl rfl), ?_⟩
    refine ⟨fun a w K hA hS hd => d_6 rfl (vn (b_2 rfl en_19 (ev1 (gu hd 0)) (Book_ok (a_9 t) F (Value.slice none 0 0) (putV 1 (fun _ => vr) vn75_) (putV 1 (fun _ => vb) vn3_) (fun _ => NILs0) _ (b_7 (hS.ok 3 _ rfl)) (p_3 _ _) hth2)) (fun v w' h => by obtain ⟨vt, vm, lr, lb, lk, rfl, hT⟩ := h; exact ⟨_, ⟨vt, vm, lr, lb, lk, rfl, rfl⟩, hT, rfl⟩)), ?_⟩
    refine ⟨fun a w K hA hS hd => gv1 (a_3 rfl m_3 hA.e), ?_⟩
    refine ⟨fun a w K hA hS hd => gv1 (a_4 rfl ty_3 (gu hd 2) (hS.bk 0 rfl) rfl), ?_⟩
    refine ⟨fun a w K hA hS hd => gv1 (a_3 rfl m_4 hA.e), ?_⟩
    refine ⟨fun a w K hA hS hd => gv1 (a_4 rfl ty_3 (gu hd 4) (hS.bk 0 rfl) rfl), ?_⟩
    refine ⟨fun a w K hA hS hd => gx1 (b_2 rfl z_0 (ev2 (gu hd 3) (gu hd 5)) (j_1 _ _ _)), ?_⟩
    refine ⟨fun a w K hA hS hd => ?_, ?_⟩
    ·skip
     obtain ⟨e1, LH, KR, Gy⟩ := hd 1 (by decide)
     obtain ⟨vt1_, vm1_, lr1_, lb1_, lk1_, KQ, KP⟩ := KR; subst KP
     rw [KQ] at e1
     have hp1_0 := Gy _ (List.mem_of_getElem? (i := 0) rfl)
     have hp1_1 := Gy _ (List.mem_of_getElem? (i := 1) rfl)
     exact gx1 (b_2 rfl en_18 (ev3 (c_1 (j_0 e1 rfl)) (evc _ _) (gu hd 6)) (Convert_ok (a_9 t) vt1_ vm1_ lr1_ lb1_ lk1_ _ (b_7 hp1_0) (c_9 hp1_1) hth2 1 ((c_7 (a_9 t) 0 (nv, nv)).1) ((c_7 (a_9 t) 0 (nv, nv)).2)))
    refine ⟨fun a w K hA hS hd => gv1 (a_1 rfl (gu hd 7)), ?_⟩
    refine ⟨fun a w K hA hS hd => gv1 (e_7 rfl (gu hd 8) rfl), ?_⟩
    refine ⟨fun a w K hA hS hd => gv1 (e_7 rfl (gu hd 8) rfl), ?_⟩
    refine ⟨fun a w K hA hS hd => d_6 rfl (valloc rfl w_9 (cs := [(iv 0), (iv 0)]) rfl (fun b_ => ⟨b_, rfl, rfl⟩)), ?_⟩
    trivial
   ·skip
    intro Fq Jz K rsf611 EQ I DA; clear Cl H
    obtain ⟨Dg, Di⟩ := I 1 (by decide)
    obtain ⟨vt1_, vm1_, lr1_, lb1_, lk1_, Dh, A8⟩ := Di
    obtain ⟨X, DD⟩ := I 11 (by decide)
    obtain ⟨b11_, AB, AA⟩ := DD
    have FT : Sep NoB w Jz [(d_5 true vt1_ lr1_ lb1_ (a_9 t).tabs), (f_0 true vm1_ lk1_ (a_9 t).macs), (blk b11_ 30 [(iv 0), (iv 0)]), (blk O 30 [(iv ((c_7 (a_9 t) 0 (nv, nv)).1)), (iv ((c_7 (a_9 t) 0 (nv, nv)).2))]), (d_5 true vt374 lr376 lb377 (a_9 t).tabs), (f_0 true vm375 lk378 (a_9 t).macs), (d_5 false F (putV 1 (fun _ => vr) vn75_) (putV 1 (fun _ => vb) vn3_) (a_9 t).tabs), (blk Y 46 [(iv 1), (iv 0), vn75_, vn3_, (iv 0)]), (sl vn3_ 1 ((g_4 t).brk.length) (ints ((g_4 t).brk))), (sl vn75_ 2 ((g_4 t).rows.length) (pairs ((g_4 t).rows))), (blk D 46 [(iv 1), (iv 0), vn75_, vn3_, (iv 0)]), (d_5 false (Value.slice (some ⟨C, 0, none⟩) 1 1) (fun _ => vr) (fun _ => vb) (j_9 t).tabs), (blk B 25 [(iv 2), F, (Value.slice none 0 0)]), (blk E 46 [(iv 0), (iv 1), vr, vb, (iv 0)]), (sl vr 2 t.rows.length (pairs t.rows)), (sl vb 1 t.brk.length (ints t.brk))] := by rw [show catR rsf611 0 12 = ([(d_5 true vt1_ lr1_ lb1_ (a_9 t).tabs), (f_0 true vm1_ lk1_ (a_9 t).macs), (blk b11_ 30 [(iv 0), (iv 0)])] : List Res) by (try simp only [catR, gr (I 0 (by decide)), A8, gr (I 2 (by decide)), gr (I 3 (by decide)), gr (I 4 (by decide)), gr (I 5 (by decide)), gr (I 6 (by decide)), gr (I 7 (by decide)), gr (I 8 (by decide)), gr (I 9 (by decide)), gr (I 10 (by decide)), AA]); (try rfl)] at DA; exact DA
    have ER := EQ.add (gs (I 9 (by decide))); clear EQ
    have ES := ER.add (gs (I 10 (by decide))); clear ER
    rw [AB] at X
    have Ao : Fr 187 [] [(14, (bptr b11_ 0)), (174, (iv (l_0 (a_9 t) 1 ((c_7 (a_9 t) 0 (nv, nv)).1, (c_7 (a_9 t) 0 (nv, nv)).2)))), (173, (Value.agg #[(iv ((c_7 (a_9 t) 1 ((c_7 (a_9 t) 0 (nv, nv)).1, (c_7 (a_9 t) 0 (nv, nv)).2)).1)), (iv ((c_7 (a_9 t) 1 ((c_7 (a_9 t) 0 (nv, nv)).1, (c_7 (a_9 t) 0 (nv, nv)).2)).2))])), (12, (bptr O 0)), (11, (iv nv)), (5, (bptr B 0))] Fq := ES.add (j_0 X rfl); clear ES
    clear I DA Dg X
    clear A8
    clear Dh
    clear AA
    clear AB
    refine s7 Ao (b_6 FT rfl f_5 Ao.e Ao.e (i := 2) rfl (vs := [(iv ((c_7 (a_9 t) 1 ((c_7 (a_9 t) 0 (nv, nv)).1, (c_7 (a_9 t) 0 (nv, nv)).2)).1)), (iv ((c_7 (a_9 t) 1 ((c_7 (a_9 t) 0 (nv, nv)).1, (c_7 (a_9 t) 0 (nv, nv)).2)).2))]) rfl rfl rfl (Nat.le_of_ble_eq_true rfl)) ?_
    intro _ J0 FU Cm; clear Ao
    have FV : Sep NoB w J0 [(d_5 true vt1_ lr1_ lb1_ (a_9 t).tabs), (f_0 true vm1_ lk1_ (a_9 t).macs), (blk b11_ 30 [(iv ((c_7 (a_9 t) 1 ((c_7 (a_9 t) 0 (nv, nv)).1, (c_7 (a_9 t) 0 (nv, nv)).2)).1)), (iv ((c_7 (a_9 t) 1 ((c_7 (a_9 t) 0 (nv, nv)).1, (c_7 (a_9 t) 0 (nv, nv)).2)).2))]), (blk O 30 [(iv ((c_7 (a_9 t) 0 (nv, nv)).1)), (iv ((c_7 (a_9 t) 0 (nv, nv)).2))]), (d_5 true vt374 lr376 lb377 (a_9 t).tabs), (f_0 true vm375 lk378 (a_9 t).macs), (d_5 false F (putV 1 (fun _ => vr) vn75_) (putV 1 (fun _ => vb) vn3_) (a_9 t).tabs), (blk Y 46 [(iv 1), (iv 0), vn75_, vn3_, (iv 0)]), (sl vn3_ 1 ((g_4 t).brk.length) (ints ((g_4 t).brk))), (sl vn75_ 2 ((g_4 t).rows.length) (pairs ((g_4 t).rows))), (blk D 46 [(iv 1), (iv 0), vn75_, vn3_, (iv 0)]), (d_5 false (Value.slice (some ⟨C, 0, none⟩) 1 1) (fun _ => vr) (fun _ => vb) (j_9 t).tabs), (blk B 25 [(iv 2), F, (Value.slice none 0 0)]), (blk E 46 [(iv 0), (iv 1), vr, vb, (iv 0)]), (sl vr 2 t.rows.length (pairs t.rows)), (sl vb 1 t.brk.length (ints t.brk))] := FU; clear FU FT
    refine s1 Cm (a_0 rfl Cm.e) fun Kh ET => ?_; clear Cm Fq
    refine n2 ?_
    have EU := ET.as [(15, (iv (l_0 (a_9 t) 1 ((c_7 (a_9 t) 0 (nv, nv)).1, (c_7 (a_9 t) 0 (nv, nv)).2)))), (14, (bptr b11_ 0)), (11, (iv nv))] rfl; clear ET
    refine i_2 mixed EU FV 7 [[], [0], [1], [2], [2], [2], [2, 4, 5]] [(Yd.val (iv (l_0 (a_9 t) 1 ((c_7 (a_9 t) 0 (nv, nv)).1, (c_7 (a_9 t) 0 (nv, nv)).2)))), (Yd.val (Value.bool true)), (Yd.val (Value.bool true)), (Yd.val (Value.agg #[(iv ((c_7 (a_9 t) 1 ((c_7 (a_9 t) 0 (nv, nv)).1, (c_7 (a_9 t) 0 (nv, nv)).2)).1)), (iv ((c_7 (a_9 t) 1 ((c_7 (a_9 t) 0 (nv, nv)).1, (c_7 (a_9 t) 0 (nv, nv)).2)).2))])), (Yd.val (iv nv)), (Yd.val (iv nv)), (Yd.val (Value.agg #[(iv nv), (iv nv)]))] (by decide +kernel) rfl rfl ?_ ?_
    ·skip
     refine dq (fun a w hA hS hd => a_1 rfl hA.e) ?_
     refine ⟨fun a w hA hS hd => by have e0 := hx hd 0; exact d_6 rfl (dv (o_2 rfl (c_1 e0) (evc _ _)) hS (by show Value.bool _ = _; simp only [decide_eq_true (show (l_0 (a_9 t) 1 ((c_7 (a_9 t) 0 (nv, nv)).1, (c_7 (a_9 t) 0 (nv, nv)).2)) = 0 from (by rw [hcy]; exact Gx)), decide_true, decide_false, Bool.not_true, Bool.not_false])), ?_⟩
     refine dq (fun a w hA hS hd => a_1 rfl (hq hd 1)) ?_
     refine dy 2 (fun a w hA hS hd => c_5 rfl f_5 (hA.ev rfl) (hS.bk 2 rfl) (l := [(iv ((c_7 (a_9 t) 1 ((c_7 (a_9 t) 0 (nv, nv)).1, (c_7 (a_9 t) 0 (nv, nv)).2)).1)), (iv ((c_7 (a_9 t) 1 ((c_7 (a_9 t) 0 (nv, nv)).1, (c_7 (a_9 t) 0 (nv, nv)).2)).2))]) rfl rfl) ?_
     refine dy 2 (fun a w hA hS hd => a_1 rfl hA.e) ?_
     refine dy 2 (fun a w hA hS hd => a_1 rfl hA.e) ?_
     refine ⟨fun a w hA hS hd => by have e2 := hx hd 2; have e4 := hx hd 4; have e5 := hx hd 5; exact h_3 rfl rfl e2 (dx (b_2 rfl z_0 (ev2 (c_1 e4) (c_1 e5)) (j_1 _ _ _)) hS (fun _ => rfl)), ?_⟩
     trivial
    intro JM LA EV FW Au; clear EU FV
    have EW := EV.add (hz Au 2); clear EV
    have EX := EW.add (hz Au 3); clear EW
    have Ap := EX.add (hz Au 6); clear EX
    clear Au
    refine s5 Ap (op_eqlP tw_30 rfl Ap.e Ap.e) fun JN u => ?_; clear Ap JM
    have Fj : (decide ((((c_7 (a_9 t) 1 ((c_7 (a_9 t) 0 (nv, nv)).1, (c_7 (a_9 t) 0 (nv, nv)).2)).1) : Int) = nv) && decide ((((c_7 (a_9 t) 1 ((c_7 (a_9 t) 0 (nv, nv)).1, (c_7 (a_9 t) 0 (nv, nv)).2)).2) : Int) = nv)) = true := (by rw [hcy]; simp only [hcz, decide_true, Bool.and_self])
    rw [Fj] at u
    have Go := Fj; simp only [Bool.and_eq_true, Bool.and_eq_false_iff, decide_eq_true_eq, decide_eq_false_iff_not] at Go
    refine s1 u (b_3 rfl u.e u.e) fun JO Cn => ?_; clear u JN
    refine s1 Cn (a_1 rfl Cn.e) fun JP EY => ?_; clear Cn JO
    refine s6 EY (b_2 rfl en_17 ev0 (awake_ok _)) ?_
    rintro JQ _ LB ⟨rfl, Ex⟩ Aq; have Gb := FW.step Ex; clear Ex EY FW JP
    refine s1 Aq (b_3 rfl Aq.e Aq.e) fun JR Co => ?_; clear Aq JQ
    refine s1 Co (a_0 rfl Co.e) fun Ki EZ => ?_; clear Co JR
    exact n1 (c_2 (a_8 EZ (.inl rfl) (a_2 EZ rfl (.tmp rfl)) (⟨rfl, Gb.ext⟩)))
   skip
   intro Fs J1 K rsf654 Ea L hrq DB; clear Cl H
   obtain ⟨Dg, Di⟩ := L 1 (by decide) (by decide)
   obtain ⟨vt1_, vm1_, lr1_, lb1_, lk1_, Dh, A8⟩ := Di
   obtain ⟨X, DD⟩ := L 11 (by decide) (by decide)
   obtain ⟨b11_, AB, AA⟩ := DD
   have FX : Sep NoB w J1 [(d_5 true vt1_ lr1_ lb1_ (a_9 t).tabs), (f_0 true vm1_ lk1_ (a_9 t).macs), (blk b11_ 30 [(iv 0), (iv 0)]), (blk O 30 [(iv ((c_7 (a_9 t) 0 (nv, nv)).1)), (iv ((c_7 (a_9 t) 0 (nv, nv)).2))]), (d_5 true vt374 lr376 lb377 (a_9 t).tabs), (f_0 true vm375 lk378 (a_9 t).macs), (d_5 false F (putV 1 (fun _ => vr) vn75_) (putV 1 (fun _ => vb) vn3_) (a_9 t).tabs), (blk Y 46 [(iv 1), (iv 0), vn75_, vn3_, (iv 0)]), (sl vn3_ 1 ((g_4 t).brk.length) (ints ((g_4 t).brk))), (sl vn75_ 2 ((g_4 t).rows.length) (pairs ((g_4 t).rows))), (blk D 46 [(iv 1), (iv 0), vn75_, vn3_, (iv 0)]), (d_5 false (Value.slice (some ⟨C, 0, none⟩) 1 1) (fun _ => vr) (fun _ => vb) (j_9 t).tabs), (blk B 25 [(iv 2), F, (Value.slice none 0 0)]), (blk E 46 [(iv 0), (iv 1), vr, vb, (iv 0)]), (sl vr 2 t.rows.length (pairs t.rows)), (sl vb 1 t.brk.length (ints t.brk))] := by rw [show catR rsf654 0 12 = ([(d_5 true vt1_ lr1_ lb1_ (a_9 t).tabs), (f_0 true vm1_ lk1_ (a_9 t).macs), (blk b11_ 30 [(iv 0), (iv 0)])] : List Res) by (try simp only [catR, gr (L 0 (by decide) (by decide)), A8, gr (L 2 (by decide) (by decide)), gr (L 3 (by decide) (by decide)), gr (L 4 (by decide) (by decide)), gr (L 5 (by decide) (by decide)), gr (L 6 (by decide) (by decide)), gr (L 7 (by decide) (by decide)), gr (L 8 (by decide) (by decide)), gr (L 9 (by decide) (by decide)), AA, hrq]); (try rfl)] at DB; exact DB
   have Eb := Ea.add (gs (L 8 (by decide) (by decide))); clear Ea
   have Ec := Eb.add (gs (L 9 (by decide) (by decide))); clear Eb
   rw [AB] at X
   have Ar : Fr 187 [] [(14, (bptr b11_ 0)), (173, (Value.agg #[(iv ((c_7 (a_9 t) 1 ((c_7 (a_9 t) 0 (nv, nv)).1, (c_7 (a_9 t) 0 (nv, nv)).2)).1)), (iv ((c_7 (a_9 t) 1 ((c_7 (a_9 t) 0 (nv, nv)).1, (c_7 (a_9 t) 0 (nv, nv)).2)).2))])), (164, (Value.tuple #[(Value.agg #[(iv ((c_7 (a_9 t) 1 ((c_7 (a_9 t) 0 (nv, nv)).1, (c_7 (a_9 t) 0 (nv, nv)).2)).1)), (iv ((c_7 (a_9 t) 1 ((c_7 (a_9 t) 0 (nv, nv)).1, (c_7 (a_9 t) 0 (nv, nv)).2)).2))]), (iv (l_0 (a_9 t) 1 ((c_7 (a_9 t) 0 (nv, nv)).1, (c_7 (a_9 t) 0 (nv, nv)).2)))])), (12, (bptr O 0)), (11, (iv nv)), (5, (bptr B 0))] Fs := Ec.add (j_0 X rfl); clear Ec
   clear L DB Dg X hrq
   clear A8
   clear Dh
   clear AA
   clear AB
   refine s7 Ar (b_6 FX rfl f_5 Ar.e Ar.e (i := 2) rfl (vs := [(iv ((c_7 (a_9 t) 1 ((c_7 (a_9 t) 0 (nv, nv)).1, (c_7 (a_9 t) 0 (nv, nv)).2)).1)), (iv ((c_7 (a_9 t) 1 ((c_7 (a_9 t) 0 (nv, nv)).1, (c_7 (a_9 t) 0 (nv, nv)).2)).2))]) rfl rfl rfl (Nat.le_of_ble_eq_true rfl)) ?_
   intro _ J2 FY Cp; clear Ar
   have FZ : Sep NoB w J2 [(d_5 true vt1_ lr1_ lb1_ (a_9 t).tabs), (f_0 true vm1_ lk1_ (a_9 t).macs), (blk b11_ 30 [(iv ((c_7 (a_9 t) 1 ((c_7 (a_9 t) 0 (nv, nv)).1, (c_7 (a_9 t) 0 (nv, nv)).2)).1)), (iv ((c_7 (a_9 t) 1 ((c_7 (a_9 t) 0 (nv, nv)).1, (c_7 (a_9 t) 0 (nv, nv)).2)).2))]), (blk O 30 [(iv ((c_7 (a_9 t) 0 (nv, nv)).1)), (iv ((c_7 (a_9 t) 0 (nv, nv)).2))]), (d_5 true vt374 lr376 lb377 (a_9 t).tabs), (f_0 true vm375 lk378 (a_9 t).macs), (d_5 false F (putV 1 (fun _ => vr) vn75_) (putV 1 (fun _ => vb) vn3_) (a_9 t).tabs), (blk Y 46 [(iv 1), (iv 0), vn75_, vn3_, (iv 0)]), (sl vn3_ 1 ((g_4 t).brk.length) (ints ((g_4 t).brk))), (sl vn75_ 2 ((g_4 t).rows.length) (pairs ((g_4 t).rows))), (blk D 46 [(iv 1), (iv 0), vn75_, vn3_, (iv 0)]), (d_5 false (Value.slice (some ⟨C, 0, none⟩) 1 1) (fun _ => vr) (fun _ => vb) (j_9 t).tabs), (blk B 25 [(iv 2), F, (Value.slice none 0 0)]), (blk E 46 [(iv 0), (iv 1), vr, vb, (iv 0)]), (sl vr 2 t.rows.length (pairs t.rows)), (sl vb 1 t.brk.length (ints t.brk))] := FY; clear FY FX
   refine s1 Cp (e_7 rfl Cp.e rfl) fun JS Cq => ?_; clear Cp Fs
   refine s1 Cq (a_0 rfl Cq.e) fun Kj Ed => ?_; clear Cq JS
   refine n2 ?_
   have Ee := Ed.as [(15, (iv (l_0 (a_9 t) 1 ((c_7 (a_9 t) 0 (nv, nv)).1, (c_7 (a_9 t) 0 (nv, nv)).2)))), (14, (bptr b11_ 0)), (11, (iv nv))] rfl; clear Ed
   refine i_2 mixed Ee FZ 7 [[], [0], [1], [2], [2], [2], [2, 4, 5]] [(Yd.val (iv (l_0 (a_9 t) 1 ((c_7 (a_9 t) 0 (nv, nv)).1, (c_7 (a_9 t) 0 (nv, nv)).2)))), (Yd.val (Value.bool true)), (Yd.val (Value.bool true)), (Yd.val (Value.agg #[(iv ((c_7 (a_9 t) 1 ((c_7 (a_9 t) 0 (nv, nv)).1, (c_7 (a_9 t) 0 (nv, nv)).2)).1)), (iv ((c_7 (a_9 t) 1 ((c_7 (a_9 t) 0 (nv, nv)).1, (c_7 (a_9 t) 0 (nv, nv)).2)).2))])), (Yd.val (iv nv)), (Yd.val (iv nv)), (Yd.val (Value.agg #[(iv nv), (iv nv)]))] (by decide +kernel) rfl rfl ?_ ?_
   ·skip
    refine dq (fun a w hA hS hd => a_1 rfl hA.e) ?_
    refine ⟨fun a w hA hS hd => by have e0 := hx hd 0; exact d_6 rfl (dv (o_2 rfl (c_1 e0) (evc _ _)) hS (by show Value.bool _ = _; simp only [decide_eq_true (show (l_0 (a_9 t) 1 ((c_7 (a_9 t) 0 (nv, nv)).1, (c_7 (a_9 t) 0 (nv, nv)).2)) = 0 from (by rw [hcy]; exact Gx)), decide_true, decide_false, Bool.not_true, Bool.not_false])), ?_⟩
    refine dq (fun a w hA hS hd => a_1 rfl (hq hd 1)) ?_
    refine dy 2 (fun a w hA hS hd => c_5 rfl f_5 (hA.ev rfl) (hS.bk 2 rfl) (l := [(iv ((c_7 (a_9 t) 1 ((c_7 (a_9 t) 0 (nv, nv)).1, (c_7 (a_9 t) 0 (nv, nv)).2)).1)), (iv ((c_7 (a_9 t) 1 ((c_7 (a_9 t) 0 (nv, nv)).1, (c_7 (a_9 t) 0 (nv, nv)).2)).2))]) rfl rfl) ?_
    refine dy 2 (fun a w hA hS hd => a_1 rfl hA.e) ?_
    refine dy 2 (fun a w hA hS hd => a_1 rfl hA.e) ?_
    refine ⟨fun a w hA hS hd => by have e2 := hx hd 2; have e4 := hx hd 4; have e5 := hx hd 5; exact h_3 rfl rfl e2 (dx (b_2 rfl z_0 (ev2 (c_1 e4) (c_1 e5)) (j_1 _ _ _)) hS (fun _ => rfl)), ?_⟩
    trivial
   intro JT LC Ef Fa Av; clear Ee FZ
   have Eg := Ef.add (hz Av 2); clear Ef
   have Eh := Eg.add (hz Av 3); clear Eg
   have As := Eh.add (hz Av 6); clear Eh
   clear Av
   refine s5 As (op_eqlP tw_30 rfl As.e As.e) fun JU x => ?_; clear As JT
   have Fk : (decide ((((c_7 (a_9 t) 1 ((c_7 (a_9 t) 0 (nv, nv)).1, (c_7 (a_9 t) 0 (nv, nv)).2)).1) : Int) = nv) && decide ((((c_7 (a_9 t) 1 ((c_7 (a_9 t) 0 (nv, nv)).1, (c_7 (a_9 t) 0 (nv, nv)).2)).2) : Int) = nv)) = true := (by rw [hcy]; simp only [hcz, decide_true, Bool.and_self])
   rw [Fk] at x
   have Gp := Fk; simp only [Bool.and_eq_true, Bool.and_eq_false_iff, decide_eq_true_eq, decide_eq_false_iff_not] at Gp
   refine s1 x (b_3 rfl x.e x.e) fun JV Cr => ?_; clear x JU
   refine s1 Cr (a_1 rfl Cr.e) fun JW Ei => ?_; clear Cr JV
   refine s6 Ei (b_2 rfl en_17 ev0 (awake_ok _)) ?_
   rintro JX _ LD ⟨rfl, Ey⟩ At; have Gc := Fa.step Ey; clear Ey Ei Fa JW
   refine s1 At (b_3 rfl At.e At.e) fun JY Cs => ?_; clear At JX
   refine s1 Cs (a_0 rfl Cs.e) fun Kk Ej => ?_; clear Cs JY
   exact n1 (c_2 (a_8 Ej (.inl rfl) (a_2 Ej rfl (.tmp rfl)) (⟨rfl, Gc.ext⟩)))
  skip
  rw [decide_eq_false Df] at Z
  refine c_0 Z rfl (b_9 ?_)
  have Ek := Z.as [] rfl; clear Z
  refine a_5 (s2 Ek (b_2 rfl en_17 ev0 (awake_ok _)) ?_)
  rintro JZ _ LE ⟨rfl, Ez⟩ Ct; have Gd := AD.step Ez; clear Ez Ek AD Gr
  refine s1 Ct (a_0 rfl Ct.e) fun Kl El => ?_; clear Ct JZ
  exact n1 (c_2 (a_6 (a_8 El (.inl rfl) (a_2 El rfl (.tmp rfl)) (⟨rfl, Gd.ext⟩))))
 skip
 rw [DC] at g
 refine s3 g fun Ja Em => ?_; clear g Gq
 refine s3 Em fun Jb En => ?_; clear Em Ja
 refine s3 En fun Jc Cv => ?_; clear En Jb
 refine s1 Cv (b_3 rfl Cv.e (evc _ _)) fun Jd Cw => ?_; clear Cv Jc
 refine n1 (c_0 Cw rfl (b_9 ?_))
 have Eo := Cw.as [] rfl; clear Cw
 refine a_5 (s2 Eo (b_2 rfl en_17 ev0 (awake_ok _)) ?_)
 rintro Je _ LF ⟨rfl, E0⟩ Cx; have Ge := AC.step E0; clear E0 Eo AC Jd
 refine s1 Cx (a_0 rfl Cx.e) fun Km Ep => ?_; clear Cx Je
 exact n1 (c_2 (a_6 (a_8 Ep (.inl rfl) (a_2 Ep rfl (.tmp rfl)) (⟨rfl, Ge.ext⟩))))
end Go.Proofs.Ytohgladndklciaa
