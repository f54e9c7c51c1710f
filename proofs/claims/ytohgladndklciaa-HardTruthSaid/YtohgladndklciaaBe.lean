/-
  Walks through the functions of the seat, printed by a program of ours (gowalk), a theorem a function: what the call returns and what it leaves in memory.
-/
import Derived.Test.YtohgladndklciaaBd
import Derived.Test.YtohgladndklciaaEnga
import Derived.Test.YtohgladndklciaaEngb
set_option linter.unusedSimpArgs false
set_option linter.unusedVariables false
namespace Go.Proofs.Ytohgladndklciaa
open Go.RowKit Go.Shelf Go.Eng Go.Hard
theorem word_ok (w : World) (ws : List Int) (xw : Value) (hxw : SlAt w xw 1 ws.length (ws.map (Value.int .u16))) (hw : ad_4 ws) (n : Int) (hn : 0 ≤ n ∧ n ≤ 1000000) :
  Calls Try.prog 77 #[xw, (iv n)] w (Ret fun v w' => v = .int .i64 (t_1 ws n) ∧ Ext NoB w w') := by
 refine a_9 Try.func77 rfl fun S K => ?_
 replace K : Fr 16 [] [(0, xw), (1, (iv n))] S := K
 have hwb := words_bd hw (n.tmod (ws.length : Int)).toNat
 have B : Sep NoB w w [(sl xw 1 ws.length (ws.map (Value.int .u16)))] := f_1 ⟨rfl, hxw, trivial⟩
 refine m2 (s1 K (a_0 rfl (evc _ _)) fun c N => ?_); clear K S
 refine n2 (m2 (s1 N (a_1 rfl N.e) fun f P => ?_)); clear N c
 refine s1 P (d_1 rfl un_92 P.e (B.sk 0 rfl)) fun g Q => ?_; clear P f
 refine s1 Q (q_0 rfl Q.e (evc _ _)) fun b A => ?_; clear Q g
 refine n1 ?_
 by_cases R : (ws.length : Int) = 0
 ·skip
  rw [decide_eq_true R] at A
  refine c_0 A rfl (b_5 ?_)
  have L := A.as [] rfl; clear A
  refine a_5 (s1 L (a_0 rfl (evc _ _)) fun h M => ?_); clear L b
  refine n1 (c_2 (a_6 (a_8 M (.inl rfl) (a_3 M rfl (.tmp rfl)) ?_)))
  exact ⟨j_2 (by unfold t_1; first | rw [if_pos (by omega)] | rw [if_neg (by omega)]), B.ext⟩
 skip
 rw [decide_eq_false R] at A
 have hrb := rem_bd (y := n) (d := (ws.length : Int)) hn.1 (by omega)
 refine b_4 A rfl (c_6 (a_7 (m2 (s1 A (a_1 rfl A.e) fun T E => ?_)))); clear A b
 refine s1 E (a_1 rfl E.e) fun U F => ?_; clear E T
 refine s1 F (a_1 rfl F.e) fun V G => ?_; clear F U
 refine s1 G (d_1 rfl un_92 G.e (B.sk 0 rfl)) fun W C => ?_; clear G V
 refine s1 C (op_rem rfl C.e C.e (by omega)) fun X D => ?_; clear C W
 refine s1 D (b_0 rfl un_92 ty_69 D.e (i := ((n).tmod (ws.length : Int)).toNat) (D.e.trans (g_4 (by omega))) (B.sk 0 rfl) (by decide) (by omega)) fun Y H => ?_; clear D X
 refine s1 H (c_1 rfl ty_69 H.e (B.sk 0 rfl) (words_at1 (by omega))) fun Z I => ?_; clear H Y
 refine s1 I (op_conv un_69 un_3 rfl I.e (v := ws.getD (((n).tmod (ws.length : Int)).toNat) 0) (wrap_i64 (by omega) (by omega))) fun a J => ?_; clear I Z
 refine s1 J (a_0 rfl J.e) fun j O => ?_; clear J a
 refine n1 (c_2 (a_8 O (.inl rfl) (a_3 O rfl (.tmp rfl)) ?_))
 exact ⟨j_2 (by unfold t_1; first | rw [if_pos (by omega)] | rw [if_neg (by omega)]), B.ext⟩
set_option maxHeartbeats 4000000 in
theorem Seen_ok (b : h_4) (vt vm : Value) (lr lb lk : Nat → Value) (w : World) (hT : j_8 w vt lr lb b.tabs) (hM : k_6 w vm lk b.macs) (hth : o_6 b) (hb : k_5 b) (z : List Int) (xz : Value) (hxz : SlAt w xz 1 z.length (ints z)) (hzn : (z.length : Int) = b.scales) (hzv : ∀ i, i < z.length → 0 ≤ z.getD i 0 ∧ z.getD i 0 ≤ 100000) (ws : List Int) (xw : Value) (hxw : SlAt w xw 1 ws.length (ws.map (Value.int .u16))) (hw : ad_4 ws) (mn : Int) (hmn : 0 ≤ mn ∧ mn ≤ 8) :
  Calls Try.prog 45 #[(Value.agg #[(iv b.scales), vt, vm]), xz, xw, (iv mn)] w (Ret fun v w' => ∃ l, ae_2 b z l ∧ (l.length : Int) ≤ mn ∧ Ext NoB w w' ∧ w'.ownsRow w.heap.size 67 2 v l.length (pairs l)) := by
 refine a_9 Try.func45 rfl fun a0 AN => ?_
 replace AN : Fr 82 [] [(0, (Value.agg #[(iv b.scales), vt, vm])), (1, xz), (2, xw), (3, (iv mn))] a0 := AN
 have hsc := hb.scales; have hml9 := hth.ml
 have BO : Sep NoB w w [(d_0 false vt lr lb b.tabs), (d_3 false vm lk b.macs), (sl xz 1 z.length (ints z)), (sl xw 1 ws.length (ws.map (Value.int .u16)))] := f_1 ⟨rfl, hT, rfl, hM, rfl, hxz, rfl, hxw, trivial⟩
 refine m2 (s2 AN (f_4 BO rfl AN.e (cs := [(iv b.scales), vt, vm]) rfl) ?_)
 rintro a1 _ w3 ⟨H, rfl, BP⟩ BL; clear AN BO a0
 refine s1 BL (a_0 rfl (evc _ _)) fun a6 BM => ?_; clear BL a1
 refine n4 (s1 BM (a_0 rfl (evc _ _)) fun a8 BN => ?_); clear BM a6
 have A6 := BP.t_0 67 2; clear BP
 refine n2 (m2 (s1 BN (a_0 rfl (evc _ _)) fun Bw Aw => ?_)); clear BN a8
 refine n1 (c_4 ?_)
 have Ax := Aw.as [(10, (iv 0)), (9, (Value.slice none 0 0)), (4, (bptr H 0)), (1, xz), (2, xw), (3, (iv mn))] rfl; clear Aw
 refine h_3 (G := Nat) (fun (k : Nat) a_ w_ => ∃ ls_ : List (Int × Int), ∃ v9_ : Value, Fr 82 [] [(10, (iv (k : Int))), (9, v9_), (4, (bptr H 0)), (1, xz), (2, xw), (3, (iv mn))] a_ ∧ Sep NoB w w_ [(row v9_ 67 2 ls_.length (pairs ls_)), (blk H 25 [(iv b.scales), vt, vm]), (d_0 false vt lr lb b.tabs), (d_3 false vm lk b.macs), (sl xz 1 z.length (ints z)), (sl xw 1 ws.length (ws.map (Value.int .u16)))] ∧ (k ≤ mn.toNat) ∧ (ls_.length ≤ k) ∧ (ae_2 b z ls_)) (fun k => mn.toNat - k) 0 ⟨[], (Value.slice none 0 0), Ax.as _ rfl, (A6.g_2 (i := 0) rfl (by rfl) (by rfl)), Nat.zero_le _, Nat.le_refl _, ae_2.nil⟩ ?_
 clear Ax A6 Bw
 rintro k Bx Cg ⟨ls_, v9_, AO, E, hkk, hlk, hsi⟩
 refine b_5 (m2 (s1 AO (a_1 rfl AO.e) fun By AP => ?_)); clear AO Bx
 refine s1 AP (a_1 rfl AP.e) fun Bz AE => ?_; clear AP By
 refine s1 AE (f_7 rfl AE.e AE.e) fun B0 AQ => ?_; clear AE Bz
 refine s1 AQ (a_1 rfl AQ.e) fun BK I => ?_; clear AQ B0
 by_cases BA : (k : Int) < mn
 ·skip
  rw [decide_eq_true BA] at I
  refine s5 I (a_4 rfl p_0 I.e) fun B1 AR => ?_; clear I BK
  refine s5 AR (a_2 rfl ac_8 AR.e (E.bk 1 rfl) rfl) fun B2 AS => ?_; clear AR B1
  refine s5 AS (d_1 rfl ad_1 AS.e (c_5 (E.ok 3 _ rfl)).macs) fun B3 AT => ?_; clear AS B2
  refine s5 AT (j_5 rfl AT.e (evc _ _)) fun B4 AF => ?_; clear AT B3
  refine s1 AF (b_6 rfl AF.e AF.e) fun B5 C => ?_; clear AF B4
  refine n1 ?_
  by_cases BB : 0 < (b.macs.length : Int)
  ·skip
   rw [decide_eq_true BB] at C
   refine c_0 C rfl (c_6 (a_7 (b_5 (c_4 (b_5 ?_)))))
   have Ay := C.as [(10, (iv (k : Int))), (9, v9_), (4, (bptr H 0)), (1, xz), (2, xw), (3, (iv mn))] rfl; clear C
   have hwb0 := word_bd hw (k : Int); have hrm0 := rem_bd (y := t_1 ws (k : Int)) (d := (b.macs.length : Int)) hwb0.1 (by omega)
   have Az := Ay.as [(10, (iv (k : Int))), (9, v9_), (4, (bptr H 0)), (1, xz), (2, xw), (3, (iv mn))] rfl; clear Ay
   refine g_0 mixed Az E 6 [[], [], [0, 1], [], [3], [4]] [(Yd.val xw), (Yd.val (iv (k : Int))), (Yd.val (iv (t_1 ws (k : Int)))), (Yd.val (bptr H 2)), (Yd.val vm), (Yd.val (iv (b.macs.length : Int)))] (by decide +kernel) rfl rfl ?_ ?_
   ·skip
    refine dq (fun a w hA hS hd => a_1 rfl hA.e) ?_
    refine dq (fun a w hA hS hd => a_1 rfl hA.e) ?_
    refine ⟨fun a w hA hS hd => by have e0 := hx hd 0; have e1 := hx hd 1; exact d_5 rfl (dx (b_3 rfl en_77 (ev2 (c_3 e0) (c_3 e1)) (word_ok _ ws _ (hS.sk 5 rfl) hw (k : Int) (by omega))) hS (fun _ => rfl)), ?_⟩
    refine dq (fun a w hA hS hd => a_4 rfl p_0 hA.e) ?_
    refine dq (fun a w hA hS hd => a_2 rfl ac_8 (hq hd 3) (hS.bk 1 rfl) rfl) ?_
    refine dq (fun a w hA hS hd => d_1 rfl ad_1 (hq hd 4) (c_5 (hS.ok 3 _ rfl)).macs) ?_
    trivial
   intro B6 Ch A0 J Ag; clear Az E
   have A1 := A0.add (hz Ag 2); clear A0
   have AG := A1.add (hz Ag 5); clear A1
   clear Ag
   refine s1 AG (op_rem rfl AG.e AG.e (by omega)) fun B7 AU => ?_; clear AG B6
   refine s1 AU (a_0 rfl AU.e) fun B8 AH => ?_; clear AU B7
   refine n2 ?_
   obtain ⟨mm, hz_mm, hb_mm⟩ := rem_nat (n := t_1 ws (k : Int)) (m := b.macs.length) (word_bd hw _).1 (by omega); rw [hz_mm] at AH
   have hmv := hb.mac (k := mm) hb_mm; have hsv := hmv.scale; have hbb := biasF_bd hmv; have Cf := hzv (b.macs.getD mm mac0).scale.toNat (by omega)
   refine a_5 (s1 AH (a_4 rfl p_0 AH.e) fun B9 AV => ?_); clear AH B8
   refine s1 AV (a_2 rfl ac_8 AV.e (J.bk 1 rfl) rfl) fun CA AW => ?_; clear AV B9
   refine s1 AW (a_1 rfl AW.e) fun CB AI => ?_; clear AW CA
   refine s1 AI (b_0 rfl ad_1 ac_9 AI.e (i := mm) AI.e (c_5 (J.ok 3 _ rfl)).macs (by decide) (by omega)) fun CC AX => ?_; clear AI CB
   refine s1 AX (e_8 rfl ac_9 AX.e (c_5 (J.ok 3 _ rfl)).macs (t_8 (by omega)) rfl (by decide)) fun CD AY => ?_; clear AX CC
   refine s2 AY (b_3 rfl en_37 (ev1 AY.e) (rbias_ok _ (b.macs.getD mm mac0) _ _ ((c_5 (J.ok 3 _ rfl)).blk (i := mm) (by omega)) hmv (hth.kl _))) ?_
   rintro CE _ Ci ⟨rfl, A5⟩ A2; have A7 := J.step A5; clear A5 AY J CD
   refine s2 A2 (d_9 A7 rfl ze_27 (cs := [(iv 0), (iv 0)]) rfl) ?_
   rintro CF _ Cj ⟨Q, rfl, A8⟩ AJ; clear A2 A7 CE
   refine s7 AJ (b_7 A8 rfl z_9 AJ.e AJ.e (i := 0) rfl (vs := [(iv ((d_4 (b.macs.getD mm mac0)).1)), (iv ((d_4 (b.macs.getD mm mac0)).2))]) rfl rfl rfl (Nat.le_of_ble_eq_true rfl)) ?_
   intro _ CQ A9 A3; clear AJ
   have K : Sep NoB w CQ [(blk Q 27 [(iv ((d_4 (b.macs.getD mm mac0)).1)), (iv ((d_4 (b.macs.getD mm mac0)).2))]), (row v9_ 67 2 ls_.length (pairs ls_)), (blk H 25 [(iv b.scales), vt, vm]), (d_0 false vt lr lb b.tabs), (d_3 false vm lk b.macs), (sl xz 1 z.length (ints z)), (sl xw 1 ws.length (ws.map (Value.int .u16)))] := A9; clear A9 A8
   refine n2 (b_5 ?_)
   have AZ := A3.as [(12, (bptr Q 0)), (11, (iv (mm : Int))), (10, (iv (k : Int))), (9, v9_), (4, (bptr H 0)), (1, xz), (2, xw), (3, (iv mn))] rfl; clear A3
   refine a_5 (s1 AZ (a_4 rfl p_1 AZ.e) fun CG Aa => ?_); clear AZ CF
   refine s1 Aa (a_2 rfl ty_3 Aa.e (K.bk 0 rfl) rfl) fun CH Ab => ?_; clear Aa CG
   refine s1 Ab (a_4 rfl s_6 Ab.e) fun CI Ac => ?_; clear Ab CH
   refine s1 Ac (a_2 rfl ty_3 Ac.e (K.bk 0 rfl) rfl) fun CJ AK => ?_; clear Ac CI
   refine s1 AK (j_5 rfl AK.e AK.e) fun CK D => ?_; clear AK CJ
   refine n1 ?_
   by_cases BC : ((d_4 (b.macs.getD mm mac0)).2) < ((d_4 (b.macs.getD mm mac0)).1)
   ·skip
    rw [decide_eq_true BC] at D
    refine c_0 D rfl (g_6 (b_2 (f_2 (a_7 ?_))))
    have Ad := D.as [(10, (iv (k : Int))), (9, v9_), (4, (bptr H 0)), (1, xz), (2, xw), (3, (iv mn))] rfl; clear D
    refine a_5 (s1 Ad (a_1 rfl Ad.e) fun CL Ae => ?_); clear Ad CK
    refine s1 Ae (e_3 rfl Ae.e (evc _ _) (by omega) (by omega)) fun CM Af => ?_; clear Ae CL
    refine s1 Af (a_0 rfl Af.e) fun Ce Bt => ?_; clear Af CM
    refine e_6 ?_
    have Bu := K.gkp (gpc 1 (gpc 2 (gpc 3 (gpc 4 (gpc 5 (gpc 6 gpn)))))); clear K
    exact a_7 ⟨k + 1, ⟨ls_, v9_, Bt.as _ rfl, Bu, by omega, (by first | omega | (simp only [List.length_append, List.length_cons, List.length_nil]; omega)), (by first | exact hsi | exact hsi.snoc hb_mm (by omega) (by omega) (by assumption) (by omega) (by omega))⟩, by omega⟩
   skip
   rw [decide_eq_false BC] at D
   refine b_4 D rfl (c_6 (a_7 (b_5 ?_)))
   have hwb := word_bd hw (3 * (k : Int) + 1); have hrm := rem_bd (y := t_1 ws (3 * (k : Int) + 1)) (d := min 400 ((d_4 (b.macs.getD mm mac0)).2 - (d_4 (b.macs.getD mm mac0)).1) + 1) hwb.1 (by omega)
   have A4 := D.as [(12, (bptr Q 0)), (11, (iv (mm : Int))), (10, (iv (k : Int))), (9, v9_), (4, (bptr H 0)), (1, xz), (2, xw), (3, (iv mn))] rfl; clear D
   refine g_0 mixed A4 K 25 [[], [], [1], [], [2, 3], [4], [5], [0, 6], [7], [], [9], [8, 10], [], [], [13], [14], [12, 15], [], [17], [], [19], [18, 20], [21], [22], [16, 23]] [(Yd.val xz), (Yd.val (bptr H 2)), (Yd.val vm), (Yd.val (iv (mm : Int))), (Yd.val (eptr vm (mm * 2))), (Yd.val (eptr vm (mm * 2 + 0))), (Yd.val (iv ((b.macs.getD mm mac0).scale))), (Yd.val (eptr xz (((b.macs.getD mm mac0).scale).toNat * 1))), (Yd.val (iv (z.getD (((b.macs.getD mm mac0).scale).toNat) 0))), (Yd.val (bptr Q 0)), (Yd.val (iv ((d_4 (b.macs.getD mm mac0)).1))), (Yd.val (iv ((z.getD (((b.macs.getD mm mac0).scale).toNat) 0) + ((d_4 (b.macs.getD mm mac0)).1)))), (Yd.val xw), (Yd.val (iv (k : Int))), (Yd.val (iv (3 * (k : Int)))), (Yd.val (iv ((3 * (k : Int)) + 1))), (Yd.val (iv (t_1 ws ((3 * (k : Int)) + 1)))), (Yd.val (bptr Q 1)), (Yd.val (iv ((d_4 (b.macs.getD mm mac0)).2))), (Yd.val (bptr Q 0)), (Yd.val (iv ((d_4 (b.macs.getD mm mac0)).1))), (Yd.val (iv (((d_4 (b.macs.getD mm mac0)).2) - ((d_4 (b.macs.getD mm mac0)).1)))), (Yd.val (iv (min 400 (((d_4 (b.macs.getD mm mac0)).2) - ((d_4 (b.macs.getD mm mac0)).1))))), (Yd.val (iv ((min 400 (((d_4 (b.macs.getD mm mac0)).2) - ((d_4 (b.macs.getD mm mac0)).1))) + 1))), (Yd.val (iv (((t_1 ws ((3 * (k : Int)) + 1))).tmod ((min 400 (((d_4 (b.macs.getD mm mac0)).2) - ((d_4 (b.macs.getD mm mac0)).1))) + 1))))] (by decide +kernel) rfl rfl ?_ ?_
   ·skip
    refine dq (fun a w hA hS hd => a_1 rfl hA.e) ?_
    refine dq (fun a w hA hS hd => a_4 rfl p_0 hA.e) ?_
    refine dq (fun a w hA hS hd => a_2 rfl ac_8 (hq hd 1) (hS.bk 2 rfl) rfl) ?_
    refine dq (fun a w hA hS hd => a_1 rfl hA.e) ?_
    refine dq (fun a w hA hS hd => b_0 rfl ad_1 ac_9 (hq hd 2) (i := mm) (hq hd 3) (c_5 (hS.ok 4 _ rfl)).macs (by decide) (by omega)) ?_
    refine dq (fun a w hA hS hd => e_5 rfl fd_61_0 (hq hd 4) (c_5 (hS.ok 4 _ rfl)).macs (by rw [((c_5 (hS.ok 4 _ rfl)).macs).1]; omega)) ?_
    refine dq (fun a w hA hS hd => c_1 rfl ty_3 (hq hd 5) (c_5 (hS.ok 4 _ rfl)).macs (macs_at0 (by omega))) ?_
    refine dq (fun a w hA hS hd => b_0 rfl j_1 ty_3 (hq hd 0) (i := ((b.macs.getD mm mac0).scale).toNat) ((hq hd 6).trans (g_4 (by omega))) (hS.sk 5 rfl) (by decide) (by omega)) ?_
    refine dq (fun a w hA hS hd => c_1 rfl ty_3 (hq hd 7) (hS.sk 5 rfl) (ints_at (by omega))) ?_
    refine dq (fun a w hA hS hd => a_4 rfl p_1 hA.e) ?_
    refine dq (fun a w hA hS hd => a_2 rfl ty_3 (hq hd 9) (hS.bk 0 rfl) rfl) ?_
    refine dq (fun a w hA hS hd => e_3 rfl (hq hd 8) (hq hd 10) (by omega) (by omega)) ?_
    refine dq (fun a w hA hS hd => a_1 rfl hA.e) ?_
    refine dq (fun a w hA hS hd => a_1 rfl hA.e) ?_
    refine dq (fun a w hA hS hd => op_mul rfl (evc _ _) (hq hd 13) (by omega) (by omega)) ?_
    refine dq (fun a w hA hS hd => e_3 rfl (hq hd 14) (evc _ _) (by omega) (by omega)) ?_
    refine ⟨fun a w hA hS hd => by have CO := hx hd 12; have CP := hx hd 15; exact d_5 rfl (dx (b_3 rfl en_77 (ev2 (c_3 CO) (c_3 CP)) (word_ok _ ws _ (hS.sk 6 rfl) hw ((3 * (k : Int)) + 1) (by omega))) hS (fun _ => rfl)), ?_⟩
    refine dq (fun a w hA hS hd => a_4 rfl s_6 hA.e) ?_
    refine dq (fun a w hA hS hd => a_2 rfl ty_3 (hq hd 17) (hS.bk 0 rfl) rfl) ?_
    refine dq (fun a w hA hS hd => a_4 rfl p_1 hA.e) ?_
    refine dq (fun a w hA hS hd => a_2 rfl ty_3 (hq hd 19) (hS.bk 0 rfl) rfl) ?_
    refine dq (fun a w hA hS hd => h_2 rfl (hq hd 18) (hq hd 20) (by omega) (by omega)) ?_
    refine dq (fun a w hA hS hd => op_min rfl (evc _ _) (hq hd 21)) ?_
    refine dq (fun a w hA hS hd => e_3 rfl (hq hd 22) (evc _ _) (by omega) (by omega)) ?_
    refine dq (fun a w hA hS hd => op_rem rfl (hq hd 16) (hq hd 23) (by omega)) ?_
    trivial
   intro CN Ck Ah F AL; clear A4 K
   have Ai := Ah.add (hz AL 11); clear Ah
   have L := Ai.add (hz AL 24); clear Ai
   clear AL
   refine s1 L (e_3 rfl L.e L.e (by omega) (by omega)) fun BQ R => ?_; clear L CN
   refine s1 R (a_0 rfl R.e) fun BR M => ?_; clear R BQ
   refine n2 ?_
   obtain ⟨nn, hz_nn, hlo_nn, hhi_nn⟩ : ∃ nn : Int, ((z.getD (((b.macs.getD mm mac0).scale).toNat) 0) + ((d_4 (b.macs.getD mm mac0)).1)) + (((t_1 ws ((3 * (k : Int)) + 1))).tmod ((min 400 (((d_4 (b.macs.getD mm mac0)).2) - ((d_4 (b.macs.getD mm mac0)).1))) + 1)) = nn ∧ (z.getD (b.macs.getD mm mac0).scale.toNat 0) + (d_4 (b.macs.getD mm mac0)).1 ≤ nn ∧ nn ≤ (z.getD (b.macs.getD mm mac0).scale.toNat 0) + (d_4 (b.macs.getD mm mac0)).2 := ⟨_, rfl, by omega, by omega⟩; rw [hz_nn] at M
   refine a_5 (s1 M (a_1 rfl M.e) fun BS S => ?_); clear M BR
   refine s1 S (aa_4 rfl S.e (evc _ _)) fun BT T => ?_; clear S BS
   refine s1 T (a_1 rfl T.e) fun Au B => ?_; clear T BT
   by_cases As : 0 ≤ nn
   ·skip
    rw [decide_eq_true As] at B
    refine s5 B (a_1 rfl B.e) fun BU U => ?_; clear B Au
    refine s5 U (v_6 rfl U.e (evc _ _)) fun BV N => ?_; clear U BU
    refine s1 N (b_6 rfl N.e N.e) fun Av A => ?_; clear N BV
    refine n1 ?_
    by_cases At : nn ≤ 100000
    ·skip
     rw [decide_eq_true At] at A
     refine c_0 A rfl ?_
     have V := A.as [(13, (iv nn)), (11, (iv (mm : Int))), (10, (iv (k : Int))), (9, v9_), (4, (bptr H 0)), (1, xz), (2, xw), (3, (iv mn))] rfl; clear A
     refine a_5 (s1 V (a_1 rfl V.e) fun BW W => ?_); clear V Av
     refine s1 W (a_1 rfl W.e) fun BX X => ?_; clear W BW
     refine s1 X (a_1 rfl X.e) fun BY O => ?_; clear X BX
     refine s1 O (e_7 rfl (pv2 O.e O.e) (bd_67_0i_1i _ _)) fun BZ Y => ?_; clear O BY
     refine s2 Y (h_0 F rfl (pv1 Y.e) un_49 ty_67 ze_67 (by decide) (cs := [(iv (mm : Int)), (iv nn)]) (bs_67_1_0iia _ _)) ?_
     rintro Ba _ Cc ⟨CZ, rfl, AM⟩ P; clear Y F BZ
     refine s2 P (k_7 AM rfl un_49 el_67 P.e P.e (i := 2) rfl (SlAt.of_blk (AM.bk 0 rfl) rfl (Nat.le_of_ble_eq_true rfl)) rfl (by simp only [maxLen]; omega) (by omega)) ?_
     intro Bb BD Cd Aq Z
     have Ar := Aq.g_2 (i := 2) rfl (n' := (ls_ ++ [((mm : Int), nn)]).length) (xs' := (pairs (ls_ ++ [((mm : Int), nn)]))) (by simp) (by simp [pairs]); clear Aq P AM Ba
     refine s1 Z (a_0 rfl Z.e) fun Bc Aj => ?_; clear Z Bb
     refine e_6 (g_3 (a_7 ?_))
     have c := Aj.as [(9, BD), (10, (iv (k : Int))), (4, (bptr H 0)), (1, xz), (2, xw), (3, (iv mn))] rfl; clear Aj
     refine a_5 (s1 c (a_1 rfl c.e) fun Bd f => ?_); clear c Bc
     refine s1 f (e_3 rfl f.e (evc _ _) (by omega) (by omega)) fun Be g => ?_; clear f Bd
     refine s1 g (a_0 rfl g.e) fun CS BE => ?_; clear g Be
     refine e_6 ?_
     have BH := Ar.gkp (gpc 2 (gpc 3 (gpc 4 (gpc 5 (gpc 6 (gpc 7 gpn)))))); clear Ar
     exact a_7 ⟨k + 1, ⟨(ls_ ++ [((mm : Int), nn)]), BD, BE.as _ rfl, BH, by omega, (by first | omega | (simp only [List.length_append, List.length_cons, List.length_nil]; omega)), (by first | exact hsi | exact hsi.snoc hb_mm (by omega) (by omega) (by assumption) (by omega) (by omega))⟩, by omega⟩
    skip
    rw [decide_eq_false At] at A
    refine b_4 A rfl (c_6 (g_3 (a_7 ?_)))
    have h := A.as [(10, (iv (k : Int))), (9, v9_), (4, (bptr H 0)), (1, xz), (2, xw), (3, (iv mn))] rfl; clear A
    refine a_5 (s1 h (a_1 rfl h.e) fun Bf j => ?_); clear h Av
    refine s1 j (e_3 rfl j.e (evc _ _) (by omega) (by omega)) fun Bg o => ?_; clear j Bf
    refine s1 o (a_0 rfl o.e) fun CT BF => ?_; clear o Bg
    refine e_6 ?_
    have BI := F.gkp (gpc 1 (gpc 2 (gpc 3 (gpc 4 (gpc 5 (gpc 6 gpn)))))); clear F
    exact a_7 ⟨k + 1, ⟨ls_, v9_, BF.as _ rfl, BI, by omega, (by first | omega | (simp only [List.length_append, List.length_cons, List.length_nil]; omega)), (by first | exact hsi | exact hsi.snoc hb_mm (by omega) (by omega) (by assumption) (by omega) (by omega))⟩, by omega⟩
   skip
   rw [decide_eq_false As] at B
   refine s3 B fun Bh Ak => ?_; clear B Au
   refine s3 Ak fun Bi p => ?_; clear Ak Bh
   refine s1 p (c_7 rfl p.e (evc _ _)) fun Bj q => ?_; clear p Bi
   refine n1 (b_4 q rfl (c_6 (g_3 (a_7 ?_))))
   have r := q.as [(10, (iv (k : Int))), (9, v9_), (4, (bptr H 0)), (1, xz), (2, xw), (3, (iv mn))] rfl; clear q
   refine a_5 (s1 r (a_1 rfl r.e) fun Bk s => ?_); clear r Bj
   refine s1 s (e_3 rfl s.e (evc _ _) (by omega) (by omega)) fun Bl t => ?_; clear s Bk
   refine s1 t (a_0 rfl t.e) fun CU BG => ?_; clear t Bl
   refine e_6 ?_
   have BJ := F.gkp (gpc 1 (gpc 2 (gpc 3 (gpc 4 (gpc 5 (gpc 6 gpn)))))); clear F
   exact a_7 ⟨k + 1, ⟨ls_, v9_, BG.as _ rfl, BJ, by omega, (by first | omega | (simp only [List.length_append, List.length_cons, List.length_nil]; omega)), (by first | exact hsi | exact hsi.snoc hb_mm (by omega) (by omega) (by assumption) (by omega) (by omega))⟩, by omega⟩
  skip
  rw [decide_eq_false BB] at C
  refine b_4 C rfl (g_6 (b_2 (b_2 (f_2 (a_7 (b_5 ?_))))))
  have u := C.as [(9, v9_)] rfl; clear C
  refine a_5 (s1 u (a_1 rfl u.e) fun Bm x => ?_); clear u B5
  refine s1 x (a_0 rfl x.e) fun CV Al => ?_; clear x Bm
  refine n1 (c_2 (a_8 Al (.inl rfl) (a_3 Al rfl (.tmp rfl)) ?_))
  exact ⟨ls_, hsi, by omega, E.ext, E.row_new (i := 0) rfl⟩
 skip
 rw [decide_eq_false BA] at I
 refine s3 I fun Bn Am => ?_; clear I BK
 refine s3 Am fun Bo An => ?_; clear Am Bn
 refine s3 An fun Bp Ao => ?_; clear An Bo
 refine s3 Ao fun Bq AA => ?_; clear Ao Bp
 refine s1 AA (c_7 rfl AA.e (evc _ _)) fun Br AB => ?_; clear AA Bq
 refine n1 (b_4 AB rfl (g_6 (b_2 (b_2 (f_2 (a_7 (b_5 ?_)))))))
 have AC := AB.as [(9, v9_)] rfl; clear AB
 refine a_5 (s1 AC (a_1 rfl AC.e) fun Bs AD => ?_); clear AC Br
 refine s1 AD (a_0 rfl AD.e) fun CW Ap => ?_; clear AD Bs
 refine n1 (c_2 (a_8 Ap (.inl rfl) (a_3 Ap rfl (.tmp rfl)) ?_))
 exact ⟨ls_, hsi, by omega, E.ext, E.row_new (i := 0) rfl⟩
set_option maxHeartbeats 4000000 in
theorem Truly_ok (b : h_4) (vt vm : Value) (lr lb lk : Nat → Value) (w : World) (hT : j_8 w vt lr lb b.tabs) (hM : k_6 w vm lk b.macs) (hth : o_6 b) (hb : k_5 b) (ws : List Int) (xw : Value) (hxw : SlAt w xw 1 ws.length (ws.map (Value.int .u16))) (hw : ad_4 ws) :
  Calls Try.prog 44 #[(Value.agg #[(iv b.scales), vt, vm]), xw] w (Ret fun v w' => ∃ u z, v = .tuple #[u, .bool (t_6 b [] z)] ∧ (z.length : Int) = b.scales ∧ Sep NoB w w' [row u 3 1 z.length (ints z)]) := by
 refine a_9 Try.func44 rfl fun a0 Br => ?_
 replace Br : Fr 116 [] [(0, (Value.agg #[(iv b.scales), vt, vm])), (1, xw)] a0 := Br
 have hsc := hb.scales; have htl9 := hth.tl; have hml9 := hth.ml; have GE : q_4 b [] := ae_2.nil.reads (z := []) (Nat.zero_le _)
 have ED : Sep NoB w w [(d_0 false vt lr lb b.tabs), (d_3 false vm lk b.macs), (sl xw 1 ws.length (ws.map (Value.int .u16)))] := f_1 ⟨rfl, hT, rfl, hM, rfl, hxw, trivial⟩
 refine m2 (s2 Br (f_4 ED rfl Br.e (cs := [(iv b.scales), vt, vm]) rfl) ?_)
 rintro a1 _ w3 ⟨E, rfl, Dm⟩ EB; clear Br ED a0
 refine s1 EB (a_0 rfl (evc _ _)) fun a6 EC => ?_; clear EB a1
 refine s1 EC (a_0 rfl (evc _ _)) fun a8 Dj => ?_; clear EC a6
 refine n4 (s1 Dj (a_4 rfl ab_6 Dj.e) fun Fg Bs => ?_); clear Dj a8
 refine s1 Bs (a_2 rfl ty_3 Bs.e (Dm.bk 0 rfl) rfl) fun Fh Ac => ?_; clear Bs Fg
 refine s2 Ac (op_makeFull (n := b.scales.toNat) Dm rfl j_1 el_3 (Ac.e.trans (g_4 (by omega))) (Ac.e.trans (g_4 (by omega))) (mk_int _) (by omega) (by omega) (by simp only [maxLen]; omega)) ?_
 intro Fi B Gf B9 Bt; clear Ac Dm Fh
 refine s1 Bt (a_0 rfl Bt.e) fun Fj DZ => ?_; clear Bt Fi
 refine n2 ?_
 have Bu := DZ.as [(6, B), (2, (bptr E 0)), (1, xw)] rfl; clear DZ
 refine a_5 (s1 Bu (a_4 rfl ab_6 Bu.e) fun Fk Bv => ?_); clear Bu Fj
 refine s1 Bv (a_2 rfl ty_3 Bv.e (B9.bk 1 rfl) rfl) fun Fl At => ?_; clear Bv Fk
 refine s2 At (op_makeFull (n := b.scales.toNat) B9 rfl un_137 el_4 (At.e.trans (g_4 (by omega))) (At.e.trans (g_4 (by omega))) (mk_bool _) (by omega) (by omega) (by simp only [maxLen]; omega)) ?_
 intro Fm C Gg Dl Bw; clear At B9 Fl
 refine s1 Bw (a_0 rfl Bw.e) fun Fn Da => ?_; clear Bw Fm
 refine n2 (m2 (s1 Da (a_0 rfl (evc _ _)) fun Fo Db => ?_)); clear Da Fn
 refine n1 (c_4 ?_)
 have Dc := Db.as [(8, (iv 0)), (7, C), (6, B), (2, (bptr E 0)), (1, xw)] rfl; clear Db
 refine h_3 (G := Nat) (fun (s : Nat) a_ w_ => ∃ z0 : List Int, ∃ k0 : List Bool, Fr 116 [] [(8, (iv (s : Int))), (7, C), (6, B), (2, (bptr E 0)), (1, xw)] a_ ∧ Sep NoB w w_ [(row C 4 1 k0.length (p_7 k0)), (row B 3 1 z0.length (ints z0)), (blk E 25 [(iv b.scales), vt, vm]), (d_0 false vt lr lb b.tabs), (d_3 false vm lk b.macs), (sl xw 1 ws.length (ws.map (Value.int .u16)))] ∧ (s ≤ b.scales.toNat) ∧ (z0.length = b.scales.toNat) ∧ (k0.length = b.scales.toNat)) (fun s => b.scales.toNat - s) 0 ⟨(List.replicate b.scales.toNat 0), (List.replicate b.scales.toNat false), Dc.as _ rfl, ((Dl.g_2 (i := 1) rfl (by simp only [List.length_replicate]) rfl).g_2 (i := 0) rfl (by simp only [List.length_replicate]) rfl), Nat.zero_le _, (by first | assumption | (simp only [List.length_set]; assumption) | (simp only [List.length_replicate]; done)), (by first | assumption | (simp only [List.length_set]; assumption) | (simp only [List.length_replicate]; done))⟩ ?_
 clear Dc Dl Fo
 rintro s Fp Gh ⟨z0, k0, Bx, X, hks, GF, GB⟩
 refine b_5 (m2 (s1 Bx (a_1 rfl Bx.e) fun Fq By => ?_)); clear Bx Fp
 refine s1 By (a_4 rfl ab_6 By.e) fun Fs Bz => ?_; clear By Fq
 refine s1 Bz (a_2 rfl ty_3 Bz.e (X.bk 2 rfl) rfl) fun Ft BV => ?_; clear Bz Fs
 refine s1 BV (f_7 rfl BV.e BV.e) fun D9 c => ?_; clear BV Ft
 refine n1 ?_
 by_cases Do : (s : Int) < b.scales
 ·skip
  rw [decide_eq_true Do] at c
  refine c_0 c rfl (c_6 (a_7 (b_5 (c_4 (b_5 (m2 (s1 c (a_0 rfl (evc _ _)) fun Fu Dd => ?_))))))); clear c D9
  refine n1 (c_4 ?_)
  have De := Dd.as [(9, (Value.bool true)), (8, (iv (s : Int))), (7, C), (6, B), (2, (bptr E 0)), (1, xw)] rfl; clear Dd
  refine h_3 (G := Nat) (fun (g : Nat) a_ w_ => ∃ z1 : List Int, ∃ t : List Bool, ∃ c1 : Bool, Fr 116 [] [(9, (Value.bool c1)), (8, (iv (s : Int))), (7, C), (6, B), (2, (bptr E 0)), (1, xw)] a_ ∧ Sep NoB w w_ [(row C 4 1 t.length (p_7 t)), (row B 3 1 z1.length (ints z1)), (blk E 25 [(iv b.scales), vt, vm]), (d_0 false vt lr lb b.tabs), (d_3 false vm lk b.macs), (sl xw 1 ws.length (ws.map (Value.int .u16)))] ∧ (g = measT t c1) ∧ (z1.length = b.scales.toNat) ∧ (t.length = b.scales.toNat)) (fun g => g) (measT k0 true) ⟨z0, k0, true, De.as _ rfl, X, rfl, GF, GB⟩ ?_
  clear De X Fu
  rintro g Fv Gi ⟨z1, t, c1, B0, m, hg, GG, GC⟩
  refine b_5 (m2 (s1 B0 (a_1 rfl B0.e) fun EA U => ?_)); clear B0 Fv
  refine n1 ?_
  rcases Bool.eq_false_or_eq_true (c1) with CA | CA
  ·skip
   rw [CA] at U
   refine c_0 U rfl (c_6 (a_7 (c_4 (m2 (s1 U (a_0 rfl (evc _ _)) fun Fw Df => ?_))))); clear U EA
   refine n4 (s1 Df (a_0 rfl (evc _ _)) fun Fx Dg => ?_); clear Df Fw
   refine n1 (c_4 ?_)
   have Dh := Dg.as [(10, (iv 0)), (9, (Value.bool false)), (8, (iv (s : Int))), (7, C), (6, B), (2, (bptr E 0)), (1, xw)] rfl; clear Dg
   refine h_3 (G := Nat) (fun (q : Nat) a_ w_ => ∃ A : List Int, ∃ F : List Bool, ∃ Z : Bool, Fr 116 [] [(10, (iv (q : Int))), (9, (Value.bool Z)), (8, (iv (s : Int))), (7, C), (6, B), (2, (bptr E 0)), (1, xw)] a_ ∧ Sep NoB w w_ [(row C 4 1 F.length (p_7 F)), (row B 3 1 A.length (ints A)), (blk E 25 [(iv b.scales), vt, vm]), (d_0 false vt lr lb b.tabs), (d_3 false vm lk b.macs), (sl xw 1 ws.length (ws.map (Value.int .u16)))] ∧ (q ≤ b.tabs.length) ∧ (A.length = b.scales.toNat) ∧ (F.length = b.scales.toNat) ∧ (unk F + Z.toNat ≤ unk t)) (fun q => b.tabs.length - q) 0 ⟨z1, t, false, Dh.as _ rfl, m, Nat.zero_le _, GG, GC, Nat.le_refl _⟩ ?_
   clear Dh m Fx
   rintro q Fy Gj ⟨A, F, Z, B1, o, hkq, GH, GD, hun⟩
   refine b_5 (m2 (s1 B1 (a_1 rfl B1.e) fun Fz B2 => ?_)); clear B1 Fy
   refine s1 B2 (a_4 rfl o_9 B2.e) fun F0 B3 => ?_; clear B2 Fz
   refine s1 B3 (a_2 rfl ac_7 B3.e (o.bk 2 rfl) rfl) fun F1 B4 => ?_; clear B3 F0
   refine s1 B4 (d_1 rfl ad_0 B4.e (b_8 (o.ok 3 _ rfl)).tabs) fun F2 BW => ?_; clear B4 F1
   refine s1 BW (f_7 rfl BW.e BW.e) fun F3 f => ?_; clear BW F2
   refine n1 ?_
   by_cases Dp : (q : Int) < (b.tabs.length : Int)
   ·skip
    rw [decide_eq_true Dp] at f
    have htv := hb.tab (k := q) (by omega); have hfd := htv.frm; have hdd := htv.dst; have hed := htv.err; have hmd := madeV_bd htv (A.getD (b.tabs.getD q tab0).frm.toNat 0); have hml := madeV_le htv (A.getD (b.tabs.getD q tab0).frm.toNat 0)
    refine c_0 f rfl (c_6 (a_7 (b_5 (c_4 (m2 (s1 f (a_4 rfl o_9 f.e) fun F4 B5 => ?_)))))); clear f F3
    refine s1 B5 (a_2 rfl ac_7 B5.e (o.bk 2 rfl) rfl) fun F5 B6 => ?_; clear B5 F4
    refine s1 B6 (a_1 rfl B6.e) fun F6 BX => ?_; clear B6 F5
    refine s1 BX (b_0 rfl ad_0 ac_1 BX.e (i := q) BX.e (b_8 (o.ok 3 _ rfl)).tabs (by decide) (by omega)) fun F7 B7 => ?_; clear BX F6
    refine s1 B7 (e_8 rfl ac_1 B7.e (b_8 (o.ok 3 _ rfl)).tabs (u_3 (by omega)) rfl (by decide)) fun F8 Di => ?_; clear B7 F7
    refine s2 Di (d_9 o rfl ze_46 (cs := [(iv 0), (iv 0), (Value.slice none 0 0), (Value.slice none 0 0), (iv 0)]) rfl) ?_
    rintro F9 _ Gk ⟨D, rfl, Bj⟩ BY; clear Di o F8
    refine s7 BY (b_7 Bj rfl ac_1 BY.e BY.e (i := 0) rfl (vs := [(iv ((b.tabs.getD q tab0).frm)), (iv ((b.tabs.getD q tab0).dst)), (lr q), (lb q), (iv ((b.tabs.getD q tab0).err))]) rfl rfl (i_0 rfl (i_0 rfl (i_0 (SlAt.one ((b_8 (Bj.ok 4 _ rfl)).row (i := q) (by omega))) (i_0 (SlAt.one ((b_8 (Bj.ok 4 _ rfl)).brk (i := q) (by omega))) (i_0 rfl u_9))))) (Nat.le_of_ble_eq_true rfl)) ?_
    intro _ GI Dn Dk; clear BY
    have O : Sep NoB w GI [(blk D 46 [(iv ((b.tabs.getD q tab0).frm)), (iv ((b.tabs.getD q tab0).dst)), (lr q), (lb q), (iv ((b.tabs.getD q tab0).err))]), (row C 4 1 F.length (p_7 F)), (row B 3 1 A.length (ints A)), (blk E 25 [(iv b.scales), vt, vm]), (d_0 false vt lr lb b.tabs), (d_3 false vm lk b.macs), (sl xw 1 ws.length (ws.map (Value.int .u16)))] := Dn; clear Dn Bj
    refine n2 (b_5 ?_)
    have B8 := Dk.as [(11, (bptr D 0)), (10, (iv (q : Int))), (9, (Value.bool Z)), (8, (iv (s : Int))), (7, C), (6, B), (2, (bptr E 0)), (1, xw)] rfl; clear Dk
    refine a_5 (s1 B8 (a_1 rfl B8.e) fun GA AS => ?_); clear B8 F9
    refine s1 AS (a_4 rfl fd_46_0 AS.e) fun EE AT => ?_; clear AS GA
    refine s1 AT (a_2 rfl ty_3 AT.e (O.bk 0 rfl) rfl) fun EF x => ?_; clear AT EE
    refine s1 x (b_0 rfl un_137 ty_4 x.e (i := ((b.tabs.getD q tab0).frm).toNat) (x.e.trans (g_4 (by omega))) (SlAt.e_9 (O.f_3 1 rfl)) (by decide) (by omega)) fun EG AU => ?_; clear x EF
    refine s1 AU (c_1 rfl ty_4 AU.e (SlAt.e_9 (O.f_3 1 rfl)) (boolC_at (by omega))) fun EH AV => ?_; clear AU EG
    refine s1 AV (f_5 rfl AV.e) fun EI AW => ?_; clear AV EH
    refine s1 AW (a_1 rfl AW.e) fun DS T => ?_; clear AW EI
    rcases Bool.eq_false_or_eq_true ((F.getD (((b.tabs.getD q tab0).frm).toNat) false)) with Bk | Bk
    ·skip
     rw [Bk] at T
     refine s5 T (a_1 rfl T.e) fun EJ AX => ?_; clear T DS
     refine s5 AX (a_4 rfl s_7 AX.e) fun EK AY => ?_; clear AX EJ
     refine s5 AY (a_2 rfl ty_3 AY.e (O.bk 0 rfl) rfl) fun EL AA => ?_; clear AY EK
     refine s5 AA (b_0 rfl un_137 ty_4 AA.e (i := ((b.tabs.getD q tab0).dst).toNat) (AA.e.trans (g_4 (by omega))) (SlAt.e_9 (O.f_3 1 rfl)) (by decide) (by omega)) fun EM AZ => ?_; clear AA EL
     refine s5 AZ (c_1 rfl ty_4 AZ.e (SlAt.e_9 (O.f_3 1 rfl)) (boolC_at (by omega))) fun EN AB => ?_; clear AZ EM
     refine s1 AB (c_7 rfl AB.e AB.e) fun EO P => ?_; clear AB EN
     refine n1 ?_
     rcases Bool.eq_false_or_eq_true ((F.getD (((b.tabs.getD q tab0).dst).toNat) false)) with Bl | Bl
     ·skip
      rw [Bl] at P
      refine c_0 P rfl (g_6 (b_2 (f_2 (a_7 ?_))))
      have Aa := P.as [(10, (iv (q : Int))), (9, (Value.bool Z)), (8, (iv (s : Int))), (7, C), (6, B), (2, (bptr E 0)), (1, xw)] rfl; clear P
      refine a_5 (s1 Aa (a_1 rfl Aa.e) fun EP Ab => ?_); clear Aa EO
      refine s1 Ab (e_3 rfl Ab.e (evc _ _) (by omega) (by omega)) fun EQ Ad => ?_; clear Ab EP
      refine s1 Ad (a_0 rfl Ad.e) fun GK Dr => ?_; clear Ad EQ
      refine e_6 ?_
      have Dz := O.gkp (gpc 1 (gpc 2 (gpc 3 (gpc 4 (gpc 5 (gpc 6 gpn)))))); clear O
      exact a_7 ⟨q + 1, ⟨A, F, Z, Dr.as _ rfl, Dz, by omega, (by first | assumption | (simp only [List.length_set]; assumption) | (simp only [List.length_replicate]; done)), (by first | assumption | (simp only [List.length_set]; assumption) | (simp only [List.length_replicate]; done)), (by first | exact hun | exact unk_go hun (by omega) (by assumption))⟩, by omega⟩
     skip
     rw [Bl] at P
     refine b_4 P rfl (c_6 (a_7 (b_5 ?_)))
     have CV := P.as [(11, (bptr D 0)), (10, (iv (q : Int))), (9, (Value.bool Z)), (8, (iv (s : Int))), (7, C), (6, B), (2, (bptr E 0)), (1, xw)] rfl; clear P
     have Ae := CV.as [(11, (bptr D 0)), (10, (iv (q : Int))), (9, (Value.bool Z)), (8, (iv (s : Int))), (7, C), (6, B), (2, (bptr E 0)), (1, xw)] rfl; clear CV
     refine c_drawF mixed Ae O 11 9 rfl rfl [[], [], [], [2], [1, 3], [4], [0, 5], [6], [7], [7], []] [(yw (Value.agg #[(iv ((b.tabs.getD q tab0).frm)), (iv ((b.tabs.getD q tab0).dst)), (lr q), (lb q), (iv ((b.tabs.getD q tab0).err))])), (yw B), (yw (bptr D 0)), (yw (iv ((b.tabs.getD q tab0).frm))), (yw (eptr B (((b.tabs.getD q tab0).frm).toNat * 1))), (yw (iv (A.getD (((b.tabs.getD q tab0).frm).toNat) 0))), (yw (Value.tuple #[(Value.agg #[(iv ((b_9 (b.tabs.getD q tab0) (A.getD (((b.tabs.getD q tab0).frm).toNat) 0)).1)), (iv ((b_9 (b.tabs.getD q tab0) (A.getD (((b.tabs.getD q tab0).frm).toNat) 0)).2))]), (Value.bool ((i_8 (b.tabs.getD q tab0) (A.getD (((b.tabs.getD q tab0).frm).toNat) 0)).isSome))])), (yw (Value.tuple #[(Value.agg #[(iv ((b_9 (b.tabs.getD q tab0) (A.getD (((b.tabs.getD q tab0).frm).toNat) 0)).1)), (iv ((b_9 (b.tabs.getD q tab0) (A.getD (((b.tabs.getD q tab0).frm).toNat) 0)).2))]), (Value.bool ((i_8 (b.tabs.getD q tab0) (A.getD (((b.tabs.getD q tab0).frm).toNat) 0)).isSome))])), (yw (Value.agg #[(iv ((b_9 (b.tabs.getD q tab0) (A.getD (((b.tabs.getD q tab0).frm).toNat) 0)).1)), (iv ((b_9 (b.tabs.getD q tab0) (A.getD (((b.tabs.getD q tab0).frm).toNat) 0)).2))])), (yw (Value.bool ((i_8 (b.tabs.getD q tab0) (A.getD (((b.tabs.getD q tab0).frm).toNat) 0)).isSome))), (fun (N : Nat → Value) (v_ : Value) (rs_ : List Res) => ∃ (b10_ : Nat), v_ = (bptr b10_ 0) ∧ rs_ = [(blk b10_ 27 [(iv 0), (iv 0)])])] (by decide +kernel) (by decide +kernel) (by decide +kernel) rfl rfl ⟨dw, dw, dw, dw, dw, dw, dw, dw, dw, dw, (fun _ _ _ _ _ h_ => h_), trivial⟩ ?_ ?_ ?_
     ·skip
      refine ⟨fun a w N hA hS hd => gv1 (c_9 rfl ac_1 (hA.ev rfl) (hS.bk 0 rfl) (l := [(iv ((b.tabs.getD q tab0).frm)), (iv ((b.tabs.getD q tab0).dst)), (lr q), (lb q), (iv ((b.tabs.getD q tab0).err))]) rfl rfl), ?_⟩
      refine ⟨fun a w N hA hS hd => gv1 (a_1 rfl hA.e), ?_⟩
      refine ⟨fun a w N hA hS hd => gv1 (a_4 rfl fd_46_0 hA.e), ?_⟩
      refine ⟨fun a w N hA hS hd => gv1 (a_2 rfl ty_3 (gu hd 2) (hS.bk 0 rfl) rfl), ?_⟩
      refine ⟨fun a w N hA hS hd => gv1 (b_0 rfl j_1 ty_3 (gu hd 1) (i := ((b.tabs.getD q tab0).frm).toNat) ((gu hd 3).trans (g_4 (by omega))) (SlAt.e_9 (hS.f_3 2 rfl)) (by decide) (by omega)), ?_⟩
      refine ⟨fun a w N hA hS hd => gv1 (c_1 rfl ty_3 (gu hd 4) (SlAt.e_9 (hS.f_3 2 rfl)) (ints_at (by omega))), ?_⟩
      refine ⟨fun a w N hA hS hd => gx1 (b_3 rfl en_55 (ev2 (gu hd 0) (gu hd 5)) (rmade_ok (b.tabs.getD q tab0) _ _ _ ((b_8 (hS.ok 4 _ rfl)).row (i := q) (by omega)) ((b_8 (hS.ok 4 _ rfl)).brk (i := q) (by omega)) (hth.rl _) (hth.bl _) _ htv (A.getD (((b.tabs.getD q tab0).frm).toNat) 0))), ?_⟩
      refine ⟨fun a w N hA hS hd => gv1 (a_1 rfl (gu hd 6)), ?_⟩
      refine ⟨fun a w N hA hS hd => gv1 (e_0 rfl (gu hd 7) rfl), ?_⟩
      refine ⟨fun a w N hA hS hd => gv1 (e_0 rfl (gu hd 7) rfl), ?_⟩
      refine ⟨fun a w N hA hS hd => d_5 rfl (valloc rfl ze_27 (cs := [(iv 0), (iv 0)]) rfl (fun b_ => ⟨b_, rfl, rfl⟩)), ?_⟩
      trivial
     ·skip
      intro DT FX N rsf143 CW J Bb; clear Ae O
      obtain ⟨Y, Bp⟩ := J 10 (by decide)
      obtain ⟨b10_, r, p⟩ := Bp
      have DB : Sep NoB w FX [(blk b10_ 27 [(iv 0), (iv 0)]), (blk D 46 [(iv ((b.tabs.getD q tab0).frm)), (iv ((b.tabs.getD q tab0).dst)), (lr q), (lb q), (iv ((b.tabs.getD q tab0).err))]), (row C 4 1 F.length (p_7 F)), (row B 3 1 A.length (ints A)), (blk E 25 [(iv b.scales), vt, vm]), (d_0 false vt lr lb b.tabs), (d_3 false vm lk b.macs), (sl xw 1 ws.length (ws.map (Value.int .u16)))] := by rw [show catR rsf143 0 11 = ([(blk b10_ 27 [(iv 0), (iv 0)])] : List Res) by (try simp only [catR, gr (J 0 (by decide)), gr (J 1 (by decide)), gr (J 2 (by decide)), gr (J 3 (by decide)), gr (J 4 (by decide)), gr (J 5 (by decide)), gr (J 6 (by decide)), gr (J 7 (by decide)), gr (J 8 (by decide)), gr (J 9 (by decide)), p]); (try rfl)] at Bb; exact Bb
      have CX := CW.add (gs (J 8 (by decide))); clear CW
      have CY := CX.add (gs (J 9 (by decide))); clear CX
      rw [r] at Y
      have AC : Fr 116 [] [(12, (bptr b10_ 0)), (62, (Value.bool ((i_8 (b.tabs.getD q tab0) (A.getD (((b.tabs.getD q tab0).frm).toNat) 0)).isSome))), (61, (Value.agg #[(iv ((b_9 (b.tabs.getD q tab0) (A.getD (((b.tabs.getD q tab0).frm).toNat) 0)).1)), (iv ((b_9 (b.tabs.getD q tab0) (A.getD (((b.tabs.getD q tab0).frm).toNat) 0)).2))])), (11, (bptr D 0)), (10, (iv (q : Int))), (9, (Value.bool Z)), (8, (iv (s : Int))), (7, C), (6, B), (2, (bptr E 0)), (1, xw)] DT := CY.add (f_6 Y rfl); clear CY
      clear J Bb Y
      clear p
      clear r
      refine s7 AC (b_7 DB rfl z_9 AC.e AC.e (i := 0) rfl (vs := [(iv ((b_9 (b.tabs.getD q tab0) (A.getD (((b.tabs.getD q tab0).frm).toNat) 0)).1)), (iv ((b_9 (b.tabs.getD q tab0) (A.getD (((b.tabs.getD q tab0).frm).toNat) 0)).2))]) rfl rfl rfl (Nat.le_of_ble_eq_true rfl)) ?_
      intro _ FY DC Af; clear AC
      have AO : Sep NoB w FY [(blk b10_ 27 [(iv ((b_9 (b.tabs.getD q tab0) (A.getD (((b.tabs.getD q tab0).frm).toNat) 0)).1)), (iv ((b_9 (b.tabs.getD q tab0) (A.getD (((b.tabs.getD q tab0).frm).toNat) 0)).2))]), (blk D 46 [(iv ((b.tabs.getD q tab0).frm)), (iv ((b.tabs.getD q tab0).dst)), (lr q), (lb q), (iv ((b.tabs.getD q tab0).err))]), (row C 4 1 F.length (p_7 F)), (row B 3 1 A.length (ints A)), (blk E 25 [(iv b.scales), vt, vm]), (d_0 false vt lr lb b.tabs), (d_3 false vm lk b.macs), (sl xw 1 ws.length (ws.map (Value.int .u16)))] := DC; clear DC DB
      refine s1 Af (a_0 rfl Af.e) fun ER Ag => ?_; clear Af DT
      refine n4 (s1 Ag (a_1 rfl Ag.e) fun ES Q => ?_); clear Ag ER
      refine n1 ?_
      rcases Bool.eq_false_or_eq_true (((i_8 (b.tabs.getD q tab0) (A.getD (((b.tabs.getD q tab0).frm).toNat) 0)).isSome)) with Bm | Bm
      ·skip
       rw [Bm] at Q
       refine c_0 Q rfl (b_5 ?_)
       have hwb := word_bd hw ((q : Int) + 1); have hrm := rem_bd (y := t_1 ws ((q : Int) + 1)) (d := (b_9 (b.tabs.getD q tab0) (A.getD (b.tabs.getD q tab0).frm.toNat 0)).2 - (b_9 (b.tabs.getD q tab0) (A.getD (b.tabs.getD q tab0).frm.toNat 0)).1 + 2 * (b.tabs.getD q tab0).err + 1) hwb.1 (by omega)
       have CZ := Q.as [(12, (bptr b10_ 0)), (11, (bptr D 0)), (10, (iv (q : Int))), (8, (iv (s : Int))), (7, C), (6, B), (2, (bptr E 0)), (1, xw)] rfl; clear Q
       refine g_0 mixed CZ AO 20 [[], [0], [], [2], [1, 3], [], [], [6], [5, 7], [], [9], [], [11], [10, 12], [], [14], [15], [13, 16], [17], [8, 18]] [(Yd.val (bptr b10_ 0)), (Yd.val (iv ((b_9 (b.tabs.getD q tab0) (A.getD (((b.tabs.getD q tab0).frm).toNat) 0)).1))), (Yd.val (bptr D 4)), (Yd.val (iv ((b.tabs.getD q tab0).err))), (Yd.val (iv (((b_9 (b.tabs.getD q tab0) (A.getD (((b.tabs.getD q tab0).frm).toNat) 0)).1) - ((b.tabs.getD q tab0).err)))), (Yd.val xw), (Yd.val (iv (q : Int))), (Yd.val (iv ((q : Int) + 1))), (Yd.val (iv (t_1 ws ((q : Int) + 1)))), (Yd.val (bptr b10_ 1)), (Yd.val (iv ((b_9 (b.tabs.getD q tab0) (A.getD (((b.tabs.getD q tab0).frm).toNat) 0)).2))), (Yd.val (bptr b10_ 0)), (Yd.val (iv ((b_9 (b.tabs.getD q tab0) (A.getD (((b.tabs.getD q tab0).frm).toNat) 0)).1))), (Yd.val (iv (((b_9 (b.tabs.getD q tab0) (A.getD (((b.tabs.getD q tab0).frm).toNat) 0)).2) - ((b_9 (b.tabs.getD q tab0) (A.getD (((b.tabs.getD q tab0).frm).toNat) 0)).1)))), (Yd.val (bptr D 4)), (Yd.val (iv ((b.tabs.getD q tab0).err))), (Yd.val (iv (2 * ((b.tabs.getD q tab0).err)))), (Yd.val (iv ((((b_9 (b.tabs.getD q tab0) (A.getD (((b.tabs.getD q tab0).frm).toNat) 0)).2) - ((b_9 (b.tabs.getD q tab0) (A.getD (((b.tabs.getD q tab0).frm).toNat) 0)).1)) + (2 * ((b.tabs.getD q tab0).err))))), (Yd.val (iv (((((b_9 (b.tabs.getD q tab0) (A.getD (((b.tabs.getD q tab0).frm).toNat) 0)).2) - ((b_9 (b.tabs.getD q tab0) (A.getD (((b.tabs.getD q tab0).frm).toNat) 0)).1)) + (2 * ((b.tabs.getD q tab0).err))) + 1))), (Yd.val (iv (((t_1 ws ((q : Int) + 1))).tmod (((((b_9 (b.tabs.getD q tab0) (A.getD (((b.tabs.getD q tab0).frm).toNat) 0)).2) - ((b_9 (b.tabs.getD q tab0) (A.getD (((b.tabs.getD q tab0).frm).toNat) 0)).1)) + (2 * ((b.tabs.getD q tab0).err))) + 1))))] (by decide +kernel) rfl rfl ?_ ?_
       ·skip
        refine dq (fun a w hA hS hd => a_4 rfl p_1 hA.e) ?_
        refine dq (fun a w hA hS hd => a_2 rfl ty_3 (hq hd 0) (hS.bk 0 rfl) rfl) ?_
        refine dq (fun a w hA hS hd => a_4 rfl x_2 hA.e) ?_
        refine dq (fun a w hA hS hd => a_2 rfl ty_3 (hq hd 2) (hS.bk 1 rfl) rfl) ?_
        refine dq (fun a w hA hS hd => h_2 rfl (hq hd 1) (hq hd 3) (by omega) (by omega)) ?_
        refine dq (fun a w hA hS hd => a_1 rfl hA.e) ?_
        refine dq (fun a w hA hS hd => a_1 rfl hA.e) ?_
        refine dq (fun a w hA hS hd => e_3 rfl (hq hd 6) (evc _ _) (by omega) (by omega)) ?_
        refine ⟨fun a w hA hS hd => by have e5 := hx hd 5; have e7 := hx hd 7; exact d_5 rfl (dx (b_3 rfl en_77 (ev2 (c_3 e5) (c_3 e7)) (word_ok _ ws _ (hS.sk 7 rfl) hw ((q : Int) + 1) (by omega))) hS (fun _ => rfl)), ?_⟩
        refine dq (fun a w hA hS hd => a_4 rfl s_6 hA.e) ?_
        refine dq (fun a w hA hS hd => a_2 rfl ty_3 (hq hd 9) (hS.bk 0 rfl) rfl) ?_
        refine dq (fun a w hA hS hd => a_4 rfl p_1 hA.e) ?_
        refine dq (fun a w hA hS hd => a_2 rfl ty_3 (hq hd 11) (hS.bk 0 rfl) rfl) ?_
        refine dq (fun a w hA hS hd => h_2 rfl (hq hd 10) (hq hd 12) (by omega) (by omega)) ?_
        refine dq (fun a w hA hS hd => a_4 rfl x_2 hA.e) ?_
        refine dq (fun a w hA hS hd => a_2 rfl ty_3 (hq hd 14) (hS.bk 1 rfl) rfl) ?_
        refine dq (fun a w hA hS hd => op_mul rfl (evc _ _) (hq hd 15) (by omega) (by omega)) ?_
        refine dq (fun a w hA hS hd => e_3 rfl (hq hd 13) (hq hd 16) (by omega) (by omega)) ?_
        refine dq (fun a w hA hS hd => e_3 rfl (hq hd 17) (evc _ _) (by omega) (by omega)) ?_
        refine dq (fun a w hA hS hd => op_rem rfl (hq hd 8) (hq hd 18) (by omega)) ?_
        trivial
       intro ET GX Ca DD BZ; clear CZ AO
       have Cb := Ca.add (hz BZ 4); clear Ca
       have AD := Cb.add (hz BZ 19); clear Cb
       clear BZ
       refine s1 AD (e_3 rfl AD.e AD.e (by omega) (by omega)) fun EU Ah => ?_; clear AD ET
       refine s1 Ah (a_0 rfl Ah.e) fun GL Ai => ?_; clear Ah EU
       refine n1 ?_
       obtain ⟨nn, hz_nn⟩ : ∃ nn : Int, (((b_9 (b.tabs.getD q tab0) (A.getD (((b.tabs.getD q tab0).frm).toNat) 0)).1) - ((b.tabs.getD q tab0).err)) + (((t_1 ws ((q : Int) + 1))).tmod (((((b_9 (b.tabs.getD q tab0) (A.getD (((b.tabs.getD q tab0).frm).toNat) 0)).2) - ((b_9 (b.tabs.getD q tab0) (A.getD (((b.tabs.getD q tab0).frm).toNat) 0)).1)) + (2 * ((b.tabs.getD q tab0).err))) + 1)) = nn := ⟨_, rfl⟩; rw [hz_nn] at Ai
       have Cc := Ai.as [(14, (iv nn)), (11, (bptr D 0)), (10, (iv (q : Int))), (8, (iv (s : Int))), (7, C), (6, B), (2, (bptr E 0)), (1, xw)] rfl; clear Ai
       refine c_drawS mixed Cc DD 10 [3, 4, 5] rfl rfl [[], [], [1], [], [], [4], [], [6], [7], [0, 2]] [(yw B), (yw (bptr D 1)), (yw (iv ((b.tabs.getD q tab0).dst))), (yw C), (yw (bptr D 1)), (yw (iv ((b.tabs.getD q tab0).dst))), (yw (iv nn)), (yw (iv (min 100000 nn))), (yw (iv (max 0 (min 100000 nn)))), (yw (eptr B (((b.tabs.getD q tab0).dst).toNat * 1)))] [(blk b10_ 27 [(iv ((b_9 (b.tabs.getD q tab0) (A.getD (((b.tabs.getD q tab0).frm).toNat) 0)).1)), (iv ((b_9 (b.tabs.getD q tab0) (A.getD (((b.tabs.getD q tab0).frm).toNat) 0)).2))]), (blk D 46 [(iv ((b.tabs.getD q tab0).frm)), (iv ((b.tabs.getD q tab0).dst)), (lr q), (lb q), (iv ((b.tabs.getD q tab0).err))]), (row C 4 1 F.length (p_7 F)), (row B 3 1 ((A.set (((b.tabs.getD q tab0).dst).toNat) (max 0 (min 100000 nn))).length) (ints (A.set (((b.tabs.getD q tab0).dst).toNat) (max 0 (min 100000 nn))))), (blk E 25 [(iv b.scales), vt, vm]), (d_0 false vt lr lb b.tabs), (d_3 false vm lk b.macs), (sl xw 1 ws.length (ws.map (Value.int .u16)))] (by decide +kernel) (by decide +kernel) (by decide +kernel) rfl rfl ⟨dw, dw, dw, dw, dw, dw, dw, dw, dw, dw, trivial⟩ ?_ ?_ ?_ ?_ ?_
       ·skip
        refine ⟨fun a w K hA hS hd => gv1 (a_1 rfl hA.e), ?_⟩
        refine ⟨fun a w K hA hS hd => gv1 (a_4 rfl s_7 hA.e), ?_⟩
        refine ⟨fun a w K hA hS hd => gv1 (a_2 rfl ty_3 (gu hd 1) (hS.bk 1 rfl) rfl), ?_⟩
        refine ⟨fun a w K hA hS hd => gv1 (a_1 rfl hA.e), ?_⟩
        refine ⟨fun a w K hA hS hd => gv1 (a_4 rfl s_7 hA.e), ?_⟩
        refine ⟨fun a w K hA hS hd => gv1 (a_2 rfl ty_3 (gu hd 4) (hS.bk 1 rfl) rfl), ?_⟩
        refine ⟨fun a w K hA hS hd => gv1 (a_1 rfl hA.e), ?_⟩
        refine ⟨fun a w K hA hS hd => gv1 (op_min rfl (evc _ _) (gu hd 6)), ?_⟩
        refine ⟨fun a w K hA hS hd => gv1 (op_max rfl (evc _ _) (gu hd 7)), ?_⟩
        refine ⟨fun a w K hA hS hd => gv1 (b_0 rfl j_1 ty_3 (gu hd 0) (i := ((b.tabs.getD q tab0).dst).toNat) ((gu hd 2).trans (g_4 (by omega))) (SlAt.e_9 (hS.f_3 3 rfl)) (by decide) (by omega)), ?_⟩
        trivial
       ·skip
        refine ⟨fun hF_ => absurd hF_ (by decide), ?_⟩
        refine ⟨fun hF_ => absurd hF_ (by decide), ?_⟩
        refine ⟨fun hF_ => absurd hF_ (by decide), ?_⟩
        refine ⟨fun hF_ a w K hA hS hd => gv1 (a_1 rfl hA.e), ?_⟩
        refine ⟨fun hF_ a w K hA hS hd => gv1 (a_4 rfl s_7 hA.e), ?_⟩
        refine ⟨fun hF_ a w K hA hS hd => gv1 (a_2 rfl ty_3 (gu hd 4) (hS.bk 1 rfl) rfl), ?_⟩
        refine ⟨fun hF_ => absurd hF_ (by decide), ?_⟩
        refine ⟨fun hF_ => absurd hF_ (by decide), ?_⟩
        refine ⟨fun hF_ => absurd hF_ (by decide), ?_⟩
        refine ⟨fun hF_ => absurd hF_ (by decide), ?_⟩
        trivial
       ·intro j hj; have Dq : j = 3 ∨ j = 4 ∨ j = 5 := (by simpa using hj); rcases Dq with rfl | rfl | rfl <;> exact fun _ _ _ h => And.right h
       ·skip
        intro DU FZ K rsf178 Cd V hZ177 DE
        obtain ⟨FM, CN⟩ := V 0 (by decide) (by decide)
        obtain ⟨FSa, CB⟩ := CN
        obtain ⟨FN, CO⟩ := V 1 (by decide) (by decide)
        obtain ⟨FT, CC⟩ := CO
        obtain ⟨FO, CP⟩ := V 2 (by decide) (by decide)
        obtain ⟨FU, CD⟩ := CP
        have CE := hZ177 3 (by decide) (by decide)
        have CF := hZ177 4 (by decide) (by decide)
        have CG := hZ177 5 (by decide) (by decide)
        obtain ⟨FP, CQ⟩ := V 6 (by decide) (by decide)
        obtain ⟨FV, CH⟩ := CQ
        obtain ⟨FQ, CR⟩ := V 7 (by decide) (by decide)
        obtain ⟨FW, CI⟩ := CR
        obtain ⟨AQ, CS⟩ := V 8 (by decide) (by decide)
        obtain ⟨CL, CJ⟩ := CS
        obtain ⟨AR, CT⟩ := V 9 (by decide) (by decide)
        obtain ⟨CM, CK⟩ := CT
        have DP : catR rsf178 0 10 = ([] : List Res) := by (try simp only [catR, CB, CC, CD, CE, CF, CG, CH, CI, CJ, CK]); (try rfl)
        have D0 : Sep NoB w FZ [(blk b10_ 27 [(iv ((b_9 (b.tabs.getD q tab0) (A.getD (((b.tabs.getD q tab0).frm).toNat) 0)).1)), (iv ((b_9 (b.tabs.getD q tab0) (A.getD (((b.tabs.getD q tab0).frm).toNat) 0)).2))]), (blk D 46 [(iv ((b.tabs.getD q tab0).frm)), (iv ((b.tabs.getD q tab0).dst)), (lr q), (lb q), (iv ((b.tabs.getD q tab0).err))]), (row C 4 1 F.length (p_7 F)), (row B 3 1 A.length (ints A)), (blk E 25 [(iv b.scales), vt, vm]), (d_0 false vt lr lb b.tabs), (d_3 false vm lk b.macs), (sl xw 1 ws.length (ws.map (Value.int .u16)))] := by rw [DP] at DE; exact DE
        rw [CL] at AQ
        have Ce : Fr 116 [] [(93, (iv (max 0 (min 100000 nn)))), (14, (iv nn)), (11, (bptr D 0)), (10, (iv (q : Int))), (8, (iv (s : Int))), (7, C), (6, B), (2, (bptr E 0)), (1, xw)] DU := Cd.add (f_6 AQ rfl); clear Cd
        rw [CM] at AR
        have Cf : Fr 116 [] [(94, (eptr B (((b.tabs.getD q tab0).dst).toNat * 1))), (93, (iv (max 0 (min 100000 nn)))), (14, (iv nn)), (11, (bptr D 0)), (10, (iv (q : Int))), (8, (iv (s : Int))), (7, C), (6, B), (2, (bptr E 0)), (1, xw)] DU := Ce.add (f_6 AR rfl); clear Ce
        refine d_5 rfl (l_1 (y_5 D0 rfl ty_3 Cf.e Cf.e (i := 3) rfl (vs := [(iv (max 0 (min 100000 nn)))]) rfl rfl rfl (by simp only [ints, p_7, List.length_map, List.length_set]; omega) (by decide)) fun _ w_ h_ => ?_)
        rw [DP]; exact h_.g_2 (i := 3) rfl (n' := (A.set (((b.tabs.getD q tab0).dst).toNat) (max 0 (min 100000 nn))).length) (xs' := (ints (A.set (((b.tabs.getD q tab0).dst).toNat) (max 0 (min 100000 nn))))) (by simp) (by simp [l_4, ints, List.map_set])
       skip
       intro EV Fa K rsf188 Cg H Bc; clear Cc DD
       have Bd : Sep NoB w Fa [(blk b10_ 27 [(iv ((b_9 (b.tabs.getD q tab0) (A.getD (((b.tabs.getD q tab0).frm).toNat) 0)).1)), (iv ((b_9 (b.tabs.getD q tab0) (A.getD (((b.tabs.getD q tab0).frm).toNat) 0)).2))]), (blk D 46 [(iv ((b.tabs.getD q tab0).frm)), (iv ((b.tabs.getD q tab0).dst)), (lr q), (lb q), (iv ((b.tabs.getD q tab0).err))]), (row C 4 1 F.length (p_7 F)), (row B 3 1 ((A.set (((b.tabs.getD q tab0).dst).toNat) (max 0 (min 100000 nn))).length) (ints (A.set (((b.tabs.getD q tab0).dst).toNat) (max 0 (min 100000 nn))))), (blk E 25 [(iv b.scales), vt, vm]), (d_0 false vt lr lb b.tabs), (d_3 false vm lk b.macs), (sl xw 1 ws.length (ws.map (Value.int .u16)))] := by rw [show catR rsf188 0 10 = ([] : List Res) by (try simp only [catR, gr (H 0 (by decide)), gr (H 1 (by decide)), gr (H 2 (by decide)), gr (H 3 (by decide)), gr (H 4 (by decide)), gr (H 5 (by decide)), gr (H 6 (by decide)), gr (H 7 (by decide)), gr (H 8 (by decide)), gr (H 9 (by decide))]); (try rfl)] at Bc; exact Bc
       have Ch := Cg.add (gs (H 3 (by decide))); clear Cg
       have Ci := Ch.add (gs (H 5 (by decide))); clear Ch
       have Cj := Ci.add (gs (H 8 (by decide))); clear Ci
       have AE := Cj.add (gs (H 9 (by decide))); clear Cj
       clear H Bc 
       refine s1 AE (b_0 rfl un_137 ty_4 AE.e (i := ((b.tabs.getD q tab0).dst).toNat) (AE.e.trans (g_4 (by omega))) (SlAt.e_9 (Bd.f_3 2 rfl)) (by decide) (by omega)) fun EW Aj => ?_; clear AE EV
       refine s7 Aj (y_5 Bd rfl ty_4 Aj.e (evc _ _) (i := 2) rfl (vs := [(Value.bool true)]) rfl rfl rfl (by simp only [ints, p_7, List.length_map, List.length_set]; omega) (by decide)) ?_
       intro _ GY DF Ck; have DG := DF.g_2 (i := 2) rfl (n' := (F.set (((b.tabs.getD q tab0).dst).toNat) true).length) (xs' := (p_7 (F.set (((b.tabs.getD q tab0).dst).toNat) true))) (by simp) (by simp [l_4, p_7, List.map_set]); clear DF Aj Bd
       refine s1 Ck (a_0 rfl (evc _ _)) fun EX Cl => ?_; clear Ck EW
       refine e_6 (g_3 (a_7 ?_))
       have Ak := Cl.as [(9, (Value.bool true)), (10, (iv (q : Int))), (8, (iv (s : Int))), (7, C), (6, B), (2, (bptr E 0)), (1, xw)] rfl; clear Cl
       refine a_5 (s1 Ak (a_1 rfl Ak.e) fun EY Al => ?_); clear Ak EX
       refine s1 Al (e_3 rfl Al.e (evc _ _) (by omega) (by omega)) fun EZ Am => ?_; clear Al EY
       refine s1 Am (a_0 rfl Am.e) fun GM Ds => ?_; clear Am EZ
       refine e_6 ?_
       have D1 := DG.gkp (gpc 2 (gpc 3 (gpc 4 (gpc 5 (gpc 6 (gpc 7 gpn)))))); clear DG
       exact a_7 ⟨q + 1, ⟨(A.set (((b.tabs.getD q tab0).dst).toNat) (max 0 (min 100000 nn))), (F.set (((b.tabs.getD q tab0).dst).toNat) true), true, Ds.as _ rfl, D1, by omega, (by first | assumption | (simp only [List.length_set]; assumption) | (simp only [List.length_replicate]; done)), (by first | assumption | (simp only [List.length_set]; assumption) | (simp only [List.length_replicate]; done)), (by first | exact hun | exact unk_go hun (by omega) (by assumption))⟩, by omega⟩
      skip
      rw [Bm] at Q
      refine b_4 Q rfl (c_6 (g_3 (a_7 ?_)))
      have An := Q.as [(10, (iv (q : Int))), (9, (Value.bool Z)), (8, (iv (s : Int))), (7, C), (6, B), (2, (bptr E 0)), (1, xw)] rfl; clear Q
      refine a_5 (s1 An (a_1 rfl An.e) fun Ea Ao => ?_); clear An ES
      refine s1 Ao (e_3 rfl Ao.e (evc _ _) (by omega) (by omega)) fun Eb Ap => ?_; clear Ao Ea
      refine s1 Ap (a_0 rfl Ap.e) fun GN Dt => ?_; clear Ap Eb
      refine e_6 ?_
      have D2 := AO.gkp (gpc 2 (gpc 3 (gpc 4 (gpc 5 (gpc 6 (gpc 7 gpn)))))); clear AO
      exact a_7 ⟨q + 1, ⟨A, F, Z, Dt.as _ rfl, D2, by omega, (by first | assumption | (simp only [List.length_set]; assumption) | (simp only [List.length_replicate]; done)), (by first | assumption | (simp only [List.length_set]; assumption) | (simp only [List.length_replicate]; done)), (by first | exact hun | exact unk_go hun (by omega) (by assumption))⟩, by omega⟩
     skip
     intro DV Fb N rsf223 Cm M hrq Be; clear Ae O
     obtain ⟨Y, Bp⟩ := M 10 (by decide) (by decide)
     obtain ⟨b10_, r, p⟩ := Bp
     have DH : Sep NoB w Fb [(blk b10_ 27 [(iv 0), (iv 0)]), (blk D 46 [(iv ((b.tabs.getD q tab0).frm)), (iv ((b.tabs.getD q tab0).dst)), (lr q), (lb q), (iv ((b.tabs.getD q tab0).err))]), (row C 4 1 F.length (p_7 F)), (row B 3 1 A.length (ints A)), (blk E 25 [(iv b.scales), vt, vm]), (d_0 false vt lr lb b.tabs), (d_3 false vm lk b.macs), (sl xw 1 ws.length (ws.map (Value.int .u16)))] := by rw [show catR rsf223 0 11 = ([(blk b10_ 27 [(iv 0), (iv 0)])] : List Res) by (try simp only [catR, gr (M 0 (by decide) (by decide)), gr (M 1 (by decide) (by decide)), gr (M 2 (by decide) (by decide)), gr (M 3 (by decide) (by decide)), gr (M 4 (by decide) (by decide)), gr (M 5 (by decide) (by decide)), gr (M 6 (by decide) (by decide)), gr (M 7 (by decide) (by decide)), gr (M 8 (by decide) (by decide)), p, hrq]); (try rfl)] at Be; exact Be
     have Cn := Cm.add (gs (M 7 (by decide) (by decide))); clear Cm
     have Co := Cn.add (gs (M 8 (by decide) (by decide))); clear Cn
     rw [r] at Y
     have AF : Fr 116 [] [(12, (bptr b10_ 0)), (61, (Value.agg #[(iv ((b_9 (b.tabs.getD q tab0) (A.getD (((b.tabs.getD q tab0).frm).toNat) 0)).1)), (iv ((b_9 (b.tabs.getD q tab0) (A.getD (((b.tabs.getD q tab0).frm).toNat) 0)).2))])), (53, (Value.tuple #[(Value.agg #[(iv ((b_9 (b.tabs.getD q tab0) (A.getD (((b.tabs.getD q tab0).frm).toNat) 0)).1)), (iv ((b_9 (b.tabs.getD q tab0) (A.getD (((b.tabs.getD q tab0).frm).toNat) 0)).2))]), (Value.bool ((i_8 (b.tabs.getD q tab0) (A.getD (((b.tabs.getD q tab0).frm).toNat) 0)).isSome))])), (11, (bptr D 0)), (10, (iv (q : Int))), (9, (Value.bool Z)), (8, (iv (s : Int))), (7, C), (6, B), (2, (bptr E 0)), (1, xw)] DV := Co.add (f_6 Y rfl); clear Co
     clear M Be Y hrq
     clear p
     clear r
     refine s7 AF (b_7 DH rfl z_9 AF.e AF.e (i := 0) rfl (vs := [(iv ((b_9 (b.tabs.getD q tab0) (A.getD (((b.tabs.getD q tab0).frm).toNat) 0)).1)), (iv ((b_9 (b.tabs.getD q tab0) (A.getD (((b.tabs.getD q tab0).frm).toNat) 0)).2))]) rfl rfl rfl (Nat.le_of_ble_eq_true rfl)) ?_
     intro _ Fc DI Aq; clear AF
     have AP : Sep NoB w Fc [(blk b10_ 27 [(iv ((b_9 (b.tabs.getD q tab0) (A.getD (((b.tabs.getD q tab0).frm).toNat) 0)).1)), (iv ((b_9 (b.tabs.getD q tab0) (A.getD (((b.tabs.getD q tab0).frm).toNat) 0)).2))]), (blk D 46 [(iv ((b.tabs.getD q tab0).frm)), (iv ((b.tabs.getD q tab0).dst)), (lr q), (lb q), (iv ((b.tabs.getD q tab0).err))]), (row C 4 1 F.length (p_7 F)), (row B 3 1 A.length (ints A)), (blk E 25 [(iv b.scales), vt, vm]), (d_0 false vt lr lb b.tabs), (d_3 false vm lk b.macs), (sl xw 1 ws.length (ws.map (Value.int .u16)))] := DI; clear DI DH
     refine s1 Aq (e_0 rfl Aq.e rfl) fun Ec Ar => ?_; clear Aq DV
     refine s1 Ar (a_0 rfl Ar.e) fun Ed As => ?_; clear Ar Ec
     refine n4 (s1 As (a_1 rfl As.e) fun Ee R => ?_); clear As Ed
     refine n1 ?_
     rcases Bool.eq_false_or_eq_true (((i_8 (b.tabs.getD q tab0) (A.getD (((b.tabs.getD q tab0).frm).toNat) 0)).isSome)) with Bn | Bn
     ·skip
      rw [Bn] at R
      refine c_0 R rfl (b_5 ?_)
      have Cp := R.as [(12, (bptr b10_ 0)), (11, (bptr D 0)), (10, (iv (q : Int))), (8, (iv (s : Int))), (7, C), (6, B), (2, (bptr E 0)), (1, xw)] rfl; clear R
      have hwb := word_bd hw ((q : Int) + 1); have hrm := rem_bd (y := t_1 ws ((q : Int) + 1)) (d := (b_9 (b.tabs.getD q tab0) (A.getD (b.tabs.getD q tab0).frm.toNat 0)).2 - (b_9 (b.tabs.getD q tab0) (A.getD (b.tabs.getD q tab0).frm.toNat 0)).1 + 2 * (b.tabs.getD q tab0).err + 1) hwb.1 (by omega)
      have Cq := Cp.as [(12, (bptr b10_ 0)), (11, (bptr D 0)), (10, (iv (q : Int))), (8, (iv (s : Int))), (7, C), (6, B), (2, (bptr E 0)), (1, xw)] rfl; clear Cp
      refine g_0 mixed Cq AP 20 [[], [0], [], [2], [1, 3], [], [], [6], [5, 7], [], [9], [], [11], [10, 12], [], [14], [15], [13, 16], [17], [8, 18]] [(Yd.val (bptr b10_ 0)), (Yd.val (iv ((b_9 (b.tabs.getD q tab0) (A.getD (((b.tabs.getD q tab0).frm).toNat) 0)).1))), (Yd.val (bptr D 4)), (Yd.val (iv ((b.tabs.getD q tab0).err))), (Yd.val (iv (((b_9 (b.tabs.getD q tab0) (A.getD (((b.tabs.getD q tab0).frm).toNat) 0)).1) - ((b.tabs.getD q tab0).err)))), (Yd.val xw), (Yd.val (iv (q : Int))), (Yd.val (iv ((q : Int) + 1))), (Yd.val (iv (t_1 ws ((q : Int) + 1)))), (Yd.val (bptr b10_ 1)), (Yd.val (iv ((b_9 (b.tabs.getD q tab0) (A.getD (((b.tabs.getD q tab0).frm).toNat) 0)).2))), (Yd.val (bptr b10_ 0)), (Yd.val (iv ((b_9 (b.tabs.getD q tab0) (A.getD (((b.tabs.getD q tab0).frm).toNat) 0)).1))), (Yd.val (iv (((b_9 (b.tabs.getD q tab0) (A.getD (((b.tabs.getD q tab0).frm).toNat) 0)).2) - ((b_9 (b.tabs.getD q tab0) (A.getD (((b.tabs.getD q tab0).frm).toNat) 0)).1)))), (Yd.val (bptr D 4)), (Yd.val (iv ((b.tabs.getD q tab0).err))), (Yd.val (iv (2 * ((b.tabs.getD q tab0).err)))), (Yd.val (iv ((((b_9 (b.tabs.getD q tab0) (A.getD (((b.tabs.getD q tab0).frm).toNat) 0)).2) - ((b_9 (b.tabs.getD q tab0) (A.getD (((b.tabs.getD q tab0).frm).toNat) 0)).1)) + (2 * ((b.tabs.getD q tab0).err))))), (Yd.val (iv (((((b_9 (b.tabs.getD q tab0) (A.getD (((b.tabs.getD q tab0).frm).toNat) 0)).2) - ((b_9 (b.tabs.getD q tab0) (A.getD (((b.tabs.getD q tab0).frm).toNat) 0)).1)) + (2 * ((b.tabs.getD q tab0).err))) + 1))), (Yd.val (iv (((t_1 ws ((q : Int) + 1))).tmod (((((b_9 (b.tabs.getD q tab0) (A.getD (((b.tabs.getD q tab0).frm).toNat) 0)).2) - ((b_9 (b.tabs.getD q tab0) (A.getD (((b.tabs.getD q tab0).frm).toNat) 0)).1)) + (2 * ((b.tabs.getD q tab0).err))) + 1))))] (by decide +kernel) rfl rfl ?_ ?_
      ·skip
       refine dq (fun a w hA hS hd => a_4 rfl p_1 hA.e) ?_
       refine dq (fun a w hA hS hd => a_2 rfl ty_3 (hq hd 0) (hS.bk 0 rfl) rfl) ?_
       refine dq (fun a w hA hS hd => a_4 rfl x_2 hA.e) ?_
       refine dq (fun a w hA hS hd => a_2 rfl ty_3 (hq hd 2) (hS.bk 1 rfl) rfl) ?_
       refine dq (fun a w hA hS hd => h_2 rfl (hq hd 1) (hq hd 3) (by omega) (by omega)) ?_
       refine dq (fun a w hA hS hd => a_1 rfl hA.e) ?_
       refine dq (fun a w hA hS hd => a_1 rfl hA.e) ?_
       refine dq (fun a w hA hS hd => e_3 rfl (hq hd 6) (evc _ _) (by omega) (by omega)) ?_
       refine ⟨fun a w hA hS hd => by have e5 := hx hd 5; have e7 := hx hd 7; exact d_5 rfl (dx (b_3 rfl en_77 (ev2 (c_3 e5) (c_3 e7)) (word_ok _ ws _ (hS.sk 7 rfl) hw ((q : Int) + 1) (by omega))) hS (fun _ => rfl)), ?_⟩
       refine dq (fun a w hA hS hd => a_4 rfl s_6 hA.e) ?_
       refine dq (fun a w hA hS hd => a_2 rfl ty_3 (hq hd 9) (hS.bk 0 rfl) rfl) ?_
       refine dq (fun a w hA hS hd => a_4 rfl p_1 hA.e) ?_
       refine dq (fun a w hA hS hd => a_2 rfl ty_3 (hq hd 11) (hS.bk 0 rfl) rfl) ?_
       refine dq (fun a w hA hS hd => h_2 rfl (hq hd 10) (hq hd 12) (by omega) (by omega)) ?_
       refine dq (fun a w hA hS hd => a_4 rfl x_2 hA.e) ?_
       refine dq (fun a w hA hS hd => a_2 rfl ty_3 (hq hd 14) (hS.bk 1 rfl) rfl) ?_
       refine dq (fun a w hA hS hd => op_mul rfl (evc _ _) (hq hd 15) (by omega) (by omega)) ?_
       refine dq (fun a w hA hS hd => e_3 rfl (hq hd 13) (hq hd 16) (by omega) (by omega)) ?_
       refine dq (fun a w hA hS hd => e_3 rfl (hq hd 17) (evc _ _) (by omega) (by omega)) ?_
       refine dq (fun a w hA hS hd => op_rem rfl (hq hd 8) (hq hd 18) (by omega)) ?_
       trivial
      intro Ef GZ Cr DJ Ba; clear Cq AP
      have Cs := Cr.add (hz Ba 4); clear Cr
      have AG := Cs.add (hz Ba 19); clear Cs
      clear Ba
      refine s1 AG (e_3 rfl AG.e AG.e (by omega) (by omega)) fun Eg Au => ?_; clear AG Ef
      refine s1 Au (a_0 rfl Au.e) fun GO Av => ?_; clear Au Eg
      refine n1 ?_
      obtain ⟨nn, hz_nn⟩ : ∃ nn : Int, (((b_9 (b.tabs.getD q tab0) (A.getD (((b.tabs.getD q tab0).frm).toNat) 0)).1) - ((b.tabs.getD q tab0).err)) + (((t_1 ws ((q : Int) + 1))).tmod (((((b_9 (b.tabs.getD q tab0) (A.getD (((b.tabs.getD q tab0).frm).toNat) 0)).2) - ((b_9 (b.tabs.getD q tab0) (A.getD (((b.tabs.getD q tab0).frm).toNat) 0)).1)) + (2 * ((b.tabs.getD q tab0).err))) + 1)) = nn := ⟨_, rfl⟩; rw [hz_nn] at Av
      have Ct := Av.as [(14, (iv nn)), (11, (bptr D 0)), (10, (iv (q : Int))), (8, (iv (s : Int))), (7, C), (6, B), (2, (bptr E 0)), (1, xw)] rfl; clear Av
      refine c_drawS mixed Ct DJ 10 [3, 4, 5] rfl rfl [[], [], [1], [], [], [4], [], [6], [7], [0, 2]] [(yw B), (yw (bptr D 1)), (yw (iv ((b.tabs.getD q tab0).dst))), (yw C), (yw (bptr D 1)), (yw (iv ((b.tabs.getD q tab0).dst))), (yw (iv nn)), (yw (iv (min 100000 nn))), (yw (iv (max 0 (min 100000 nn)))), (yw (eptr B (((b.tabs.getD q tab0).dst).toNat * 1)))] [(blk b10_ 27 [(iv ((b_9 (b.tabs.getD q tab0) (A.getD (((b.tabs.getD q tab0).frm).toNat) 0)).1)), (iv ((b_9 (b.tabs.getD q tab0) (A.getD (((b.tabs.getD q tab0).frm).toNat) 0)).2))]), (blk D 46 [(iv ((b.tabs.getD q tab0).frm)), (iv ((b.tabs.getD q tab0).dst)), (lr q), (lb q), (iv ((b.tabs.getD q tab0).err))]), (row C 4 1 F.length (p_7 F)), (row B 3 1 ((A.set (((b.tabs.getD q tab0).dst).toNat) (max 0 (min 100000 nn))).length) (ints (A.set (((b.tabs.getD q tab0).dst).toNat) (max 0 (min 100000 nn))))), (blk E 25 [(iv b.scales), vt, vm]), (d_0 false vt lr lb b.tabs), (d_3 false vm lk b.macs), (sl xw 1 ws.length (ws.map (Value.int .u16)))] (by decide +kernel) (by decide +kernel) (by decide +kernel) rfl rfl ⟨dw, dw, dw, dw, dw, dw, dw, dw, dw, dw, trivial⟩ ?_ ?_ ?_ ?_ ?_
      ·skip
       refine ⟨fun a w L hA hS hd => gv1 (a_1 rfl hA.e), ?_⟩
       refine ⟨fun a w L hA hS hd => gv1 (a_4 rfl s_7 hA.e), ?_⟩
       refine ⟨fun a w L hA hS hd => gv1 (a_2 rfl ty_3 (gu hd 1) (hS.bk 1 rfl) rfl), ?_⟩
       refine ⟨fun a w L hA hS hd => gv1 (a_1 rfl hA.e), ?_⟩
       refine ⟨fun a w L hA hS hd => gv1 (a_4 rfl s_7 hA.e), ?_⟩
       refine ⟨fun a w L hA hS hd => gv1 (a_2 rfl ty_3 (gu hd 4) (hS.bk 1 rfl) rfl), ?_⟩
       refine ⟨fun a w L hA hS hd => gv1 (a_1 rfl hA.e), ?_⟩
       refine ⟨fun a w L hA hS hd => gv1 (op_min rfl (evc _ _) (gu hd 6)), ?_⟩
       refine ⟨fun a w L hA hS hd => gv1 (op_max rfl (evc _ _) (gu hd 7)), ?_⟩
       refine ⟨fun a w L hA hS hd => gv1 (b_0 rfl j_1 ty_3 (gu hd 0) (i := ((b.tabs.getD q tab0).dst).toNat) ((gu hd 2).trans (g_4 (by omega))) (SlAt.e_9 (hS.f_3 3 rfl)) (by decide) (by omega)), ?_⟩
       trivial
      ·skip
       refine ⟨fun hF_ => absurd hF_ (by decide), ?_⟩
       refine ⟨fun hF_ => absurd hF_ (by decide), ?_⟩
       refine ⟨fun hF_ => absurd hF_ (by decide), ?_⟩
       refine ⟨fun hF_ a w L hA hS hd => gv1 (a_1 rfl hA.e), ?_⟩
       refine ⟨fun hF_ a w L hA hS hd => gv1 (a_4 rfl s_7 hA.e), ?_⟩
       refine ⟨fun hF_ a w L hA hS hd => gv1 (a_2 rfl ty_3 (gu hd 4) (hS.bk 1 rfl) rfl), ?_⟩
       refine ⟨fun hF_ => absurd hF_ (by decide), ?_⟩
       refine ⟨fun hF_ => absurd hF_ (by decide), ?_⟩
       refine ⟨fun hF_ => absurd hF_ (by decide), ?_⟩
       refine ⟨fun hF_ => absurd hF_ (by decide), ?_⟩
       trivial
      ·intro j hj; have Dq : j = 3 ∨ j = 4 ∨ j = 5 := (by simpa using hj); rcases Dq with rfl | rfl | rfl <;> exact fun _ _ _ h => And.right h
      ·skip
       intro DW Fd L rsf261 Cu W hZ260 DK
       obtain ⟨FM, CN⟩ := W 0 (by decide) (by decide)
       obtain ⟨FSa, CB⟩ := CN
       obtain ⟨FN, CO⟩ := W 1 (by decide) (by decide)
       obtain ⟨FT, CC⟩ := CO
       obtain ⟨FO, CP⟩ := W 2 (by decide) (by decide)
       obtain ⟨FU, CD⟩ := CP
       have CE := hZ260 3 (by decide) (by decide)
       have CF := hZ260 4 (by decide) (by decide)
       have CG := hZ260 5 (by decide) (by decide)
       obtain ⟨FP, CQ⟩ := W 6 (by decide) (by decide)
       obtain ⟨FV, CH⟩ := CQ
       obtain ⟨FQ, CR⟩ := W 7 (by decide) (by decide)
       obtain ⟨FW, CI⟩ := CR
       obtain ⟨AQ, CS⟩ := W 8 (by decide) (by decide)
       obtain ⟨CL, CJ⟩ := CS
       obtain ⟨AR, CT⟩ := W 9 (by decide) (by decide)
       obtain ⟨CM, CK⟩ := CT
       have DQ : catR rsf261 0 10 = ([] : List Res) := by (try simp only [catR, CB, CC, CD, CE, CF, CG, CH, CI, CJ, CK]); (try rfl)
       have D3 : Sep NoB w Fd [(blk b10_ 27 [(iv ((b_9 (b.tabs.getD q tab0) (A.getD (((b.tabs.getD q tab0).frm).toNat) 0)).1)), (iv ((b_9 (b.tabs.getD q tab0) (A.getD (((b.tabs.getD q tab0).frm).toNat) 0)).2))]), (blk D 46 [(iv ((b.tabs.getD q tab0).frm)), (iv ((b.tabs.getD q tab0).dst)), (lr q), (lb q), (iv ((b.tabs.getD q tab0).err))]), (row C 4 1 F.length (p_7 F)), (row B 3 1 A.length (ints A)), (blk E 25 [(iv b.scales), vt, vm]), (d_0 false vt lr lb b.tabs), (d_3 false vm lk b.macs), (sl xw 1 ws.length (ws.map (Value.int .u16)))] := by rw [DQ] at DK; exact DK
       rw [CL] at AQ
       have Cv : Fr 116 [] [(93, (iv (max 0 (min 100000 nn)))), (14, (iv nn)), (11, (bptr D 0)), (10, (iv (q : Int))), (8, (iv (s : Int))), (7, C), (6, B), (2, (bptr E 0)), (1, xw)] DW := Cu.add (f_6 AQ rfl); clear Cu
       rw [CM] at AR
       have Cw : Fr 116 [] [(94, (eptr B (((b.tabs.getD q tab0).dst).toNat * 1))), (93, (iv (max 0 (min 100000 nn)))), (14, (iv nn)), (11, (bptr D 0)), (10, (iv (q : Int))), (8, (iv (s : Int))), (7, C), (6, B), (2, (bptr E 0)), (1, xw)] DW := Cv.add (f_6 AR rfl); clear Cv
       refine d_5 rfl (l_1 (y_5 D3 rfl ty_3 Cw.e Cw.e (i := 3) rfl (vs := [(iv (max 0 (min 100000 nn)))]) rfl rfl rfl (by simp only [ints, p_7, List.length_map, List.length_set]; omega) (by decide)) fun _ w_ h_ => ?_)
       rw [DQ]; exact h_.g_2 (i := 3) rfl (n' := (A.set (((b.tabs.getD q tab0).dst).toNat) (max 0 (min 100000 nn))).length) (xs' := (ints (A.set (((b.tabs.getD q tab0).dst).toNat) (max 0 (min 100000 nn))))) (by simp) (by simp [l_4, ints, List.map_set])
      skip
      intro Eh Fe L rsf271 Cx I Bf; clear Ct DJ
      have Bg : Sep NoB w Fe [(blk b10_ 27 [(iv ((b_9 (b.tabs.getD q tab0) (A.getD (((b.tabs.getD q tab0).frm).toNat) 0)).1)), (iv ((b_9 (b.tabs.getD q tab0) (A.getD (((b.tabs.getD q tab0).frm).toNat) 0)).2))]), (blk D 46 [(iv ((b.tabs.getD q tab0).frm)), (iv ((b.tabs.getD q tab0).dst)), (lr q), (lb q), (iv ((b.tabs.getD q tab0).err))]), (row C 4 1 F.length (p_7 F)), (row B 3 1 ((A.set (((b.tabs.getD q tab0).dst).toNat) (max 0 (min 100000 nn))).length) (ints (A.set (((b.tabs.getD q tab0).dst).toNat) (max 0 (min 100000 nn))))), (blk E 25 [(iv b.scales), vt, vm]), (d_0 false vt lr lb b.tabs), (d_3 false vm lk b.macs), (sl xw 1 ws.length (ws.map (Value.int .u16)))] := by rw [show catR rsf271 0 10 = ([] : List Res) by (try simp only [catR, gr (I 0 (by decide)), gr (I 1 (by decide)), gr (I 2 (by decide)), gr (I 3 (by decide)), gr (I 4 (by decide)), gr (I 5 (by decide)), gr (I 6 (by decide)), gr (I 7 (by decide)), gr (I 8 (by decide)), gr (I 9 (by decide))]); (try rfl)] at Bf; exact Bf
      have Cy := Cx.add (gs (I 3 (by decide))); clear Cx
      have Cz := Cy.add (gs (I 5 (by decide))); clear Cy
      have C0 := Cz.add (gs (I 8 (by decide))); clear Cz
      have AH := C0.add (gs (I 9 (by decide))); clear C0
      clear I Bf 
      refine s1 AH (b_0 rfl un_137 ty_4 AH.e (i := ((b.tabs.getD q tab0).dst).toNat) (AH.e.trans (g_4 (by omega))) (SlAt.e_9 (Bg.f_3 2 rfl)) (by decide) (by omega)) fun Ei Aw => ?_; clear AH Eh
      refine s7 Aw (y_5 Bg rfl ty_4 Aw.e (evc _ _) (i := 2) rfl (vs := [(Value.bool true)]) rfl rfl rfl (by simp only [ints, p_7, List.length_map, List.length_set]; omega) (by decide)) ?_
      intro _ Ga DL C1; have DM := DL.g_2 (i := 2) rfl (n' := (F.set (((b.tabs.getD q tab0).dst).toNat) true).length) (xs' := (p_7 (F.set (((b.tabs.getD q tab0).dst).toNat) true))) (by simp) (by simp [l_4, p_7, List.map_set]); clear DL Aw Bg
      refine s1 C1 (a_0 rfl (evc _ _)) fun Ej C2 => ?_; clear C1 Ei
      refine e_6 (g_3 (a_7 ?_))
      have Ax := C2.as [(9, (Value.bool true)), (10, (iv (q : Int))), (8, (iv (s : Int))), (7, C), (6, B), (2, (bptr E 0)), (1, xw)] rfl; clear C2
      refine a_5 (s1 Ax (a_1 rfl Ax.e) fun Ek Ay => ?_); clear Ax Ej
      refine s1 Ay (e_3 rfl Ay.e (evc _ _) (by omega) (by omega)) fun El Az => ?_; clear Ay Ek
      refine s1 Az (a_0 rfl Az.e) fun GP Du => ?_; clear Az El
      refine e_6 ?_
      have D4 := DM.gkp (gpc 2 (gpc 3 (gpc 4 (gpc 5 (gpc 6 (gpc 7 gpn)))))); clear DM
      exact a_7 ⟨q + 1, ⟨(A.set (((b.tabs.getD q tab0).dst).toNat) (max 0 (min 100000 nn))), (F.set (((b.tabs.getD q tab0).dst).toNat) true), true, Du.as _ rfl, D4, by omega, (by first | assumption | (simp only [List.length_set]; assumption) | (simp only [List.length_replicate]; done)), (by first | assumption | (simp only [List.length_set]; assumption) | (simp only [List.length_replicate]; done)), (by first | exact hun | exact unk_go hun (by omega) (by assumption))⟩, by omega⟩
     skip
     rw [Bn] at R
     refine b_4 R rfl (c_6 (g_3 (a_7 ?_)))
     have A0 := R.as [(10, (iv (q : Int))), (9, (Value.bool Z)), (8, (iv (s : Int))), (7, C), (6, B), (2, (bptr E 0)), (1, xw)] rfl; clear R
     refine a_5 (s1 A0 (a_1 rfl A0.e) fun Em A1 => ?_); clear A0 Ee
     refine s1 A1 (e_3 rfl A1.e (evc _ _) (by omega) (by omega)) fun En A2 => ?_; clear A1 Em
     refine s1 A2 (a_0 rfl A2.e) fun GQ Dv => ?_; clear A2 En
     refine e_6 ?_
     have D5 := AP.gkp (gpc 2 (gpc 3 (gpc 4 (gpc 5 (gpc 6 (gpc 7 gpn)))))); clear AP
     exact a_7 ⟨q + 1, ⟨A, F, Z, Dv.as _ rfl, D5, by omega, (by first | assumption | (simp only [List.length_set]; assumption) | (simp only [List.length_replicate]; done)), (by first | assumption | (simp only [List.length_set]; assumption) | (simp only [List.length_replicate]; done)), (by first | exact hun | exact unk_go hun (by omega) (by assumption))⟩, by omega⟩
    skip
    rw [Bk] at T
    refine s3 T fun Eo C3 => ?_; clear T DS
    refine s3 C3 fun Ep C4 => ?_; clear C3 Eo
    refine s3 C4 fun Eq C5 => ?_; clear C4 Ep
    refine s3 C5 fun Er C6 => ?_; clear C5 Eq
    refine s3 C6 fun Es A3 => ?_; clear C6 Er
    refine s1 A3 (b_6 rfl A3.e (evc _ _)) fun Et A4 => ?_; clear A3 Es
    refine n1 (c_0 A4 rfl (g_6 (b_2 (f_2 (a_7 ?_)))))
    have A5 := A4.as [(10, (iv (q : Int))), (9, (Value.bool Z)), (8, (iv (s : Int))), (7, C), (6, B), (2, (bptr E 0)), (1, xw)] rfl; clear A4
    refine a_5 (s1 A5 (a_1 rfl A5.e) fun Eu A6 => ?_); clear A5 Et
    refine s1 A6 (e_3 rfl A6.e (evc _ _) (by omega) (by omega)) fun Ev A7 => ?_; clear A6 Eu
    refine s1 A7 (a_0 rfl A7.e) fun GR Dw => ?_; clear A7 Ev
    refine e_6 ?_
    have D6 := O.gkp (gpc 1 (gpc 2 (gpc 3 (gpc 4 (gpc 5 (gpc 6 gpn)))))); clear O
    exact a_7 ⟨q + 1, ⟨A, F, Z, Dw.as _ rfl, D6, by omega, (by first | assumption | (simp only [List.length_set]; assumption) | (simp only [List.length_replicate]; done)), (by first | assumption | (simp only [List.length_set]; assumption) | (simp only [List.length_replicate]; done)), (by first | exact hun | exact unk_go hun (by omega) (by assumption))⟩, by omega⟩
   skip
   rw [decide_eq_false Dp] at f
   refine b_4 f rfl (g_6 (b_2 (b_2 (f_2 (g_3 ?_)))))
   exact a_7 ⟨(measT F Z), ⟨A, F, Z, f.as _ rfl, o, rfl, GH, GD⟩, (by rw [hg, show c1 = true by assumption]; exact meas_t hun)⟩
  skip
  rw [CA] at U
  refine b_4 U rfl (g_6 (b_2 (b_2 (f_2 (a_7 (m2 (s1 U (a_1 rfl U.e) fun Ew A8 => ?_))))))); clear U EA
  refine s1 A8 (a_1 rfl A8.e) fun Ex AI => ?_; clear A8 Ew
  refine s1 AI (b_0 rfl un_137 ty_4 AI.e (i := s) AI.e (SlAt.e_9 (m.f_3 0 rfl)) (by decide) (by omega)) fun Ey A9 => ?_; clear AI Ex
  refine s1 A9 (c_1 rfl ty_4 A9.e (SlAt.e_9 (m.f_3 0 rfl)) (boolC_at (by omega))) fun Ez BA => ?_; clear A9 Ey
  refine s1 BA (f_5 rfl BA.e) fun DX S => ?_; clear BA Ez
  refine n1 ?_
  rcases Bool.eq_false_or_eq_true ((t.getD s false)) with Bo | Bo
  ·skip
   rw [Bo] at S
   refine b_4 S rfl (c_6 (g_3 (a_7 ?_)))
   have BB := S.as [(8, (iv (s : Int))), (7, C), (6, B), (2, (bptr E 0)), (1, xw)] rfl; clear S
   refine a_5 (s1 BB (a_1 rfl BB.e) fun E0 BC => ?_); clear BB DX
   refine s1 BC (e_3 rfl BC.e (evc _ _) (by omega) (by omega)) fun E1 BD => ?_; clear BC E0
   refine s1 BD (a_0 rfl BD.e) fun GS Dx => ?_; clear BD E1
   refine e_6 ?_
   exact a_7 ⟨s + 1, ⟨z1, t, Dx.as _ rfl, m, by omega, (by first | assumption | (simp only [List.length_set]; assumption) | (simp only [List.length_replicate]; done)), (by first | assumption | (simp only [List.length_set]; assumption) | (simp only [List.length_replicate]; done))⟩, by omega⟩
  skip
  rw [Bo] at S
  refine c_0 S rfl ?_
  have BE := S.as [(8, (iv (s : Int))), (7, C), (6, B), (2, (bptr E 0)), (1, xw)] rfl; clear S
  have hwb := word_bd hw ((s : Int) + 7)
  refine a_5 (s1 BE (a_1 rfl BE.e) fun E2 BF => ?_); clear BE DX
  refine s1 BF (a_1 rfl BF.e) fun E3 BG => ?_; clear BF E2
  refine s1 BG (a_1 rfl BG.e) fun E4 BH => ?_; clear BG E3
  refine s1 BH (a_1 rfl BH.e) fun E5 BI => ?_; clear BH E4
  refine s1 BI (a_1 rfl BI.e) fun E6 BJ => ?_; clear BI E5
  refine s1 BJ (a_1 rfl BJ.e) fun E7 BK => ?_; clear BJ E6
  refine s1 BK (e_3 rfl BK.e (evc _ _) (by omega) (by omega)) fun E8 AJ => ?_; clear BK E7
  refine s2 AJ (b_3 rfl en_77 (ev2 AJ.e AJ.e) (word_ok _ ws _ (m.sk 5 rfl) hw ((s : Int) + 7) (by omega))) ?_
  rintro E9 _ Gb ⟨rfl, C9⟩ BL; have Bh := m.step C9; clear C9 AJ m E8
  refine s1 BL (op_rem rfl BL.e (evc _ _) (by omega)) fun FA AK => ?_; clear BL E9
  refine s1 AK (b_0 rfl j_1 ty_3 AK.e (i := s) AK.e (SlAt.e_9 (Bh.f_3 1 rfl)) (by decide) (by omega)) fun FB AL => ?_; clear AK FA
  refine s7 AL (y_5 Bh rfl ty_3 AL.e AL.e (i := 1) rfl (vs := [(iv (((t_1 ws ((s : Int) + 7))).tmod 400))]) rfl rfl rfl (by simp only [ints, p_7, List.length_map, List.length_set]; omega) (by decide)) ?_
  intro _ Gc DN AM; have Bi := DN.g_2 (i := 1) rfl (n' := (z1.set s (((t_1 ws ((s : Int) + 7))).tmod 400)).length) (xs' := (ints (z1.set s (((t_1 ws ((s : Int) + 7))).tmod 400)))) (by simp) (by simp [l_4, ints, List.map_set]); clear DN AL Bh
  refine s1 AM (b_0 rfl un_137 ty_4 AM.e (i := s) AM.e (SlAt.e_9 (Bi.f_3 0 rfl)) (by decide) (by omega)) fun FC BM => ?_; clear AM FB
  refine s7 BM (y_5 Bi rfl ty_4 BM.e (evc _ _) (i := 0) rfl (vs := [(Value.bool true)]) rfl rfl rfl (by simp only [ints, p_7, List.length_map, List.length_set]; omega) (by decide)) ?_
  intro _ Gd DO C7; have D7 := DO.g_2 (i := 0) rfl (n' := (t.set s true).length) (xs' := (p_7 (t.set s true))) (by simp) (by simp [l_4, p_7, List.map_set]); clear DO BM Bi
  refine e_6 (g_3 (a_7 ?_))
  have BN := C7.as [(8, (iv (s : Int))), (7, C), (6, B), (2, (bptr E 0)), (1, xw)] rfl; clear C7
  refine a_5 (s1 BN (a_1 rfl BN.e) fun FD BO => ?_); clear BN FC
  refine s1 BO (e_3 rfl BO.e (evc _ _) (by omega) (by omega)) fun FE BP => ?_; clear BO FD
  refine s1 BP (a_0 rfl BP.e) fun GT Dy => ?_; clear BP FE
  refine e_6 ?_
  exact a_7 ⟨s + 1, ⟨(z1.set s (((t_1 ws ((s : Int) + 7))).tmod 400)), (t.set s true), Dy.as _ rfl, D7, by omega, (by first | assumption | (simp only [List.length_set]; assumption) | (simp only [List.length_replicate]; done)), (by first | assumption | (simp only [List.length_set]; assumption) | (simp only [List.length_replicate]; done))⟩, by omega⟩
 skip
 rw [decide_eq_false Do] at c
 refine b_4 c rfl (g_6 (b_2 (b_2 (f_2 (a_7 (b_5 ?_))))))
 have BQ := c.as [(6, B), (2, (bptr E 0))] rfl; clear c
 refine a_5 (s1 BQ (a_1 rfl BQ.e) fun FF BR => ?_); clear BQ D9
 refine s1 BR (c_9 rfl ae_7 (BR.ev rfl) (X.bk 2 rfl) (l := [(iv b.scales), vt, vm]) rfl rfl) fun FG BS => ?_; clear BR FF
 refine s1 BS (a_1 rfl BS.e) fun FH AN => ?_; clear BS FG
 refine s2 AN (b_3 rfl en_38 (ev3 AN.e (evc _ _) AN.e) (rfits_ok b vt vm lr lb lk _ (b_8 (X.ok 3 _ rfl)) (c_5 (X.ok 4 _ rfl)) hth hb ([]) _ (z_7 _ 1) GE z0 _ (SlAt.e_9 (X.f_3 1 rfl)) (by omega))) ?_
 rintro FI _ Ge ⟨rfl, DA⟩ BT; have D8 := X.step DA; clear DA AN X FH
 refine s1 BT (a_0 rfl BT.e) fun FJ BU => ?_; clear BT FI
 refine s1 BU (a_0 rfl BU.e) fun GU C8 => ?_; clear BU FJ
 refine n1 (c_2 (a_8 C8 (.inl rfl) (d_7 C8 rfl (.tmp rfl) (.tmp rfl)) ?_))
 exact ⟨_, z0, rfl, by omega, D8.keep [1] (by decide) _ rfl rfl⟩
end Go.Proofs.Ytohgladndklciaa

namespace Go.Proofs.Ytohgladndklciaa
open Go.RowKit Go.Shelf Go.Eng Go.Hard
theorem leave_zero (b : h_4) (vt vm : Value) (lr lb lk : Nat → Value) (hth : o_6 b) (hb : k_5 b) (bx bm : Nat) (es : Array MapEntry) (ck : Nat) (hMO : q_7 bm es ck (bN b.tabs b.tabs.length)) (l : List (Int × Int)) (hl : q_4 b l) (xr : Value) (bb br B bs : Nat) (s : List Int) (xl xk vb : Value) (best : List Int) (w : World) (X : Nat → Prop) (hsl : s.length ≤ 1000) (hJ : Sep X w w [(row xl 3 1 s.length (ints s)), (blk bb 44 [vb]), (row vb 3 1 best.length (ints best)), (rob bs 134 [(Value.func (.func 73) #[] #[(bptr br 0), (bptr bb 0), (bptr B 0), (bptr bs 0)])]), (rob br 53 [xr]), (rob B 116 [(bptr bx 0)]), (rob bx 146 [(iv b.scales), vt, vm, (Value.map (some bm))]), (mapX false bm es ck es.size 106 5 (bN b.tabs b.tabs.length) (bC lr lb b.tabs b.tabs.length)), (d_0 false vt lr lb b.tabs), (d_3 false vm lk b.macs), (sl xr 2 l.length (pairs l)), (sl xk 2 ((e_1 l s l.length).length) (pairs (e_1 l s l.length)))]) :
  Calls Try.prog 73 #[xl, xk, (iv (l.length : Int)), (iv 0), (bptr br 0), (bptr bb 0), (bptr B 0), (bptr bs 0)] w (Ret fun v w' => v = .bool (i_2 l.length (okS b l) 0 s l.length) ∧ ∃ vb' best', ((i_2 l.length (okS b l) 0 s l.length) = true → (n_2 l.length 0 s l.length).find? (okS b l) = some best') ∧ Sep X w w' [(row xl 3 1 s.length (ints s)), (blk bb 44 [vb']), (row vb' 3 1 best'.length (ints best')), (rob bs 134 [(Value.func (.func 73) #[] #[(bptr br 0), (bptr bb 0), (bptr B 0), (bptr bs 0)])]), (rob br 53 [xr]), (rob B 116 [(bptr bx 0)]), (rob bx 146 [(iv b.scales), vt, vm, (Value.map (some bm))]), (mapX false bm es ck es.size 106 5 (bN b.tabs b.tabs.length) (bC lr lb b.tabs b.tabs.length)), (d_0 false vt lr lb b.tabs), (d_3 false vm lk b.macs), (sl xr 2 l.length (pairs l)), (sl xk 2 ((e_1 l s l.length).length) (pairs (e_1 l s l.length)))]) := by
 refine a_9 Try.func73 rfl fun x W => ?_
 replace W : Fr 69 [] [(0, xl), (1, xk), (2, (iv (l.length : Int))), (3, (iv 0)), (4, (bptr br 0)), (5, (bptr bb 0)), (6, (bptr B 0)), (7, (bptr bs 0))] x := W
 have hll := hl.len; have hkl := kep_len l s l.length
 have I : Sep X w w [(row xl 3 1 s.length (ints s)), (blk bb 44 [vb]), (row vb 3 1 best.length (ints best)), (rob bs 134 [(Value.func (.func 73) #[] #[(bptr br 0), (bptr bb 0), (bptr B 0), (bptr bs 0)])]), (rob br 53 [xr]), (rob B 116 [(bptr bx 0)]), (rob bx 146 [(iv b.scales), vt, vm, (Value.map (some bm))]), (mapX false bm es ck es.size 106 5 (bN b.tabs b.tabs.length) (bC lr lb b.tabs b.tabs.length)), (d_0 false vt lr lb b.tabs), (d_3 false vm lk b.macs), (sl xr 2 l.length (pairs l)), (sl xk 2 ((e_1 l s l.length).length) (pairs (e_1 l s l.length)))] := hJ
 refine m2 (s1 W (a_0 rfl (evc _ _)) fun a1 a => ?_); clear W x
 refine n2 (m2 (s1 a (a_1 rfl a.e) fun a3 c => ?_)); clear a a1
 refine s1 c (a_2 rfl ae_0 c.e (I.rk 4 rfl) rfl) fun a5 g => ?_; clear c a3
 refine s1 g (d_1 rfl p_4 g.e (I.sk 10 rfl)) fun a7 Y => ?_; clear g a5
 refine s1 Y (q_0 rfl Y.e Y.e) fun a9 C => ?_; clear Y a7
 have u : (l.length : Int) = (l.length : Int) := rfl
 rw [decide_eq_true u] at C
 refine n1 (c_0 C rfl (b_5 ?_))
 have J := C.as [(0, xl), (1, xk), (3, (iv 0)), (5, (bptr bb 0)), (6, (bptr B 0))] rfl; clear C
 refine a_5 (s1 J (a_1 rfl J.e) fun y K => ?_); clear J a9
 refine s2 K (b_3 rfl en_74 (ev1 K.e) (clone_int s _ _ (SlAt.e_9 (I.f_3 0 rfl)) (by omega))) ?_
 rintro z r AW ⟨k, hO19⟩ D; have H := I.s_9 k hO19; clear k hO19 K I y
 refine s7 D (b_7 H rfl w_2 D.e D.e (i := 2) rfl (vs := [r]) (q_9 (SlAt.isSl (SlAt.e_9 (H.f_3 0 rfl)))) rfl (i_0 (SlAt.one (SlAt.e_9 (H.f_3 0 rfl))) u_9) (Nat.le_of_ble_eq_true rfl)) ?_
 intro _ AN n L; clear D
 have A : Sep X w AN [(row r 3 1 s.length (ints s)), (row xl 3 1 s.length (ints s)), (blk bb 44 [r]), (row vb 3 1 best.length (ints best)), (rob bs 134 [(Value.func (.func 73) #[] #[(bptr br 0), (bptr bb 0), (bptr B 0), (bptr bs 0)])]), (rob br 53 [xr]), (rob B 116 [(bptr bx 0)]), (rob bx 146 [(iv b.scales), vt, vm, (Value.map (some bm))]), (mapX false bm es ck es.size 106 5 (bN b.tabs b.tabs.length) (bC lr lb b.tabs b.tabs.length)), (d_0 false vt lr lb b.tabs), (d_3 false vm lk b.macs), (sl xr 2 l.length (pairs l)), (sl xk 2 ((e_1 l s l.length).length) (pairs (e_1 l s l.length)))] := n; clear n H
 refine n4 (s1 L (a_2 rfl ty_116 L.e (A.rk 6 rfl) rfl) fun AA M => ?_); clear L z
 refine s1 M (a_1 rfl M.e) fun AB E => ?_; clear M AA
 refine s2 E (b_3 rfl en_57 (ev2 E.e E.e) (spansb_ok b vt vm lr lb lk _ (b_8 (A.ok 9 _ rfl)) (c_5 (A.ok 10 _ rfl)) hth bx bm _ _ hMO (A.rk 7 rfl) (A.ok 8 _ rfl) hb (e_1 l s l.length) _ (A.sk 12 rfl) (kep_read hl (Nat.le_refl _)))) ?_
 rintro AC _ AX ⟨Z, AT, rfl, htk35, m⟩ N; have o := A.step m; clear m E A AB
 refine s1 N (a_1 rfl N.e) fun AD O => ?_; clear N AC
 refine s1 O (e_0 rfl O.e rfl) fun AE P => ?_; clear O AD
 refine s1 P (e_0 rfl P.e rfl) fun AF d => ?_; clear P AE
 refine s2 d (d_9 o rfl ze_120 (cs := [(iv 0), (iv 0), (iv 0), (iv 0), (iv 0), (iv 0), (iv 0), (iv 0)]) rfl) ?_
 rintro AG _ AY ⟨AV, rfl, p⟩ F; clear d o AF
 refine s7 F (b_7 p rfl l_5 F.e F.e (i := 0) rfl (vs := (pairs Z)) rfl (show (pairs Z).length = 8 from by simp only [b_1, List.length_set]; omega) (l_3 _) (by decide)) ?_
 intro _ AZ q Q; have t := q.o_8 (i := 0) rfl (cs' := (pairs Z)) (k_2 _ _ (Eq.symm (show (pairs Z).length = 8 from by simp only [b_1, List.length_set]; omega))); clear q F p
 refine s1 Q (a_0 rfl Q.e) fun AH f => ?_; clear Q AG
 refine n2 ?_
 have R := f.as [(14, (Value.bool ((n_3 b (e_1 l s l.length)).isSome))), (3, (iv 0))] rfl; clear f
 refine a_5 (s1 R (a_1 rfl R.e) fun AI S => ?_); clear R AH
 refine s1 S (q_0 rfl S.e (evc _ _)) fun AJ T => ?_; clear S AI
 refine s1 T (a_1 rfl T.e) fun AK U => ?_; clear T AJ
 refine s5 U (a_1 rfl U.e) fun AL G => ?_; clear U AK
 refine s1 G (b_6 rfl G.e G.e) fun AM V => ?_; clear G AL
 refine s1 V (a_0 rfl V.e) fun AU j => ?_; clear V AM
 refine n1 (c_2 (a_6 (a_8 j (.inl rfl) (a_3 j rfl (.tmp rfl)) ?_)))
 rw [lv_0]
 exact ⟨rfl, _, s, fun h => lv_f0 h, t.keep [2, 3, 1, 5, 6, 7, 8, 9, 10, 11, 12, 13] (by decide) _ rfl rfl⟩
theorem leave_keep (b : h_4) (vt vm : Value) (lr lb lk : Nat → Value) (hth : o_6 b) (hb : k_5 b) (bx bm : Nat) (es : Array MapEntry) (ck : Nat) (hMO : q_7 bm es ck (bN b.tabs b.tabs.length)) (l : List (Int × Int)) (hl : q_4 b l) (xr : Value) (bb br E bs : Nat) (d : Nat) (ih : ∀ (m : Nat) (q : Nat) (s : List Int) (xl xk vb : Value) (best : List Int) (w : World) (X : Nat → Prop) (_ : m ≤ d) (_ : q + d = l.length) (_ : t_2 s q) (_ : s.length + m ≤ 1000) (_ : Sep X w w [(row xl 3 1 s.length (ints s)), (blk bb 44 [vb]), (row vb 3 1 best.length (ints best)), (rob bs 134 [(Value.func (.func 73) #[] #[(bptr br 0), (bptr bb 0), (bptr E 0), (bptr bs 0)])]), (rob br 53 [xr]), (rob E 116 [(bptr bx 0)]), (rob bx 146 [(iv b.scales), vt, vm, (Value.map (some bm))]), (mapX false bm es ck es.size 106 5 (bN b.tabs b.tabs.length) (bC lr lb b.tabs b.tabs.length)), (d_0 false vt lr lb b.tabs), (d_3 false vm lk b.macs), (sl xr 2 l.length (pairs l)), (sl xk 2 ((e_1 l s q).length) (pairs (e_1 l s q)))]), Calls Try.prog 73 #[xl, xk, .int .i64 (q : Int), .int .i64 (m : Int), bptr br 0, bptr bb 0, bptr E 0, bptr bs 0] w (Ret fun v w' => v = .bool (i_2 l.length (okS b l) m s q) ∧ ∃ vb' best', ((i_2 l.length (okS b l) m s q) = true → (n_2 l.length m s q).find? (okS b l) = some best') ∧ Sep X w w' [(row xl 3 1 s.length (ints s)), (blk bb 44 [vb']), (row vb' 3 1 best'.length (ints best')), (rob bs 134 [(Value.func (.func 73) #[] #[(bptr br 0), (bptr bb 0), (bptr E 0), (bptr bs 0)])]), (rob br 53 [xr]), (rob E 116 [(bptr bx 0)]), (rob bx 146 [(iv b.scales), vt, vm, (Value.map (some bm))]), (mapX false bm es ck es.size 106 5 (bN b.tabs b.tabs.length) (bC lr lb b.tabs b.tabs.length)), (d_0 false vt lr lb b.tabs), (d_3 false vm lk b.macs), (sl xr 2 l.length (pairs l)), (sl xk 2 ((e_1 l s q).length) (pairs (e_1 l s q)))])) (q : Nat) (s : List Int) (xl xk vb : Value) (best : List Int) (w : World) (X : Nat → Prop) (hm : 0 ≤ d + 1) (hqd : q + (d + 1) = l.length) (hs : t_2 s q) (hsl : s.length + 0 ≤ 1000) (hJ : Sep X w w [(row xl 3 1 s.length (ints s)), (blk bb 44 [vb]), (row vb 3 1 best.length (ints best)), (rob bs 134 [(Value.func (.func 73) #[] #[(bptr br 0), (bptr bb 0), (bptr E 0), (bptr bs 0)])]), (rob br 53 [xr]), (rob E 116 [(bptr bx 0)]), (rob bx 146 [(iv b.scales), vt, vm, (Value.map (some bm))]), (mapX false bm es ck es.size 106 5 (bN b.tabs b.tabs.length) (bC lr lb b.tabs b.tabs.length)), (d_0 false vt lr lb b.tabs), (d_3 false vm lk b.macs), (sl xr 2 l.length (pairs l)), (sl xk 2 ((e_1 l s q).length) (pairs (e_1 l s q)))]) :
  Calls Try.prog 73 #[xl, xk, (iv (q : Int)), (iv 0), (bptr br 0), (bptr bb 0), (bptr E 0), (bptr bs 0)] w (Ret fun v w' => v = .bool (i_2 l.length (okS b l) 0 s q) ∧ ∃ vb' best', ((i_2 l.length (okS b l) 0 s q) = true → (n_2 l.length 0 s q).find? (okS b l) = some best') ∧ Sep X w w' [(row xl 3 1 s.length (ints s)), (blk bb 44 [vb']), (row vb' 3 1 best'.length (ints best')), (rob bs 134 [(Value.func (.func 73) #[] #[(bptr br 0), (bptr bb 0), (bptr E 0), (bptr bs 0)])]), (rob br 53 [xr]), (rob E 116 [(bptr bx 0)]), (rob bx 146 [(iv b.scales), vt, vm, (Value.map (some bm))]), (mapX false bm es ck es.size 106 5 (bN b.tabs b.tabs.length) (bC lr lb b.tabs b.tabs.length)), (d_0 false vt lr lb b.tabs), (d_3 false vm lk b.macs), (sl xr 2 l.length (pairs l)), (sl xk 2 ((e_1 l s q).length) (pairs (e_1 l s q)))]) := by
 refine a_9 Try.func73 rfl fun a0 O => ?_
 replace O : Fr 69 [] [(0, xl), (1, xk), (2, (iv (q : Int))), (3, (iv 0)), (4, (bptr br 0)), (5, (bptr bb 0)), (6, (bptr E 0)), (7, (bptr bs 0))] a0 := O
 have hll := hl.len; have hkl := kep_len l s q
 have Q : Sep X w w [(row xl 3 1 s.length (ints s)), (blk bb 44 [vb]), (row vb 3 1 best.length (ints best)), (rob bs 134 [(Value.func (.func 73) #[] #[(bptr br 0), (bptr bb 0), (bptr E 0), (bptr bs 0)])]), (rob br 53 [xr]), (rob E 116 [(bptr bx 0)]), (rob bx 146 [(iv b.scales), vt, vm, (Value.map (some bm))]), (mapX false bm es ck es.size 106 5 (bN b.tabs b.tabs.length) (bC lr lb b.tabs b.tabs.length)), (d_0 false vt lr lb b.tabs), (d_3 false vm lk b.macs), (sl xr 2 l.length (pairs l)), (sl xk 2 ((e_1 l s q).length) (pairs (e_1 l s q)))] := hJ
 refine m2 (s1 O (a_0 rfl (evc _ _)) fun a1 Y => ?_); clear O a0
 refine n2 (m2 (s1 Y (a_1 rfl Y.e) fun a3 r => ?_)); clear Y a1
 refine s1 r (a_2 rfl ae_0 r.e (Q.rk 4 rfl) rfl) fun a5 AB => ?_; clear r a3
 refine s1 AB (d_1 rfl p_4 AB.e (Q.sk 10 rfl)) fun a7 P => ?_; clear AB a5
 refine s1 P (q_0 rfl P.e P.e) fun a9 H => ?_; clear P a7
 have AN : ¬ ((q : Int) = (l.length : Int)) := (by omega)
 rw [decide_eq_false AN] at H
 refine n1 (b_4 H rfl (c_6 (a_7 (b_5 (b_5 ?_)))))
 have U := H.as [(0, xl), (1, xk), (2, (iv (q : Int))), (3, (iv 0)), (4, (bptr br 0)), (7, (bptr bs 0))] rfl; clear H
 have V := U.as [(0, xl), (1, xk), (2, (iv (q : Int))), (3, (iv 0)), (4, (bptr br 0)), (7, (bptr bs 0))] rfl; clear U
 refine g_0 mixed V Q 13 [[], [0], [1], [2], [2], [2], [2, 5], [2, 4, 6], [2], [2], [2, 9], [2], [2, 11]] [(Yd.val (iv 0)), (Yd.val (Value.bool false)), (Yd.val (Value.bool false)), (Yd.val undef), (Yd.val undef), (Yd.val undef), (Yd.val undef), (Yd.val undef), (Yd.val undef), (Yd.val undef), (Yd.val undef), (Yd.val undef), (Yd.val undef)] (by decide +kernel) rfl rfl ?_ ?_
 ·skip
  refine dq (fun a w hA hS hd => a_1 rfl hA.e) ?_
  refine dq (fun a w hA hS hd => j_5 rfl (hq hd 0) (evc _ _)) ?_
  refine dq (fun a w hA hS hd => a_1 rfl (hq hd 1)) ?_
  refine dn 2 (dn 2 (dn 2 (dn 2 (dn 2 (dn 2 (dn 2 (dn 2 (dn 2 (dn 2 ?_)))))))))
  trivial
 intro AU At W AC G; clear V Q
 have Z := W.add (hz G 2); clear W
 have c := Z.add (hz G 3); clear Z
 have f := c.add (hz G 7); clear c
 have g := f.add (hz G 8); clear f
 have j := g.add (hz G 10); clear g
 have k := j.add (hz G 12); clear j
 clear G
 refine s3 k fun AV J => ?_; clear k AU
 refine s1 J (c_7 rfl J.e (evc _ _)) fun Ao K => ?_; clear J AV
 refine n1 (b_4 K rfl (c_6 (a_7 (b_5 ?_))))
 have n := K.as [(0, xl), (1, xk), (2, (iv (q : Int))), (3, (iv 0)), (4, (bptr br 0)), (7, (bptr bs 0))] rfl; clear K
 have o := n.as [(0, xl), (1, xk), (2, (iv (q : Int))), (3, (iv 0)), (4, (bptr br 0)), (7, (bptr bs 0))] rfl; clear n
 refine c_drawC mixed o AC 20 16 10 (by decide) (by decide) (by decide) rfl [[], [0], [], [1, 2], [], [3, 4], [5], [6], [6], [6], [6, 9], [6], [6], [6, 11, 12], [6, 13], [6, 14], [6, 10, 15], [6], [6, 17], [6]] [(yw xr), (yw (iv (l.length : Int))), (yw (iv (q : Int))), (yw (iv ((l.length : Int) - (q : Int)))), (yw (iv 0)), (yw (Value.bool true)), (yw (Value.bool true)), (yw (Value.func (.func 73) #[] #[(bptr br 0), (bptr bb 0), (bptr E 0), (bptr bs 0)])), (yw xl), (yw xk), (fun (C : Nat → Value) (v_ : Value) (rs_ : List Res) => True ∧ rs_ = [(row v_ 98 2 ((e_1 l s q).length) (pairs (e_1 l s q)))]), (yw xr), (yw (iv (q : Int))), (yw (eptr xr (q * 2))), (yw (Value.agg #[(iv ((l.getD q (0, 0)).1)), (iv ((l.getD q (0, 0)).2))])), (fun (C : Nat → Value) (v_ : Value) (rs_ : List Res) => True ∧ rs_ = [(row v_ 98 2 1 [(iv ((l.getD q (0, 0)).1)), (iv ((l.getD q (0, 0)).2))])]), (fun (C : Nat → Value) (v_ : Value) (rs_ : List Res) => True ∧ rs_ = [(row v_ 98 2 (((e_1 l s q) ++ [((l.getD q (0, 0)).1, (l.getD q (0, 0)).2)]).length) (pairs ((e_1 l s q) ++ [((l.getD q (0, 0)).1, (l.getD q (0, 0)).2)])))]), (yw (iv (q : Int))), (yw (iv ((q : Int) + 1))), (yw (iv 0))] (by decide +kernel) (by decide +kernel) rfl rfl ⟨dw, dw, dw, dw, dw, dw, dw, dw, dw, dw, (fun _ _ _ _ _ h_ => h_), dw, dw, dw, dw, (fun _ _ _ _ _ h_ => h_), (fun _ _ _ _ _ h_ => h_), dw, dw, dw, trivial⟩ (by decide +kernel) (by decide +kernel) ?_ ?_ ?_
 ·skip
  refine ⟨fun hj_ a w C hA hS hd => gv1 (a_2 rfl ae_0 hA.e (hS.rk 4 rfl) rfl), ?_⟩
  refine ⟨fun hj_ a w C hA hS hd => gv1 (d_1 rfl p_4 (gu hd 0) (hS.sk 10 rfl)), ?_⟩
  refine ⟨fun hj_ a w C hA hS hd => gv1 (a_1 rfl hA.e), ?_⟩
  refine ⟨fun hj_ a w C hA hS hd => gv1 (h_2 rfl (gu hd 1) (gu hd 2) (by omega) (by omega)), ?_⟩
  refine ⟨fun hj_ a w C hA hS hd => gv1 (a_1 rfl hA.e), ?_⟩
  refine ⟨fun hj_ a w C hA hS hd => gv2 (j_5 rfl (gu hd 3) (gu hd 4)) (And.intro (by show Value.bool _ = _; simp only [decide_eq_true (show 0 < ((l.length : Int) - (q : Int)) from (by omega)), decide_true, decide_false, Bool.not_true, Bool.not_false]) rfl), ?_⟩
  refine ⟨fun hj_ a w C hA hS hd => gv1 (a_1 rfl (gu hd 5)), ?_⟩
  refine ⟨fun hj_ a w C hA hS hd => gy1 hd 6 (a_2 rfl ty_134 hA.e (hS.rk 3 rfl) rfl), ?_⟩
  refine ⟨fun hj_ a w C hA hS hd => gy1 hd 6 (a_1 rfl hA.e), ?_⟩
  refine ⟨fun hj_ a w C hA hS hd => gy1 hd 6 (a_1 rfl hA.e), ?_⟩
  refine ⟨fun hj_ a w C hA hS hd => f_8 rfl rfl (gut hd 6 (by decide) rfl (fun _ h => And.left h)) (vn (b_3 rfl en_75 (ev1 (gu hd 9)) (clone_read (e_1 l s q) _ _ (hS.sk 11 rfl) (by omega))) (fun v w' h => ⟨_, And.intro trivial rfl, (Sep.start NoB _).s_9 h.1 h.2, rfl⟩)), ?_⟩
  refine ⟨fun hj_ a w C hA hS hd => gy1 hd 6 (a_2 rfl ae_0 hA.e (hS.rk 4 rfl) rfl), ?_⟩
  refine ⟨fun hj_ a w C hA hS hd => gy1 hd 6 (a_1 rfl hA.e), ?_⟩
  refine ⟨fun hj_ a w C hA hS hd => gy1 hd 6 (b_0 rfl p_4 x_6 (gu hd 11) (i := q) (gu hd 12) (hS.sk 10 rfl) (by decide) (by omega)), ?_⟩
  refine ⟨fun hj_ a w C hA hS hd => gy1 hd 6 (e_8 rfl x_6 (gu hd 13) (hS.sk 10 rfl) (h_7 (by omega)) rfl (by decide)), ?_⟩
  refine ⟨fun hj_ a w C hA hS hd => f_8 rfl rfl (gut hd 6 (by decide) rfl (fun _ h => And.left h)) (vblt rfl (pv1 (gu hd 14)) p_4 x_6 ze_98 (by decide) (cs := [(iv ((l.getD q (0, 0)).1)), (iv ((l.getD q (0, 0)).2))]) (s_2 _ _) rfl (by decide) (fun _ => And.intro trivial rfl)), ?_⟩
  refine ⟨fun hj_ => absurd rfl hj_, ?_⟩
  refine ⟨fun hj_ a w C hA hS hd => gy1 hd 6 (a_1 rfl hA.e), ?_⟩
  refine ⟨fun hj_ a w C hA hS hd => gy1 hd 6 (e_3 rfl (gu hd 17) (evc _ _) (by omega) (by omega)), ?_⟩
  refine ⟨fun hj_ a w C hA hS hd => gy1 hd 6 (a_1 rfl hA.e), ?_⟩
  trivial
 ·skip
  intro a w C Ar Lr hA Ab Ad hd hS
  obtain ⟨Al, AQ⟩ := Ad; subst AQ
  obtain ⟨e6, As, Ae, Aq⟩ := hd 6 (by decide) (by decide)
  obtain ⟨Ac, Aa⟩ := Ae; subst Aa
  rw [Ac] at e6
  obtain ⟨AY, An, AS, AP⟩ := hd 15 (by decide) (by decide)
  obtain ⟨Am, AR⟩ := AS; subst AR
  have hp15_0 := AP _ (List.mem_of_getElem? (i := 0) rfl)
  exact f_8 rfl rfl (f_6 e6 rfl) (l_1 (k_7 hS rfl p_4 el_98 (c_3 (f_6 Ab rfl)) (c_3 (f_6 AY rfl)) (i := 0) rfl (SlAt.e_9 hp15_0) rfl (by simp only [maxLen]; omega) (by omega)) fun v_ w_ h_ => ⟨_, And.intro trivial rfl, h_.g_2 (i := 0) rfl (n' := ((e_1 l s q) ++ [((l.getD q (0, 0)).1, (l.getD q (0, 0)).2)]).length) (xs' := (pairs ((e_1 l s q) ++ [((l.getD q (0, 0)).1, (l.getD q (0, 0)).2)]))) (by simp) (by simp [pairs])⟩)
 skip
 intro AL Af C rsf38 p D hrq M; clear o AC
 obtain ⟨AG, AJ⟩ := D 15 (by decide) (by decide)
 obtain ⟨AH, R⟩ := AJ
 obtain ⟨T, AK⟩ := D 16 (by decide) (by decide)
 obtain ⟨AI, S⟩ := AK
 have AD : Sep X w Af [(row (C 15) 98 2 1 [(iv ((l.getD q (0, 0)).1)), (iv ((l.getD q (0, 0)).2))]), (row (C 16) 98 2 (((e_1 l s q) ++ [((l.getD q (0, 0)).1, (l.getD q (0, 0)).2)]).length) (pairs ((e_1 l s q) ++ [((l.getD q (0, 0)).1, (l.getD q (0, 0)).2)]))), (row xl 3 1 s.length (ints s)), (blk bb 44 [vb]), (row vb 3 1 best.length (ints best)), (rob bs 134 [(Value.func (.func 73) #[] #[(bptr br 0), (bptr bb 0), (bptr E 0), (bptr bs 0)])]), (rob br 53 [xr]), (rob E 116 [(bptr bx 0)]), (rob bx 146 [(iv b.scales), vt, vm, (Value.map (some bm))]), (mapX false bm es ck es.size 106 5 (bN b.tabs b.tabs.length) (bC lr lb b.tabs b.tabs.length)), (d_0 false vt lr lb b.tabs), (d_3 false vm lk b.macs), (sl xr 2 l.length (pairs l)), (sl xk 2 ((e_1 l s q).length) (pairs (e_1 l s q)))] := by rw [show catR rsf38 0 20 = ([(row (C 15) 98 2 1 [(iv ((l.getD q (0, 0)).1)), (iv ((l.getD q (0, 0)).2))]), (row (C 16) 98 2 (((e_1 l s q) ++ [((l.getD q (0, 0)).1, (l.getD q (0, 0)).2)]).length) (pairs ((e_1 l s q) ++ [((l.getD q (0, 0)).1, (l.getD q (0, 0)).2)])))] : List Res) by (try simp only [catR, gr (D 0 (by decide) (by decide)), gr (D 1 (by decide) (by decide)), gr (D 2 (by decide) (by decide)), gr (D 3 (by decide) (by decide)), gr (D 4 (by decide) (by decide)), gr (D 5 (by decide) (by decide)), gr (D 6 (by decide) (by decide)), gr (D 7 (by decide) (by decide)), gr (D 8 (by decide) (by decide)), gr (D 9 (by decide) (by decide)), gr (D 11 (by decide) (by decide)), gr (D 12 (by decide) (by decide)), gr (D 13 (by decide) (by decide)), gr (D 14 (by decide) (by decide)), R, S, gr (D 17 (by decide) (by decide)), gr (D 18 (by decide) (by decide)), gr (D 19 (by decide) (by decide)), hrq]); (try rfl)] at M; exact M
 have t := p.add (gs (D 6 (by decide) (by decide))); clear p
 have u := t.add (gs (D 7 (by decide) (by decide))); clear t
 have x := u.add (gs (D 8 (by decide) (by decide))); clear u
 have y : Fr 69 [] [(63, (C 16)), (55, xl), (54, (Value.func (.func 73) #[] #[(bptr br 0), (bptr bb 0), (bptr E 0), (bptr bs 0)])), (53, (Value.bool true)), (0, xl), (1, xk), (2, (iv (q : Int))), (3, (iv 0)), (4, (bptr br 0)), (7, (bptr bs 0))] AL := x.add (f_6 T rfl); clear x
 have z := y.add (gs (D 18 (by decide) (by decide))); clear y
 have F := z.add (gs (D 19 (by decide) (by decide))); clear z
 clear D M AG T hrq
 clear R
 clear AH
 clear S
 clear AI
 have AE := sep_row_sl (AD.g_2 (i := 1) rfl (n' := (e_1 l s (q + 1)).length) (xs' := pairs (e_1 l s (q + 1))) (by rw [kep_in hs]) (by rw [kep_in hs])) (i := 1) rfl; clear AD
 have N := AE.gkp (gpc 2 (gpc 3 (gpc 4 (gpc 5 (gpc 6 (gpc 7 (gpc 8 (gpc 9 (gpc 10 (gpc 11 (gpc 12 (gpc 1 (gpc 0 (gpc 13 gpn)))))))))))))); clear AE
 refine s6 F (i_5 rfl (F.ev rfl) en_73 (ev4 F.e F.e F.e F.e) (by have hz := ih 0 (q + 1) s _ _ _ _ _ (ownX [(row xl 3 1 s.length (ints s)), (blk bb 44 [vb]), (row vb 3 1 best.length (ints best)), (rob bs 134 [(Value.func (.func 73) #[] #[(bptr br 0), (bptr bb 0), (bptr E 0), (bptr bs 0)])]), (rob br 53 [xr]), (rob E 116 [(bptr bx 0)]), (rob bx 146 [(iv b.scales), vt, vm, (Value.map (some bm))]), (mapX false bm es ck es.size 106 5 (bN b.tabs b.tabs.length) (bC lr lb b.tabs b.tabs.length)), (d_0 false vt lr lb b.tabs), (d_3 false vm lk b.macs), (sl xr 2 l.length (pairs l)), (sl (C 16) 2 ((e_1 l s (q + 1)).length) (pairs (e_1 l s (q + 1))))]) (by omega) (by omega) hs.more (by omega) (Sep.enterG (A := [(row xl 3 1 s.length (ints s)), (blk bb 44 [vb]), (row vb 3 1 best.length (ints best)), (rob bs 134 [(Value.func (.func 73) #[] #[(bptr br 0), (bptr bb 0), (bptr E 0), (bptr bs 0)])]), (rob br 53 [xr]), (rob E 116 [(bptr bx 0)]), (rob bx 146 [(iv b.scales), vt, vm, (Value.map (some bm))]), (mapX false bm es ck es.size 106 5 (bN b.tabs b.tabs.length) (bC lr lb b.tabs b.tabs.length)), (d_0 false vt lr lb b.tabs), (d_3 false vm lk b.macs), (sl xr 2 l.length (pairs l)), (sl (C 16) 2 ((e_1 l s (q + 1)).length) (pairs (e_1 l s (q + 1))))]) (B := [(row (C 15) 98 2 1 [(iv ((l.getD q (0, 0)).1)), (iv ((l.getD q (0, 0)).2))]), (sl xk 2 ((e_1 l s q).length) (pairs (e_1 l s q)))]) N); exact hz)) ?_
 rintro AW _ Ag ⟨rfl, vb52, best53, AO, AF⟩ I; clear F AL
 have AM : Sep X w Ag [(row xl 3 1 s.length (ints s)), (blk bb 44 [vb52]), (row vb52 3 1 best53.length (ints best53)), (rob bs 134 [(Value.func (.func 73) #[] #[(bptr br 0), (bptr bb 0), (bptr E 0), (bptr bs 0)])]), (rob br 53 [xr]), (rob E 116 [(bptr bx 0)]), (rob bx 146 [(iv b.scales), vt, vm, (Value.map (some bm))]), (mapX false bm es ck es.size 106 5 (bN b.tabs b.tabs.length) (bC lr lb b.tabs b.tabs.length)), (d_0 false vt lr lb b.tabs), (d_3 false vm lk b.macs), (sl xr 2 l.length (pairs l)), (sl (C 16) 2 ((e_1 l s (q + 1)).length) (pairs (e_1 l s (q + 1)))), (row (C 15) 98 2 1 [(iv ((l.getD q (0, 0)).1)), (iv ((l.getD q (0, 0)).2))]), (sl xk 2 ((e_1 l s q).length) (pairs (e_1 l s q)))] := Sep.callG (A := [(row xl 3 1 s.length (ints s)), (blk bb 44 [vb]), (row vb 3 1 best.length (ints best)), (rob bs 134 [(Value.func (.func 73) #[] #[(bptr br 0), (bptr bb 0), (bptr E 0), (bptr bs 0)])]), (rob br 53 [xr]), (rob E 116 [(bptr bx 0)]), (rob bx 146 [(iv b.scales), vt, vm, (Value.map (some bm))]), (mapX false bm es ck es.size 106 5 (bN b.tabs b.tabs.length) (bC lr lb b.tabs b.tabs.length)), (d_0 false vt lr lb b.tabs), (d_3 false vm lk b.macs), (sl xr 2 l.length (pairs l)), (sl (C 16) 2 ((e_1 l s (q + 1)).length) (pairs (e_1 l s (q + 1))))]) (B := [(row (C 15) 98 2 1 [(iv ((l.getD q (0, 0)).1)), (iv ((l.getD q (0, 0)).2))]), (sl xk 2 ((e_1 l s q).length) (pairs (e_1 l s q)))]) N AF (v_5 ⟨.inl rfl, .inl rfl, .inl rfl, .inr ⟨3, rfl⟩, .inr ⟨4, rfl⟩, .inr ⟨5, rfl⟩, .inr ⟨6, rfl⟩, .inr ⟨7, rfl⟩, .inr ⟨8, rfl⟩, .inr ⟨9, rfl⟩, .inr ⟨10, rfl⟩, .inr ⟨11, rfl⟩, trivial⟩); clear AF N
 refine s1 I (b_6 rfl I.e I.e) fun AX L => ?_; clear I AW
 refine s1 L (a_0 rfl L.e) fun Ap AA => ?_; clear L AX
 refine n1 (c_2 (a_8 AA (.inl rfl) (a_3 AA rfl (.tmp rfl)) ?_))
 have hh : (i_2 l.length (okS b l) 0 s q) = (i_2 l.length (okS b l) 0 s (q + 1)) := lv_0.trans lv_0.symm
 rw [hh]
 exact ⟨rfl, _, _, fun h => AO h, AM.keep [0, 1, 2, 3, 4, 5, 6, 7, 8, 9, 10, 13] (by decide) _ rfl rfl⟩
theorem leave_more (b : h_4) (vt vm : Value) (lr lb lk : Nat → Value) (hth : o_6 b) (hb : k_5 b) (bx bm : Nat) (es : Array MapEntry) (ck : Nat) (hMO : q_7 bm es ck (bN b.tabs b.tabs.length)) (l : List (Int × Int)) (hl : q_4 b l) (xr : Value) (bb br F bs : Nat) (d : Nat) (ih : ∀ (m : Nat) (q : Nat) (s : List Int) (xl xk vb : Value) (best : List Int) (w : World) (X : Nat → Prop) (_ : m ≤ d) (_ : q + d = l.length) (_ : t_2 s q) (_ : s.length + m ≤ 1000) (_ : Sep X w w [(row xl 3 1 s.length (ints s)), (blk bb 44 [vb]), (row vb 3 1 best.length (ints best)), (rob bs 134 [(Value.func (.func 73) #[] #[(bptr br 0), (bptr bb 0), (bptr F 0), (bptr bs 0)])]), (rob br 53 [xr]), (rob F 116 [(bptr bx 0)]), (rob bx 146 [(iv b.scales), vt, vm, (Value.map (some bm))]), (mapX false bm es ck es.size 106 5 (bN b.tabs b.tabs.length) (bC lr lb b.tabs b.tabs.length)), (d_0 false vt lr lb b.tabs), (d_3 false vm lk b.macs), (sl xr 2 l.length (pairs l)), (sl xk 2 ((e_1 l s q).length) (pairs (e_1 l s q)))]), Calls Try.prog 73 #[xl, xk, .int .i64 (q : Int), .int .i64 (m : Int), bptr br 0, bptr bb 0, bptr F 0, bptr bs 0] w (Ret fun v w' => v = .bool (i_2 l.length (okS b l) m s q) ∧ ∃ vb' best', ((i_2 l.length (okS b l) m s q) = true → (n_2 l.length m s q).find? (okS b l) = some best') ∧ Sep X w w' [(row xl 3 1 s.length (ints s)), (blk bb 44 [vb']), (row vb' 3 1 best'.length (ints best')), (rob bs 134 [(Value.func (.func 73) #[] #[(bptr br 0), (bptr bb 0), (bptr F 0), (bptr bs 0)])]), (rob br 53 [xr]), (rob F 116 [(bptr bx 0)]), (rob bx 146 [(iv b.scales), vt, vm, (Value.map (some bm))]), (mapX false bm es ck es.size 106 5 (bN b.tabs b.tabs.length) (bC lr lb b.tabs b.tabs.length)), (d_0 false vt lr lb b.tabs), (d_3 false vm lk b.macs), (sl xr 2 l.length (pairs l)), (sl xk 2 ((e_1 l s q).length) (pairs (e_1 l s q)))])) (m : Nat) (q : Nat) (s : List Int) (xl xk vb : Value) (best : List Int) (w : World) (X : Nat → Prop) (hm : (m + 1) ≤ d + 1) (hqd : q + (d + 1) = l.length) (hs : t_2 s q) (hsl : s.length + (m + 1) ≤ 1000) (hJ : Sep X w w [(row xl 3 1 s.length (ints s)), (blk bb 44 [vb]), (row vb 3 1 best.length (ints best)), (rob bs 134 [(Value.func (.func 73) #[] #[(bptr br 0), (bptr bb 0), (bptr F 0), (bptr bs 0)])]), (rob br 53 [xr]), (rob F 116 [(bptr bx 0)]), (rob bx 146 [(iv b.scales), vt, vm, (Value.map (some bm))]), (mapX false bm es ck es.size 106 5 (bN b.tabs b.tabs.length) (bC lr lb b.tabs b.tabs.length)), (d_0 false vt lr lb b.tabs), (d_3 false vm lk b.macs), (sl xr 2 l.length (pairs l)), (sl xk 2 ((e_1 l s q).length) (pairs (e_1 l s q)))]) :
  Calls Try.prog 73 #[xl, xk, (iv (q : Int)), (iv ((m + 1 : Nat) : Int)), (bptr br 0), (bptr bb 0), (bptr F 0), (bptr bs 0)] w (Ret fun v w' => v = .bool (i_2 l.length (okS b l) (m + 1) s q) ∧ ∃ vb' best', ((i_2 l.length (okS b l) (m + 1) s q) = true → (n_2 l.length (m + 1) s q).find? (okS b l) = some best') ∧ Sep X w w' [(row xl 3 1 s.length (ints s)), (blk bb 44 [vb']), (row vb' 3 1 best'.length (ints best')), (rob bs 134 [(Value.func (.func 73) #[] #[(bptr br 0), (bptr bb 0), (bptr F 0), (bptr bs 0)])]), (rob br 53 [xr]), (rob F 116 [(bptr bx 0)]), (rob bx 146 [(iv b.scales), vt, vm, (Value.map (some bm))]), (mapX false bm es ck es.size 106 5 (bN b.tabs b.tabs.length) (bC lr lb b.tabs b.tabs.length)), (d_0 false vt lr lb b.tabs), (d_3 false vm lk b.macs), (sl xr 2 l.length (pairs l)), (sl xk 2 ((e_1 l s q).length) (pairs (e_1 l s q)))]) := by
 refine a_9 Try.func73 rfl fun a0 AT => ?_
 replace AT : Fr 69 [] [(0, xl), (1, xk), (2, (iv (q : Int))), (3, (iv ((m + 1 : Nat) : Int))), (4, (bptr br 0)), (5, (bptr bb 0)), (6, (bptr F 0)), (7, (bptr bs 0))] a0 := AT
 have hll := hl.len; have hkl := kep_len l s q
 have AF : Sep X w w [(row xl 3 1 s.length (ints s)), (blk bb 44 [vb]), (row vb 3 1 best.length (ints best)), (rob bs 134 [(Value.func (.func 73) #[] #[(bptr br 0), (bptr bb 0), (bptr F 0), (bptr bs 0)])]), (rob br 53 [xr]), (rob F 116 [(bptr bx 0)]), (rob bx 146 [(iv b.scales), vt, vm, (Value.map (some bm))]), (mapX false bm es ck es.size 106 5 (bN b.tabs b.tabs.length) (bC lr lb b.tabs b.tabs.length)), (d_0 false vt lr lb b.tabs), (d_3 false vm lk b.macs), (sl xr 2 l.length (pairs l)), (sl xk 2 ((e_1 l s q).length) (pairs (e_1 l s q)))] := hJ
 refine m2 (s1 AT (a_0 rfl (evc _ _)) fun a1 A2 => ?_); clear AT a0
 refine n2 (m2 (s1 A2 (a_1 rfl A2.e) fun a3 A8 => ?_)); clear A2 a1
 refine s1 A8 (a_2 rfl ae_0 A8.e (AF.rk 4 rfl) rfl) fun a5 BE => ?_; clear A8 a3
 refine s1 BE (d_1 rfl p_4 BE.e (AF.sk 10 rfl)) fun a7 Ap => ?_; clear BE a5
 refine s1 Ap (q_0 rfl Ap.e Ap.e) fun a9 f => ?_; clear Ap a7
 have Bx : ¬ ((q : Int) = (l.length : Int)) := (by omega)
 rw [decide_eq_false Bx] at f
 refine n1 (b_4 f rfl (c_6 (a_7 (b_5 (b_5 ?_)))))
 have Az := f.as [(0, xl), (1, xk), (2, (iv (q : Int))), (3, (iv ((m + 1 : Nat) : Int))), (4, (bptr br 0)), (7, (bptr bs 0))] rfl; clear f
 have hd5_ : 0 < ((m + 1 : Nat) : Int) := by omega
 have A0 := Az.as [(0, xl), (1, xk), (2, (iv (q : Int))), (3, (iv ((m + 1 : Nat) : Int))), (4, (bptr br 0)), (7, (bptr bs 0))] rfl; clear Az
 have Bu := AF.below
 refine c_drawnA mixed A0 AF 13 [[], [0], [1], [2], [2], [2], [2, 5], [2, 4, 6], [2], [2], [2, 9], [2], [2, 11]] [(Yd.val (iv ((m + 1 : Nat) : Int))), (Yd.val (Value.bool true)), (Yd.val (Value.bool true)), (Yd.val (Value.func (.func 73) #[] #[(bptr br 0), (bptr bb 0), (bptr F 0), (bptr bs 0)])), (Yd.val xl), (Yd.val (iv (q : Int))), (Yd.blt w.heap.size 3 1 [(iv (q : Int))]), Yd.any, (Yd.val xk), (Yd.val (iv (q : Int))), (Yd.val (iv ((q : Int) + 1))), (Yd.val (iv ((m + 1 : Nat) : Int))), (Yd.val (iv (((m + 1 : Nat) : Int) - 1)))] (by decide +kernel) rfl rfl 7 0 (by decide) rfl 1 ((ints s) ++ [(iv (q : Int))]) rfl ⟨w_3 _ _, w_3 _ _, w_3 _ _, w_3 _ _, w_3 _ _, w_3 _ _, ydb_blt _ _ _ _, ydb_any _, w_3 _ _, w_3 _ _, w_3 _ _, w_3 _ _, w_3 _ _, trivial⟩ ?_ ?_
 ·skip
  refine ⟨⟨fun _ a w hA hS hz hd => ?_, fun e_ => absurd e_ (by decide)⟩, ?_⟩
  ·skip
   exact d_5 rfl (dv (a_1 rfl hA.e) hS rfl)
  refine ⟨⟨fun _ a w hA hS hz hd => ?_, fun e_ => absurd e_ (by decide)⟩, ?_⟩
  ·skip
   have e0 := e_4 (hd 0 (by decide)) rfl (fun _ h => h)
   exact d_5 rfl (dv (j_5 rfl (c_3 e0) (evc _ _)) hS (by show Value.bool _ = _; simp [hd5_]))
  refine ⟨⟨fun _ a w hA hS hz hd => ?_, fun e_ => absurd e_ (by decide)⟩, ?_⟩
  ·skip
   have e1 := e_4 (hd 1 (by decide)) rfl (fun _ h => h)
   exact d_5 rfl (dv (a_1 rfl (c_3 e1)) hS rfl)
  refine ⟨⟨fun _ a w hA hS hz hd => ?_, fun e_ => absurd e_ (by decide)⟩, ?_⟩
  ·skip
   have J := e_4 (hd 2 (by decide)) rfl (fun _ h => h)
   exact f_8 rfl rfl J (dv (a_2 rfl ty_134 hA.e (hS.rk 3 rfl) rfl) hS rfl)
  refine ⟨⟨fun _ a w hA hS hz hd => ?_, fun e_ => absurd e_ (by decide)⟩, ?_⟩
  ·skip
   have J := e_4 (hd 2 (by decide)) rfl (fun _ h => h)
   exact f_8 rfl rfl J (dv (a_1 rfl hA.e) hS rfl)
  refine ⟨⟨fun _ a w hA hS hz hd => ?_, fun e_ => absurd e_ (by decide)⟩, ?_⟩
  ·skip
   have J := e_4 (hd 2 (by decide)) rfl (fun _ h => h)
   exact f_8 rfl rfl J (dv (a_1 rfl hA.e) hS rfl)
  refine ⟨⟨fun _ a w hA hS hz hd => ?_, fun e_ => absurd e_ (by decide)⟩, ?_⟩
  ·skip
   have J := e_4 (hd 2 (by decide)) rfl (fun _ h => h)
   have e5 := e_4 (hd 5 (by decide)) rfl (fun _ h => h)
   exact f_8 rfl rfl J (dbltZ hS hz rfl (pv1 (c_3 e5)) j_1 ty_3 ze_3 (by decide) (cs := [(iv (q : Int))]) (bs_3_1_0i _) (fun _ _ h => h))
  refine ⟨⟨fun e_ => absurd rfl e_, fun _ a w hA hS hz hd => ?_⟩, ?_⟩
  ·skip
   have J := e_4 (hd 2 (by decide)) rfl (fun _ h => h)
   have e4 := e_4 (hd 4 (by decide)) rfl (fun _ h => h)
   obtain ⟨_, e6, F, rfl, BZ, _⟩ := has_get (hd 6 (by decide)) rfl
   exact f_8 rfl rfl J (op_appendL hS hz rfl j_1 el_3 (c_3 e4) (c_3 e6) (i := 0) rfl (SlAt.of_blk BZ rfl (by decide)) (by decide) rfl (by simp only [maxLen]; omega) (by omega))
  refine ⟨⟨fun _ a w hA hS hz hd => ?_, fun e_ => absurd e_ (by decide)⟩, ?_⟩
  ·skip
   have J := e_4 (hd 2 (by decide)) rfl (fun _ h => h)
   exact f_8 rfl rfl J (dv (a_1 rfl hA.e) hS rfl)
  refine ⟨⟨fun _ a w hA hS hz hd => ?_, fun e_ => absurd e_ (by decide)⟩, ?_⟩
  ·skip
   have J := e_4 (hd 2 (by decide)) rfl (fun _ h => h)
   exact f_8 rfl rfl J (dv (a_1 rfl hA.e) hS rfl)
  refine ⟨⟨fun _ a w hA hS hz hd => ?_, fun e_ => absurd e_ (by decide)⟩, ?_⟩
  ·skip
   have J := e_4 (hd 2 (by decide)) rfl (fun _ h => h)
   have e9 := e_4 (hd 9 (by decide)) rfl (fun _ h => h)
   exact f_8 rfl rfl J (dv (e_3 rfl (c_3 e9) (evc _ _) (by omega) (by omega)) hS rfl)
  refine ⟨⟨fun _ a w hA hS hz hd => ?_, fun e_ => absurd e_ (by decide)⟩, ?_⟩
  ·skip
   have J := e_4 (hd 2 (by decide)) rfl (fun _ h => h)
   exact f_8 rfl rfl J (dv (a_1 rfl hA.e) hS rfl)
  refine ⟨⟨fun _ a w hA hS hz hd => ?_, fun e_ => absurd e_ (by decide)⟩, ?_⟩
  ·skip
   have J := e_4 (hd 2 (by decide)) rfl (fun _ h => h)
   have CE := e_4 (hd 11 (by decide)) rfl (fun _ h => h)
   exact f_8 rfl rfl J (dv (h_2 rfl (c_3 CE) (evc _ _) (by omega) (by omega)) hS rfl)
  trivial
 intro Bk CZ A1 AK U hAp20; clear A0 AF
 have A3 := A1.add (e_4 (U 2 (by decide) (by decide)) rfl (fun _ h => h)); clear A1
 have A4 := A3.add (e_4 (U 3 (by decide) (by decide)) rfl (fun _ h => h)); clear A3
 obtain ⟨M, Bc, hap26⟩ := has_get hAp20 rfl
 have A5 := A4.add Bc; clear A4 Bc hAp20
 have A6 := A5.add (e_4 (U 8 (by decide) (by decide)) rfl (fun _ h => h)); clear A5
 have A7 := A6.add (e_4 (U 10 (by decide) (by decide)) rfl (fun _ h => h)); clear A6
 have H := A7.add (e_4 (U 12 (by decide) (by decide)) rfl (fun _ h => h)); clear A7
 clear U
 rcases appL_row AK Bu (i0 := 0) rfl hap26 with ⟨Z, hbk31⟩ | Z
 ·skip
  clear AK
  have y := Z.g_2 (i := 0) rfl (n' := (s ++ [(q : Int)]).length) (xs' := ints (s ++ [(q : Int)])) (by simp) (by simp [ints]); rw [← kep_out (l := l) hs] at y; clear Z
  refine s6 H (i_5 rfl (H.ev rfl) en_73 (ev4 H.e H.e H.e H.e) (by have hz := ih m (q + 1) (s ++ [(q : Int)]) _ _ _ _ _ (ownX [(row M 3 1 ((s ++ [(q : Int)]).length) (ints (s ++ [(q : Int)]))), (blk bb 44 [vb]), (row vb 3 1 best.length (ints best)), (rob bs 134 [(Value.func (.func 73) #[] #[(bptr br 0), (bptr bb 0), (bptr F 0), (bptr bs 0)])]), (rob br 53 [xr]), (rob F 116 [(bptr bx 0)]), (rob bx 146 [(iv b.scales), vt, vm, (Value.map (some bm))]), (mapX false bm es ck es.size 106 5 (bN b.tabs b.tabs.length) (bC lr lb b.tabs b.tabs.length)), (d_0 false vt lr lb b.tabs), (d_3 false vm lk b.macs), (sl xr 2 l.length (pairs l)), (sl xk 2 ((e_1 l (s ++ [(q : Int)]) (q + 1)).length) (pairs (e_1 l (s ++ [(q : Int)]) (q + 1))))]) (by omega) (by omega) hs.snoc (by simp only [List.length_append, List.length_cons, List.length_nil]; omega) (Sep.enterG (A := [(row M 3 1 ((s ++ [(q : Int)]).length) (ints (s ++ [(q : Int)]))), (blk bb 44 [vb]), (row vb 3 1 best.length (ints best)), (rob bs 134 [(Value.func (.func 73) #[] #[(bptr br 0), (bptr bb 0), (bptr F 0), (bptr bs 0)])]), (rob br 53 [xr]), (rob F 116 [(bptr bx 0)]), (rob bx 146 [(iv b.scales), vt, vm, (Value.map (some bm))]), (mapX false bm es ck es.size 106 5 (bN b.tabs b.tabs.length) (bC lr lb b.tabs b.tabs.length)), (d_0 false vt lr lb b.tabs), (d_3 false vm lk b.macs), (sl xr 2 l.length (pairs l)), (sl xk 2 ((e_1 l (s ++ [(q : Int)]) (q + 1)).length) (pairs (e_1 l (s ++ [(q : Int)]) (q + 1))))]) (B := []) y); rw [show ((m + 1 : Nat) : Int) - 1 = (m : Int) by omega]; exact hz)) ?_
  rintro B7 _ CH ⟨rfl, vb38, best39, By, BW⟩ n; clear H Bk
  have BT : Sep X w CH [(row M 3 1 ((s ++ [(q : Int)]).length) (ints (s ++ [(q : Int)]))), (blk bb 44 [vb38]), (row vb38 3 1 best39.length (ints best39)), (rob bs 134 [(Value.func (.func 73) #[] #[(bptr br 0), (bptr bb 0), (bptr F 0), (bptr bs 0)])]), (rob br 53 [xr]), (rob F 116 [(bptr bx 0)]), (rob bx 146 [(iv b.scales), vt, vm, (Value.map (some bm))]), (mapX false bm es ck es.size 106 5 (bN b.tabs b.tabs.length) (bC lr lb b.tabs b.tabs.length)), (d_0 false vt lr lb b.tabs), (d_3 false vm lk b.macs), (sl xr 2 l.length (pairs l)), (sl xk 2 ((e_1 l (s ++ [(q : Int)]) (q + 1)).length) (pairs (e_1 l (s ++ [(q : Int)]) (q + 1))))] := Sep.callG (A := [(row M 3 1 ((s ++ [(q : Int)]).length) (ints (s ++ [(q : Int)]))), (blk bb 44 [vb]), (row vb 3 1 best.length (ints best)), (rob bs 134 [(Value.func (.func 73) #[] #[(bptr br 0), (bptr bb 0), (bptr F 0), (bptr bs 0)])]), (rob br 53 [xr]), (rob F 116 [(bptr bx 0)]), (rob bx 146 [(iv b.scales), vt, vm, (Value.map (some bm))]), (mapX false bm es ck es.size 106 5 (bN b.tabs b.tabs.length) (bC lr lb b.tabs b.tabs.length)), (d_0 false vt lr lb b.tabs), (d_3 false vm lk b.macs), (sl xr 2 l.length (pairs l)), (sl xk 2 ((e_1 l (s ++ [(q : Int)]) (q + 1)).length) (pairs (e_1 l (s ++ [(q : Int)]) (q + 1))))]) (B := []) y BW (v_5 ⟨.inl rfl, .inl rfl, .inl rfl, .inr ⟨3, rfl⟩, .inr ⟨4, rfl⟩, .inr ⟨5, rfl⟩, .inr ⟨6, rfl⟩, .inr ⟨7, rfl⟩, .inr ⟨8, rfl⟩, .inr ⟨9, rfl⟩, .inr ⟨10, rfl⟩, .inr ⟨11, rfl⟩, trivial⟩); clear BW y
  have AL := BT; rw [kep_out (l := l) hs] at AL; clear BT
  have c := hbk31 _ _ _ _ (AL.g_2 (i := 0) rfl (n' := s.length + 1) (xs' := ints s ++ [Value.int .i64 (q : Int)]) (by simp) (by simp [ints])) 0 rfl (by simp [ints]); clear AL
  refine s1 n (b_6 rfl n.e n.e) fun B8 N => ?_; clear n B7
  refine n1 ?_
  rcases Bool.eq_false_or_eq_true ((i_2 l.length (okS b l) m (s ++ [(q : Int)]) (q + 1))) with AO | AO
  ·skip
   rw [AO] at N
   refine c_0 N rfl (b_5 ?_)
   have A9 := N.as [] rfl; clear N
   refine a_5 (s1 A9 (a_0 rfl (evc _ _)) fun CX BA => ?_); clear A9 B8
   refine n1 (c_2 (a_6 (a_8 BA (.inl rfl) (a_3 BA rfl (.tmp rfl)) ?_)))
   have hh := lv_hit (by omega) (by assumption) (By (by assumption))
   rw [hh.1]
   exact ⟨rfl, _, _, fun _ => hh.2, c.keep [0, 1, 2, 3, 4, 5, 6, 7, 8, 9, 10, 11] (by decide) _ rfl rfl⟩
  skip
  rw [AO] at N
  refine b_4 N rfl (c_6 (a_7 (b_5 ?_)))
  have BB := N.as [(0, xl), (1, xk), (2, (iv (q : Int))), (3, (iv ((m + 1 : Nat) : Int))), (4, (bptr br 0)), (7, (bptr bs 0))] rfl; clear N
  have o := BB.as [(0, xl), (1, xk), (2, (iv (q : Int))), (3, (iv ((m + 1 : Nat) : Int))), (4, (bptr br 0)), (7, (bptr bs 0))] rfl; clear BB
  by_cases BY : ((m + 1 : Nat) : Int) < ((l.length : Int) - (q : Int))
  ·skip
   have BC := o.as [(0, xl), (1, xk), (2, (iv (q : Int))), (3, (iv ((m + 1 : Nat) : Int))), (4, (bptr br 0)), (7, (bptr bs 0))] rfl; clear o
   refine c_drawC mixed BC c 20 16 10 (by decide) (by decide) (by decide) rfl [[], [0], [], [1, 2], [], [3, 4], [5], [6], [6], [6], [6, 9], [6], [6], [6, 11, 12], [6, 13], [6, 14], [6, 10, 15], [6], [6, 17], [6]] [(yw xr), (yw (iv (l.length : Int))), (yw (iv (q : Int))), (yw (iv ((l.length : Int) - (q : Int)))), (yw (iv ((m + 1 : Nat) : Int))), (yw (Value.bool true)), (yw (Value.bool true)), (yw (Value.func (.func 73) #[] #[(bptr br 0), (bptr bb 0), (bptr F 0), (bptr bs 0)])), (yw xl), (yw xk), (fun (D : Nat → Value) (v_ : Value) (rs_ : List Res) => True ∧ rs_ = [(row v_ 98 2 ((e_1 l s q).length) (pairs (e_1 l s q)))]), (yw xr), (yw (iv (q : Int))), (yw (eptr xr (q * 2))), (yw (Value.agg #[(iv ((l.getD q (0, 0)).1)), (iv ((l.getD q (0, 0)).2))])), (fun (D : Nat → Value) (v_ : Value) (rs_ : List Res) => True ∧ rs_ = [(row v_ 98 2 1 [(iv ((l.getD q (0, 0)).1)), (iv ((l.getD q (0, 0)).2))])]), (fun (D : Nat → Value) (v_ : Value) (rs_ : List Res) => True ∧ rs_ = [(row v_ 98 2 (((e_1 l s q) ++ [((l.getD q (0, 0)).1, (l.getD q (0, 0)).2)]).length) (pairs ((e_1 l s q) ++ [((l.getD q (0, 0)).1, (l.getD q (0, 0)).2)])))]), (yw (iv (q : Int))), (yw (iv ((q : Int) + 1))), (yw (iv ((m + 1 : Nat) : Int)))] (by decide +kernel) (by decide +kernel) rfl rfl ⟨dw, dw, dw, dw, dw, dw, dw, dw, dw, dw, (fun _ _ _ _ _ h_ => h_), dw, dw, dw, dw, (fun _ _ _ _ _ h_ => h_), (fun _ _ _ _ _ h_ => h_), dw, dw, dw, trivial⟩ (by decide +kernel) (by decide +kernel) ?_ ?_ ?_
   ·skip
    refine ⟨fun hj_ a w D hA hS hd => gv1 (a_2 rfl ae_0 hA.e (hS.rk 4 rfl) rfl), ?_⟩
    refine ⟨fun hj_ a w D hA hS hd => gv1 (d_1 rfl p_4 (gu hd 0) (hS.sk 10 rfl)), ?_⟩
    refine ⟨fun hj_ a w D hA hS hd => gv1 (a_1 rfl hA.e), ?_⟩
    refine ⟨fun hj_ a w D hA hS hd => gv1 (h_2 rfl (gu hd 1) (gu hd 2) (by omega) (by omega)), ?_⟩
    refine ⟨fun hj_ a w D hA hS hd => gv1 (a_1 rfl hA.e), ?_⟩
    refine ⟨fun hj_ a w D hA hS hd => gv2 (j_5 rfl (gu hd 3) (gu hd 4)) (And.intro (by show Value.bool _ = _; simp only [decide_eq_true BY, decide_true, decide_false, Bool.not_true, Bool.not_false]) rfl), ?_⟩
    refine ⟨fun hj_ a w D hA hS hd => gv1 (a_1 rfl (gu hd 5)), ?_⟩
    refine ⟨fun hj_ a w D hA hS hd => gy1 hd 6 (a_2 rfl ty_134 hA.e (hS.rk 3 rfl) rfl), ?_⟩
    refine ⟨fun hj_ a w D hA hS hd => gy1 hd 6 (a_1 rfl hA.e), ?_⟩
    refine ⟨fun hj_ a w D hA hS hd => gy1 hd 6 (a_1 rfl hA.e), ?_⟩
    refine ⟨fun hj_ a w D hA hS hd => f_8 rfl rfl (gut hd 6 (by decide) rfl (fun _ h => And.left h)) (vn (b_3 rfl en_75 (ev1 (gu hd 9)) (clone_read (e_1 l s q) _ _ (hS.sk 11 rfl) (by omega))) (fun v w' h => ⟨_, And.intro trivial rfl, (Sep.start NoB _).s_9 h.1 h.2, rfl⟩)), ?_⟩
    refine ⟨fun hj_ a w D hA hS hd => gy1 hd 6 (a_2 rfl ae_0 hA.e (hS.rk 4 rfl) rfl), ?_⟩
    refine ⟨fun hj_ a w D hA hS hd => gy1 hd 6 (a_1 rfl hA.e), ?_⟩
    refine ⟨fun hj_ a w D hA hS hd => gy1 hd 6 (b_0 rfl p_4 x_6 (gu hd 11) (i := q) (gu hd 12) (hS.sk 10 rfl) (by decide) (by omega)), ?_⟩
    refine ⟨fun hj_ a w D hA hS hd => gy1 hd 6 (e_8 rfl x_6 (gu hd 13) (hS.sk 10 rfl) (h_7 (by omega)) rfl (by decide)), ?_⟩
    refine ⟨fun hj_ a w D hA hS hd => f_8 rfl rfl (gut hd 6 (by decide) rfl (fun _ h => And.left h)) (vblt rfl (pv1 (gu hd 14)) p_4 x_6 ze_98 (by decide) (cs := [(iv ((l.getD q (0, 0)).1)), (iv ((l.getD q (0, 0)).2))]) (s_2 _ _) rfl (by decide) (fun _ => And.intro trivial rfl)), ?_⟩
    refine ⟨fun hj_ => absurd rfl hj_, ?_⟩
    refine ⟨fun hj_ a w D hA hS hd => gy1 hd 6 (a_1 rfl hA.e), ?_⟩
    refine ⟨fun hj_ a w D hA hS hd => gy1 hd 6 (e_3 rfl (gu hd 17) (evc _ _) (by omega) (by omega)), ?_⟩
    refine ⟨fun hj_ a w D hA hS hd => gy1 hd 6 (a_1 rfl hA.e), ?_⟩
    trivial
   ·skip
    intro a w D CF Lr hA Bb Be hd hS
    obtain ⟨B0, AQ⟩ := Be; subst AQ
    obtain ⟨e6, CG, Bf, BZ⟩ := hd 6 (by decide) (by decide)
    obtain ⟨Bd, Ba⟩ := Bf; subst Ba
    rw [Bd] at e6
    obtain ⟨Ax, B2, AS, AP⟩ := hd 15 (by decide) (by decide)
    obtain ⟨B1, AR⟩ := AS; subst AR
    have hp15_0 := AP _ (List.mem_of_getElem? (i := 0) rfl)
    exact f_8 rfl rfl (f_6 e6 rfl) (l_1 (k_7 hS rfl p_4 el_98 (c_3 (f_6 Bb rfl)) (c_3 (f_6 Ax rfl)) (i := 0) rfl (SlAt.e_9 hp15_0) rfl (by simp only [maxLen]; omega) (by omega)) fun v_ w_ h_ => ⟨_, And.intro trivial rfl, h_.g_2 (i := 0) rfl (n' := ((e_1 l s q) ++ [((l.getD q (0, 0)).1, (l.getD q (0, 0)).2)]).length) (xs' := (pairs ((e_1 l s q) ++ [((l.getD q (0, 0)).1, (l.getD q (0, 0)).2)]))) (by simp) (by simp [pairs])⟩)
   skip
   intro Bl CI D rsf61 BD G hrq AM; clear BC c
   obtain ⟨AA, AD⟩ := G 15 (by decide) (by decide)
   obtain ⟨AB, R⟩ := AD
   obtain ⟨T, AE⟩ := G 16 (by decide) (by decide)
   obtain ⟨AC, S⟩ := AE
   have BU : Sep X w CI [(row (D 15) 98 2 1 [(iv ((l.getD q (0, 0)).1)), (iv ((l.getD q (0, 0)).2))]), (row (D 16) 98 2 (((e_1 l s q) ++ [((l.getD q (0, 0)).1, (l.getD q (0, 0)).2)]).length) (pairs ((e_1 l s q) ++ [((l.getD q (0, 0)).1, (l.getD q (0, 0)).2)]))), (row xl 3 1 s.length (ints s)), (blk bb 44 [vb38]), (row vb38 3 1 best39.length (ints best39)), (rob bs 134 [(Value.func (.func 73) #[] #[(bptr br 0), (bptr bb 0), (bptr F 0), (bptr bs 0)])]), (rob br 53 [xr]), (rob F 116 [(bptr bx 0)]), (rob bx 146 [(iv b.scales), vt, vm, (Value.map (some bm))]), (mapX false bm es ck es.size 106 5 (bN b.tabs b.tabs.length) (bC lr lb b.tabs b.tabs.length)), (d_0 false vt lr lb b.tabs), (d_3 false vm lk b.macs), (sl xr 2 l.length (pairs l)), (sl xk 2 ((e_1 l s q).length) (pairs (e_1 l s q)))] := by rw [show catR rsf61 0 20 = ([(row (D 15) 98 2 1 [(iv ((l.getD q (0, 0)).1)), (iv ((l.getD q (0, 0)).2))]), (row (D 16) 98 2 (((e_1 l s q) ++ [((l.getD q (0, 0)).1, (l.getD q (0, 0)).2)]).length) (pairs ((e_1 l s q) ++ [((l.getD q (0, 0)).1, (l.getD q (0, 0)).2)])))] : List Res) by (try simp only [catR, gr (G 0 (by decide) (by decide)), gr (G 1 (by decide) (by decide)), gr (G 2 (by decide) (by decide)), gr (G 3 (by decide) (by decide)), gr (G 4 (by decide) (by decide)), gr (G 5 (by decide) (by decide)), gr (G 6 (by decide) (by decide)), gr (G 7 (by decide) (by decide)), gr (G 8 (by decide) (by decide)), gr (G 9 (by decide) (by decide)), gr (G 11 (by decide) (by decide)), gr (G 12 (by decide) (by decide)), gr (G 13 (by decide) (by decide)), gr (G 14 (by decide) (by decide)), R, S, gr (G 17 (by decide) (by decide)), gr (G 18 (by decide) (by decide)), gr (G 19 (by decide) (by decide)), hrq]); (try rfl)] at AM; exact AM
   have BF := BD.add (gs (G 6 (by decide) (by decide))); clear BD
   have BG := BF.add (gs (G 7 (by decide) (by decide))); clear BF
   have BH := BG.add (gs (G 8 (by decide) (by decide))); clear BG
   have BI : Fr 69 [] [(63, (D 16)), (55, xl), (54, (Value.func (.func 73) #[] #[(bptr br 0), (bptr bb 0), (bptr F 0), (bptr bs 0)])), (53, (Value.bool true)), (0, xl), (1, xk), (2, (iv (q : Int))), (3, (iv ((m + 1 : Nat) : Int))), (4, (bptr br 0)), (7, (bptr bs 0))] Bl := BH.add (f_6 T rfl); clear BH
   have BJ := BI.add (gs (G 18 (by decide) (by decide))); clear BI
   have P := BJ.add (gs (G 19 (by decide) (by decide))); clear BJ
   clear G AM AA T hrq
   clear R
   clear AB
   clear S
   clear AC
   have BV := sep_row_sl (BU.g_2 (i := 1) rfl (n' := (e_1 l s (q + 1)).length) (xs' := pairs (e_1 l s (q + 1))) (by rw [kep_in hs]) (by rw [kep_in hs])) (i := 1) rfl; clear BU
   have AN := BV.gkp (gpc 2 (gpc 3 (gpc 4 (gpc 5 (gpc 6 (gpc 7 (gpc 8 (gpc 9 (gpc 10 (gpc 11 (gpc 12 (gpc 1 (gpc 0 (gpc 13 gpn)))))))))))))); clear BV
   refine s6 P (i_5 rfl (P.ev rfl) en_73 (ev4 P.e P.e P.e P.e) (by have hz := ih (m + 1) (q + 1) s _ _ _ _ _ (ownX [(row xl 3 1 s.length (ints s)), (blk bb 44 [vb38]), (row vb38 3 1 best39.length (ints best39)), (rob bs 134 [(Value.func (.func 73) #[] #[(bptr br 0), (bptr bb 0), (bptr F 0), (bptr bs 0)])]), (rob br 53 [xr]), (rob F 116 [(bptr bx 0)]), (rob bx 146 [(iv b.scales), vt, vm, (Value.map (some bm))]), (mapX false bm es ck es.size 106 5 (bN b.tabs b.tabs.length) (bC lr lb b.tabs b.tabs.length)), (d_0 false vt lr lb b.tabs), (d_3 false vm lk b.macs), (sl xr 2 l.length (pairs l)), (sl (D 16) 2 ((e_1 l s (q + 1)).length) (pairs (e_1 l s (q + 1))))]) (by omega) (by omega) hs.more (by omega) (Sep.enterG (A := [(row xl 3 1 s.length (ints s)), (blk bb 44 [vb38]), (row vb38 3 1 best39.length (ints best39)), (rob bs 134 [(Value.func (.func 73) #[] #[(bptr br 0), (bptr bb 0), (bptr F 0), (bptr bs 0)])]), (rob br 53 [xr]), (rob F 116 [(bptr bx 0)]), (rob bx 146 [(iv b.scales), vt, vm, (Value.map (some bm))]), (mapX false bm es ck es.size 106 5 (bN b.tabs b.tabs.length) (bC lr lb b.tabs b.tabs.length)), (d_0 false vt lr lb b.tabs), (d_3 false vm lk b.macs), (sl xr 2 l.length (pairs l)), (sl (D 16) 2 ((e_1 l s (q + 1)).length) (pairs (e_1 l s (q + 1))))]) (B := [(row (D 15) 98 2 1 [(iv ((l.getD q (0, 0)).1)), (iv ((l.getD q (0, 0)).2))]), (sl xk 2 ((e_1 l s q).length) (pairs (e_1 l s q)))]) AN); exact hz)) ?_
   rintro B9 _ CJ ⟨rfl, vb75, best76, Bz, BX⟩ p; clear P Bl
   have Bv : Sep X w CJ [(row xl 3 1 s.length (ints s)), (blk bb 44 [vb75]), (row vb75 3 1 best76.length (ints best76)), (rob bs 134 [(Value.func (.func 73) #[] #[(bptr br 0), (bptr bb 0), (bptr F 0), (bptr bs 0)])]), (rob br 53 [xr]), (rob F 116 [(bptr bx 0)]), (rob bx 146 [(iv b.scales), vt, vm, (Value.map (some bm))]), (mapX false bm es ck es.size 106 5 (bN b.tabs b.tabs.length) (bC lr lb b.tabs b.tabs.length)), (d_0 false vt lr lb b.tabs), (d_3 false vm lk b.macs), (sl xr 2 l.length (pairs l)), (sl (D 16) 2 ((e_1 l s (q + 1)).length) (pairs (e_1 l s (q + 1)))), (row (D 15) 98 2 1 [(iv ((l.getD q (0, 0)).1)), (iv ((l.getD q (0, 0)).2))]), (sl xk 2 ((e_1 l s q).length) (pairs (e_1 l s q)))] := Sep.callG (A := [(row xl 3 1 s.length (ints s)), (blk bb 44 [vb38]), (row vb38 3 1 best39.length (ints best39)), (rob bs 134 [(Value.func (.func 73) #[] #[(bptr br 0), (bptr bb 0), (bptr F 0), (bptr bs 0)])]), (rob br 53 [xr]), (rob F 116 [(bptr bx 0)]), (rob bx 146 [(iv b.scales), vt, vm, (Value.map (some bm))]), (mapX false bm es ck es.size 106 5 (bN b.tabs b.tabs.length) (bC lr lb b.tabs b.tabs.length)), (d_0 false vt lr lb b.tabs), (d_3 false vm lk b.macs), (sl xr 2 l.length (pairs l)), (sl (D 16) 2 ((e_1 l s (q + 1)).length) (pairs (e_1 l s (q + 1))))]) (B := [(row (D 15) 98 2 1 [(iv ((l.getD q (0, 0)).1)), (iv ((l.getD q (0, 0)).2))]), (sl xk 2 ((e_1 l s q).length) (pairs (e_1 l s q)))]) AN BX (v_5 ⟨.inl rfl, .inl rfl, .inl rfl, .inr ⟨3, rfl⟩, .inr ⟨4, rfl⟩, .inr ⟨5, rfl⟩, .inr ⟨6, rfl⟩, .inr ⟨7, rfl⟩, .inr ⟨8, rfl⟩, .inr ⟨9, rfl⟩, .inr ⟨10, rfl⟩, .inr ⟨11, rfl⟩, trivial⟩); clear BX AN
   refine s1 p (b_6 rfl p.e p.e) fun CA AH => ?_; clear p B9
   refine s1 AH (a_0 rfl AH.e) fun CY BK => ?_; clear AH CA
   refine n1 (c_2 (a_8 BK (.inl rfl) (a_3 BK rfl (.tmp rfl)) ?_))
   have hh : (i_2 l.length (okS b l) (m + 1) s q) = (i_2 l.length (okS b l) (m + 1) s (q + 1)) := lv_go (by omega) (by assumption)
   rw [hh]
   exact ⟨rfl, _, _, fun h => lv_gof (by omega) (by assumption) (Bz h), Bv.keep [0, 1, 2, 3, 4, 5, 6, 7, 8, 9, 10, 13] (by decide) _ rfl rfl⟩
  skip
  have BL := o.as [(0, xl), (1, xk), (2, (iv (q : Int))), (3, (iv ((m + 1 : Nat) : Int))), (4, (bptr br 0)), (7, (bptr bs 0))] rfl; clear o
  refine g_0 mixed BL c 20 [[], [0], [], [1, 2], [], [3, 4], [5], [6], [6], [6], [6, 9], [6], [6], [6, 11, 12], [6, 13], [6, 14], [6, 10, 15], [6], [6, 17], [6]] [(Yd.val xr), (Yd.val (iv (l.length : Int))), (Yd.val (iv (q : Int))), (Yd.val (iv ((l.length : Int) - (q : Int)))), (Yd.val (iv ((m + 1 : Nat) : Int))), (Yd.val (Value.bool false)), (Yd.val (Value.bool false)), (Yd.val undef), (Yd.val undef), (Yd.val undef), (Yd.val undef), (Yd.val undef), (Yd.val undef), (Yd.val undef), (Yd.val undef), (Yd.val undef), (Yd.val undef), (Yd.val undef), (Yd.val undef), (Yd.val undef)] (by decide +kernel) rfl rfl ?_ ?_
  ·skip
   refine dq (fun a w hA hS hd => a_2 rfl ae_0 hA.e (hS.rk 4 rfl) rfl) ?_
   refine dq (fun a w hA hS hd => d_1 rfl p_4 (hq hd 0) (hS.sk 10 rfl)) ?_
   refine dq (fun a w hA hS hd => a_1 rfl hA.e) ?_
   refine dq (fun a w hA hS hd => h_2 rfl (hq hd 1) (hq hd 2) (by omega) (by omega)) ?_
   refine dq (fun a w hA hS hd => a_1 rfl hA.e) ?_
   refine ⟨fun a w hA hS hd => by have e3 := hx hd 3; have e4 := hx hd 4; exact d_5 rfl (dv (j_5 rfl (c_3 e3) (c_3 e4)) hS (by show Value.bool _ = _; simp only [decide_eq_false BY, decide_true, decide_false, Bool.not_true, Bool.not_false])), ?_⟩
   refine dq (fun a w hA hS hd => a_1 rfl (hq hd 5)) ?_
   refine dn 6 (dn 6 (dn 6 (dn 6 (dn 6 (dn 6 (dn 6 (dn 6 (dn 6 (dn 6 (dn 6 (dn 6 (dn 6 ?_))))))))))))
   trivial
  intro CB Ca BM Bw Q; clear BL c
  have BN := BM.add (hz Q 6); clear BM
  have BO := BN.add (hz Q 7); clear BN
  have BP := BO.add (hz Q 8); clear BO
  have BQ := BP.add (hz Q 16); clear BP
  have BR := BQ.add (hz Q 18); clear BQ
  have BS := BR.add (hz Q 19); clear BR
  clear Q
  refine s3 BS fun CC AI => ?_; clear BS CB
  refine s1 AI (c_7 rfl AI.e (evc _ _)) fun CD AJ => ?_; clear AI CC
  refine s1 AJ (a_0 rfl AJ.e) fun CL AU => ?_; clear AJ CD
  refine n1 (c_2 (a_8 AU (.inl rfl) (a_3 AU rfl (.tmp rfl)) ?_))
  have hh : (i_2 l.length (okS b l) (m + 1) s q) = false := lv_no (by omega) (by assumption) (by omega)
  rw [hh]
  exact ⟨rfl, _, _, (fun h => by cases h), Bw.keep [0, 1, 2, 3, 4, 5, 6, 7, 8, 9, 10, 11] (by decide) _ rfl rfl⟩
 skip
 clear AK
 have r := Z.g_2 (i := 0) rfl (n' := (s ++ [(q : Int)]).length) (xs' := ints (s ++ [(q : Int)])) (by simp) (by simp [ints]); rw [← kep_out (l := l) hs] at r; clear Z
 have t := r.gkp (gpc 0 (gpc 2 (gpc 3 (gpc 4 (gpc 5 (gpc 6 (gpc 7 (gpc 8 (gpc 9 (gpc 10 (gpc 11 (gpc 12 (gpc 1 gpn))))))))))))); clear r
 refine s6 H (i_5 rfl (H.ev rfl) en_73 (ev4 H.e H.e H.e H.e) (by have hz := ih m (q + 1) (s ++ [(q : Int)]) _ _ _ _ _ (ownX [(row M 3 1 ((s ++ [(q : Int)]).length) (ints (s ++ [(q : Int)]))), (blk bb 44 [vb]), (row vb 3 1 best.length (ints best)), (rob bs 134 [(Value.func (.func 73) #[] #[(bptr br 0), (bptr bb 0), (bptr F 0), (bptr bs 0)])]), (rob br 53 [xr]), (rob F 116 [(bptr bx 0)]), (rob bx 146 [(iv b.scales), vt, vm, (Value.map (some bm))]), (mapX false bm es ck es.size 106 5 (bN b.tabs b.tabs.length) (bC lr lb b.tabs b.tabs.length)), (d_0 false vt lr lb b.tabs), (d_3 false vm lk b.macs), (sl xr 2 l.length (pairs l)), (sl xk 2 ((e_1 l (s ++ [(q : Int)]) (q + 1)).length) (pairs (e_1 l (s ++ [(q : Int)]) (q + 1))))]) (by omega) (by omega) hs.snoc (by simp only [List.length_append, List.length_cons, List.length_nil]; omega) (Sep.enterG (A := [(row M 3 1 ((s ++ [(q : Int)]).length) (ints (s ++ [(q : Int)]))), (blk bb 44 [vb]), (row vb 3 1 best.length (ints best)), (rob bs 134 [(Value.func (.func 73) #[] #[(bptr br 0), (bptr bb 0), (bptr F 0), (bptr bs 0)])]), (rob br 53 [xr]), (rob F 116 [(bptr bx 0)]), (rob bx 146 [(iv b.scales), vt, vm, (Value.map (some bm))]), (mapX false bm es ck es.size 106 5 (bN b.tabs b.tabs.length) (bC lr lb b.tabs b.tabs.length)), (d_0 false vt lr lb b.tabs), (d_3 false vm lk b.macs), (sl xr 2 l.length (pairs l)), (sl xk 2 ((e_1 l (s ++ [(q : Int)]) (q + 1)).length) (pairs (e_1 l (s ++ [(q : Int)]) (q + 1))))]) (B := [(row xl 3 1 s.length (ints s))]) t); rw [show ((m + 1 : Nat) : Int) - 1 = (m : Int) by omega]; exact hz)) ?_
 rintro Bm _ B3 ⟨rfl, vb109, best110, Bi, At⟩ V; clear H Bk
 have Aq : Sep X w B3 [(row M 3 1 ((s ++ [(q : Int)]).length) (ints (s ++ [(q : Int)]))), (blk bb 44 [vb109]), (row vb109 3 1 best110.length (ints best110)), (rob bs 134 [(Value.func (.func 73) #[] #[(bptr br 0), (bptr bb 0), (bptr F 0), (bptr bs 0)])]), (rob br 53 [xr]), (rob F 116 [(bptr bx 0)]), (rob bx 146 [(iv b.scales), vt, vm, (Value.map (some bm))]), (mapX false bm es ck es.size 106 5 (bN b.tabs b.tabs.length) (bC lr lb b.tabs b.tabs.length)), (d_0 false vt lr lb b.tabs), (d_3 false vm lk b.macs), (sl xr 2 l.length (pairs l)), (sl xk 2 ((e_1 l (s ++ [(q : Int)]) (q + 1)).length) (pairs (e_1 l (s ++ [(q : Int)]) (q + 1)))), (row xl 3 1 s.length (ints s))] := Sep.callG (A := [(row M 3 1 ((s ++ [(q : Int)]).length) (ints (s ++ [(q : Int)]))), (blk bb 44 [vb]), (row vb 3 1 best.length (ints best)), (rob bs 134 [(Value.func (.func 73) #[] #[(bptr br 0), (bptr bb 0), (bptr F 0), (bptr bs 0)])]), (rob br 53 [xr]), (rob F 116 [(bptr bx 0)]), (rob bx 146 [(iv b.scales), vt, vm, (Value.map (some bm))]), (mapX false bm es ck es.size 106 5 (bN b.tabs b.tabs.length) (bC lr lb b.tabs b.tabs.length)), (d_0 false vt lr lb b.tabs), (d_3 false vm lk b.macs), (sl xr 2 l.length (pairs l)), (sl xk 2 ((e_1 l (s ++ [(q : Int)]) (q + 1)).length) (pairs (e_1 l (s ++ [(q : Int)]) (q + 1))))]) (B := [(row xl 3 1 s.length (ints s))]) t At (v_5 ⟨.inl rfl, .inl rfl, .inl rfl, .inr ⟨3, rfl⟩, .inr ⟨4, rfl⟩, .inr ⟨5, rfl⟩, .inr ⟨6, rfl⟩, .inr ⟨7, rfl⟩, .inr ⟨8, rfl⟩, .inr ⟨9, rfl⟩, .inr ⟨10, rfl⟩, .inr ⟨11, rfl⟩, trivial⟩); clear At t
 have O := Aq; rw [kep_out (l := l) hs] at O; clear Aq
 refine s1 V (b_6 rfl V.e V.e) fun Bn I => ?_; clear V Bm
 refine n1 ?_
 rcases Bool.eq_false_or_eq_true ((i_2 l.length (okS b l) m (s ++ [(q : Int)]) (q + 1))) with z | z
 ·skip
  rw [z] at I
  refine c_0 I rfl (b_5 ?_)
  have AV := I.as [] rfl; clear I
  refine a_5 (s1 AV (a_0 rfl (evc _ _)) fun CM AW => ?_); clear AV Bn
  refine n1 (c_2 (a_6 (a_8 AW (.inl rfl) (a_3 AW rfl (.tmp rfl)) ?_)))
  have hh := lv_hit (by omega) (by assumption) (Bi (by assumption))
  rw [hh.1]
  exact ⟨rfl, _, _, fun _ => hh.2, O.keep [12, 1, 2, 3, 4, 5, 6, 7, 8, 9, 10, 11] (by decide) _ rfl rfl⟩
 skip
 rw [z] at I
 refine b_4 I rfl (c_6 (a_7 (b_5 ?_)))
 have AX := I.as [(0, xl), (1, xk), (2, (iv (q : Int))), (3, (iv ((m + 1 : Nat) : Int))), (4, (bptr br 0)), (7, (bptr bs 0))] rfl; clear I
 have W := AX.as [(0, xl), (1, xk), (2, (iv (q : Int))), (3, (iv ((m + 1 : Nat) : Int))), (4, (bptr br 0)), (7, (bptr bs 0))] rfl; clear AX
 by_cases Av : ((m + 1 : Nat) : Int) < ((l.length : Int) - (q : Int))
 ·skip
  have AY := W.as [(0, xl), (1, xk), (2, (iv (q : Int))), (3, (iv ((m + 1 : Nat) : Int))), (4, (bptr br 0)), (7, (bptr bs 0))] rfl; clear W
  refine c_drawC mixed AY O 20 16 10 (by decide) (by decide) (by decide) rfl [[], [0], [], [1, 2], [], [3, 4], [5], [6], [6], [6], [6, 9], [6], [6], [6, 11, 12], [6, 13], [6, 14], [6, 10, 15], [6], [6, 17], [6]] [(yw xr), (yw (iv (l.length : Int))), (yw (iv (q : Int))), (yw (iv ((l.length : Int) - (q : Int)))), (yw (iv ((m + 1 : Nat) : Int))), (yw (Value.bool true)), (yw (Value.bool true)), (yw (Value.func (.func 73) #[] #[(bptr br 0), (bptr bb 0), (bptr F 0), (bptr bs 0)])), (yw xl), (yw xk), (fun (C : Nat → Value) (v_ : Value) (rs_ : List Res) => True ∧ rs_ = [(row v_ 98 2 ((e_1 l s q).length) (pairs (e_1 l s q)))]), (yw xr), (yw (iv (q : Int))), (yw (eptr xr (q * 2))), (yw (Value.agg #[(iv ((l.getD q (0, 0)).1)), (iv ((l.getD q (0, 0)).2))])), (fun (C : Nat → Value) (v_ : Value) (rs_ : List Res) => True ∧ rs_ = [(row v_ 98 2 1 [(iv ((l.getD q (0, 0)).1)), (iv ((l.getD q (0, 0)).2))])]), (fun (C : Nat → Value) (v_ : Value) (rs_ : List Res) => True ∧ rs_ = [(row v_ 98 2 (((e_1 l s q) ++ [((l.getD q (0, 0)).1, (l.getD q (0, 0)).2)]).length) (pairs ((e_1 l s q) ++ [((l.getD q (0, 0)).1, (l.getD q (0, 0)).2)])))]), (yw (iv (q : Int))), (yw (iv ((q : Int) + 1))), (yw (iv ((m + 1 : Nat) : Int)))] (by decide +kernel) (by decide +kernel) rfl rfl ⟨dw, dw, dw, dw, dw, dw, dw, dw, dw, dw, (fun _ _ _ _ _ h_ => h_), dw, dw, dw, dw, (fun _ _ _ _ _ h_ => h_), (fun _ _ _ _ _ h_ => h_), dw, dw, dw, trivial⟩ (by decide +kernel) (by decide +kernel) ?_ ?_ ?_
  ·skip
   refine ⟨fun hj_ a w C hA hS hd => gv1 (a_2 rfl ae_0 hA.e (hS.rk 4 rfl) rfl), ?_⟩
   refine ⟨fun hj_ a w C hA hS hd => gv1 (d_1 rfl p_4 (gu hd 0) (hS.sk 10 rfl)), ?_⟩
   refine ⟨fun hj_ a w C hA hS hd => gv1 (a_1 rfl hA.e), ?_⟩
   refine ⟨fun hj_ a w C hA hS hd => gv1 (h_2 rfl (gu hd 1) (gu hd 2) (by omega) (by omega)), ?_⟩
   refine ⟨fun hj_ a w C hA hS hd => gv1 (a_1 rfl hA.e), ?_⟩
   refine ⟨fun hj_ a w C hA hS hd => gv2 (j_5 rfl (gu hd 3) (gu hd 4)) (And.intro (by show Value.bool _ = _; simp only [decide_eq_true Av, decide_true, decide_false, Bool.not_true, Bool.not_false]) rfl), ?_⟩
   refine ⟨fun hj_ a w C hA hS hd => gv1 (a_1 rfl (gu hd 5)), ?_⟩
   refine ⟨fun hj_ a w C hA hS hd => gy1 hd 6 (a_2 rfl ty_134 hA.e (hS.rk 3 rfl) rfl), ?_⟩
   refine ⟨fun hj_ a w C hA hS hd => gy1 hd 6 (a_1 rfl hA.e), ?_⟩
   refine ⟨fun hj_ a w C hA hS hd => gy1 hd 6 (a_1 rfl hA.e), ?_⟩
   refine ⟨fun hj_ a w C hA hS hd => f_8 rfl rfl (gut hd 6 (by decide) rfl (fun _ h => And.left h)) (vn (b_3 rfl en_75 (ev1 (gu hd 9)) (clone_read (e_1 l s q) _ _ (hS.sk 11 rfl) (by omega))) (fun v w' h => ⟨_, And.intro trivial rfl, (Sep.start NoB _).s_9 h.1 h.2, rfl⟩)), ?_⟩
   refine ⟨fun hj_ a w C hA hS hd => gy1 hd 6 (a_2 rfl ae_0 hA.e (hS.rk 4 rfl) rfl), ?_⟩
   refine ⟨fun hj_ a w C hA hS hd => gy1 hd 6 (a_1 rfl hA.e), ?_⟩
   refine ⟨fun hj_ a w C hA hS hd => gy1 hd 6 (b_0 rfl p_4 x_6 (gu hd 11) (i := q) (gu hd 12) (hS.sk 10 rfl) (by decide) (by omega)), ?_⟩
   refine ⟨fun hj_ a w C hA hS hd => gy1 hd 6 (e_8 rfl x_6 (gu hd 13) (hS.sk 10 rfl) (h_7 (by omega)) rfl (by decide)), ?_⟩
   refine ⟨fun hj_ a w C hA hS hd => f_8 rfl rfl (gut hd 6 (by decide) rfl (fun _ h => And.left h)) (vblt rfl (pv1 (gu hd 14)) p_4 x_6 ze_98 (by decide) (cs := [(iv ((l.getD q (0, 0)).1)), (iv ((l.getD q (0, 0)).2))]) (s_2 _ _) rfl (by decide) (fun _ => And.intro trivial rfl)), ?_⟩
   refine ⟨fun hj_ => absurd rfl hj_, ?_⟩
   refine ⟨fun hj_ a w C hA hS hd => gy1 hd 6 (a_1 rfl hA.e), ?_⟩
   refine ⟨fun hj_ a w C hA hS hd => gy1 hd 6 (e_3 rfl (gu hd 17) (evc _ _) (by omega) (by omega)), ?_⟩
   refine ⟨fun hj_ a w C hA hS hd => gy1 hd 6 (a_1 rfl hA.e), ?_⟩
   trivial
  ·skip
   intro a w C CF Lr hA Bb Be hd hS
   obtain ⟨B0, AQ⟩ := Be; subst AQ
   obtain ⟨e6, CG, Bf, BZ⟩ := hd 6 (by decide) (by decide)
   obtain ⟨Bd, Ba⟩ := Bf; subst Ba
   rw [Bd] at e6
   obtain ⟨Ax, B2, AS, AP⟩ := hd 15 (by decide) (by decide)
   obtain ⟨B1, AR⟩ := AS; subst AR
   have hp15_0 := AP _ (List.mem_of_getElem? (i := 0) rfl)
   exact f_8 rfl rfl (f_6 e6 rfl) (l_1 (k_7 hS rfl p_4 el_98 (c_3 (f_6 Bb rfl)) (c_3 (f_6 Ax rfl)) (i := 0) rfl (SlAt.e_9 hp15_0) rfl (by simp only [maxLen]; omega) (by omega)) fun v_ w_ h_ => ⟨_, And.intro trivial rfl, h_.g_2 (i := 0) rfl (n' := ((e_1 l s q) ++ [((l.getD q (0, 0)).1, (l.getD q (0, 0)).2)]).length) (xs' := (pairs ((e_1 l s q) ++ [((l.getD q (0, 0)).1, (l.getD q (0, 0)).2)]))) (by simp) (by simp [pairs])⟩)
  skip
  intro Aw B4 C rsf131 AZ E hrq u; clear AY O
  obtain ⟨AA, AD⟩ := E 15 (by decide) (by decide)
  obtain ⟨AB, R⟩ := AD
  obtain ⟨T, AE⟩ := E 16 (by decide) (by decide)
  obtain ⟨AC, S⟩ := AE
  have Ar : Sep X w B4 [(row (C 15) 98 2 1 [(iv ((l.getD q (0, 0)).1)), (iv ((l.getD q (0, 0)).2))]), (row (C 16) 98 2 (((e_1 l s q) ++ [((l.getD q (0, 0)).1, (l.getD q (0, 0)).2)]).length) (pairs ((e_1 l s q) ++ [((l.getD q (0, 0)).1, (l.getD q (0, 0)).2)]))), (row M 3 1 ((s ++ [(q : Int)]).length) (ints (s ++ [(q : Int)]))), (blk bb 44 [vb109]), (row vb109 3 1 best110.length (ints best110)), (rob bs 134 [(Value.func (.func 73) #[] #[(bptr br 0), (bptr bb 0), (bptr F 0), (bptr bs 0)])]), (rob br 53 [xr]), (rob F 116 [(bptr bx 0)]), (rob bx 146 [(iv b.scales), vt, vm, (Value.map (some bm))]), (mapX false bm es ck es.size 106 5 (bN b.tabs b.tabs.length) (bC lr lb b.tabs b.tabs.length)), (d_0 false vt lr lb b.tabs), (d_3 false vm lk b.macs), (sl xr 2 l.length (pairs l)), (sl xk 2 ((e_1 l s q).length) (pairs (e_1 l s q))), (row xl 3 1 s.length (ints s))] := by rw [show catR rsf131 0 20 = ([(row (C 15) 98 2 1 [(iv ((l.getD q (0, 0)).1)), (iv ((l.getD q (0, 0)).2))]), (row (C 16) 98 2 (((e_1 l s q) ++ [((l.getD q (0, 0)).1, (l.getD q (0, 0)).2)]).length) (pairs ((e_1 l s q) ++ [((l.getD q (0, 0)).1, (l.getD q (0, 0)).2)])))] : List Res) by (try simp only [catR, gr (E 0 (by decide) (by decide)), gr (E 1 (by decide) (by decide)), gr (E 2 (by decide) (by decide)), gr (E 3 (by decide) (by decide)), gr (E 4 (by decide) (by decide)), gr (E 5 (by decide) (by decide)), gr (E 6 (by decide) (by decide)), gr (E 7 (by decide) (by decide)), gr (E 8 (by decide) (by decide)), gr (E 9 (by decide) (by decide)), gr (E 11 (by decide) (by decide)), gr (E 12 (by decide) (by decide)), gr (E 13 (by decide) (by decide)), gr (E 14 (by decide) (by decide)), R, S, gr (E 17 (by decide) (by decide)), gr (E 18 (by decide) (by decide)), gr (E 19 (by decide) (by decide)), hrq]); (try rfl)] at u; exact u
  have Aa := AZ.add (gs (E 6 (by decide) (by decide))); clear AZ
  have Ab := Aa.add (gs (E 7 (by decide) (by decide))); clear Aa
  have Ac := Ab.add (gs (E 8 (by decide) (by decide))); clear Ab
  have Ad : Fr 69 [] [(63, (C 16)), (55, xl), (54, (Value.func (.func 73) #[] #[(bptr br 0), (bptr bb 0), (bptr F 0), (bptr bs 0)])), (53, (Value.bool true)), (0, xl), (1, xk), (2, (iv (q : Int))), (3, (iv ((m + 1 : Nat) : Int))), (4, (bptr br 0)), (7, (bptr bs 0))] Aw := Ac.add (f_6 T rfl); clear Ac
  have Ae := Ad.add (gs (E 18 (by decide) (by decide))); clear Ad
  have K := Ae.add (gs (E 19 (by decide) (by decide))); clear Ae
  clear E u AA T hrq
  clear R
  clear AB
  clear S
  clear AC
  have As := sep_row_sl (Ar.g_2 (i := 1) rfl (n' := (e_1 l s (q + 1)).length) (xs' := pairs (e_1 l s (q + 1))) (by rw [kep_in hs]) (by rw [kep_in hs])) (i := 1) rfl; clear Ar
  have x := As.gkp (gpc 14 (gpc 3 (gpc 4 (gpc 5 (gpc 6 (gpc 7 (gpc 8 (gpc 9 (gpc 10 (gpc 11 (gpc 12 (gpc 1 (gpc 0 (gpc 2 (gpc 13 gpn))))))))))))))); clear As
  refine s6 K (i_5 rfl (K.ev rfl) en_73 (ev4 K.e K.e K.e K.e) (by have hz := ih (m + 1) (q + 1) s _ _ _ _ _ (ownX [(row xl 3 1 s.length (ints s)), (blk bb 44 [vb109]), (row vb109 3 1 best110.length (ints best110)), (rob bs 134 [(Value.func (.func 73) #[] #[(bptr br 0), (bptr bb 0), (bptr F 0), (bptr bs 0)])]), (rob br 53 [xr]), (rob F 116 [(bptr bx 0)]), (rob bx 146 [(iv b.scales), vt, vm, (Value.map (some bm))]), (mapX false bm es ck es.size 106 5 (bN b.tabs b.tabs.length) (bC lr lb b.tabs b.tabs.length)), (d_0 false vt lr lb b.tabs), (d_3 false vm lk b.macs), (sl xr 2 l.length (pairs l)), (sl (C 16) 2 ((e_1 l s (q + 1)).length) (pairs (e_1 l s (q + 1))))]) (by omega) (by omega) hs.more (by omega) (Sep.enterG (A := [(row xl 3 1 s.length (ints s)), (blk bb 44 [vb109]), (row vb109 3 1 best110.length (ints best110)), (rob bs 134 [(Value.func (.func 73) #[] #[(bptr br 0), (bptr bb 0), (bptr F 0), (bptr bs 0)])]), (rob br 53 [xr]), (rob F 116 [(bptr bx 0)]), (rob bx 146 [(iv b.scales), vt, vm, (Value.map (some bm))]), (mapX false bm es ck es.size 106 5 (bN b.tabs b.tabs.length) (bC lr lb b.tabs b.tabs.length)), (d_0 false vt lr lb b.tabs), (d_3 false vm lk b.macs), (sl xr 2 l.length (pairs l)), (sl (C 16) 2 ((e_1 l s (q + 1)).length) (pairs (e_1 l s (q + 1))))]) (B := [(row (C 15) 98 2 1 [(iv ((l.getD q (0, 0)).1)), (iv ((l.getD q (0, 0)).2))]), (row M 3 1 ((s ++ [(q : Int)]).length) (ints (s ++ [(q : Int)]))), (sl xk 2 ((e_1 l s q).length) (pairs (e_1 l s q)))]) x); exact hz)) ?_
  rintro Bo _ B5 ⟨rfl, vb145, best146, Bj, Au⟩ Y; clear K Aw
  have Bg : Sep X w B5 [(row xl 3 1 s.length (ints s)), (blk bb 44 [vb145]), (row vb145 3 1 best146.length (ints best146)), (rob bs 134 [(Value.func (.func 73) #[] #[(bptr br 0), (bptr bb 0), (bptr F 0), (bptr bs 0)])]), (rob br 53 [xr]), (rob F 116 [(bptr bx 0)]), (rob bx 146 [(iv b.scales), vt, vm, (Value.map (some bm))]), (mapX false bm es ck es.size 106 5 (bN b.tabs b.tabs.length) (bC lr lb b.tabs b.tabs.length)), (d_0 false vt lr lb b.tabs), (d_3 false vm lk b.macs), (sl xr 2 l.length (pairs l)), (sl (C 16) 2 ((e_1 l s (q + 1)).length) (pairs (e_1 l s (q + 1)))), (row (C 15) 98 2 1 [(iv ((l.getD q (0, 0)).1)), (iv ((l.getD q (0, 0)).2))]), (row M 3 1 ((s ++ [(q : Int)]).length) (ints (s ++ [(q : Int)]))), (sl xk 2 ((e_1 l s q).length) (pairs (e_1 l s q)))] := Sep.callG (A := [(row xl 3 1 s.length (ints s)), (blk bb 44 [vb109]), (row vb109 3 1 best110.length (ints best110)), (rob bs 134 [(Value.func (.func 73) #[] #[(bptr br 0), (bptr bb 0), (bptr F 0), (bptr bs 0)])]), (rob br 53 [xr]), (rob F 116 [(bptr bx 0)]), (rob bx 146 [(iv b.scales), vt, vm, (Value.map (some bm))]), (mapX false bm es ck es.size 106 5 (bN b.tabs b.tabs.length) (bC lr lb b.tabs b.tabs.length)), (d_0 false vt lr lb b.tabs), (d_3 false vm lk b.macs), (sl xr 2 l.length (pairs l)), (sl (C 16) 2 ((e_1 l s (q + 1)).length) (pairs (e_1 l s (q + 1))))]) (B := [(row (C 15) 98 2 1 [(iv ((l.getD q (0, 0)).1)), (iv ((l.getD q (0, 0)).2))]), (row M 3 1 ((s ++ [(q : Int)]).length) (ints (s ++ [(q : Int)]))), (sl xk 2 ((e_1 l s q).length) (pairs (e_1 l s q)))]) x Au (v_5 ⟨.inl rfl, .inl rfl, .inl rfl, .inr ⟨3, rfl⟩, .inr ⟨4, rfl⟩, .inr ⟨5, rfl⟩, .inr ⟨6, rfl⟩, .inr ⟨7, rfl⟩, .inr ⟨8, rfl⟩, .inr ⟨9, rfl⟩, .inr ⟨10, rfl⟩, .inr ⟨11, rfl⟩, trivial⟩); clear Au x
  refine s1 Y (b_6 rfl Y.e Y.e) fun Bp g => ?_; clear Y Bo
  refine s1 g (a_0 rfl g.e) fun CN Af => ?_; clear g Bp
  refine n1 (c_2 (a_8 Af (.inl rfl) (a_3 Af rfl (.tmp rfl)) ?_))
  have hh : (i_2 l.length (okS b l) (m + 1) s q) = (i_2 l.length (okS b l) (m + 1) s (q + 1)) := lv_go (by omega) (by assumption)
  rw [hh]
  exact ⟨rfl, _, _, fun h => lv_gof (by omega) (by assumption) (Bj h), Bg.keep [0, 1, 2, 3, 4, 5, 6, 7, 8, 9, 10, 14] (by decide) _ rfl rfl⟩
 skip
 have Ag := W.as [(0, xl), (1, xk), (2, (iv (q : Int))), (3, (iv ((m + 1 : Nat) : Int))), (4, (bptr br 0)), (7, (bptr bs 0))] rfl; clear W
 refine g_0 mixed Ag O 20 [[], [0], [], [1, 2], [], [3, 4], [5], [6], [6], [6], [6, 9], [6], [6], [6, 11, 12], [6, 13], [6, 14], [6, 10, 15], [6], [6, 17], [6]] [(Yd.val xr), (Yd.val (iv (l.length : Int))), (Yd.val (iv (q : Int))), (Yd.val (iv ((l.length : Int) - (q : Int)))), (Yd.val (iv ((m + 1 : Nat) : Int))), (Yd.val (Value.bool false)), (Yd.val (Value.bool false)), (Yd.val undef), (Yd.val undef), (Yd.val undef), (Yd.val undef), (Yd.val undef), (Yd.val undef), (Yd.val undef), (Yd.val undef), (Yd.val undef), (Yd.val undef), (Yd.val undef), (Yd.val undef), (Yd.val undef)] (by decide +kernel) rfl rfl ?_ ?_
 ·skip
  refine dq (fun a w hA hS hd => a_2 rfl ae_0 hA.e (hS.rk 4 rfl) rfl) ?_
  refine dq (fun a w hA hS hd => d_1 rfl p_4 (hq hd 0) (hS.sk 10 rfl)) ?_
  refine dq (fun a w hA hS hd => a_1 rfl hA.e) ?_
  refine dq (fun a w hA hS hd => h_2 rfl (hq hd 1) (hq hd 2) (by omega) (by omega)) ?_
  refine dq (fun a w hA hS hd => a_1 rfl hA.e) ?_
  refine ⟨fun a w hA hS hd => by have e3 := hx hd 3; have e4 := hx hd 4; exact d_5 rfl (dv (j_5 rfl (c_3 e3) (c_3 e4)) hS (by show Value.bool _ = _; simp only [decide_eq_false Av, decide_true, decide_false, Bool.not_true, Bool.not_false])), ?_⟩
  refine dq (fun a w hA hS hd => a_1 rfl (hq hd 5)) ?_
  refine dn 6 (dn 6 (dn 6 (dn 6 (dn 6 (dn 6 (dn 6 (dn 6 (dn 6 (dn 6 (dn 6 (dn 6 (dn 6 ?_))))))))))))
  trivial
 intro Bq CW Ah Bh L; clear Ag O
 have Ai := Ah.add (hz L 6); clear Ah
 have Aj := Ai.add (hz L 7); clear Ai
 have Ak := Aj.add (hz L 8); clear Aj
 have Al := Ak.add (hz L 16); clear Ak
 have Am := Al.add (hz L 18); clear Al
 have An := Am.add (hz L 19); clear Am
 clear L
 refine s3 An fun Br j => ?_; clear An Bq
 refine s1 j (c_7 rfl j.e (evc _ _)) fun Bs k => ?_; clear j Br
 refine s1 k (a_0 rfl k.e) fun CO Ao => ?_; clear k Bs
 refine n1 (c_2 (a_8 Ao (.inl rfl) (a_3 Ao rfl (.tmp rfl)) ?_))
 have hh : (i_2 l.length (okS b l) (m + 1) s q) = false := lv_no (by omega) (by assumption) (by omega)
 rw [hh]
 exact ⟨rfl, _, _, (fun h => by cases h), Bh.keep [12, 1, 2, 3, 4, 5, 6, 7, 8, 9, 10, 11] (by decide) _ rfl rfl⟩
theorem leave_ok (b : h_4) (vt vm : Value) (lr lb lk : Nat → Value) (hth : o_6 b) (hb : k_5 b) (bx bm : Nat) (es : Array MapEntry) (ck : Nat) (hMO : q_7 bm es ck (bN b.tabs b.tabs.length)) (l : List (Int × Int)) (hl : q_4 b l) (xr : Value) (bb br A bs : Nat) : ∀ (d m : Nat) (q : Nat) (s : List Int) (xl xk vb : Value) (best : List Int) (w : World) (X : Nat → Prop) (_ : m ≤ d) (_ : q + d = l.length) (_ : t_2 s q) (_ : s.length + m ≤ 1000) (_ : Sep X w w [(row xl 3 1 s.length (ints s)), (blk bb 44 [vb]), (row vb 3 1 best.length (ints best)), (rob bs 134 [(Value.func (.func 73) #[] #[(bptr br 0), (bptr bb 0), (bptr A 0), (bptr bs 0)])]), (rob br 53 [xr]), (rob A 116 [(bptr bx 0)]), (rob bx 146 [(iv b.scales), vt, vm, (Value.map (some bm))]), (mapX false bm es ck es.size 106 5 (bN b.tabs b.tabs.length) (bC lr lb b.tabs b.tabs.length)), (d_0 false vt lr lb b.tabs), (d_3 false vm lk b.macs), (sl xr 2 l.length (pairs l)), (sl xk 2 ((e_1 l s q).length) (pairs (e_1 l s q)))]), Calls Try.prog 73 #[xl, xk, .int .i64 (q : Int), .int .i64 (m : Int), bptr br 0, bptr bb 0, bptr A 0, bptr bs 0] w (Ret fun v w' => v = .bool (i_2 l.length (okS b l) m s q) ∧ ∃ vb' best', ((i_2 l.length (okS b l) m s q) = true → (n_2 l.length m s q).find? (okS b l) = some best') ∧ Sep X w w' [(row xl 3 1 s.length (ints s)), (blk bb 44 [vb']), (row vb' 3 1 best'.length (ints best')), (rob bs 134 [(Value.func (.func 73) #[] #[(bptr br 0), (bptr bb 0), (bptr A 0), (bptr bs 0)])]), (rob br 53 [xr]), (rob A 116 [(bptr bx 0)]), (rob bx 146 [(iv b.scales), vt, vm, (Value.map (some bm))]), (mapX false bm es ck es.size 106 5 (bN b.tabs b.tabs.length) (bC lr lb b.tabs b.tabs.length)), (d_0 false vt lr lb b.tabs), (d_3 false vm lk b.macs), (sl xr 2 l.length (pairs l)), (sl xk 2 ((e_1 l s q).length) (pairs (e_1 l s q)))]) := by
 intro d
 induction d with
 | zero =>
  intro m q s xl xk vb best w X hm hqd hs hsl hJ
  obtain rfl : m = 0 := by omega
  obtain rfl : q = l.length := by omega
  exact leave_zero b vt vm lr lb lk hth hb bx bm es ck hMO l hl xr bb br A bs s xl xk vb best w X hsl hJ
 | succ d ih =>
  intro m q s xl xk vb best w X hm hqd hs hsl hJ
  cases m with
  | zero => exact leave_keep b vt vm lr lb lk hth hb bx bm es ck hMO l hl xr bb br A bs d ih q s xl xk vb best w X hm hqd hs hsl hJ
  | succ m => exact leave_more b vt vm lr lb lk hth hb bx bm es ck hMO l hl xr bb br A bs d ih m q s xl xk vb best w X hm hqd hs hsl hJ
end Go.Proofs.Ytohgladndklciaa

namespace Go.Proofs.Ytohgladndklciaa
open Go.RowKit Go.Shelf Go.Eng Go.Hard
theorem mapX_roS {X : Nat → Prop} {A w : World} {L : List Res} {i : Nat} {bm : Nat} {es : Array MapEntry} {ck q te sz : Nat} {n : Int → Int → Nat} {c : Int → Int → List Value} (h : Sep X A w L) (hi : L[i]? = some (mapX true bm es ck q te sz n c)) : Sep X A w (L.set i (mapX false bm es ck q te sz n c)) := h.say hi (mapX_ro (h.ok i _ hi)) (fun _ hb => hb) (fun e => by cases e)
theorem Doubt_ok (b : h_4) (vt vm : Value) (lr lb lk : Nat → Value) (w : World) (hT : j_8 w vt lr lb b.tabs) (hM : k_6 w vm lk b.macs) (hth : o_6 b) (l : List (Int × Int)) (xl : Value) (hxl : SlAt w xl 2 l.length (pairs l)) (hlb : l.length ≤ 1000000) (hr : aa_9 b l = 0) :
  Calls Try.prog 41 #[(Value.agg #[(iv b.scales), vt, vm]), xl] w (Ret fun v w' => ∃ u, v = .tuple #[u, .int .i64 0] ∧ Sep NoB w w' [row u 3 1 (l_2 b l).length (ints (l_2 b l))]) := by
 refine a_9 Try.func41 rfl fun a0 a => ?_
 replace a : Fr 32 [] [(0, (Value.agg #[(iv b.scales), vt, vm])), (1, xl)] a0 := a
 have hc : g_7 b = 0 := read_check hr; have hbl := read_ok hr; have hb := hbl.1; have hl := hbl.2; have hll := hl.len; have hsc := hb.scales
 have Ak : Sep NoB w w [(d_0 false vt lr lb b.tabs), (d_3 false vm lk b.macs), (sl xl 2 l.length (pairs l))] := f_1 ⟨rfl, hT, rfl, hM, rfl, hxl, trivial⟩
 refine m2 (s2 a (f_4 Ak rfl a.e (cs := [(iv b.scales), vt, vm]) rfl) ?_)
 rintro a1 _ w3 ⟨b4, rfl, AR⟩ AG; clear a Ak a0
 refine s2 AG (f_4 AR rfl AG.e (cs := [xl]) (q_9 (SlAt.isSl (AR.sk 3 rfl)))) ?_
 rintro a6 _ w8 ⟨I, rfl, J⟩ Aj; clear AG AR a1
 refine s1 Aj (a_0 rfl (evc _ _)) fun As AF => ?_; clear Aj a6
 refine s1 AF (a_0 rfl (evc _ _)) fun At c => ?_; clear AF As
 refine n4 (s1 c (c_9 rfl aa_0 (c.ev rfl) (J.bk 1 rfl) (l := [(iv b.scales), vt, vm]) rfl rfl) fun Au d => ?_); clear c At
 refine s1 d (a_2 rfl ae_0 d.e (J.bk 0 rfl) rfl) fun Av R => ?_; clear d Au
 refine s2 R (b_3 rfl en_56 (ev2 R.e R.e) (read_yes b vt vm lr lb lk _ (b_8 (J.ok 2 _ rfl)) (c_5 (J.ok 3 _ rfl)) hth l _ (J.sk 4 rfl) (by omega) hc hr)) ?_
 rintro Aw _ BO ⟨bx24, bm25, es26, ck27, rfl, hMO28, Ac⟩ f; have AN := J.w_4 Ac rfl; clear Ac R J Av
 refine s1 f (a_1 rfl f.e) fun Ax g => ?_; clear f Aw
 refine s1 g (e_0 rfl g.e rfl) fun Ay h => ?_; clear g Ax
 refine s1 h (e_0 rfl h.e rfl) fun Az AH => ?_; clear h Ay
 refine s2 AH (d_9 AN rfl ze_116 (cs := [(Value.pointer none)]) rfl) ?_
 rintro A0 _ BP ⟨E, rfl, AO⟩ S; clear AH AN Az
 refine s7 S (b_7 AO rfl ty_116 S.e S.e (i := 0) rfl (vs := [(bptr bx24 0)]) rfl rfl rfl (Nat.le_of_ble_eq_true rfl)) ?_
 intro _ BG AP j; clear S
 have AQ : Sep NoB w BG [(blk E 116 [(bptr bx24 0)]), (blk bx24 146 [(iv b.scales), vt, vm, (Value.map (some bm25))]), (mapX true bm25 es26 ck27 es26.size 106 5 (bN b.tabs b.tabs.length) (bC lr lb b.tabs b.tabs.length)), (blk I 53 [xl]), (blk b4 37 [(iv b.scales), vt, vm]), (d_0 false vt lr lb b.tabs), (d_3 false vm lk b.macs), (sl xl 2 l.length (pairs l))] := AP; clear AP AO
 refine s1 j (a_0 rfl j.e) fun A1 AI => ?_; clear j A0
 refine n2 (b_5 ?_)
 have m := AI.as [(7, (iv 0)), (6, (bptr E 0)), (3, (bptr I 0))] rfl; clear AI
 refine a_5 (s1 m (a_1 rfl m.e) fun A2 n => ?_); clear m A1
 refine s1 n (v_7 rfl n.e (evc _ _)) fun A3 o => ?_; clear n A2
 refine n1 (b_4 o rfl (c_6 (a_7 (m2 (s2 o (d_9 AQ rfl ze_44 (cs := [(Value.slice none 0 0)]) rfl) ?_)))))
 rintro A4 _ BQ ⟨C, rfl, AS⟩ AJ; clear o AQ A3
 refine n4 (s2 AJ (d_9 AS rfl ze_134 (cs := [Value.nilFunc]) rfl) ?_)
 rintro A5 _ BR ⟨D, rfl, AT⟩ K; clear AJ AS A4
 refine n4 (s1 K (h_6 rfl ev0 (ev4 K.e K.e K.e K.e)) fun A6 T => ?_); clear K A5
 refine s7 T (b_7 AT rfl ty_134 T.e T.e (i := 0) rfl (vs := [(Value.func (.func 73) #[] #[(bptr I 0), (bptr C 0), (bptr E 0), (bptr D 0)])]) rfl rfl rfl (Nat.le_of_ble_eq_true rfl)) ?_
 intro _ BH AU p; clear T
 have X : Sep NoB w BH [(blk D 134 [(Value.func (.func 73) #[] #[(bptr I 0), (bptr C 0), (bptr E 0), (bptr D 0)])]), (blk C 44 [(Value.slice none 0 0)]), (blk E 116 [(bptr bx24 0)]), (blk bx24 146 [(iv b.scales), vt, vm, (Value.map (some bm25))]), (mapX true bm25 es26 ck27 es26.size 106 5 (bN b.tabs b.tabs.length) (bC lr lb b.tabs b.tabs.length)), (blk I 53 [xl]), (blk b4 37 [(iv b.scales), vt, vm]), (d_0 false vt lr lb b.tabs), (d_3 false vm lk b.macs), (sl xl 2 l.length (pairs l))] := AU; clear AU AT
 refine n2 (m2 (s1 p (a_2 rfl ae_0 p.e (X.bk 5 rfl) rfl) fun A7 q => ?_)); clear p A6
 refine s1 q (d_1 rfl p_4 q.e (X.sk 9 rfl)) fun A8 r => ?_; clear q A7
 refine s1 r (e_3 rfl r.e (evc _ _) (by omega) (by omega)) fun A9 AK => ?_; clear r A8
 refine s1 AK (a_1 rfl (evc _ _)) fun BA AL => ?_; clear AK A9
 refine n1 (c_4 ?_)
 have AV := X.to_ro (i := 5) rfl; clear X
 have AW := AV.to_ro (i := 2) rfl; clear AV
 have AX := AW.to_ro (i := 0) rfl; clear AW
 have AY := AX.to_ro (i := 3) rfl; clear AX
 have AZ := mapX_roS (i := 4) AY rfl; clear AY
 have Aa := sep_row_sl (AZ.t_0 98 2) (i := 0) rfl; clear AZ
 have Ab := Aa.t_0 3 1; clear Aa
 have AM := AL.as [(24, (iv 0)), (23, (iv ((l.length : Int) + 1))), (9, (bptr D 0)), (8, (bptr C 0))] rfl; clear AL
 refine h_3 (G := Nat) (fun (k : Nat) a_ w_ => ∃ vb_ : Value, ∃ best_ : List Int, Fr 32 [] [(24, (iv (k : Int))), (23, (iv ((l.length : Int) + 1))), (9, (bptr D 0)), (8, (bptr C 0))] a_ ∧ Sep NoB w w_ [(row vb_ 3 1 best_.length (ints best_)), (sl (Value.slice none 0 0) 2 0 []), (rob D 134 [(Value.func (.func 73) #[] #[(bptr I 0), (bptr C 0), (bptr E 0), (bptr D 0)])]), (blk C 44 [vb_]), (rob E 116 [(bptr bx24 0)]), (rob bx24 146 [(iv b.scales), vt, vm, (Value.map (some bm25))]), (mapX false bm25 es26 ck27 es26.size 106 5 (bN b.tabs b.tabs.length) (bC lr lb b.tabs b.tabs.length)), (rob I 53 [xl]), (blk b4 37 [(iv b.scales), vt, vm]), (d_0 false vt lr lb b.tabs), (d_3 false vm lk b.macs), (sl xl 2 l.length (pairs l))] ∧ (k ≤ l.length + 1) ∧ ((o_7 l.length k).any (okS b l) = false)) (fun k => l.length + 1 - k) 0 ⟨(Value.slice none 0 0), [], AM.as _ rfl, Ab, by omega, rfl⟩ ?_
 clear AM Ab BA
 rintro k BB BS ⟨vb_, best_, U, Y, BN, hno⟩
 refine m2 (s1 U (f_7 rfl U.e U.e) fun Ah F => ?_); clear U BB
 refine n2 ?_
 by_cases Ad : (k : Int) < ((l.length : Int) + 1)
 ·skip
  rw [decide_eq_true Ad] at F
  refine c_0 F rfl (c_6 (a_7 (b_5 (c_4 (m2 (s1 F (a_1 rfl F.e) fun BC s => ?_)))))); clear F Ah
  refine s1 s (a_0 rfl s.e) fun BD t => ?_; clear s BC
  refine n4 (s1 t (a_2 rfl ty_134 t.e (Y.rk 2 rfl) rfl) fun BE x => ?_); clear t BD
  refine s1 x (a_1 rfl x.e) fun BF V => ?_; clear x BE
  have AC := Y.t_0 3 1; clear Y
  have W := AC.gkp (gpc 0 (gpc 4 (gpc 1 (gpc 3 (gpc 8 (gpc 5 (gpc 6 (gpc 7 (gpc 10 (gpc 11 (gpc 12 (gpc 2 (gpc 9 gpn))))))))))))); clear AC
  refine s2 V (i_5 rfl (V.ev rfl) en_73 (ev4 (evc _ _) (evc _ _) (evc _ _) V.e) (leave_ok b vt vm lr lb lk hth hb bx24 bm25 es26 ck27 hMO28 l hl xl C I E D l.length k 0 [] _ _ _ _ _ (ownX [(row (Value.slice none 0 0) 3 1 0 []), (blk C 44 [vb_]), (row vb_ 3 1 best_.length (ints best_)), (rob D 134 [(Value.func (.func 73) #[] #[(bptr I 0), (bptr C 0), (bptr E 0), (bptr D 0)])]), (rob I 53 [xl]), (rob E 116 [(bptr bx24 0)]), (rob bx24 146 [(iv b.scales), vt, vm, (Value.map (some bm25))]), (mapX false bm25 es26 ck27 es26.size 106 5 (bN b.tabs b.tabs.length) (bC lr lb b.tabs b.tabs.length)), (d_0 false vt lr lb b.tabs), (d_3 false vm lk b.macs), (sl xl 2 l.length (pairs l)), (sl (Value.slice none 0 0) 2 0 [])]) (by omega) (by omega) t_2.nil (by simp only [List.length_nil]; omega) (Sep.enterG (A := [(row (Value.slice none 0 0) 3 1 0 []), (blk C 44 [vb_]), (row vb_ 3 1 best_.length (ints best_)), (rob D 134 [(Value.func (.func 73) #[] #[(bptr I 0), (bptr C 0), (bptr E 0), (bptr D 0)])]), (rob I 53 [xl]), (rob E 116 [(bptr bx24 0)]), (rob bx24 146 [(iv b.scales), vt, vm, (Value.map (some bm25))]), (mapX false bm25 es26 ck27 es26.size 106 5 (bN b.tabs b.tabs.length) (bC lr lb b.tabs b.tabs.length)), (d_0 false vt lr lb b.tabs), (d_3 false vm lk b.macs), (sl xl 2 l.length (pairs l)), (sl (Value.slice none 0 0) 2 0 [])]) (B := [(blk b4 37 [(iv b.scales), vt, vm])]) W))) ?_
  rintro Ai _ Aq ⟨rfl, vb104, best105, Ag, AD⟩ H; clear V BF
  have L : Sep NoB w Aq [(row (Value.slice none 0 0) 3 1 0 []), (blk C 44 [vb104]), (row vb104 3 1 best105.length (ints best105)), (rob D 134 [(Value.func (.func 73) #[] #[(bptr I 0), (bptr C 0), (bptr E 0), (bptr D 0)])]), (rob I 53 [xl]), (rob E 116 [(bptr bx24 0)]), (rob bx24 146 [(iv b.scales), vt, vm, (Value.map (some bm25))]), (mapX false bm25 es26 ck27 es26.size 106 5 (bN b.tabs b.tabs.length) (bC lr lb b.tabs b.tabs.length)), (d_0 false vt lr lb b.tabs), (d_3 false vm lk b.macs), (sl xl 2 l.length (pairs l)), (sl (Value.slice none 0 0) 2 0 []), (blk b4 37 [(iv b.scales), vt, vm])] := Sep.callG (A := [(row (Value.slice none 0 0) 3 1 0 []), (blk C 44 [vb_]), (row vb_ 3 1 best_.length (ints best_)), (rob D 134 [(Value.func (.func 73) #[] #[(bptr I 0), (bptr C 0), (bptr E 0), (bptr D 0)])]), (rob I 53 [xl]), (rob E 116 [(bptr bx24 0)]), (rob bx24 146 [(iv b.scales), vt, vm, (Value.map (some bm25))]), (mapX false bm25 es26 ck27 es26.size 106 5 (bN b.tabs b.tabs.length) (bC lr lb b.tabs b.tabs.length)), (d_0 false vt lr lb b.tabs), (d_3 false vm lk b.macs), (sl xl 2 l.length (pairs l)), (sl (Value.slice none 0 0) 2 0 [])]) (B := [(blk b4 37 [(iv b.scales), vt, vm])]) W AD (v_5 ⟨.inl rfl, .inl rfl, .inl rfl, .inr ⟨3, rfl⟩, .inr ⟨4, rfl⟩, .inr ⟨5, rfl⟩, .inr ⟨6, rfl⟩, .inr ⟨7, rfl⟩, .inr ⟨8, rfl⟩, .inr ⟨9, rfl⟩, .inr ⟨10, rfl⟩, .inr ⟨11, rfl⟩, trivial⟩); clear AD W
  refine n1 ?_
  rcases Bool.eq_false_or_eq_true ((i_2 l.length (okS b l) k [] 0)) with Z | Z
  ·skip
   rw [Z] at H
   refine c_0 H rfl (g_6 (blk_miss (by decide) (b_2 (b_2 (f_2 (a_7 (b_5 ?_)))))))
   have M := H.as [(8, (bptr C 0))] rfl; clear H
   refine a_5 (s1 M (a_2 rfl w_2 M.e (L.bk 1 rfl) rfl) fun Al N => ?_); clear M Ai
   refine s1 N (a_0 rfl N.e) fun Am y => ?_; clear N Al
   refine s1 y (a_0 rfl (evc _ _)) fun BJ z => ?_; clear y Am
   refine n1 (c_2 (a_8 z (.inl rfl) (d_7 z rfl (.tmp rfl) (.tmp rfl)) ?_))
   rw [doubt_found (by omega) hno (Ag (by assumption))]
   exact ⟨_, rfl, L.keep [2] (by decide) _ rfl rfl⟩
  skip
  rw [Z] at H
  refine b_4 H rfl (c_6 (g_3 (a_7 ?_)))
  have O := H.as [(24, (iv (k : Int))), (23, (iv ((l.length : Int) + 1))), (9, (bptr D 0)), (8, (bptr C 0))] rfl; clear H
  refine a_5 (s1 O (e_3 rfl O.e (evc _ _) (by omega) (by omega)) fun An P => ?_); clear O Ai
  refine s1 P (a_1 rfl P.e) fun BK Ae => ?_; clear P An
  refine e_6 ?_
  have Af := L.gkp (gpc 2 (gpc 11 (gpc 3 (gpc 1 (gpc 5 (gpc 6 (gpc 7 (gpc 4 (gpc 12 (gpc 8 (gpc 9 (gpc 10 gpn)))))))))))); clear L
  exact a_7 ⟨k + 1, ⟨vb104, best105, Ae.as _ rfl, Af, by omega, all_go hno (by assumption)⟩, by omega⟩
 skip
 rw [decide_eq_false Ad] at F
 refine b_4 F rfl (g_6 (b_2 (b_2 (f_2 (a_7 (m2 (s1 F (a_2 rfl w_2 F.e (Y.bk 3 rfl) rfl) fun Ao Q => ?_))))))); clear F Ah
 refine s1 Q (a_0 rfl Q.e) fun Ap AA => ?_; clear Q Ao
 refine s1 AA (a_0 rfl (evc _ _)) fun BL AB => ?_; clear AA Ap
 exact n1 (c_2 (a_8 AB (.inl rfl) (d_7 AB rfl (.tmp rfl) (.tmp rfl)) ((all_not hb (by omega) hno).elim)))
end Go.Proofs.Ytohgladndklciaa
