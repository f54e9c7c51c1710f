/-
  Walks through the functions of the seat, printed by a program of ours (gowalk), a theorem a function: what the call returns and what it leaves in memory.
-/
import Derived.Test.YtohgladndklciaaBd
set_option linter.unusedSimpArgs false
set_option linter.unusedVariables false
namespace Go.Proofs.Ytohgladndklciaa
open Go.RowKit Go.Shelf Go.Eng Go.Hard
set_option maxHeartbeats 4000000 in
theorem HardAllows_a (b : h_2) (vt vm : Value) (lr lb lk : Nat → Value) (w : World) (hT : j_5 w vt lr lb b.tabs) (hM : k_8 w vm lk b.macs) (l : List (Int × Int)) (xl : Value) (hxl : SlAt w xl 2 l.length (pairs l)) (wa wb : Int) (hA_ : 0 ≤ wa ∧ wa ≤ 255) (hB_ : 0 ≤ wb ∧ wb ≤ 255) (hf : x_4 b l = false) :
  Calls Try.prog 9 #[(Value.agg #[(Value.int .i64 b.scales), vt, vm]), xl, (Value.int .u8 wa), (Value.int .u8 wb)] w (Ret fun v w' => v = .bool true ∧ Ext NoB w w') := by
 refine a_9 Try.func9 rfl fun R D => ?_
 replace D : Fr 197 [] [(0, (Value.agg #[(Value.int .i64 b.scales), vt, vm])), (1, xl), (2, (Value.int .u8 wa)), (3, (Value.int .u8 wb))] R := D
 have O : Sep NoB w w [(b_6 false vt lr lb b.tabs), (c_0 false vm lk b.macs), (sl xl 2 l.length (pairs l))] := f_2 ⟨rfl, hT, rfl, hM, rfl, hxl, trivial⟩
 refine m2 ?_
 refine s2 D (f_3 O rfl (D.ev rfl) (cs := [(Value.int .i64 b.scales), vt, vm]) rfl) ?_
 rintro W _ e ⟨d, rfl, A⟩ N; clear D O R
 refine s1 N (a_0 rfl (evc _ _)) fun X I => ?_; clear N W
 refine n2 ?_
 refine m2 ?_
 refine s1 I (c_5 rfl x_0 (I.ev rfl) (A.bk 0 rfl) (l := [(Value.int .i64 b.scales), vt, vm]) rfl rfl) fun Y J => ?_; clear I X
 refine s1 J (a_1 rfl (J.ev rfl)) fun S B => ?_; clear J Y
 refine s2 B (b_0 rfl en_29 (ev2 (B.ev rfl) (B.ev rfl)) (ready_ok b vt vm lr lb lk _ (a_6 (A.ok 1 _ rfl)) (c_3 (A.ok 2 _ rfl)) l _ (A.sk 3 rfl))) ?_
 rintro T _ a ⟨rfl, K⟩ C; have M := A.step K; clear K B A S
 have Q : (x_4 b l) = false := hf
 rw [Q] at C
 refine s1 C (f_7 rfl (C.ev rfl)) fun U E => ?_; clear C T
 refine n1 ?_
 refine c_7 E rfl ?_
 refine b_9 ?_
 have G := E.as [] rfl; clear E
 refine a_5 ?_
 refine s2 G (b_0 rfl y_8 ev0 (l_5 _)) ?_
 rintro V _ c ⟨rfl, L⟩ F; have P := M.step L; clear L G M U
 refine s1 F (a_0 rfl (F.ev rfl)) fun Z H => ?_; clear F V
 refine n1 ?_
 refine c_4 ?_
 refine a_7 ?_
 refine a_8 H (.inl rfl) (a_2 H rfl (.tmp rfl)) ?_
 exact ⟨rfl, P.ext⟩
set_option maxHeartbeats 4000000 in
theorem HardAllows_b (b : h_2) (vt vm : Value) (lr lb lk : Nat → Value) (w : World) (hT : j_5 w vt lr lb b.tabs) (hM : k_8 w vm lk b.macs) (l : List (Int × Int)) (xl : Value) (hxl : SlAt w xl 2 l.length (pairs l)) (wa wb : Int) (hA_ : 0 ≤ wa ∧ wa ≤ 255) (hB_ : 0 ≤ wb ∧ wb ≤ 255) (hf : x_4 b l = true) (hs : m_9 b l = none) :
  Calls Try.prog 9 #[(Value.agg #[(Value.int .i64 b.scales), vt, vm]), xl, (Value.int .u8 wa), (Value.int .u8 wb)] w (Ret fun v w' => v = .bool true ∧ Ext NoB w w') := by
 refine a_9 Try.func9 rfl fun a0 DN => ?_
 replace DN : Fr 197 [] [(0, (Value.agg #[(Value.int .i64 b.scales), vt, vm])), (1, xl), (2, (Value.int .u8 wa)), (3, (Value.int .u8 wb))] a0 := DN
 have hrd := ready_is hf; have hth := hrd.1; have Hs := hrd.2.1; have hr := hrd.2.2; have htl9 := hth.tl; have hml9 := hth.ml; have hc := read_check hr; have hbl := read_ok hr; have hb := hbl.1; have hl := hbl.2; have H3 := hb.scales
 have FZ : Sep NoB w w [(b_6 false vt lr lb b.tabs), (c_0 false vm lk b.macs), (sl xl 2 l.length (pairs l))] := f_2 ⟨rfl, hT, rfl, hM, rfl, hxl, trivial⟩
 refine m2 ?_
 refine s2 DN (f_3 FZ rfl (DN.ev rfl) (cs := [(Value.int .i64 b.scales), vt, vm]) rfl) ?_
 rintro a1 _ w3 ⟨Z, rfl, Bs⟩ FY; clear DN FZ a0
 refine s1 FY (a_0 rfl (evc _ _)) fun a6 E6 => ?_; clear FY a1
 refine n2 ?_
 refine m2 ?_
 refine s1 E6 (c_5 rfl x_0 (E6.ev rfl) (Bs.bk 0 rfl) (l := [(Value.int .i64 b.scales), vt, vm]) rfl rfl) fun a8 E7 => ?_; clear E6 a6
 refine s1 E7 (a_1 rfl (E7.ev rfl)) fun HB B1 => ?_; clear E7 a8
 refine s2 B1 (b_0 rfl en_29 (ev2 (B1.ev rfl) (B1.ev rfl)) (ready_ok b vt vm lr lb lk _ (a_6 (Bs.ok 1 _ rfl)) (c_3 (Bs.ok 2 _ rfl)) l _ (Bs.sk 3 rfl))) ?_
 rintro HC _ H4 ⟨rfl, E9⟩ B9; have Bq := Bs.step E9; clear E9 B1 Bs HB
 have Gr : (x_4 b l) = true := hf
 rw [Gr] at B9
 refine s1 B9 (f_7 rfl (B9.ev rfl)) fun HD DO => ?_; clear B9 HC
 refine n1 ?_
 refine b_8 DO rfl ?_
 refine d_2 ?_
 refine b_2 ?_
 refine b_9 ?_
 have DP := DO.as [(4, (bptr Z 0)), (1, xl), (2, (Value.int .u8 wa)), (3, (Value.int .u8 wb))] rfl; clear DO
 refine a_5 ?_
 refine s1 DP (c_5 rfl x_0 (DP.ev rfl) (Bq.bk 0 rfl) (l := [(Value.int .i64 b.scales), vt, vm]) rfl rfl) fun HE DQ => ?_; clear DP HD
 refine s2 DQ (b_0 rfl aa_2 (ev1 (DQ.ev rfl)) (q_9 b vt vm lr lb lk _ (a_6 (Bq.ok 1 _ rfl)) (c_3 (Bq.ok 2 _ rfl)) hth)) ?_
 rintro HF _ H5 ⟨vt26, vm27, lr28, lb29, lk30, rfl, FD⟩ DR; have Dk := Bq.y_7 FD rfl; clear FD DQ Bq HE
 refine s1 DR (a_1 rfl (DR.ev rfl)) fun HG DS => ?_; clear DR HF
 refine s2 DS (b_0 rfl en_26 (ev1 (DS.ev rfl)) (Readings_ok l _ _ (Dk.sk 5 rfl) (by omega))) ?_
 rintro HH BA H6 ⟨FA, hO39⟩ Cp; have Br := Dk.new_row FA hO39; clear FA hO39 DS Dk HG
 refine s2 Cp (b_0 rfl en_25 (ev2 (Cp.ev rfl) (Cp.ev rfl)) (Spans_none b vt26 vm27 lr28 lb29 lk30 _ (a_6 (Br.ok 1 _ rfl)) (c_3 (Br.ok 2 _ rfl)) hth l _ (SlAt.h_7 (Br.j_4 0 rfl)) (by omega) hr hs)) ?_
 rintro HI _ H7 ⟨rfl, FB⟩ DT; have FC := Br.step FB; clear FB Cp Br HH
 refine s1 DT (a_1 rfl (DT.ev rfl)) fun HJ DU => ?_; clear DT HI
 refine s1 DU (c_6 rfl (DU.ev rfl) rfl) fun HK DV => ?_; clear DU HJ
 refine s1 DV (c_6 rfl (DV.ev rfl) rfl) fun HL DW => ?_; clear DV HK
 refine s1 DW (a_0 rfl (DW.ev rfl)) fun HM DX => ?_; clear DW HL
 refine s1 DX (a_0 rfl (DX.ev rfl)) fun HN E2 => ?_; clear DX HM
 refine n2 ?_
 refine b_9 ?_
 have E3 := E2.as [(10, (Value.int .i64 (spE b l))), (9, (Value.slice none 0 0)), (4, (bptr Z 0)), (1, xl), (2, (Value.int .u8 wa)), (3, (Value.int .u8 wb))] rfl; clear E2
 refine a_5 ?_
 refine s1 E3 (a_0 rfl (evc _ _)) fun HO E4 => ?_; clear E3 HN
 refine n1 ?_
 refine d_0 ?_
 have E5 := E4.as [(11, (Value.int .i64 0)), (10, (Value.int .i64 (spE b l))), (9, (Value.slice none 0 0)), (4, (bptr Z 0)), (1, xl), (2, (Value.int .u8 wa)), (3, (Value.int .u8 wb))] rfl; clear E4
 refine h_1 (G := Nat) (fun (k : Nat) a_ w_ => Fr 197 [] [(11, (Value.int .i64 (k : Int))), (10, (Value.int .i64 (spE b l))), (9, (Value.slice none 0 0)), (4, (bptr Z 0)), (1, xl), (2, (Value.int .u8 wa)), (3, (Value.int .u8 wb))] a_ ∧ Sep NoB w w_ [(row BA 98 2 l.length (pairs l)), (b_6 true vt26 lr28 lb29 b.tabs), (c_0 true vm27 lk30 b.macs), (blk Z 25 [(Value.int .i64 b.scales), vt, vm]), (b_6 false vt lr lb b.tabs), (c_0 false vm lk b.macs), (sl xl 2 l.length (pairs l))] ∧ (k ≤ 0)) (fun k => 0 - k) 0 ⟨E5.as _ rfl, FC, by omega⟩ ?_
 clear E5 FC HO
 rintro k HP H8 ⟨DY, BB, hkk⟩
 refine b_9 ?_
 refine m2 ?_
 refine s1 DY (a_1 rfl (DY.ev rfl)) fun HQ DZ => ?_; clear DY HP
 refine s1 DZ (a_1 rfl (DZ.ev rfl)) fun HR Da => ?_; clear DZ HQ
 refine s1 Da (op_len rfl aa_4 (Da.ev rfl)) fun HS C7 => ?_; clear Da HR
 refine s1 C7 (g_3 rfl (C7.ev rfl) (C7.ev rfl)) fun HT C8 => ?_; clear C7 HS
 have Gs : ¬ ((k : Int) < ((0 : Nat) : Int)) := (by omega)
 rw [decide_eq_false Gs] at C8
 refine n1 ?_
 refine b_8 C8 rfl ?_
 refine h_0 ?_
 refine b_5 ?_
 refine b_5 ?_
 refine f_8 ?_
 refine b_2 ?_
 refine b_9 ?_
 refine b_9 ?_
 have Db := C8.as [(10, (Value.int .i64 (spE b l))), (4, (bptr Z 0)), (2, (Value.int .u8 wa)), (3, (Value.int .u8 wb))] rfl; clear C8
 refine a_5 ?_
 refine s1 Db (a_1 rfl (Db.ev rfl)) fun HU Dc => ?_; clear Db HT
 refine s1 Dc (s_8 rfl (Dc.ev rfl) (evc _ _)) fun HV C9 => ?_; clear Dc HU
 have Gt : ¬ ((spE b l) = 0) := (by rw [spE_9 hr hs]; decide)
 rw [decide_eq_false Gt] at C9
 refine s1 C9 (a_1 rfl (C9.ev rfl)) fun HW Dd => ?_; clear C9 HV
 refine s5 Dd (a_1 rfl (Dd.ev rfl)) fun HX De => ?_; clear Dd HW
 refine s5 De (s_8 rfl (De.ev rfl) (evc _ _)) fun HY Bp => ?_; clear De HX
 have Gu : (spE b l) = 9 := (spE_9 hr hs)
 rw [decide_eq_true Gu] at Bp
 refine s1 Bp (b_4 rfl (Bp.ev rfl) (Bp.ev rfl)) fun HZ Df => ?_; clear Bp HY
 refine n1 ?_
 refine b_8 Df rfl ?_
 refine d_2 ?_
 refine b_2 ?_
 refine b_9 ?_
 refine b_9 ?_
 have Dg := Df.as [(4, (bptr Z 0)), (2, (Value.int .u8 wa)), (3, (Value.int .u8 wb))] rfl; clear Df
 refine a_5 ?_
 refine s1 Dg (a_4 rfl l_9 (Dg.ev rfl)) fun Ha Dh => ?_; clear Dg HZ
 refine s1 Dh (a_3 rfl w_9 (Dh.ev rfl) (BB.bk 3 rfl) rfl) fun Hb Di => ?_; clear Dh Ha
 refine s1 Di (d_5 rfl x_2 (Di.ev rfl) (a_6 (BB.ok 4 _ rfl)).tabs) fun Hc Dj => ?_; clear Di Hb
 refine s1 Dj (i_8 rfl (Dj.ev rfl) (evc _ _)) fun FX BF => ?_; clear Dj Hc
 refine n1 ?_
 by_cases FE : (b.tabs.length : Int) = 0
 ·skip
  rw [decide_eq_true FE] at BF
  refine c_7 BF rfl ?_
  refine b_9 ?_
  have E8 := BF.as [] rfl; clear BF
  refine a_5 ?_
  refine s2 E8 (b_0 rfl y_8 ev0 (l_5 _)) ?_
  rintro Fa _ Ht ⟨rfl, EZ⟩ Bz; have FF := BB.step EZ; clear EZ E8 BB FX
  refine s1 Bz (a_0 rfl (Bz.ev rfl)) fun He Dl => ?_; clear Bz Fa
  refine n1 ?_
  refine c_4 ?_
  refine a_7 ?_
  refine a_8 Dl (.inl rfl) (a_2 Dl rfl (.tmp rfl)) ?_
  exact ⟨rfl, FF.ext⟩
 skip
 rw [decide_eq_false FE] at BF
 refine b_8 BF rfl ?_
 refine d_2 ?_
 refine b_2 ?_
 refine m2 ?_
 refine s1 BF (a_1 rfl (BF.ev rfl)) fun Fb B0 => ?_; clear BF FX
 refine s1 B0 (op_conv un_5 un_3 rfl (B0.ev rfl) (v := wa) (wrap_i64 (by omega) (by omega))) fun Fc B2 => ?_; clear B0 Fb
 refine s1 B2 (a_4 rfl l_9 (B2.ev rfl)) fun Fd B3 => ?_; clear B2 Fc
 refine s1 B3 (a_3 rfl w_9 (B3.ev rfl) (BB.bk 3 rfl) rfl) fun Fe B4 => ?_; clear B3 Fd
 refine s1 B4 (d_5 rfl x_2 (B4.ev rfl) (a_6 (BB.ok 4 _ rfl)).tabs) fun Ff BQ => ?_; clear B4 Fe
 refine s1 BQ (op_rem rfl (BQ.ev rfl) (BQ.ev rfl) (by omega)) fun Fg B5 => ?_; clear BQ Ff
 refine s1 B5 (a_0 rfl (B5.ev rfl)) fun Fh Dm => ?_; clear B5 Fg
 refine n2 ?_
 have BR := Dm.as [(15, (Value.int .i64 ((wa).tmod (b.tabs.length : Int)))), (4, (bptr Z 0)), (3, (Value.int .u8 wb))] rfl; clear Dm
 obtain ⟨kk, hz_kk, hb_kk⟩ := rem_nat (n := wa) (m := b.tabs.length) hA_.1 (by omega); rw [hz_kk] at BR
 have htv := hb.tab hb_kk; have htk := hth.tab kk; have hln2 := htv.len; have hbn0 := htv.bnd 0 (by omega); unfold tx ty at hbn0
 refine a_5 ?_
 refine s1 BR (a_4 rfl l_9 (BR.ev rfl)) fun Fi B6 => ?_; clear BR Fh
 refine s1 B6 (a_3 rfl w_9 (B6.ev rfl) (BB.bk 3 rfl) rfl) fun Fj B7 => ?_; clear B6 Fi
 refine s1 B7 (a_1 rfl (B7.ev rfl)) fun Fk BS => ?_; clear B7 Fj
 refine s1 BS (b_3 rfl x_2 z_1 (BS.ev rfl) (i := kk) (BS.ev rfl) (a_6 (BB.ok 4 _ rfl)).tabs (by decide) (by omega)) fun Fl B8 => ?_; clear BS Fk
 refine s1 B8 (f_1 rfl z_1 (B8.ev rfl) (a_6 (BB.ok 4 _ rfl)).tabs (r_8 (by omega)) rfl (by decide)) fun Fm Dn => ?_; clear B8 Fl
 refine s2 Dn (e_3 BB rfl ze_46 (cs := [(Value.int .i64 0), (Value.int .i64 0), (Value.slice none 0 0), (Value.slice none 0 0), (Value.int .i64 0)]) rfl) ?_
 rintro Hf _ Hu ⟨A, rfl, Bm⟩ BT; clear Dn BB Fm
 refine s7 BT (c_1 Bm rfl z_1 (BT.ev rfl) (BT.ev rfl) (i := 0) rfl (vs := [(Value.int .i64 ((b.tabs.getD kk tab0).frm)), (Value.int .i64 ((b.tabs.getD kk tab0).dst)), (lr kk), (lb kk), (Value.int .i64 ((b.tabs.getD kk tab0).err))]) rfl rfl (h_4 rfl (h_4 rfl (h_4 (SlAt.one ((a_6 (Bm.ok 5 _ rfl)).row (i := kk) (by omega))) (h_4 (SlAt.one ((a_6 (Bm.ok 5 _ rfl)).brk (i := kk) (by omega))) (h_4 rfl v_0))))) (Nat.le_of_ble_eq_true rfl)) ?_
 intro _ Gv Eg Do; clear BT
 have DC : Sep NoB w Gv [(blk A 46 [(Value.int .i64 ((b.tabs.getD kk tab0).frm)), (Value.int .i64 ((b.tabs.getD kk tab0).dst)), (lr kk), (lb kk), (Value.int .i64 ((b.tabs.getD kk tab0).err))]), (row BA 98 2 l.length (pairs l)), (b_6 true vt26 lr28 lb29 b.tabs), (c_0 true vm27 lk30 b.macs), (blk Z 25 [(Value.int .i64 b.scales), vt, vm]), (b_6 false vt lr lb b.tabs), (c_0 false vm lk b.macs), (sl xl 2 l.length (pairs l))] := Eg; clear Eg Bm
 refine n2 ?_
 have CA := Do.as [(16, (bptr A 0)), (15, (Value.int .i64 (kk : Int))), (4, (bptr Z 0)), (3, (Value.int .u8 wb))] rfl; clear Do
 refine y_2 mixed CA DC 20 18 rfl rfl [[], [0], [], [], [3], [4], [5], [6], [7], [], [9], [10], [11], [12], [8, 13], [1, 2, 14], [15], [16], [16], []] [(fun (F : Nat → Value) (v_ : Value) (rs_ : List Res) => v_ = (Value.agg #[(Value.int .i64 b.scales), vt, vm]) ∧ rs_ = []), (fun (F : Nat → Value) (v_ : Value) (rs_ : List Res) => ∃ (vt1_ : Value), ∃ (vm1_ : Value), ∃ (lr1_ : Nat → Value), ∃ (lb1_ : Nat → Value), ∃ (lk1_ : Nat → Value), v_ = (Value.agg #[(Value.int .i64 b.scales), vt1_, vm1_]) ∧ rs_ = [(b_6 true vt1_ lr1_ lb1_ b.tabs), (c_0 true vm1_ lk1_ b.macs)]), (fun (F : Nat → Value) (v_ : Value) (rs_ : List Res) => v_ = (Value.int .i64 (kk : Int)) ∧ rs_ = []), (fun (F : Nat → Value) (v_ : Value) (rs_ : List Res) => v_ = (bptr A 2) ∧ rs_ = []), (fun (F : Nat → Value) (v_ : Value) (rs_ : List Res) => v_ = (lr kk) ∧ rs_ = []), (fun (F : Nat → Value) (v_ : Value) (rs_ : List Res) => v_ = (eptr (lr kk) (0 * 2)) ∧ rs_ = []), (fun (F : Nat → Value) (v_ : Value) (rs_ : List Res) => v_ = (eptr (lr kk) (0 * 2 + 0)) ∧ rs_ = []), (fun (F : Nat → Value) (v_ : Value) (rs_ : List Res) => v_ = (Value.int .i64 ((((b.tabs.getD kk tab0).rows).getD 0 (0, 0)).1)) ∧ rs_ = []), (fun (F : Nat → Value) (v_ : Value) (rs_ : List Res) => v_ = (Value.int .i64 (((((b.tabs.getD kk tab0).rows).getD 0 (0, 0)).1) - 1)) ∧ rs_ = []), (fun (F : Nat → Value) (v_ : Value) (rs_ : List Res) => v_ = (bptr A 2) ∧ rs_ = []), (fun (F : Nat → Value) (v_ : Value) (rs_ : List Res) => v_ = (lr kk) ∧ rs_ = []), (fun (F : Nat → Value) (v_ : Value) (rs_ : List Res) => v_ = (eptr (lr kk) (0 * 2)) ∧ rs_ = []), (fun (F : Nat → Value) (v_ : Value) (rs_ : List Res) => v_ = (eptr (lr kk) (0 * 2 + 0)) ∧ rs_ = []), (fun (F : Nat → Value) (v_ : Value) (rs_ : List Res) => v_ = (Value.int .i64 ((((b.tabs.getD kk tab0).rows).getD 0 (0, 0)).1)) ∧ rs_ = []), (fun (F : Nat → Value) (v_ : Value) (rs_ : List Res) => v_ = (Value.agg #[(Value.int .i64 (((((b.tabs.getD kk tab0).rows).getD 0 (0, 0)).1) - 1)), (Value.int .i64 ((((b.tabs.getD kk tab0).rows).getD 0 (0, 0)).1))]) ∧ rs_ = []), (fun (F : Nat → Value) (v_ : Value) (rs_ : List Res) => v_ = (Value.tuple #[(Value.agg #[(Value.int .i64 ((b_7 b (kk : Int) (((((b.tabs.getD kk tab0).rows).getD 0 (0, 0)).1) - 1, (((b.tabs.getD kk tab0).rows).getD 0 (0, 0)).1)).1)), (Value.int .i64 ((b_7 b (kk : Int) (((((b.tabs.getD kk tab0).rows).getD 0 (0, 0)).1) - 1, (((b.tabs.getD kk tab0).rows).getD 0 (0, 0)).1)).2))]), (Value.int .i64 (e_0 b (kk : Int) (((((b.tabs.getD kk tab0).rows).getD 0 (0, 0)).1) - 1, (((b.tabs.getD kk tab0).rows).getD 0 (0, 0)).1)))]) ∧ rs_ = []), (fun (F : Nat → Value) (v_ : Value) (rs_ : List Res) => v_ = (Value.tuple #[(Value.agg #[(Value.int .i64 ((b_7 b (kk : Int) (((((b.tabs.getD kk tab0).rows).getD 0 (0, 0)).1) - 1, (((b.tabs.getD kk tab0).rows).getD 0 (0, 0)).1)).1)), (Value.int .i64 ((b_7 b (kk : Int) (((((b.tabs.getD kk tab0).rows).getD 0 (0, 0)).1) - 1, (((b.tabs.getD kk tab0).rows).getD 0 (0, 0)).1)).2))]), (Value.int .i64 (e_0 b (kk : Int) (((((b.tabs.getD kk tab0).rows).getD 0 (0, 0)).1) - 1, (((b.tabs.getD kk tab0).rows).getD 0 (0, 0)).1)))]) ∧ rs_ = []), (fun (F : Nat → Value) (v_ : Value) (rs_ : List Res) => v_ = (Value.agg #[(Value.int .i64 ((b_7 b (kk : Int) (((((b.tabs.getD kk tab0).rows).getD 0 (0, 0)).1) - 1, (((b.tabs.getD kk tab0).rows).getD 0 (0, 0)).1)).1)), (Value.int .i64 ((b_7 b (kk : Int) (((((b.tabs.getD kk tab0).rows).getD 0 (0, 0)).1) - 1, (((b.tabs.getD kk tab0).rows).getD 0 (0, 0)).1)).2))]) ∧ rs_ = []), (fun (F : Nat → Value) (v_ : Value) (rs_ : List Res) => v_ = (Value.int .i64 (e_0 b (kk : Int) (((((b.tabs.getD kk tab0).rows).getD 0 (0, 0)).1) - 1, (((b.tabs.getD kk tab0).rows).getD 0 (0, 0)).1))) ∧ rs_ = []), (fun (F : Nat → Value) (v_ : Value) (rs_ : List Res) => ∃ (b19_ : Nat), v_ = (bptr b19_ 0) ∧ rs_ = [(blk b19_ 30 [(Value.int .i64 0), (Value.int .i64 0)])])] (by decide +kernel) (by decide +kernel) (by decide +kernel) rfl rfl ⟨(fun _ _ _ _ _ h_ => h_), (fun _ _ _ _ _ h_ => h_), (fun _ _ _ _ _ h_ => h_), (fun _ _ _ _ _ h_ => h_), (fun _ _ _ _ _ h_ => h_), (fun _ _ _ _ _ h_ => h_), (fun _ _ _ _ _ h_ => h_), (fun _ _ _ _ _ h_ => h_), (fun _ _ _ _ _ h_ => h_), (fun _ _ _ _ _ h_ => h_), (fun _ _ _ _ _ h_ => h_), (fun _ _ _ _ _ h_ => h_), (fun _ _ _ _ _ h_ => h_), (fun _ _ _ _ _ h_ => h_), (fun _ _ _ _ _ h_ => h_), (fun _ _ _ _ _ h_ => h_), (fun _ _ _ _ _ h_ => h_), (fun _ _ _ _ _ h_ => h_), (fun _ _ _ _ _ h_ => h_), (fun _ _ _ _ _ h_ => h_), trivial⟩ ?_ ?_ ?_
 ·skip
  refine ⟨fun a w F hA hS hd => gv1 (c_5 rfl x_0 (hA.ev rfl) (hS.bk 4 rfl) (l := [(Value.int .i64 b.scales), vt, vm]) rfl rfl), ?_⟩
  refine ⟨fun a w F hA hS hd => d_6 rfl (vn (b_0 rfl aa_2 (ev1 (gu hd 0)) (q_9 b vt vm lr lb lk _ (a_6 (hS.ok 5 _ rfl)) (c_3 (hS.ok 6 _ rfl)) hth)) (fun v w' h => by obtain ⟨vt, vm, lr, lb, lk, rfl, hT⟩ := h; exact ⟨_, ⟨vt, vm, lr, lb, lk, rfl, rfl⟩, hT, rfl⟩)), ?_⟩
  refine ⟨fun a w F hA hS hd => gv1 (a_1 rfl (hA.ev rfl)), ?_⟩
  refine ⟨fun a w F hA hS hd => gv1 (a_4 rfl f_4 (hA.ev rfl)), ?_⟩
  refine ⟨fun a w F hA hS hd => gv1 (a_3 rfl k_1 (gu hd 3) (hS.bk 0 rfl) rfl), ?_⟩
  refine ⟨fun a w F hA hS hd => gv1 (b_3 rfl k_2 m_6 (gu hd 4) (i := 0) (show _ = Value.int .i64 ((0 : Nat) : Int) from (evc _ _)) ((a_6 (hS.ok 5 _ rfl)).row (i := kk) (by omega)) (by decide) (by omega)), ?_⟩
  refine ⟨fun a w F hA hS hd => gv1 (c_8 rfl h_9 (gu hd 5) ((a_6 (hS.ok 5 _ rfl)).row (i := kk) (by omega)) (by rw [(((a_6 (hS.ok 5 _ rfl)).row (i := kk) (by omega))).1]; omega)), ?_⟩
  refine ⟨fun a w F hA hS hd => gv1 (c_2 rfl ty_3 (gu hd 6) ((a_6 (hS.ok 5 _ rfl)).row (i := kk) (by omega)) (e_5 (by omega))), ?_⟩
  refine ⟨fun a w F hA hS hd => gv1 (i_4 rfl (gu hd 7) (evc _ _) (by omega) (by omega)), ?_⟩
  refine ⟨fun a w F hA hS hd => gv1 (a_4 rfl f_4 (hA.ev rfl)), ?_⟩
  refine ⟨fun a w F hA hS hd => gv1 (a_3 rfl k_1 (gu hd 9) (hS.bk 0 rfl) rfl), ?_⟩
  refine ⟨fun a w F hA hS hd => gv1 (b_3 rfl k_2 m_6 (gu hd 10) (i := 0) (show _ = Value.int .i64 ((0 : Nat) : Int) from (evc _ _)) ((a_6 (hS.ok 5 _ rfl)).row (i := kk) (by omega)) (by decide) (by omega)), ?_⟩
  refine ⟨fun a w F hA hS hd => gv1 (c_8 rfl h_9 (gu hd 11) ((a_6 (hS.ok 5 _ rfl)).row (i := kk) (by omega)) (by rw [(((a_6 (hS.ok 5 _ rfl)).row (i := kk) (by omega))).1]; omega)), ?_⟩
  refine ⟨fun a w F hA hS hd => gv1 (c_2 rfl ty_3 (gu hd 12) ((a_6 (hS.ok 5 _ rfl)).row (i := kk) (by omega)) (e_5 (by omega))), ?_⟩
  refine ⟨fun a w F hA hS hd => gx1 (b_0 rfl v_2 (ev2 (gu hd 8) (gu hd 13)) (g_4 _ _ _)), ?_⟩
  refine ⟨fun a w F hA hS hd => ?_, ?_⟩
  ·skip
   obtain ⟨e1, Ez, BP, BE⟩ := hd 1 (by decide)
   obtain ⟨vt1_, vm1_, lr1_, lb1_, lk1_, BO, BN⟩ := BP; subst BN
   rw [BO] at e1
   have hp1_0 := BE _ (List.mem_of_getElem? (i := 0) rfl)
   have hp1_1 := BE _ (List.mem_of_getElem? (i := 1) rfl)
   exact gx1 (b_0 rfl aa_7 (ev3 (c_9 (d_4 e1 rfl)) (gu hd 2) (gu hd 14)) (k_7 b vt1_ vm1_ lr1_ lb1_ lk1_ _ (a_6 hp1_0) (c_3 hp1_1) hth (kk : Int) (((((b.tabs.getD kk tab0).rows).getD 0 (0, 0)).1) - 1) ((((b.tabs.getD kk tab0).rows).getD 0 (0, 0)).1)))
  refine ⟨fun a w F hA hS hd => gv1 (a_1 rfl (gu hd 15)), ?_⟩
  refine ⟨fun a w F hA hS hd => gv1 (c_6 rfl (gu hd 16) rfl), ?_⟩
  refine ⟨fun a w F hA hS hd => gv1 (c_6 rfl (gu hd 16) rfl), ?_⟩
  refine ⟨fun a w F hA hS hd => d_6 rfl (valloc rfl t_5 (cs := [(Value.int .i64 0), (Value.int .i64 0)]) rfl (fun b_ => ⟨b_, rfl, rfl⟩)), ?_⟩
  trivial
 ·skip
  intro Bt Gw F rsf148 Dp W DD; clear CA DC
  obtain ⟨Ae, Ay⟩ := W 0 (by decide)
  obtain ⟨Ao, o⟩ := Ay
  obtain ⟨Af, Az⟩ := W 1 (by decide)
  obtain ⟨vt1_, vm1_, lr1_, lb1_, lk1_, Ap, p⟩ := Az
  obtain ⟨Ag, A0⟩ := W 2 (by decide)
  obtain ⟨Aq, q⟩ := A0
  obtain ⟨Ah, A1⟩ := W 3 (by decide)
  obtain ⟨Ar, r⟩ := A1
  obtain ⟨Ai, A2⟩ := W 4 (by decide)
  obtain ⟨As, s⟩ := A2
  obtain ⟨Aj, A3⟩ := W 5 (by decide)
  obtain ⟨At, t⟩ := A3
  obtain ⟨Ak, A4⟩ := W 6 (by decide)
  obtain ⟨Au, u⟩ := A4
  obtain ⟨Al, A5⟩ := W 7 (by decide)
  obtain ⟨Av, z⟩ := A5
  obtain ⟨Am, A6⟩ := W 8 (by decide)
  obtain ⟨Aw, AA⟩ := A6
  obtain ⟨An, A7⟩ := W 9 (by decide)
  obtain ⟨Ax, AB⟩ := A7
  obtain ⟨AI, AV⟩ := W 10 (by decide)
  obtain ⟨AO, H⟩ := AV
  obtain ⟨AJ, AW⟩ := W 11 (by decide)
  obtain ⟨AP, I⟩ := AW
  obtain ⟨AK, AX⟩ := W 12 (by decide)
  obtain ⟨AQ, J⟩ := AX
  obtain ⟨AL, AY⟩ := W 13 (by decide)
  obtain ⟨AR, K⟩ := AY
  obtain ⟨AM, AZ⟩ := W 14 (by decide)
  obtain ⟨AS, L⟩ := AZ
  obtain ⟨AN, Aa⟩ := W 15 (by decide)
  obtain ⟨AT, M⟩ := Aa
  obtain ⟨AF, Ab⟩ := W 16 (by decide)
  obtain ⟨AH, N⟩ := Ab
  obtain ⟨P, Ac⟩ := W 17 (by decide)
  obtain ⟨g, O⟩ := Ac
  obtain ⟨Q, Ad⟩ := W 18 (by decide)
  obtain ⟨AC, e⟩ := Ad
  obtain ⟨f, A8⟩ := W 19 (by decide)
  obtain ⟨b19_, AU, AD⟩ := A8
  have Eh : Sep NoB w Gw [(b_6 true vt1_ lr1_ lb1_ b.tabs), (c_0 true vm1_ lk1_ b.macs), (blk b19_ 30 [(Value.int .i64 0), (Value.int .i64 0)]), (blk A 46 [(Value.int .i64 ((b.tabs.getD kk tab0).frm)), (Value.int .i64 ((b.tabs.getD kk tab0).dst)), (lr kk), (lb kk), (Value.int .i64 ((b.tabs.getD kk tab0).err))]), (row BA 98 2 l.length (pairs l)), (b_6 true vt26 lr28 lb29 b.tabs), (c_0 true vm27 lk30 b.macs), (blk Z 25 [(Value.int .i64 b.scales), vt, vm]), (b_6 false vt lr lb b.tabs), (c_0 false vm lk b.macs), (sl xl 2 l.length (pairs l))] := by rw [show catR rsf148 0 20 = ([(b_6 true vt1_ lr1_ lb1_ b.tabs), (c_0 true vm1_ lk1_ b.macs), (blk b19_ 30 [(Value.int .i64 0), (Value.int .i64 0)])] : List Res) by (try simp only [catR, o, p, q, r, s, t, u, z, AA, AB, H, I, J, K, L, M, N, O, e, AD]); (try rfl)] at DD; exact DD
  rw [g] at P
  have Dq : Fr 197 [] [(128, (Value.agg #[(Value.int .i64 ((b_7 b (kk : Int) (((((b.tabs.getD kk tab0).rows).getD 0 (0, 0)).1) - 1, (((b.tabs.getD kk tab0).rows).getD 0 (0, 0)).1)).1)), (Value.int .i64 ((b_7 b (kk : Int) (((((b.tabs.getD kk tab0).rows).getD 0 (0, 0)).1) - 1, (((b.tabs.getD kk tab0).rows).getD 0 (0, 0)).1)).2))])), (16, (bptr A 0)), (15, (Value.int .i64 (kk : Int))), (4, (bptr Z 0)), (3, (Value.int .u8 wb))] Bt := Dp.add (d_4 P rfl); clear Dp
  rw [AC] at Q
  have Dr : Fr 197 [] [(129, (Value.int .i64 (e_0 b (kk : Int) (((((b.tabs.getD kk tab0).rows).getD 0 (0, 0)).1) - 1, (((b.tabs.getD kk tab0).rows).getD 0 (0, 0)).1)))), (128, (Value.agg #[(Value.int .i64 ((b_7 b (kk : Int) (((((b.tabs.getD kk tab0).rows).getD 0 (0, 0)).1) - 1, (((b.tabs.getD kk tab0).rows).getD 0 (0, 0)).1)).1)), (Value.int .i64 ((b_7 b (kk : Int) (((((b.tabs.getD kk tab0).rows).getD 0 (0, 0)).1) - 1, (((b.tabs.getD kk tab0).rows).getD 0 (0, 0)).1)).2))])), (16, (bptr A 0)), (15, (Value.int .i64 (kk : Int))), (4, (bptr Z 0)), (3, (Value.int .u8 wb))] Bt := Dq.add (d_4 Q rfl); clear Dq
  rw [AU] at f
  have BU : Fr 197 [] [(17, (bptr b19_ 0)), (129, (Value.int .i64 (e_0 b (kk : Int) (((((b.tabs.getD kk tab0).rows).getD 0 (0, 0)).1) - 1, (((b.tabs.getD kk tab0).rows).getD 0 (0, 0)).1)))), (128, (Value.agg #[(Value.int .i64 ((b_7 b (kk : Int) (((((b.tabs.getD kk tab0).rows).getD 0 (0, 0)).1) - 1, (((b.tabs.getD kk tab0).rows).getD 0 (0, 0)).1)).1)), (Value.int .i64 ((b_7 b (kk : Int) (((((b.tabs.getD kk tab0).rows).getD 0 (0, 0)).1) - 1, (((b.tabs.getD kk tab0).rows).getD 0 (0, 0)).1)).2))])), (16, (bptr A 0)), (15, (Value.int .i64 (kk : Int))), (4, (bptr Z 0)), (3, (Value.int .u8 wb))] Bt := Dr.add (d_4 f rfl); clear Dr
  clear W DD Ae Af Ag Ah Ai Aj Ak Al Am An AI AJ AK AL AM AN AF P Q f
  clear o
  clear Ao
  clear p
  clear Ap
  clear q
  clear Aq
  clear r
  clear Ar
  clear s
  clear As
  clear t
  clear At
  clear u
  clear Au
  clear z
  clear Av
  clear AA
  clear Aw
  clear AB
  clear Ax
  clear H
  clear AO
  clear I
  clear AP
  clear J
  clear AQ
  clear K
  clear AR
  clear L
  clear AS
  clear M
  clear AT
  clear N
  clear AH
  clear O
  clear g
  clear e
  clear AC
  clear AD
  clear AU
  refine s7 BU (c_1 Eh rfl f_5 (BU.ev rfl) (BU.ev rfl) (i := 2) rfl (vs := [(Value.int .i64 ((b_7 b (kk : Int) (((((b.tabs.getD kk tab0).rows).getD 0 (0, 0)).1) - 1, (((b.tabs.getD kk tab0).rows).getD 0 (0, 0)).1)).1)), (Value.int .i64 ((b_7 b (kk : Int) (((((b.tabs.getD kk tab0).rows).getD 0 (0, 0)).1) - 1, (((b.tabs.getD kk tab0).rows).getD 0 (0, 0)).1)).2))]) rfl rfl rfl (Nat.le_of_ble_eq_true rfl)) ?_
  intro _ Gx Ei CB; clear BU
  have BG : Sep NoB w Gx [(b_6 true vt1_ lr1_ lb1_ b.tabs), (c_0 true vm1_ lk1_ b.macs), (blk b19_ 30 [(Value.int .i64 ((b_7 b (kk : Int) (((((b.tabs.getD kk tab0).rows).getD 0 (0, 0)).1) - 1, (((b.tabs.getD kk tab0).rows).getD 0 (0, 0)).1)).1)), (Value.int .i64 ((b_7 b (kk : Int) (((((b.tabs.getD kk tab0).rows).getD 0 (0, 0)).1) - 1, (((b.tabs.getD kk tab0).rows).getD 0 (0, 0)).1)).2))]), (blk A 46 [(Value.int .i64 ((b.tabs.getD kk tab0).frm)), (Value.int .i64 ((b.tabs.getD kk tab0).dst)), (lr kk), (lb kk), (Value.int .i64 ((b.tabs.getD kk tab0).err))]), (row BA 98 2 l.length (pairs l)), (b_6 true vt26 lr28 lb29 b.tabs), (c_0 true vm27 lk30 b.macs), (blk Z 25 [(Value.int .i64 b.scales), vt, vm]), (b_6 false vt lr lb b.tabs), (c_0 false vm lk b.macs), (sl xl 2 l.length (pairs l))] := Ei; clear Ei Eh
  refine s1 CB (a_0 rfl (CB.ev rfl)) fun Fn CC => ?_; clear CB Bt
  refine n2 ?_
  refine m2 ?_
  refine s1 CC (a_1 rfl (CC.ev rfl)) fun Fo CD => ?_; clear CC Fn
  refine s1 CD (s_8 rfl (CD.ev rfl) (evc _ _)) fun Fp BV => ?_; clear CD Fo
  have FM : (e_0 b (kk : Int) (((((b.tabs.getD kk tab0).rows).getD 0 (0, 0)).1) - 1, (((b.tabs.getD kk tab0).rows).getD 0 (0, 0)).1)) = 10 := (by first | exact m_4 hc hb_kk | exact m_3 hc hb_kk hi_ii hm_ii)
  rw [decide_eq_true FM] at BV
  refine n1 ?_
  refine b_8 BV rfl ?_
  refine d_2 ?_
  refine b_2 ?_
  refine b_9 ?_
  refine b_9 ?_
  have CE := BV.as [(16, (bptr A 0)), (15, (Value.int .i64 (kk : Int))), (4, (bptr Z 0)), (3, (Value.int .u8 wb))] rfl; clear BV
  refine a_5 ?_
  refine s1 CE (a_4 rfl l_0 (CE.ev rfl)) fun Fq CF => ?_; clear CE Fp
  refine s1 CF (a_3 rfl s_0 (CF.ev rfl) (BG.bk 3 rfl) rfl) fun Fs CG => ?_; clear CF Fq
  refine s1 CG (d_5 rfl m_2 (CG.ev rfl) ((a_6 (BG.ok 8 _ rfl)).brk (i := kk) (by omega))) fun Ft CH => ?_; clear CG Fs
  refine s1 CH (i_8 rfl (CH.ev rfl) (evc _ _)) fun Fu BC => ?_; clear CH Ft
  refine n1 ?_
  by_cases Ex : ((b.tabs.getD kk tab0).brk.length : Int) = 0
  ·skip
   rw [decide_eq_true Ex] at BC
   refine c_7 BC rfl ?_
   refine b_9 ?_
   have Ds := BC.as [] rfl; clear BC
   refine a_5 ?_
   refine s2 Ds (b_0 rfl y_8 ev0 (l_5 _)) ?_
   rintro Fv _ Hv ⟨rfl, Ea⟩ CI; have FG := BG.step Ea; clear Ea Ds BG Fu
   refine s1 CI (a_0 rfl (CI.ev rfl)) fun Hg Dt => ?_; clear CI Fv
   refine n1 ?_
   refine c_4 ?_
   refine a_7 ?_
   refine a_8 Dt (.inl rfl) (a_2 Dt rfl (.tmp rfl)) ?_
   exact ⟨rfl, FG.ext⟩
  skip
  rw [decide_eq_false Ex] at BC
  refine b_8 BC rfl ?_
  refine d_2 ?_
  refine b_2 ?_
  refine b_9 ?_
  have hrm := rem_bd (y := wb) (d := ((b.tabs.getD kk tab0).brk.length : Int)) hB_.1 (by omega)
  have Du := BC.as [(16, (bptr A 0)), (15, (Value.int .i64 (kk : Int))), (4, (bptr Z 0)), (3, (Value.int .u8 wb))] rfl; clear BC
  refine g_6 mixed Du BG 8 [[], [0], [], [2], [], [4], [5], [3, 6]] [(Yd.val (bptr A 3)), (Yd.val (lb kk)), (Yd.val (Value.int .u8 wb)), (Yd.val (Value.int .i64 wb)), (Yd.val (bptr A 3)), (Yd.val (lb kk)), (Yd.val (Value.int .i64 ((b.tabs.getD kk tab0).brk.length : Int))), (Yd.val (Value.int .i64 ((wb).tmod ((b.tabs.getD kk tab0).brk.length : Int))))] (by decide +kernel) rfl rfl ?_ ?_
  ·skip
   refine dq (fun a w hA hS hd => a_4 rfl l_0 (hA.ev rfl)) ?_
   refine dq (fun a w hA hS hd => a_3 rfl s_0 (hq hd 0) (hS.bk 3 rfl) rfl) ?_
   refine dq (fun a w hA hS hd => a_1 rfl (hA.ev rfl)) ?_
   refine dq (fun a w hA hS hd => op_conv un_5 un_3 rfl (hq hd 2) (v := wb) (wrap_i64 (by omega) (by omega))) ?_
   refine dq (fun a w hA hS hd => a_4 rfl l_0 (hA.ev rfl)) ?_
   refine dq (fun a w hA hS hd => a_3 rfl s_0 (hq hd 4) (hS.bk 3 rfl) rfl) ?_
   refine dq (fun a w hA hS hd => d_5 rfl m_2 (hq hd 5) ((a_6 (hS.ok 8 _ rfl)).brk (i := kk) (by omega))) ?_
   refine dq (fun a w hA hS hd => op_rem rfl (hq hd 3) (hq hd 6) (by omega)) ?_
   trivial
  intro Fw Hw Dv Bn DA; clear Du BG
  have Dw := Dv.add (hz DA 1); clear Dv
  have BW := Dw.add (hz DA 7); clear Dw
  clear DA
  refine s1 BW (b_3 rfl m_2 ty_3 (BW.ev rfl) (i := ((wb).tmod ((b.tabs.getD kk tab0).brk.length : Int)).toNat) ((BW.ev rfl).trans (j_1 (by omega))) ((a_6 (Bn.ok 8 _ rfl)).brk (i := kk) (by omega)) (by decide) (by omega)) fun Fx CJ => ?_; clear BW Fw
  refine s1 CJ (c_2 rfl ty_3 (CJ.ev rfl) ((a_6 (Bn.ok 8 _ rfl)).brk (i := kk) (by omega)) (ints_at (by omega))) fun Fy CK => ?_; clear CJ Fx
  refine s1 CK (a_0 rfl (CK.ev rfl)) fun Hh CL => ?_; clear CK Fy
  refine n2 ?_
  obtain ⟨ii, hz_ii, hi_ii, hm_ii⟩ := brk_nat htv (j := (((wb).tmod ((b.tabs.getD kk tab0).brk.length : Int)).toNat)) (by omega); rw [hz_ii] at CL; have hbni := htv.bnd ii (by omega); have hbnj := htv.bnd (ii + 1) (by omega); have hxi := htv.rows.x ii hi_ii; unfold tx ty at hbni hbnj; unfold tx at hxi
  have Dx := CL.as [(19, (Value.int .i64 (ii : Int))), (16, (bptr A 0)), (15, (Value.int .i64 (kk : Int))), (4, (bptr Z 0))] rfl; clear CL
  refine s_5 mixed Dx Bn 21 [[], [0], [], [], [3], [], [4, 5], [6], [7], [], [9], [], [10, 11], [12], [13], [14], [8, 15], [1, 2, 16], [17], [18], [18]] [(fun (D : Nat → Value) (v_ : Value) (rs_ : List Res) => v_ = (Value.agg #[(Value.int .i64 b.scales), vt, vm]) ∧ rs_ = []), (fun (D : Nat → Value) (v_ : Value) (rs_ : List Res) => ∃ (vt1_vs198 : Value), ∃ (vm1_vs198 : Value), ∃ (lr1_vs198 : Nat → Value), ∃ (lb1_vs198 : Nat → Value), ∃ (lk1_vs198 : Nat → Value), v_ = (Value.agg #[(Value.int .i64 b.scales), vt1_vs198, vm1_vs198]) ∧ rs_ = [(b_6 true vt1_vs198 lr1_vs198 lb1_vs198 b.tabs), (c_0 true vm1_vs198 lk1_vs198 b.macs)]), (fun (D : Nat → Value) (v_ : Value) (rs_ : List Res) => v_ = (Value.int .i64 (kk : Int)) ∧ rs_ = []), (fun (D : Nat → Value) (v_ : Value) (rs_ : List Res) => v_ = (bptr A 2) ∧ rs_ = []), (fun (D : Nat → Value) (v_ : Value) (rs_ : List Res) => v_ = (lr kk) ∧ rs_ = []), (fun (D : Nat → Value) (v_ : Value) (rs_ : List Res) => v_ = (Value.int .i64 (ii : Int)) ∧ rs_ = []), (fun (D : Nat → Value) (v_ : Value) (rs_ : List Res) => v_ = (eptr (lr kk) (ii * 2)) ∧ rs_ = []), (fun (D : Nat → Value) (v_ : Value) (rs_ : List Res) => v_ = (eptr (lr kk) (ii * 2 + 0)) ∧ rs_ = []), (fun (D : Nat → Value) (v_ : Value) (rs_ : List Res) => v_ = (Value.int .i64 ((((b.tabs.getD kk tab0).rows).getD ii (0, 0)).1)) ∧ rs_ = []), (fun (D : Nat → Value) (v_ : Value) (rs_ : List Res) => v_ = (bptr A 2) ∧ rs_ = []), (fun (D : Nat → Value) (v_ : Value) (rs_ : List Res) => v_ = (lr kk) ∧ rs_ = []), (fun (D : Nat → Value) (v_ : Value) (rs_ : List Res) => v_ = (Value.int .i64 (ii : Int)) ∧ rs_ = []), (fun (D : Nat → Value) (v_ : Value) (rs_ : List Res) => v_ = (eptr (lr kk) (ii * 2)) ∧ rs_ = []), (fun (D : Nat → Value) (v_ : Value) (rs_ : List Res) => v_ = (eptr (lr kk) (ii * 2 + 0)) ∧ rs_ = []), (fun (D : Nat → Value) (v_ : Value) (rs_ : List Res) => v_ = (Value.int .i64 ((((b.tabs.getD kk tab0).rows).getD ii (0, 0)).1)) ∧ rs_ = []), (fun (D : Nat → Value) (v_ : Value) (rs_ : List Res) => v_ = (Value.int .i64 (((((b.tabs.getD kk tab0).rows).getD ii (0, 0)).1) + 1)) ∧ rs_ = []), (fun (D : Nat → Value) (v_ : Value) (rs_ : List Res) => v_ = (Value.agg #[(Value.int .i64 ((((b.tabs.getD kk tab0).rows).getD ii (0, 0)).1)), (Value.int .i64 (((((b.tabs.getD kk tab0).rows).getD ii (0, 0)).1) + 1))]) ∧ rs_ = []), (fun (D : Nat → Value) (v_ : Value) (rs_ : List Res) => v_ = (Value.tuple #[(Value.agg #[(Value.int .i64 ((b_7 b (kk : Int) ((((b.tabs.getD kk tab0).rows).getD ii (0, 0)).1, ((((b.tabs.getD kk tab0).rows).getD ii (0, 0)).1) + 1)).1)), (Value.int .i64 ((b_7 b (kk : Int) ((((b.tabs.getD kk tab0).rows).getD ii (0, 0)).1, ((((b.tabs.getD kk tab0).rows).getD ii (0, 0)).1) + 1)).2))]), (Value.int .i64 (e_0 b (kk : Int) ((((b.tabs.getD kk tab0).rows).getD ii (0, 0)).1, ((((b.tabs.getD kk tab0).rows).getD ii (0, 0)).1) + 1)))]) ∧ rs_ = []), (fun (D : Nat → Value) (v_ : Value) (rs_ : List Res) => v_ = (Value.tuple #[(Value.agg #[(Value.int .i64 ((b_7 b (kk : Int) ((((b.tabs.getD kk tab0).rows).getD ii (0, 0)).1, ((((b.tabs.getD kk tab0).rows).getD ii (0, 0)).1) + 1)).1)), (Value.int .i64 ((b_7 b (kk : Int) ((((b.tabs.getD kk tab0).rows).getD ii (0, 0)).1, ((((b.tabs.getD kk tab0).rows).getD ii (0, 0)).1) + 1)).2))]), (Value.int .i64 (e_0 b (kk : Int) ((((b.tabs.getD kk tab0).rows).getD ii (0, 0)).1, ((((b.tabs.getD kk tab0).rows).getD ii (0, 0)).1) + 1)))]) ∧ rs_ = []), (fun (D : Nat → Value) (v_ : Value) (rs_ : List Res) => v_ = (Value.agg #[(Value.int .i64 ((b_7 b (kk : Int) ((((b.tabs.getD kk tab0).rows).getD ii (0, 0)).1, ((((b.tabs.getD kk tab0).rows).getD ii (0, 0)).1) + 1)).1)), (Value.int .i64 ((b_7 b (kk : Int) ((((b.tabs.getD kk tab0).rows).getD ii (0, 0)).1, ((((b.tabs.getD kk tab0).rows).getD ii (0, 0)).1) + 1)).2))]) ∧ rs_ = []), (fun (D : Nat → Value) (v_ : Value) (rs_ : List Res) => v_ = (Value.int .i64 (e_0 b (kk : Int) ((((b.tabs.getD kk tab0).rows).getD ii (0, 0)).1, ((((b.tabs.getD kk tab0).rows).getD ii (0, 0)).1) + 1))) ∧ rs_ = [])] (by decide +kernel) (by decide +kernel) rfl rfl ⟨(fun _ _ _ _ _ h_ => h_), (fun _ _ _ _ _ h_ => h_), (fun _ _ _ _ _ h_ => h_), (fun _ _ _ _ _ h_ => h_), (fun _ _ _ _ _ h_ => h_), (fun _ _ _ _ _ h_ => h_), (fun _ _ _ _ _ h_ => h_), (fun _ _ _ _ _ h_ => h_), (fun _ _ _ _ _ h_ => h_), (fun _ _ _ _ _ h_ => h_), (fun _ _ _ _ _ h_ => h_), (fun _ _ _ _ _ h_ => h_), (fun _ _ _ _ _ h_ => h_), (fun _ _ _ _ _ h_ => h_), (fun _ _ _ _ _ h_ => h_), (fun _ _ _ _ _ h_ => h_), (fun _ _ _ _ _ h_ => h_), (fun _ _ _ _ _ h_ => h_), (fun _ _ _ _ _ h_ => h_), (fun _ _ _ _ _ h_ => h_), (fun _ _ _ _ _ h_ => h_), trivial⟩ ?_ ?_
  ·skip
   refine ⟨fun a w D hA hS hd => gv1 (c_5 rfl x_0 (hA.ev rfl) (hS.bk 7 rfl) (l := [(Value.int .i64 b.scales), vt, vm]) rfl rfl), ?_⟩
   refine ⟨fun a w D hA hS hd => d_6 rfl (vn (b_0 rfl aa_2 (ev1 (gu hd 0)) (q_9 b vt vm lr lb lk _ (a_6 (hS.ok 8 _ rfl)) (c_3 (hS.ok 9 _ rfl)) hth)) (fun v w' h => by obtain ⟨vt, vm, lr, lb, lk, rfl, hT⟩ := h; exact ⟨_, ⟨vt, vm, lr, lb, lk, rfl, rfl⟩, hT, rfl⟩)), ?_⟩
   refine ⟨fun a w D hA hS hd => gv1 (a_1 rfl (hA.ev rfl)), ?_⟩
   refine ⟨fun a w D hA hS hd => gv1 (a_4 rfl f_4 (hA.ev rfl)), ?_⟩
   refine ⟨fun a w D hA hS hd => gv1 (a_3 rfl k_1 (gu hd 3) (hS.bk 3 rfl) rfl), ?_⟩
   refine ⟨fun a w D hA hS hd => gv1 (a_1 rfl (hA.ev rfl)), ?_⟩
   refine ⟨fun a w D hA hS hd => gv1 (b_3 rfl k_2 m_6 (gu hd 4) (i := ii) (gu hd 5) ((a_6 (hS.ok 8 _ rfl)).row (i := kk) (by omega)) (by decide) (by omega)), ?_⟩
   refine ⟨fun a w D hA hS hd => gv1 (c_8 rfl h_9 (gu hd 6) ((a_6 (hS.ok 8 _ rfl)).row (i := kk) (by omega)) (by rw [(((a_6 (hS.ok 8 _ rfl)).row (i := kk) (by omega))).1]; omega)), ?_⟩
   refine ⟨fun a w D hA hS hd => gv1 (c_2 rfl ty_3 (gu hd 7) ((a_6 (hS.ok 8 _ rfl)).row (i := kk) (by omega)) (e_5 (by omega))), ?_⟩
   refine ⟨fun a w D hA hS hd => gv1 (a_4 rfl f_4 (hA.ev rfl)), ?_⟩
   refine ⟨fun a w D hA hS hd => gv1 (a_3 rfl k_1 (gu hd 9) (hS.bk 3 rfl) rfl), ?_⟩
   refine ⟨fun a w D hA hS hd => gv1 (a_1 rfl (hA.ev rfl)), ?_⟩
   refine ⟨fun a w D hA hS hd => gv1 (b_3 rfl k_2 m_6 (gu hd 10) (i := ii) (gu hd 11) ((a_6 (hS.ok 8 _ rfl)).row (i := kk) (by omega)) (by decide) (by omega)), ?_⟩
   refine ⟨fun a w D hA hS hd => gv1 (c_8 rfl h_9 (gu hd 12) ((a_6 (hS.ok 8 _ rfl)).row (i := kk) (by omega)) (by rw [(((a_6 (hS.ok 8 _ rfl)).row (i := kk) (by omega))).1]; omega)), ?_⟩
   refine ⟨fun a w D hA hS hd => gv1 (c_2 rfl ty_3 (gu hd 13) ((a_6 (hS.ok 8 _ rfl)).row (i := kk) (by omega)) (e_5 (by omega))), ?_⟩
   refine ⟨fun a w D hA hS hd => gv1 (g_0 rfl (gu hd 14) (evc _ _) (by omega) (by omega)), ?_⟩
   refine ⟨fun a w D hA hS hd => gx1 (b_0 rfl v_2 (ev2 (gu hd 8) (gu hd 15)) (g_4 _ _ _)), ?_⟩
   refine ⟨fun a w D hA hS hd => ?_, ?_⟩
   ·skip
    obtain ⟨e1, Ez, BP, BE⟩ := hd 1 (by decide)
    obtain ⟨vt1_vs198, vm1_vs198, lr1_vs198, lb1_vs198, lk1_vs198, BO, BN⟩ := BP; subst BN
    rw [BO] at e1
    have hp1_0 := BE _ (List.mem_of_getElem? (i := 0) rfl)
    have hp1_1 := BE _ (List.mem_of_getElem? (i := 1) rfl)
    exact gx1 (b_0 rfl aa_7 (ev3 (c_9 (d_4 e1 rfl)) (gu hd 2) (gu hd 16)) (k_7 b vt1_vs198 vm1_vs198 lr1_vs198 lb1_vs198 lk1_vs198 _ (a_6 hp1_0) (c_3 hp1_1) hth (kk : Int) ((((b.tabs.getD kk tab0).rows).getD ii (0, 0)).1) (((((b.tabs.getD kk tab0).rows).getD ii (0, 0)).1) + 1)))
   refine ⟨fun a w D hA hS hd => gv1 (a_1 rfl (gu hd 17)), ?_⟩
   refine ⟨fun a w D hA hS hd => gv1 (c_6 rfl (gu hd 18) rfl), ?_⟩
   refine ⟨fun a w D hA hS hd => gv1 (c_6 rfl (gu hd 18) rfl), ?_⟩
   trivial
  intro E0 Gy D rsf204 Dy S DE; clear Dx Bn
  obtain ⟨Ae, Ay⟩ := S 0 (by decide)
  obtain ⟨Ao, o⟩ := Ay
  obtain ⟨Af, Az⟩ := S 1 (by decide)
  obtain ⟨vt1_vs198, vm1_vs198, lr1_vs198, lb1_vs198, lk1_vs198, Ap, p⟩ := Az
  obtain ⟨Ag, A0⟩ := S 2 (by decide)
  obtain ⟨Aq, q⟩ := A0
  obtain ⟨Ah, A1⟩ := S 3 (by decide)
  obtain ⟨Ar, r⟩ := A1
  obtain ⟨Ai, A2⟩ := S 4 (by decide)
  obtain ⟨As, s⟩ := A2
  obtain ⟨Aj, A3⟩ := S 5 (by decide)
  obtain ⟨At, t⟩ := A3
  obtain ⟨Ak, A4⟩ := S 6 (by decide)
  obtain ⟨Au, u⟩ := A4
  obtain ⟨Al, A5⟩ := S 7 (by decide)
  obtain ⟨Av, z⟩ := A5
  obtain ⟨Am, A6⟩ := S 8 (by decide)
  obtain ⟨Aw, AA⟩ := A6
  obtain ⟨An, A7⟩ := S 9 (by decide)
  obtain ⟨Ax, AB⟩ := A7
  obtain ⟨AI, AV⟩ := S 10 (by decide)
  obtain ⟨AO, H⟩ := AV
  obtain ⟨AJ, AW⟩ := S 11 (by decide)
  obtain ⟨AP, I⟩ := AW
  obtain ⟨AK, AX⟩ := S 12 (by decide)
  obtain ⟨AQ, J⟩ := AX
  obtain ⟨AL, AY⟩ := S 13 (by decide)
  obtain ⟨AR, K⟩ := AY
  obtain ⟨AM, AZ⟩ := S 14 (by decide)
  obtain ⟨AS, L⟩ := AZ
  obtain ⟨AN, Aa⟩ := S 15 (by decide)
  obtain ⟨AT, M⟩ := Aa
  obtain ⟨AF, Ab⟩ := S 16 (by decide)
  obtain ⟨AH, N⟩ := Ab
  obtain ⟨P, Ac⟩ := S 17 (by decide)
  obtain ⟨g, O⟩ := Ac
  obtain ⟨Q, Ad⟩ := S 18 (by decide)
  obtain ⟨AC, e⟩ := Ad
  obtain ⟨f, A8⟩ := S 19 (by decide)
  obtain ⟨AU, AD⟩ := A8
  obtain ⟨R, A9⟩ := S 20 (by decide)
  obtain ⟨AG, AE⟩ := A9
  have DF : Sep NoB w Gy [(b_6 true vt1_vs198 lr1_vs198 lb1_vs198 b.tabs), (c_0 true vm1_vs198 lk1_vs198 b.macs), (b_6 true vt1_ lr1_ lb1_ b.tabs), (c_0 true vm1_ lk1_ b.macs), (blk b19_ 30 [(Value.int .i64 ((b_7 b (kk : Int) (((((b.tabs.getD kk tab0).rows).getD 0 (0, 0)).1) - 1, (((b.tabs.getD kk tab0).rows).getD 0 (0, 0)).1)).1)), (Value.int .i64 ((b_7 b (kk : Int) (((((b.tabs.getD kk tab0).rows).getD 0 (0, 0)).1) - 1, (((b.tabs.getD kk tab0).rows).getD 0 (0, 0)).1)).2))]), (blk A 46 [(Value.int .i64 ((b.tabs.getD kk tab0).frm)), (Value.int .i64 ((b.tabs.getD kk tab0).dst)), (lr kk), (lb kk), (Value.int .i64 ((b.tabs.getD kk tab0).err))]), (row BA 98 2 l.length (pairs l)), (b_6 true vt26 lr28 lb29 b.tabs), (c_0 true vm27 lk30 b.macs), (blk Z 25 [(Value.int .i64 b.scales), vt, vm]), (b_6 false vt lr lb b.tabs), (c_0 false vm lk b.macs), (sl xl 2 l.length (pairs l))] := by rw [show catR rsf204 0 21 = ([(b_6 true vt1_vs198 lr1_vs198 lb1_vs198 b.tabs), (c_0 true vm1_vs198 lk1_vs198 b.macs)] : List Res) by (try simp only [catR, o, p, q, r, s, t, u, z, AA, AB, H, I, J, K, L, M, N, O, e, AD, AE]); (try rfl)] at DE; exact DE
  rw [AG] at R
  have CM : Fr 197 [] [(167, (Value.int .i64 (e_0 b (kk : Int) ((((b.tabs.getD kk tab0).rows).getD ii (0, 0)).1, ((((b.tabs.getD kk tab0).rows).getD ii (0, 0)).1) + 1)))), (19, (Value.int .i64 (ii : Int))), (16, (bptr A 0)), (15, (Value.int .i64 (kk : Int))), (4, (bptr Z 0))] E0 := Dy.add (d_4 R rfl); clear Dy
  clear S DE Ae Af Ag Ah Ai Aj Ak Al Am An AI AJ AK AL AM AN AF P Q f R
  clear o
  clear Ao
  clear p
  clear Ap
  clear q
  clear Aq
  clear r
  clear Ar
  clear s
  clear As
  clear t
  clear At
  clear u
  clear Au
  clear z
  clear Av
  clear AA
  clear Aw
  clear AB
  clear Ax
  clear H
  clear AO
  clear I
  clear AP
  clear J
  clear AQ
  clear K
  clear AR
  clear L
  clear AS
  clear M
  clear AT
  clear N
  clear AH
  clear O
  clear g
  clear e
  clear AC
  clear AD
  clear AU
  clear AE
  clear AG
  refine s1 CM (a_0 rfl (CM.ev rfl)) fun Hi Dz => ?_; clear CM E0
  refine n2 ?_
  have CN := Dz.as [(18, (Value.int .i64 (e_0 b (kk : Int) ((((b.tabs.getD kk tab0).rows).getD ii (0, 0)).1, ((((b.tabs.getD kk tab0).rows).getD ii (0, 0)).1) + 1)))), (19, (Value.int .i64 (ii : Int))), (16, (bptr A 0)), (15, (Value.int .i64 (kk : Int))), (4, (bptr Z 0))] rfl; clear Dz
  refine y_2 mixed CN DF 21 19 rfl rfl [[], [0], [], [], [3], [], [4, 5], [6], [7], [], [9], [], [10, 11], [12], [13], [8, 14], [1, 2, 15], [16], [17], [17], []] [(fun (B : Nat → Value) (v_ : Value) (rs_ : List Res) => v_ = (Value.agg #[(Value.int .i64 b.scales), vt, vm]) ∧ rs_ = []), (fun (B : Nat → Value) (v_ : Value) (rs_ : List Res) => ∃ (vt1_vs210 : Value), ∃ (vm1_vs210 : Value), ∃ (lr1_vs210 : Nat → Value), ∃ (lb1_vs210 : Nat → Value), ∃ (lk1_vs210 : Nat → Value), v_ = (Value.agg #[(Value.int .i64 b.scales), vt1_vs210, vm1_vs210]) ∧ rs_ = [(b_6 true vt1_vs210 lr1_vs210 lb1_vs210 b.tabs), (c_0 true vm1_vs210 lk1_vs210 b.macs)]), (fun (B : Nat → Value) (v_ : Value) (rs_ : List Res) => v_ = (Value.int .i64 (kk : Int)) ∧ rs_ = []), (fun (B : Nat → Value) (v_ : Value) (rs_ : List Res) => v_ = (bptr A 2) ∧ rs_ = []), (fun (B : Nat → Value) (v_ : Value) (rs_ : List Res) => v_ = (lr kk) ∧ rs_ = []), (fun (B : Nat → Value) (v_ : Value) (rs_ : List Res) => v_ = (Value.int .i64 (ii : Int)) ∧ rs_ = []), (fun (B : Nat → Value) (v_ : Value) (rs_ : List Res) => v_ = (eptr (lr kk) (ii * 2)) ∧ rs_ = []), (fun (B : Nat → Value) (v_ : Value) (rs_ : List Res) => v_ = (eptr (lr kk) (ii * 2 + 0)) ∧ rs_ = []), (fun (B : Nat → Value) (v_ : Value) (rs_ : List Res) => v_ = (Value.int .i64 ((((b.tabs.getD kk tab0).rows).getD ii (0, 0)).1)) ∧ rs_ = []), (fun (B : Nat → Value) (v_ : Value) (rs_ : List Res) => v_ = (bptr A 2) ∧ rs_ = []), (fun (B : Nat → Value) (v_ : Value) (rs_ : List Res) => v_ = (lr kk) ∧ rs_ = []), (fun (B : Nat → Value) (v_ : Value) (rs_ : List Res) => v_ = (Value.int .i64 (ii : Int)) ∧ rs_ = []), (fun (B : Nat → Value) (v_ : Value) (rs_ : List Res) => v_ = (eptr (lr kk) (ii * 2)) ∧ rs_ = []), (fun (B : Nat → Value) (v_ : Value) (rs_ : List Res) => v_ = (eptr (lr kk) (ii * 2 + 0)) ∧ rs_ = []), (fun (B : Nat → Value) (v_ : Value) (rs_ : List Res) => v_ = (Value.int .i64 ((((b.tabs.getD kk tab0).rows).getD ii (0, 0)).1)) ∧ rs_ = []), (fun (B : Nat → Value) (v_ : Value) (rs_ : List Res) => v_ = (Value.agg #[(Value.int .i64 ((((b.tabs.getD kk tab0).rows).getD ii (0, 0)).1)), (Value.int .i64 ((((b.tabs.getD kk tab0).rows).getD ii (0, 0)).1))]) ∧ rs_ = []), (fun (B : Nat → Value) (v_ : Value) (rs_ : List Res) => v_ = (Value.tuple #[(Value.agg #[(Value.int .i64 ((b_7 b (kk : Int) ((((b.tabs.getD kk tab0).rows).getD ii (0, 0)).1, (((b.tabs.getD kk tab0).rows).getD ii (0, 0)).1)).1)), (Value.int .i64 ((b_7 b (kk : Int) ((((b.tabs.getD kk tab0).rows).getD ii (0, 0)).1, (((b.tabs.getD kk tab0).rows).getD ii (0, 0)).1)).2))]), (Value.int .i64 (e_0 b (kk : Int) ((((b.tabs.getD kk tab0).rows).getD ii (0, 0)).1, (((b.tabs.getD kk tab0).rows).getD ii (0, 0)).1)))]) ∧ rs_ = []), (fun (B : Nat → Value) (v_ : Value) (rs_ : List Res) => v_ = (Value.tuple #[(Value.agg #[(Value.int .i64 ((b_7 b (kk : Int) ((((b.tabs.getD kk tab0).rows).getD ii (0, 0)).1, (((b.tabs.getD kk tab0).rows).getD ii (0, 0)).1)).1)), (Value.int .i64 ((b_7 b (kk : Int) ((((b.tabs.getD kk tab0).rows).getD ii (0, 0)).1, (((b.tabs.getD kk tab0).rows).getD ii (0, 0)).1)).2))]), (Value.int .i64 (e_0 b (kk : Int) ((((b.tabs.getD kk tab0).rows).getD ii (0, 0)).1, (((b.tabs.getD kk tab0).rows).getD ii (0, 0)).1)))]) ∧ rs_ = []), (fun (B : Nat → Value) (v_ : Value) (rs_ : List Res) => v_ = (Value.agg #[(Value.int .i64 ((b_7 b (kk : Int) ((((b.tabs.getD kk tab0).rows).getD ii (0, 0)).1, (((b.tabs.getD kk tab0).rows).getD ii (0, 0)).1)).1)), (Value.int .i64 ((b_7 b (kk : Int) ((((b.tabs.getD kk tab0).rows).getD ii (0, 0)).1, (((b.tabs.getD kk tab0).rows).getD ii (0, 0)).1)).2))]) ∧ rs_ = []), (fun (B : Nat → Value) (v_ : Value) (rs_ : List Res) => v_ = (Value.int .i64 (e_0 b (kk : Int) ((((b.tabs.getD kk tab0).rows).getD ii (0, 0)).1, (((b.tabs.getD kk tab0).rows).getD ii (0, 0)).1))) ∧ rs_ = []), (fun (B : Nat → Value) (v_ : Value) (rs_ : List Res) => ∃ (b20_ : Nat), v_ = (bptr b20_ 0) ∧ rs_ = [(blk b20_ 30 [(Value.int .i64 0), (Value.int .i64 0)])])] (by decide +kernel) (by decide +kernel) (by decide +kernel) rfl rfl ⟨(fun _ _ _ _ _ h_ => h_), (fun _ _ _ _ _ h_ => h_), (fun _ _ _ _ _ h_ => h_), (fun _ _ _ _ _ h_ => h_), (fun _ _ _ _ _ h_ => h_), (fun _ _ _ _ _ h_ => h_), (fun _ _ _ _ _ h_ => h_), (fun _ _ _ _ _ h_ => h_), (fun _ _ _ _ _ h_ => h_), (fun _ _ _ _ _ h_ => h_), (fun _ _ _ _ _ h_ => h_), (fun _ _ _ _ _ h_ => h_), (fun _ _ _ _ _ h_ => h_), (fun _ _ _ _ _ h_ => h_), (fun _ _ _ _ _ h_ => h_), (fun _ _ _ _ _ h_ => h_), (fun _ _ _ _ _ h_ => h_), (fun _ _ _ _ _ h_ => h_), (fun _ _ _ _ _ h_ => h_), (fun _ _ _ _ _ h_ => h_), (fun _ _ _ _ _ h_ => h_), trivial⟩ ?_ ?_ ?_
  ·skip
   refine ⟨fun a w B hA hS hd => gv1 (c_5 rfl x_0 (hA.ev rfl) (hS.bk 9 rfl) (l := [(Value.int .i64 b.scales), vt, vm]) rfl rfl), ?_⟩
   refine ⟨fun a w B hA hS hd => d_6 rfl (vn (b_0 rfl aa_2 (ev1 (gu hd 0)) (q_9 b vt vm lr lb lk _ (a_6 (hS.ok 10 _ rfl)) (c_3 (hS.ok 11 _ rfl)) hth)) (fun v w' h => by obtain ⟨vt, vm, lr, lb, lk, rfl, hT⟩ := h; exact ⟨_, ⟨vt, vm, lr, lb, lk, rfl, rfl⟩, hT, rfl⟩)), ?_⟩
   refine ⟨fun a w B hA hS hd => gv1 (a_1 rfl (hA.ev rfl)), ?_⟩
   refine ⟨fun a w B hA hS hd => gv1 (a_4 rfl f_4 (hA.ev rfl)), ?_⟩
   refine ⟨fun a w B hA hS hd => gv1 (a_3 rfl k_1 (gu hd 3) (hS.bk 5 rfl) rfl), ?_⟩
   refine ⟨fun a w B hA hS hd => gv1 (a_1 rfl (hA.ev rfl)), ?_⟩
   refine ⟨fun a w B hA hS hd => gv1 (b_3 rfl k_2 m_6 (gu hd 4) (i := ii) (gu hd 5) ((a_6 (hS.ok 10 _ rfl)).row (i := kk) (by omega)) (by decide) (by omega)), ?_⟩
   refine ⟨fun a w B hA hS hd => gv1 (c_8 rfl h_9 (gu hd 6) ((a_6 (hS.ok 10 _ rfl)).row (i := kk) (by omega)) (by rw [(((a_6 (hS.ok 10 _ rfl)).row (i := kk) (by omega))).1]; omega)), ?_⟩
   refine ⟨fun a w B hA hS hd => gv1 (c_2 rfl ty_3 (gu hd 7) ((a_6 (hS.ok 10 _ rfl)).row (i := kk) (by omega)) (e_5 (by omega))), ?_⟩
   refine ⟨fun a w B hA hS hd => gv1 (a_4 rfl f_4 (hA.ev rfl)), ?_⟩
   refine ⟨fun a w B hA hS hd => gv1 (a_3 rfl k_1 (gu hd 9) (hS.bk 5 rfl) rfl), ?_⟩
   refine ⟨fun a w B hA hS hd => gv1 (a_1 rfl (hA.ev rfl)), ?_⟩
   refine ⟨fun a w B hA hS hd => gv1 (b_3 rfl k_2 m_6 (gu hd 10) (i := ii) (gu hd 11) ((a_6 (hS.ok 10 _ rfl)).row (i := kk) (by omega)) (by decide) (by omega)), ?_⟩
   refine ⟨fun a w B hA hS hd => gv1 (c_8 rfl h_9 (gu hd 12) ((a_6 (hS.ok 10 _ rfl)).row (i := kk) (by omega)) (by rw [(((a_6 (hS.ok 10 _ rfl)).row (i := kk) (by omega))).1]; omega)), ?_⟩
   refine ⟨fun a w B hA hS hd => gv1 (c_2 rfl ty_3 (gu hd 13) ((a_6 (hS.ok 10 _ rfl)).row (i := kk) (by omega)) (e_5 (by omega))), ?_⟩
   refine ⟨fun a w B hA hS hd => gx1 (b_0 rfl v_2 (ev2 (gu hd 8) (gu hd 14)) (g_4 _ _ _)), ?_⟩
   refine ⟨fun a w B hA hS hd => ?_, ?_⟩
   ·skip
    obtain ⟨e1, Ez, BP, BE⟩ := hd 1 (by decide)
    obtain ⟨vt1_vs210, vm1_vs210, lr1_vs210, lb1_vs210, lk1_vs210, BO, BN⟩ := BP; subst BN
    rw [BO] at e1
    have hp1_0 := BE _ (List.mem_of_getElem? (i := 0) rfl)
    have hp1_1 := BE _ (List.mem_of_getElem? (i := 1) rfl)
    exact gx1 (b_0 rfl aa_7 (ev3 (c_9 (d_4 e1 rfl)) (gu hd 2) (gu hd 15)) (k_7 b vt1_vs210 vm1_vs210 lr1_vs210 lb1_vs210 lk1_vs210 _ (a_6 hp1_0) (c_3 hp1_1) hth (kk : Int) ((((b.tabs.getD kk tab0).rows).getD ii (0, 0)).1) ((((b.tabs.getD kk tab0).rows).getD ii (0, 0)).1)))
   refine ⟨fun a w B hA hS hd => gv1 (a_1 rfl (gu hd 16)), ?_⟩
   refine ⟨fun a w B hA hS hd => gv1 (c_6 rfl (gu hd 17) rfl), ?_⟩
   refine ⟨fun a w B hA hS hd => gv1 (c_6 rfl (gu hd 17) rfl), ?_⟩
   refine ⟨fun a w B hA hS hd => d_6 rfl (valloc rfl t_5 (cs := [(Value.int .i64 0), (Value.int .i64 0)]) rfl (fun b_ => ⟨b_, rfl, rfl⟩)), ?_⟩
   trivial
  ·skip
   intro Bu Gz B rsf216 D0 T DG; clear CN DF
   obtain ⟨Ae, Ay⟩ := T 0 (by decide)
   obtain ⟨Ao, o⟩ := Ay
   obtain ⟨Af, Az⟩ := T 1 (by decide)
   obtain ⟨vt1_vs210, vm1_vs210, lr1_vs210, lb1_vs210, lk1_vs210, Ap, p⟩ := Az
   obtain ⟨Ag, A0⟩ := T 2 (by decide)
   obtain ⟨Aq, q⟩ := A0
   obtain ⟨Ah, A1⟩ := T 3 (by decide)
   obtain ⟨Ar, r⟩ := A1
   obtain ⟨Ai, A2⟩ := T 4 (by decide)
   obtain ⟨As, s⟩ := A2
   obtain ⟨Aj, A3⟩ := T 5 (by decide)
   obtain ⟨At, t⟩ := A3
   obtain ⟨Ak, A4⟩ := T 6 (by decide)
   obtain ⟨Au, u⟩ := A4
   obtain ⟨Al, A5⟩ := T 7 (by decide)
   obtain ⟨Av, z⟩ := A5
   obtain ⟨Am, A6⟩ := T 8 (by decide)
   obtain ⟨Aw, AA⟩ := A6
   obtain ⟨An, A7⟩ := T 9 (by decide)
   obtain ⟨Ax, AB⟩ := A7
   obtain ⟨AI, AV⟩ := T 10 (by decide)
   obtain ⟨AO, H⟩ := AV
   obtain ⟨AJ, AW⟩ := T 11 (by decide)
   obtain ⟨AP, I⟩ := AW
   obtain ⟨AK, AX⟩ := T 12 (by decide)
   obtain ⟨AQ, J⟩ := AX
   obtain ⟨AL, AY⟩ := T 13 (by decide)
   obtain ⟨AR, K⟩ := AY
   obtain ⟨AM, AZ⟩ := T 14 (by decide)
   obtain ⟨AS, L⟩ := AZ
   obtain ⟨AN, Aa⟩ := T 15 (by decide)
   obtain ⟨AT, M⟩ := Aa
   obtain ⟨AF, Ab⟩ := T 16 (by decide)
   obtain ⟨AH, N⟩ := Ab
   obtain ⟨P, Ac⟩ := T 17 (by decide)
   obtain ⟨g, O⟩ := Ac
   obtain ⟨Q, Ad⟩ := T 18 (by decide)
   obtain ⟨AC, e⟩ := Ad
   obtain ⟨f, A8⟩ := T 19 (by decide)
   obtain ⟨AU, AD⟩ := A8
   obtain ⟨R, A9⟩ := T 20 (by decide)
   obtain ⟨b20_, AG, AE⟩ := A9
   have Ej : Sep NoB w Gz [(b_6 true vt1_vs210 lr1_vs210 lb1_vs210 b.tabs), (c_0 true vm1_vs210 lk1_vs210 b.macs), (blk b20_ 30 [(Value.int .i64 0), (Value.int .i64 0)]), (b_6 true vt1_vs198 lr1_vs198 lb1_vs198 b.tabs), (c_0 true vm1_vs198 lk1_vs198 b.macs), (b_6 true vt1_ lr1_ lb1_ b.tabs), (c_0 true vm1_ lk1_ b.macs), (blk b19_ 30 [(Value.int .i64 ((b_7 b (kk : Int) (((((b.tabs.getD kk tab0).rows).getD 0 (0, 0)).1) - 1, (((b.tabs.getD kk tab0).rows).getD 0 (0, 0)).1)).1)), (Value.int .i64 ((b_7 b (kk : Int) (((((b.tabs.getD kk tab0).rows).getD 0 (0, 0)).1) - 1, (((b.tabs.getD kk tab0).rows).getD 0 (0, 0)).1)).2))]), (blk A 46 [(Value.int .i64 ((b.tabs.getD kk tab0).frm)), (Value.int .i64 ((b.tabs.getD kk tab0).dst)), (lr kk), (lb kk), (Value.int .i64 ((b.tabs.getD kk tab0).err))]), (row BA 98 2 l.length (pairs l)), (b_6 true vt26 lr28 lb29 b.tabs), (c_0 true vm27 lk30 b.macs), (blk Z 25 [(Value.int .i64 b.scales), vt, vm]), (b_6 false vt lr lb b.tabs), (c_0 false vm lk b.macs), (sl xl 2 l.length (pairs l))] := by rw [show catR rsf216 0 21 = ([(b_6 true vt1_vs210 lr1_vs210 lb1_vs210 b.tabs), (c_0 true vm1_vs210 lk1_vs210 b.macs), (blk b20_ 30 [(Value.int .i64 0), (Value.int .i64 0)])] : List Res) by (try simp only [catR, o, p, q, r, s, t, u, z, AA, AB, H, I, J, K, L, M, N, O, e, AD, AE]); (try rfl)] at DG; exact DG
   rw [AC] at Q
   have D1 : Fr 197 [] [(186, (Value.agg #[(Value.int .i64 ((b_7 b (kk : Int) ((((b.tabs.getD kk tab0).rows).getD ii (0, 0)).1, (((b.tabs.getD kk tab0).rows).getD ii (0, 0)).1)).1)), (Value.int .i64 ((b_7 b (kk : Int) ((((b.tabs.getD kk tab0).rows).getD ii (0, 0)).1, (((b.tabs.getD kk tab0).rows).getD ii (0, 0)).1)).2))])), (18, (Value.int .i64 (e_0 b (kk : Int) ((((b.tabs.getD kk tab0).rows).getD ii (0, 0)).1, ((((b.tabs.getD kk tab0).rows).getD ii (0, 0)).1) + 1)))), (19, (Value.int .i64 (ii : Int))), (16, (bptr A 0)), (15, (Value.int .i64 (kk : Int))), (4, (bptr Z 0))] Bu := D0.add (d_4 Q rfl); clear D0
   rw [AU] at f
   have D2 : Fr 197 [] [(187, (Value.int .i64 (e_0 b (kk : Int) ((((b.tabs.getD kk tab0).rows).getD ii (0, 0)).1, (((b.tabs.getD kk tab0).rows).getD ii (0, 0)).1)))), (186, (Value.agg #[(Value.int .i64 ((b_7 b (kk : Int) ((((b.tabs.getD kk tab0).rows).getD ii (0, 0)).1, (((b.tabs.getD kk tab0).rows).getD ii (0, 0)).1)).1)), (Value.int .i64 ((b_7 b (kk : Int) ((((b.tabs.getD kk tab0).rows).getD ii (0, 0)).1, (((b.tabs.getD kk tab0).rows).getD ii (0, 0)).1)).2))])), (18, (Value.int .i64 (e_0 b (kk : Int) ((((b.tabs.getD kk tab0).rows).getD ii (0, 0)).1, ((((b.tabs.getD kk tab0).rows).getD ii (0, 0)).1) + 1)))), (19, (Value.int .i64 (ii : Int))), (16, (bptr A 0)), (15, (Value.int .i64 (kk : Int))), (4, (bptr Z 0))] Bu := D1.add (d_4 f rfl); clear D1
   rw [AG] at R
   have BX : Fr 197 [] [(20, (bptr b20_ 0)), (187, (Value.int .i64 (e_0 b (kk : Int) ((((b.tabs.getD kk tab0).rows).getD ii (0, 0)).1, (((b.tabs.getD kk tab0).rows).getD ii (0, 0)).1)))), (186, (Value.agg #[(Value.int .i64 ((b_7 b (kk : Int) ((((b.tabs.getD kk tab0).rows).getD ii (0, 0)).1, (((b.tabs.getD kk tab0).rows).getD ii (0, 0)).1)).1)), (Value.int .i64 ((b_7 b (kk : Int) ((((b.tabs.getD kk tab0).rows).getD ii (0, 0)).1, (((b.tabs.getD kk tab0).rows).getD ii (0, 0)).1)).2))])), (18, (Value.int .i64 (e_0 b (kk : Int) ((((b.tabs.getD kk tab0).rows).getD ii (0, 0)).1, ((((b.tabs.getD kk tab0).rows).getD ii (0, 0)).1) + 1)))), (19, (Value.int .i64 (ii : Int))), (16, (bptr A 0)), (15, (Value.int .i64 (kk : Int))), (4, (bptr Z 0))] Bu := D2.add (d_4 R rfl); clear D2
   clear T DG Ae Af Ag Ah Ai Aj Ak Al Am An AI AJ AK AL AM AN AF P Q f R
   clear o
   clear Ao
   clear p
   clear Ap
   clear q
   clear Aq
   clear r
   clear Ar
   clear s
   clear As
   clear t
   clear At
   clear u
   clear Au
   clear z
   clear Av
   clear AA
   clear Aw
   clear AB
   clear Ax
   clear H
   clear AO
   clear I
   clear AP
   clear J
   clear AQ
   clear K
   clear AR
   clear L
   clear AS
   clear M
   clear AT
   clear N
   clear AH
   clear O
   clear g
   clear e
   clear AC
   clear AD
   clear AU
   clear AE
   clear AG
   refine s7 BX (c_1 Ej rfl f_5 (BX.ev rfl) (BX.ev rfl) (i := 2) rfl (vs := [(Value.int .i64 ((b_7 b (kk : Int) ((((b.tabs.getD kk tab0).rows).getD ii (0, 0)).1, (((b.tabs.getD kk tab0).rows).getD ii (0, 0)).1)).1)), (Value.int .i64 ((b_7 b (kk : Int) ((((b.tabs.getD kk tab0).rows).getD ii (0, 0)).1, (((b.tabs.getD kk tab0).rows).getD ii (0, 0)).1)).2))]) rfl rfl rfl (Nat.le_of_ble_eq_true rfl)) ?_
   intro _ G0 Ek CO; clear BX
   have El : Sep NoB w G0 [(b_6 true vt1_vs210 lr1_vs210 lb1_vs210 b.tabs), (c_0 true vm1_vs210 lk1_vs210 b.macs), (blk b20_ 30 [(Value.int .i64 ((b_7 b (kk : Int) ((((b.tabs.getD kk tab0).rows).getD ii (0, 0)).1, (((b.tabs.getD kk tab0).rows).getD ii (0, 0)).1)).1)), (Value.int .i64 ((b_7 b (kk : Int) ((((b.tabs.getD kk tab0).rows).getD ii (0, 0)).1, (((b.tabs.getD kk tab0).rows).getD ii (0, 0)).1)).2))]), (b_6 true vt1_vs198 lr1_vs198 lb1_vs198 b.tabs), (c_0 true vm1_vs198 lk1_vs198 b.macs), (b_6 true vt1_ lr1_ lb1_ b.tabs), (c_0 true vm1_ lk1_ b.macs), (blk b19_ 30 [(Value.int .i64 ((b_7 b (kk : Int) (((((b.tabs.getD kk tab0).rows).getD 0 (0, 0)).1) - 1, (((b.tabs.getD kk tab0).rows).getD 0 (0, 0)).1)).1)), (Value.int .i64 ((b_7 b (kk : Int) (((((b.tabs.getD kk tab0).rows).getD 0 (0, 0)).1) - 1, (((b.tabs.getD kk tab0).rows).getD 0 (0, 0)).1)).2))]), (blk A 46 [(Value.int .i64 ((b.tabs.getD kk tab0).frm)), (Value.int .i64 ((b.tabs.getD kk tab0).dst)), (lr kk), (lb kk), (Value.int .i64 ((b.tabs.getD kk tab0).err))]), (row BA 98 2 l.length (pairs l)), (b_6 true vt26 lr28 lb29 b.tabs), (c_0 true vm27 lk30 b.macs), (blk Z 25 [(Value.int .i64 b.scales), vt, vm]), (b_6 false vt lr lb b.tabs), (c_0 false vm lk b.macs), (sl xl 2 l.length (pairs l))] := Ek; clear Ek Ej
   refine s1 CO (a_0 rfl (CO.ev rfl)) fun Fz D3 => ?_; clear CO Bu
   refine n2 ?_
   have CP := D3.as [(21, (Value.int .i64 (e_0 b (kk : Int) ((((b.tabs.getD kk tab0).rows).getD ii (0, 0)).1, (((b.tabs.getD kk tab0).rows).getD ii (0, 0)).1)))), (18, (Value.int .i64 (e_0 b (kk : Int) ((((b.tabs.getD kk tab0).rows).getD ii (0, 0)).1, ((((b.tabs.getD kk tab0).rows).getD ii (0, 0)).1) + 1))))] rfl; clear D3
   refine a_5 ?_
   refine s1 CP (a_1 rfl (CP.ev rfl)) fun F0 CQ => ?_; clear CP Fz
   refine s1 CQ (i_8 rfl (CQ.ev rfl) (evc _ _)) fun F1 BY => ?_; clear CQ F0
   have FN : (e_0 b (kk : Int) ((((b.tabs.getD kk tab0).rows).getD ii (0, 0)).1, ((((b.tabs.getD kk tab0).rows).getD ii (0, 0)).1) + 1)) = 10 := (by first | exact m_4 hc hb_kk | exact m_3 hc hb_kk hi_ii hm_ii)
   rw [decide_eq_true FN] at BY
   refine s1 BY (a_1 rfl (BY.ev rfl)) fun F2 CR => ?_; clear BY F1
   refine s5 CR (a_1 rfl (CR.ev rfl)) fun F3 CS => ?_; clear CR F2
   refine s5 CS (i_8 rfl (CS.ev rfl) (evc _ _)) fun F4 BJ => ?_; clear CS F3
   have FO : (e_0 b (kk : Int) ((((b.tabs.getD kk tab0).rows).getD ii (0, 0)).1, (((b.tabs.getD kk tab0).rows).getD ii (0, 0)).1)) = 0 := (t_6 hc hb_kk hi_ii)
   rw [decide_eq_true FO] at BJ
   refine s1 BJ (b_4 rfl (BJ.ev rfl) (BJ.ev rfl)) fun F5 CT => ?_; clear BJ F4
   refine s1 CT (a_1 rfl (CT.ev rfl)) fun F6 D4 => ?_; clear CT F5
   refine s6 D4 (b_0 rfl y_8 ev0 (l_5 _)) ?_
   rintro F7 _ Hx ⟨rfl, Eb⟩ BZ; have FH := El.step Eb; clear Eb D4 El F6
   refine s1 BZ (b_4 rfl (BZ.ev rfl) (BZ.ev rfl)) fun F8 CU => ?_; clear BZ F7
   refine s1 CU (a_0 rfl (CU.ev rfl)) fun Hj D5 => ?_; clear CU F8
   refine n1 ?_
   refine c_4 ?_
   refine a_8 D5 (.inl rfl) (a_2 D5 rfl (.tmp rfl)) ?_
   exact ⟨rfl, FH.ext⟩
  skip
  intro Bv G1 B rsf258 D6 X hrq DH; clear CN DF
  obtain ⟨Ae, Ay⟩ := X 0 (by decide) (by decide)
  obtain ⟨Ao, o⟩ := Ay
  obtain ⟨Af, Az⟩ := X 1 (by decide) (by decide)
  obtain ⟨vt1_vs210, vm1_vs210, lr1_vs210, lb1_vs210, lk1_vs210, Ap, p⟩ := Az
  obtain ⟨Ag, A0⟩ := X 2 (by decide) (by decide)
  obtain ⟨Aq, q⟩ := A0
  obtain ⟨Ah, A1⟩ := X 3 (by decide) (by decide)
  obtain ⟨Ar, r⟩ := A1
  obtain ⟨Ai, A2⟩ := X 4 (by decide) (by decide)
  obtain ⟨As, s⟩ := A2
  obtain ⟨Aj, A3⟩ := X 5 (by decide) (by decide)
  obtain ⟨At, t⟩ := A3
  obtain ⟨Ak, A4⟩ := X 6 (by decide) (by decide)
  obtain ⟨Au, u⟩ := A4
  obtain ⟨Al, A5⟩ := X 7 (by decide) (by decide)
  obtain ⟨Av, z⟩ := A5
  obtain ⟨Am, A6⟩ := X 8 (by decide) (by decide)
  obtain ⟨Aw, AA⟩ := A6
  obtain ⟨An, A7⟩ := X 9 (by decide) (by decide)
  obtain ⟨Ax, AB⟩ := A7
  obtain ⟨AI, AV⟩ := X 10 (by decide) (by decide)
  obtain ⟨AO, H⟩ := AV
  obtain ⟨AJ, AW⟩ := X 11 (by decide) (by decide)
  obtain ⟨AP, I⟩ := AW
  obtain ⟨AK, AX⟩ := X 12 (by decide) (by decide)
  obtain ⟨AQ, J⟩ := AX
  obtain ⟨AL, AY⟩ := X 13 (by decide) (by decide)
  obtain ⟨AR, K⟩ := AY
  obtain ⟨AM, AZ⟩ := X 14 (by decide) (by decide)
  obtain ⟨AS, L⟩ := AZ
  obtain ⟨AN, Aa⟩ := X 15 (by decide) (by decide)
  obtain ⟨AT, M⟩ := Aa
  obtain ⟨AF, Ab⟩ := X 16 (by decide) (by decide)
  obtain ⟨AH, N⟩ := Ab
  obtain ⟨P, Ac⟩ := X 17 (by decide) (by decide)
  obtain ⟨g, O⟩ := Ac
  obtain ⟨Q, Ad⟩ := X 18 (by decide) (by decide)
  obtain ⟨AC, e⟩ := Ad
  obtain ⟨R, A9⟩ := X 20 (by decide) (by decide)
  obtain ⟨b20_, AG, AE⟩ := A9
  have Em : Sep NoB w G1 [(b_6 true vt1_vs210 lr1_vs210 lb1_vs210 b.tabs), (c_0 true vm1_vs210 lk1_vs210 b.macs), (blk b20_ 30 [(Value.int .i64 0), (Value.int .i64 0)]), (b_6 true vt1_vs198 lr1_vs198 lb1_vs198 b.tabs), (c_0 true vm1_vs198 lk1_vs198 b.macs), (b_6 true vt1_ lr1_ lb1_ b.tabs), (c_0 true vm1_ lk1_ b.macs), (blk b19_ 30 [(Value.int .i64 ((b_7 b (kk : Int) (((((b.tabs.getD kk tab0).rows).getD 0 (0, 0)).1) - 1, (((b.tabs.getD kk tab0).rows).getD 0 (0, 0)).1)).1)), (Value.int .i64 ((b_7 b (kk : Int) (((((b.tabs.getD kk tab0).rows).getD 0 (0, 0)).1) - 1, (((b.tabs.getD kk tab0).rows).getD 0 (0, 0)).1)).2))]), (blk A 46 [(Value.int .i64 ((b.tabs.getD kk tab0).frm)), (Value.int .i64 ((b.tabs.getD kk tab0).dst)), (lr kk), (lb kk), (Value.int .i64 ((b.tabs.getD kk tab0).err))]), (row BA 98 2 l.length (pairs l)), (b_6 true vt26 lr28 lb29 b.tabs), (c_0 true vm27 lk30 b.macs), (blk Z 25 [(Value.int .i64 b.scales), vt, vm]), (b_6 false vt lr lb b.tabs), (c_0 false vm lk b.macs), (sl xl 2 l.length (pairs l))] := by rw [show catR rsf258 0 21 = ([(b_6 true vt1_vs210 lr1_vs210 lb1_vs210 b.tabs), (c_0 true vm1_vs210 lk1_vs210 b.macs), (blk b20_ 30 [(Value.int .i64 0), (Value.int .i64 0)])] : List Res) by (try simp only [catR, o, p, q, r, s, t, u, z, AA, AB, H, I, J, K, L, M, N, O, e, AE, hrq]); (try rfl)] at DH; exact DH
  rw [g] at P
  have D7 : Fr 197 [] [(168, (Value.tuple #[(Value.agg #[(Value.int .i64 ((b_7 b (kk : Int) ((((b.tabs.getD kk tab0).rows).getD ii (0, 0)).1, (((b.tabs.getD kk tab0).rows).getD ii (0, 0)).1)).1)), (Value.int .i64 ((b_7 b (kk : Int) ((((b.tabs.getD kk tab0).rows).getD ii (0, 0)).1, (((b.tabs.getD kk tab0).rows).getD ii (0, 0)).1)).2))]), (Value.int .i64 (e_0 b (kk : Int) ((((b.tabs.getD kk tab0).rows).getD ii (0, 0)).1, (((b.tabs.getD kk tab0).rows).getD ii (0, 0)).1)))])), (18, (Value.int .i64 (e_0 b (kk : Int) ((((b.tabs.getD kk tab0).rows).getD ii (0, 0)).1, ((((b.tabs.getD kk tab0).rows).getD ii (0, 0)).1) + 1)))), (19, (Value.int .i64 (ii : Int))), (16, (bptr A 0)), (15, (Value.int .i64 (kk : Int))), (4, (bptr Z 0))] Bv := D6.add (d_4 P rfl); clear D6
  rw [AC] at Q
  have D8 : Fr 197 [] [(186, (Value.agg #[(Value.int .i64 ((b_7 b (kk : Int) ((((b.tabs.getD kk tab0).rows).getD ii (0, 0)).1, (((b.tabs.getD kk tab0).rows).getD ii (0, 0)).1)).1)), (Value.int .i64 ((b_7 b (kk : Int) ((((b.tabs.getD kk tab0).rows).getD ii (0, 0)).1, (((b.tabs.getD kk tab0).rows).getD ii (0, 0)).1)).2))])), (168, (Value.tuple #[(Value.agg #[(Value.int .i64 ((b_7 b (kk : Int) ((((b.tabs.getD kk tab0).rows).getD ii (0, 0)).1, (((b.tabs.getD kk tab0).rows).getD ii (0, 0)).1)).1)), (Value.int .i64 ((b_7 b (kk : Int) ((((b.tabs.getD kk tab0).rows).getD ii (0, 0)).1, (((b.tabs.getD kk tab0).rows).getD ii (0, 0)).1)).2))]), (Value.int .i64 (e_0 b (kk : Int) ((((b.tabs.getD kk tab0).rows).getD ii (0, 0)).1, (((b.tabs.getD kk tab0).rows).getD ii (0, 0)).1)))])), (18, (Value.int .i64 (e_0 b (kk : Int) ((((b.tabs.getD kk tab0).rows).getD ii (0, 0)).1, ((((b.tabs.getD kk tab0).rows).getD ii (0, 0)).1) + 1)))), (19, (Value.int .i64 (ii : Int))), (16, (bptr A 0)), (15, (Value.int .i64 (kk : Int))), (4, (bptr Z 0))] Bv := D7.add (d_4 Q rfl); clear D7
  rw [AG] at R
  have Ba : Fr 197 [] [(20, (bptr b20_ 0)), (186, (Value.agg #[(Value.int .i64 ((b_7 b (kk : Int) ((((b.tabs.getD kk tab0).rows).getD ii (0, 0)).1, (((b.tabs.getD kk tab0).rows).getD ii (0, 0)).1)).1)), (Value.int .i64 ((b_7 b (kk : Int) ((((b.tabs.getD kk tab0).rows).getD ii (0, 0)).1, (((b.tabs.getD kk tab0).rows).getD ii (0, 0)).1)).2))])), (168, (Value.tuple #[(Value.agg #[(Value.int .i64 ((b_7 b (kk : Int) ((((b.tabs.getD kk tab0).rows).getD ii (0, 0)).1, (((b.tabs.getD kk tab0).rows).getD ii (0, 0)).1)).1)), (Value.int .i64 ((b_7 b (kk : Int) ((((b.tabs.getD kk tab0).rows).getD ii (0, 0)).1, (((b.tabs.getD kk tab0).rows).getD ii (0, 0)).1)).2))]), (Value.int .i64 (e_0 b (kk : Int) ((((b.tabs.getD kk tab0).rows).getD ii (0, 0)).1, (((b.tabs.getD kk tab0).rows).getD ii (0, 0)).1)))])), (18, (Value.int .i64 (e_0 b (kk : Int) ((((b.tabs.getD kk tab0).rows).getD ii (0, 0)).1, ((((b.tabs.getD kk tab0).rows).getD ii (0, 0)).1) + 1)))), (19, (Value.int .i64 (ii : Int))), (16, (bptr A 0)), (15, (Value.int .i64 (kk : Int))), (4, (bptr Z 0))] Bv := D8.add (d_4 R rfl); clear D8
  clear X DH Ae Af Ag Ah Ai Aj Ak Al Am An AI AJ AK AL AM AN AF P Q R hrq
  clear o
  clear Ao
  clear p
  clear Ap
  clear q
  clear Aq
  clear r
  clear Ar
  clear s
  clear As
  clear t
  clear At
  clear u
  clear Au
  clear z
  clear Av
  clear AA
  clear Aw
  clear AB
  clear Ax
  clear H
  clear AO
  clear I
  clear AP
  clear J
  clear AQ
  clear K
  clear AR
  clear L
  clear AS
  clear M
  clear AT
  clear N
  clear AH
  clear O
  clear g
  clear e
  clear AC
  clear AE
  clear AG
  refine s7 Ba (c_1 Em rfl f_5 (Ba.ev rfl) (Ba.ev rfl) (i := 2) rfl (vs := [(Value.int .i64 ((b_7 b (kk : Int) ((((b.tabs.getD kk tab0).rows).getD ii (0, 0)).1, (((b.tabs.getD kk tab0).rows).getD ii (0, 0)).1)).1)), (Value.int .i64 ((b_7 b (kk : Int) ((((b.tabs.getD kk tab0).rows).getD ii (0, 0)).1, (((b.tabs.getD kk tab0).rows).getD ii (0, 0)).1)).2))]) rfl rfl rfl (Nat.le_of_ble_eq_true rfl)) ?_
  intro _ G2 En CV; clear Ba
  have Eo : Sep NoB w G2 [(b_6 true vt1_vs210 lr1_vs210 lb1_vs210 b.tabs), (c_0 true vm1_vs210 lk1_vs210 b.macs), (blk b20_ 30 [(Value.int .i64 ((b_7 b (kk : Int) ((((b.tabs.getD kk tab0).rows).getD ii (0, 0)).1, (((b.tabs.getD kk tab0).rows).getD ii (0, 0)).1)).1)), (Value.int .i64 ((b_7 b (kk : Int) ((((b.tabs.getD kk tab0).rows).getD ii (0, 0)).1, (((b.tabs.getD kk tab0).rows).getD ii (0, 0)).1)).2))]), (b_6 true vt1_vs198 lr1_vs198 lb1_vs198 b.tabs), (c_0 true vm1_vs198 lk1_vs198 b.macs), (b_6 true vt1_ lr1_ lb1_ b.tabs), (c_0 true vm1_ lk1_ b.macs), (blk b19_ 30 [(Value.int .i64 ((b_7 b (kk : Int) (((((b.tabs.getD kk tab0).rows).getD 0 (0, 0)).1) - 1, (((b.tabs.getD kk tab0).rows).getD 0 (0, 0)).1)).1)), (Value.int .i64 ((b_7 b (kk : Int) (((((b.tabs.getD kk tab0).rows).getD 0 (0, 0)).1) - 1, (((b.tabs.getD kk tab0).rows).getD 0 (0, 0)).1)).2))]), (blk A 46 [(Value.int .i64 ((b.tabs.getD kk tab0).frm)), (Value.int .i64 ((b.tabs.getD kk tab0).dst)), (lr kk), (lb kk), (Value.int .i64 ((b.tabs.getD kk tab0).err))]), (row BA 98 2 l.length (pairs l)), (b_6 true vt26 lr28 lb29 b.tabs), (c_0 true vm27 lk30 b.macs), (blk Z 25 [(Value.int .i64 b.scales), vt, vm]), (b_6 false vt lr lb b.tabs), (c_0 false vm lk b.macs), (sl xl 2 l.length (pairs l))] := En; clear En Em
  refine s1 CV (c_6 rfl (CV.ev rfl) rfl) fun F9 CW => ?_; clear CV Bv
  refine s1 CW (a_0 rfl (CW.ev rfl)) fun GA D9 => ?_; clear CW F9
  refine n2 ?_
  have CX := D9.as [(21, (Value.int .i64 (e_0 b (kk : Int) ((((b.tabs.getD kk tab0).rows).getD ii (0, 0)).1, (((b.tabs.getD kk tab0).rows).getD ii (0, 0)).1)))), (18, (Value.int .i64 (e_0 b (kk : Int) ((((b.tabs.getD kk tab0).rows).getD ii (0, 0)).1, ((((b.tabs.getD kk tab0).rows).getD ii (0, 0)).1) + 1))))] rfl; clear D9
  refine a_5 ?_
  refine s1 CX (a_1 rfl (CX.ev rfl)) fun GB CY => ?_; clear CX GA
  refine s1 CY (i_8 rfl (CY.ev rfl) (evc _ _)) fun GC Bb => ?_; clear CY GB
  have FP : (e_0 b (kk : Int) ((((b.tabs.getD kk tab0).rows).getD ii (0, 0)).1, ((((b.tabs.getD kk tab0).rows).getD ii (0, 0)).1) + 1)) = 10 := (by first | exact m_4 hc hb_kk | exact m_3 hc hb_kk hi_ii hm_ii)
  rw [decide_eq_true FP] at Bb
  refine s1 Bb (a_1 rfl (Bb.ev rfl)) fun GD CZ => ?_; clear Bb GC
  refine s5 CZ (a_1 rfl (CZ.ev rfl)) fun GE Ca => ?_; clear CZ GD
  refine s5 Ca (i_8 rfl (Ca.ev rfl) (evc _ _)) fun GF BK => ?_; clear Ca GE
  have FQ : (e_0 b (kk : Int) ((((b.tabs.getD kk tab0).rows).getD ii (0, 0)).1, (((b.tabs.getD kk tab0).rows).getD ii (0, 0)).1)) = 0 := (t_6 hc hb_kk hi_ii)
  rw [decide_eq_true FQ] at BK
  refine s1 BK (b_4 rfl (BK.ev rfl) (BK.ev rfl)) fun GG Cb => ?_; clear BK GF
  refine s1 Cb (a_1 rfl (Cb.ev rfl)) fun GH EA => ?_; clear Cb GG
  refine s6 EA (b_0 rfl y_8 ev0 (l_5 _)) ?_
  rintro GI _ Hy ⟨rfl, Ec⟩ Bc; have FI := Eo.step Ec; clear Ec EA Eo GH
  refine s1 Bc (b_4 rfl (Bc.ev rfl) (Bc.ev rfl)) fun GJ Cc => ?_; clear Bc GI
  refine s1 Cc (a_0 rfl (Cc.ev rfl)) fun Hk EB => ?_; clear Cc GJ
  refine n1 ?_
  refine c_4 ?_
  refine a_8 EB (.inl rfl) (a_2 EB rfl (.tmp rfl)) ?_
  exact ⟨rfl, FI.ext⟩
 skip
 intro Bw G3 F rsf302 EC c hrq DI; clear CA DC
 obtain ⟨Ae, Ay⟩ := c 0 (by decide) (by decide)
 obtain ⟨Ao, o⟩ := Ay
 obtain ⟨Af, Az⟩ := c 1 (by decide) (by decide)
 obtain ⟨vt1_, vm1_, lr1_, lb1_, lk1_, Ap, p⟩ := Az
 obtain ⟨Ag, A0⟩ := c 2 (by decide) (by decide)
 obtain ⟨Aq, q⟩ := A0
 obtain ⟨Ah, A1⟩ := c 3 (by decide) (by decide)
 obtain ⟨Ar, r⟩ := A1
 obtain ⟨Ai, A2⟩ := c 4 (by decide) (by decide)
 obtain ⟨As, s⟩ := A2
 obtain ⟨Aj, A3⟩ := c 5 (by decide) (by decide)
 obtain ⟨At, t⟩ := A3
 obtain ⟨Ak, A4⟩ := c 6 (by decide) (by decide)
 obtain ⟨Au, u⟩ := A4
 obtain ⟨Al, A5⟩ := c 7 (by decide) (by decide)
 obtain ⟨Av, z⟩ := A5
 obtain ⟨Am, A6⟩ := c 8 (by decide) (by decide)
 obtain ⟨Aw, AA⟩ := A6
 obtain ⟨An, A7⟩ := c 9 (by decide) (by decide)
 obtain ⟨Ax, AB⟩ := A7
 obtain ⟨AI, AV⟩ := c 10 (by decide) (by decide)
 obtain ⟨AO, H⟩ := AV
 obtain ⟨AJ, AW⟩ := c 11 (by decide) (by decide)
 obtain ⟨AP, I⟩ := AW
 obtain ⟨AK, AX⟩ := c 12 (by decide) (by decide)
 obtain ⟨AQ, J⟩ := AX
 obtain ⟨AL, AY⟩ := c 13 (by decide) (by decide)
 obtain ⟨AR, K⟩ := AY
 obtain ⟨AM, AZ⟩ := c 14 (by decide) (by decide)
 obtain ⟨AS, L⟩ := AZ
 obtain ⟨AN, Aa⟩ := c 15 (by decide) (by decide)
 obtain ⟨AT, M⟩ := Aa
 obtain ⟨AF, Ab⟩ := c 16 (by decide) (by decide)
 obtain ⟨AH, N⟩ := Ab
 obtain ⟨P, Ac⟩ := c 17 (by decide) (by decide)
 obtain ⟨g, O⟩ := Ac
 obtain ⟨f, A8⟩ := c 19 (by decide) (by decide)
 obtain ⟨b19_, AU, AD⟩ := A8
 have Ep : Sep NoB w G3 [(b_6 true vt1_ lr1_ lb1_ b.tabs), (c_0 true vm1_ lk1_ b.macs), (blk b19_ 30 [(Value.int .i64 0), (Value.int .i64 0)]), (blk A 46 [(Value.int .i64 ((b.tabs.getD kk tab0).frm)), (Value.int .i64 ((b.tabs.getD kk tab0).dst)), (lr kk), (lb kk), (Value.int .i64 ((b.tabs.getD kk tab0).err))]), (row BA 98 2 l.length (pairs l)), (b_6 true vt26 lr28 lb29 b.tabs), (c_0 true vm27 lk30 b.macs), (blk Z 25 [(Value.int .i64 b.scales), vt, vm]), (b_6 false vt lr lb b.tabs), (c_0 false vm lk b.macs), (sl xl 2 l.length (pairs l))] := by rw [show catR rsf302 0 20 = ([(b_6 true vt1_ lr1_ lb1_ b.tabs), (c_0 true vm1_ lk1_ b.macs), (blk b19_ 30 [(Value.int .i64 0), (Value.int .i64 0)])] : List Res) by (try simp only [catR, o, p, q, r, s, t, u, z, AA, AB, H, I, J, K, L, M, N, O, AD, hrq]); (try rfl)] at DI; exact DI
 rw [AH] at AF
 have ED : Fr 197 [] [(111, (Value.tuple #[(Value.agg #[(Value.int .i64 ((b_7 b (kk : Int) (((((b.tabs.getD kk tab0).rows).getD 0 (0, 0)).1) - 1, (((b.tabs.getD kk tab0).rows).getD 0 (0, 0)).1)).1)), (Value.int .i64 ((b_7 b (kk : Int) (((((b.tabs.getD kk tab0).rows).getD 0 (0, 0)).1) - 1, (((b.tabs.getD kk tab0).rows).getD 0 (0, 0)).1)).2))]), (Value.int .i64 (e_0 b (kk : Int) (((((b.tabs.getD kk tab0).rows).getD 0 (0, 0)).1) - 1, (((b.tabs.getD kk tab0).rows).getD 0 (0, 0)).1)))])), (16, (bptr A 0)), (15, (Value.int .i64 (kk : Int))), (4, (bptr Z 0)), (3, (Value.int .u8 wb))] Bw := EC.add (d_4 AF rfl); clear EC
 rw [g] at P
 have EE : Fr 197 [] [(128, (Value.agg #[(Value.int .i64 ((b_7 b (kk : Int) (((((b.tabs.getD kk tab0).rows).getD 0 (0, 0)).1) - 1, (((b.tabs.getD kk tab0).rows).getD 0 (0, 0)).1)).1)), (Value.int .i64 ((b_7 b (kk : Int) (((((b.tabs.getD kk tab0).rows).getD 0 (0, 0)).1) - 1, (((b.tabs.getD kk tab0).rows).getD 0 (0, 0)).1)).2))])), (111, (Value.tuple #[(Value.agg #[(Value.int .i64 ((b_7 b (kk : Int) (((((b.tabs.getD kk tab0).rows).getD 0 (0, 0)).1) - 1, (((b.tabs.getD kk tab0).rows).getD 0 (0, 0)).1)).1)), (Value.int .i64 ((b_7 b (kk : Int) (((((b.tabs.getD kk tab0).rows).getD 0 (0, 0)).1) - 1, (((b.tabs.getD kk tab0).rows).getD 0 (0, 0)).1)).2))]), (Value.int .i64 (e_0 b (kk : Int) (((((b.tabs.getD kk tab0).rows).getD 0 (0, 0)).1) - 1, (((b.tabs.getD kk tab0).rows).getD 0 (0, 0)).1)))])), (16, (bptr A 0)), (15, (Value.int .i64 (kk : Int))), (4, (bptr Z 0)), (3, (Value.int .u8 wb))] Bw := ED.add (d_4 P rfl); clear ED
 rw [AU] at f
 have Bd : Fr 197 [] [(17, (bptr b19_ 0)), (128, (Value.agg #[(Value.int .i64 ((b_7 b (kk : Int) (((((b.tabs.getD kk tab0).rows).getD 0 (0, 0)).1) - 1, (((b.tabs.getD kk tab0).rows).getD 0 (0, 0)).1)).1)), (Value.int .i64 ((b_7 b (kk : Int) (((((b.tabs.getD kk tab0).rows).getD 0 (0, 0)).1) - 1, (((b.tabs.getD kk tab0).rows).getD 0 (0, 0)).1)).2))])), (111, (Value.tuple #[(Value.agg #[(Value.int .i64 ((b_7 b (kk : Int) (((((b.tabs.getD kk tab0).rows).getD 0 (0, 0)).1) - 1, (((b.tabs.getD kk tab0).rows).getD 0 (0, 0)).1)).1)), (Value.int .i64 ((b_7 b (kk : Int) (((((b.tabs.getD kk tab0).rows).getD 0 (0, 0)).1) - 1, (((b.tabs.getD kk tab0).rows).getD 0 (0, 0)).1)).2))]), (Value.int .i64 (e_0 b (kk : Int) (((((b.tabs.getD kk tab0).rows).getD 0 (0, 0)).1) - 1, (((b.tabs.getD kk tab0).rows).getD 0 (0, 0)).1)))])), (16, (bptr A 0)), (15, (Value.int .i64 (kk : Int))), (4, (bptr Z 0)), (3, (Value.int .u8 wb))] Bw := EE.add (d_4 f rfl); clear EE
 clear c DI Ae Af Ag Ah Ai Aj Ak Al Am An AI AJ AK AL AM AN AF P f hrq
 clear o
 clear Ao
 clear p
 clear Ap
 clear q
 clear Aq
 clear r
 clear Ar
 clear s
 clear As
 clear t
 clear At
 clear u
 clear Au
 clear z
 clear Av
 clear AA
 clear Aw
 clear AB
 clear Ax
 clear H
 clear AO
 clear I
 clear AP
 clear J
 clear AQ
 clear K
 clear AR
 clear L
 clear AS
 clear M
 clear AT
 clear N
 clear AH
 clear O
 clear g
 clear AD
 clear AU
 refine s7 Bd (c_1 Ep rfl f_5 (Bd.ev rfl) (Bd.ev rfl) (i := 2) rfl (vs := [(Value.int .i64 ((b_7 b (kk : Int) (((((b.tabs.getD kk tab0).rows).getD 0 (0, 0)).1) - 1, (((b.tabs.getD kk tab0).rows).getD 0 (0, 0)).1)).1)), (Value.int .i64 ((b_7 b (kk : Int) (((((b.tabs.getD kk tab0).rows).getD 0 (0, 0)).1) - 1, (((b.tabs.getD kk tab0).rows).getD 0 (0, 0)).1)).2))]) rfl rfl rfl (Nat.le_of_ble_eq_true rfl)) ?_
 intro _ G4 Eq Cd; clear Bd
 have BH : Sep NoB w G4 [(b_6 true vt1_ lr1_ lb1_ b.tabs), (c_0 true vm1_ lk1_ b.macs), (blk b19_ 30 [(Value.int .i64 ((b_7 b (kk : Int) (((((b.tabs.getD kk tab0).rows).getD 0 (0, 0)).1) - 1, (((b.tabs.getD kk tab0).rows).getD 0 (0, 0)).1)).1)), (Value.int .i64 ((b_7 b (kk : Int) (((((b.tabs.getD kk tab0).rows).getD 0 (0, 0)).1) - 1, (((b.tabs.getD kk tab0).rows).getD 0 (0, 0)).1)).2))]), (blk A 46 [(Value.int .i64 ((b.tabs.getD kk tab0).frm)), (Value.int .i64 ((b.tabs.getD kk tab0).dst)), (lr kk), (lb kk), (Value.int .i64 ((b.tabs.getD kk tab0).err))]), (row BA 98 2 l.length (pairs l)), (b_6 true vt26 lr28 lb29 b.tabs), (c_0 true vm27 lk30 b.macs), (blk Z 25 [(Value.int .i64 b.scales), vt, vm]), (b_6 false vt lr lb b.tabs), (c_0 false vm lk b.macs), (sl xl 2 l.length (pairs l))] := Eq; clear Eq Ep
 refine s1 Cd (c_6 rfl (Cd.ev rfl) rfl) fun GK Ce => ?_; clear Cd Bw
 refine s1 Ce (a_0 rfl (Ce.ev rfl)) fun GL Cf => ?_; clear Ce GK
 refine n2 ?_
 refine m2 ?_
 refine s1 Cf (a_1 rfl (Cf.ev rfl)) fun GM Cg => ?_; clear Cf GL
 refine s1 Cg (s_8 rfl (Cg.ev rfl) (evc _ _)) fun GN Be => ?_; clear Cg GM
 have FSa : (e_0 b (kk : Int) (((((b.tabs.getD kk tab0).rows).getD 0 (0, 0)).1) - 1, (((b.tabs.getD kk tab0).rows).getD 0 (0, 0)).1)) = 10 := (by first | exact m_4 hc hb_kk | exact m_3 hc hb_kk hi_ii hm_ii)
 rw [decide_eq_true FSa] at Be
 refine n1 ?_
 refine b_8 Be rfl ?_
 refine d_2 ?_
 refine b_2 ?_
 refine b_9 ?_
 refine b_9 ?_
 have Ch := Be.as [(16, (bptr A 0)), (15, (Value.int .i64 (kk : Int))), (4, (bptr Z 0)), (3, (Value.int .u8 wb))] rfl; clear Be
 refine a_5 ?_
 refine s1 Ch (a_4 rfl l_0 (Ch.ev rfl)) fun GO Ci => ?_; clear Ch GN
 refine s1 Ci (a_3 rfl s_0 (Ci.ev rfl) (BH.bk 3 rfl) rfl) fun GP Cj => ?_; clear Ci GO
 refine s1 Cj (d_5 rfl m_2 (Cj.ev rfl) ((a_6 (BH.ok 8 _ rfl)).brk (i := kk) (by omega))) fun GQ Ck => ?_; clear Cj GP
 refine s1 Ck (i_8 rfl (Ck.ev rfl) (evc _ _)) fun GR BD => ?_; clear Ck GQ
 refine n1 ?_
 by_cases Ey : ((b.tabs.getD kk tab0).brk.length : Int) = 0
 ·skip
  rw [decide_eq_true Ey] at BD
  refine c_7 BD rfl ?_
  refine b_9 ?_
  have EF := BD.as [] rfl; clear BD
  refine a_5 ?_
  refine s2 EF (b_0 rfl y_8 ev0 (l_5 _)) ?_
  rintro GS _ Hz ⟨rfl, Ed⟩ Cl; have FJ := BH.step Ed; clear Ed EF BH GR
  refine s1 Cl (a_0 rfl (Cl.ev rfl)) fun Hl EG => ?_; clear Cl GS
  refine n1 ?_
  refine c_4 ?_
  refine a_7 ?_
  refine a_8 EG (.inl rfl) (a_2 EG rfl (.tmp rfl)) ?_
  exact ⟨rfl, FJ.ext⟩
 skip
 rw [decide_eq_false Ey] at BD
 refine b_8 BD rfl ?_
 refine d_2 ?_
 refine b_2 ?_
 refine b_9 ?_
 have hrm := rem_bd (y := wb) (d := ((b.tabs.getD kk tab0).brk.length : Int)) hB_.1 (by omega)
 have EH := BD.as [(16, (bptr A 0)), (15, (Value.int .i64 (kk : Int))), (4, (bptr Z 0)), (3, (Value.int .u8 wb))] rfl; clear BD
 refine g_6 mixed EH BH 8 [[], [0], [], [2], [], [4], [5], [3, 6]] [(Yd.val (bptr A 3)), (Yd.val (lb kk)), (Yd.val (Value.int .u8 wb)), (Yd.val (Value.int .i64 wb)), (Yd.val (bptr A 3)), (Yd.val (lb kk)), (Yd.val (Value.int .i64 ((b.tabs.getD kk tab0).brk.length : Int))), (Yd.val (Value.int .i64 ((wb).tmod ((b.tabs.getD kk tab0).brk.length : Int))))] (by decide +kernel) rfl rfl ?_ ?_
 ·skip
  refine dq (fun a w hA hS hd => a_4 rfl l_0 (hA.ev rfl)) ?_
  refine dq (fun a w hA hS hd => a_3 rfl s_0 (hq hd 0) (hS.bk 3 rfl) rfl) ?_
  refine dq (fun a w hA hS hd => a_1 rfl (hA.ev rfl)) ?_
  refine dq (fun a w hA hS hd => op_conv un_5 un_3 rfl (hq hd 2) (v := wb) (wrap_i64 (by omega) (by omega))) ?_
  refine dq (fun a w hA hS hd => a_4 rfl l_0 (hA.ev rfl)) ?_
  refine dq (fun a w hA hS hd => a_3 rfl s_0 (hq hd 4) (hS.bk 3 rfl) rfl) ?_
  refine dq (fun a w hA hS hd => d_5 rfl m_2 (hq hd 5) ((a_6 (hS.ok 8 _ rfl)).brk (i := kk) (by omega))) ?_
  refine dq (fun a w hA hS hd => op_rem rfl (hq hd 3) (hq hd 6) (by omega)) ?_
  trivial
 intro GT H0 EI Bo DB; clear EH BH
 have EJ := EI.add (hz DB 1); clear EI
 have Bf := EJ.add (hz DB 7); clear EJ
 clear DB
 refine s1 Bf (b_3 rfl m_2 ty_3 (Bf.ev rfl) (i := ((wb).tmod ((b.tabs.getD kk tab0).brk.length : Int)).toNat) ((Bf.ev rfl).trans (j_1 (by omega))) ((a_6 (Bo.ok 8 _ rfl)).brk (i := kk) (by omega)) (by decide) (by omega)) fun GU Cm => ?_; clear Bf GT
 refine s1 Cm (c_2 rfl ty_3 (Cm.ev rfl) ((a_6 (Bo.ok 8 _ rfl)).brk (i := kk) (by omega)) (ints_at (by omega))) fun GV Cn => ?_; clear Cm GU
 refine s1 Cn (a_0 rfl (Cn.ev rfl)) fun Hm Co => ?_; clear Cn GV
 refine n2 ?_
 obtain ⟨ii, hz_ii, hi_ii, hm_ii⟩ := brk_nat htv (j := (((wb).tmod ((b.tabs.getD kk tab0).brk.length : Int)).toNat)) (by omega); rw [hz_ii] at Co; have hbni := htv.bnd ii (by omega); have hbnj := htv.bnd (ii + 1) (by omega); have hxi := htv.rows.x ii hi_ii; unfold tx ty at hbni hbnj; unfold tx at hxi
 have EK := Co.as [(19, (Value.int .i64 (ii : Int))), (16, (bptr A 0)), (15, (Value.int .i64 (kk : Int))), (4, (bptr Z 0))] rfl; clear Co
 refine s_5 mixed EK Bo 21 [[], [0], [], [], [3], [], [4, 5], [6], [7], [], [9], [], [10, 11], [12], [13], [14], [8, 15], [1, 2, 16], [17], [18], [18]] [(fun (E : Nat → Value) (v_ : Value) (rs_ : List Res) => v_ = (Value.agg #[(Value.int .i64 b.scales), vt, vm]) ∧ rs_ = []), (fun (E : Nat → Value) (v_ : Value) (rs_ : List Res) => ∃ (vt1_vs354 : Value), ∃ (vm1_vs354 : Value), ∃ (lr1_vs354 : Nat → Value), ∃ (lb1_vs354 : Nat → Value), ∃ (lk1_vs354 : Nat → Value), v_ = (Value.agg #[(Value.int .i64 b.scales), vt1_vs354, vm1_vs354]) ∧ rs_ = [(b_6 true vt1_vs354 lr1_vs354 lb1_vs354 b.tabs), (c_0 true vm1_vs354 lk1_vs354 b.macs)]), (fun (E : Nat → Value) (v_ : Value) (rs_ : List Res) => v_ = (Value.int .i64 (kk : Int)) ∧ rs_ = []), (fun (E : Nat → Value) (v_ : Value) (rs_ : List Res) => v_ = (bptr A 2) ∧ rs_ = []), (fun (E : Nat → Value) (v_ : Value) (rs_ : List Res) => v_ = (lr kk) ∧ rs_ = []), (fun (E : Nat → Value) (v_ : Value) (rs_ : List Res) => v_ = (Value.int .i64 (ii : Int)) ∧ rs_ = []), (fun (E : Nat → Value) (v_ : Value) (rs_ : List Res) => v_ = (eptr (lr kk) (ii * 2)) ∧ rs_ = []), (fun (E : Nat → Value) (v_ : Value) (rs_ : List Res) => v_ = (eptr (lr kk) (ii * 2 + 0)) ∧ rs_ = []), (fun (E : Nat → Value) (v_ : Value) (rs_ : List Res) => v_ = (Value.int .i64 ((((b.tabs.getD kk tab0).rows).getD ii (0, 0)).1)) ∧ rs_ = []), (fun (E : Nat → Value) (v_ : Value) (rs_ : List Res) => v_ = (bptr A 2) ∧ rs_ = []), (fun (E : Nat → Value) (v_ : Value) (rs_ : List Res) => v_ = (lr kk) ∧ rs_ = []), (fun (E : Nat → Value) (v_ : Value) (rs_ : List Res) => v_ = (Value.int .i64 (ii : Int)) ∧ rs_ = []), (fun (E : Nat → Value) (v_ : Value) (rs_ : List Res) => v_ = (eptr (lr kk) (ii * 2)) ∧ rs_ = []), (fun (E : Nat → Value) (v_ : Value) (rs_ : List Res) => v_ = (eptr (lr kk) (ii * 2 + 0)) ∧ rs_ = []), (fun (E : Nat → Value) (v_ : Value) (rs_ : List Res) => v_ = (Value.int .i64 ((((b.tabs.getD kk tab0).rows).getD ii (0, 0)).1)) ∧ rs_ = []), (fun (E : Nat → Value) (v_ : Value) (rs_ : List Res) => v_ = (Value.int .i64 (((((b.tabs.getD kk tab0).rows).getD ii (0, 0)).1) + 1)) ∧ rs_ = []), (fun (E : Nat → Value) (v_ : Value) (rs_ : List Res) => v_ = (Value.agg #[(Value.int .i64 ((((b.tabs.getD kk tab0).rows).getD ii (0, 0)).1)), (Value.int .i64 (((((b.tabs.getD kk tab0).rows).getD ii (0, 0)).1) + 1))]) ∧ rs_ = []), (fun (E : Nat → Value) (v_ : Value) (rs_ : List Res) => v_ = (Value.tuple #[(Value.agg #[(Value.int .i64 ((b_7 b (kk : Int) ((((b.tabs.getD kk tab0).rows).getD ii (0, 0)).1, ((((b.tabs.getD kk tab0).rows).getD ii (0, 0)).1) + 1)).1)), (Value.int .i64 ((b_7 b (kk : Int) ((((b.tabs.getD kk tab0).rows).getD ii (0, 0)).1, ((((b.tabs.getD kk tab0).rows).getD ii (0, 0)).1) + 1)).2))]), (Value.int .i64 (e_0 b (kk : Int) ((((b.tabs.getD kk tab0).rows).getD ii (0, 0)).1, ((((b.tabs.getD kk tab0).rows).getD ii (0, 0)).1) + 1)))]) ∧ rs_ = []), (fun (E : Nat → Value) (v_ : Value) (rs_ : List Res) => v_ = (Value.tuple #[(Value.agg #[(Value.int .i64 ((b_7 b (kk : Int) ((((b.tabs.getD kk tab0).rows).getD ii (0, 0)).1, ((((b.tabs.getD kk tab0).rows).getD ii (0, 0)).1) + 1)).1)), (Value.int .i64 ((b_7 b (kk : Int) ((((b.tabs.getD kk tab0).rows).getD ii (0, 0)).1, ((((b.tabs.getD kk tab0).rows).getD ii (0, 0)).1) + 1)).2))]), (Value.int .i64 (e_0 b (kk : Int) ((((b.tabs.getD kk tab0).rows).getD ii (0, 0)).1, ((((b.tabs.getD kk tab0).rows).getD ii (0, 0)).1) + 1)))]) ∧ rs_ = []), (fun (E : Nat → Value) (v_ : Value) (rs_ : List Res) => v_ = (Value.agg #[(Value.int .i64 ((b_7 b (kk : Int) ((((b.tabs.getD kk tab0).rows).getD ii (0, 0)).1, ((((b.tabs.getD kk tab0).rows).getD ii (0, 0)).1) + 1)).1)), (Value.int .i64 ((b_7 b (kk : Int) ((((b.tabs.getD kk tab0).rows).getD ii (0, 0)).1, ((((b.tabs.getD kk tab0).rows).getD ii (0, 0)).1) + 1)).2))]) ∧ rs_ = []), (fun (E : Nat → Value) (v_ : Value) (rs_ : List Res) => v_ = (Value.int .i64 (e_0 b (kk : Int) ((((b.tabs.getD kk tab0).rows).getD ii (0, 0)).1, ((((b.tabs.getD kk tab0).rows).getD ii (0, 0)).1) + 1))) ∧ rs_ = [])] (by decide +kernel) (by decide +kernel) rfl rfl ⟨(fun _ _ _ _ _ h_ => h_), (fun _ _ _ _ _ h_ => h_), (fun _ _ _ _ _ h_ => h_), (fun _ _ _ _ _ h_ => h_), (fun _ _ _ _ _ h_ => h_), (fun _ _ _ _ _ h_ => h_), (fun _ _ _ _ _ h_ => h_), (fun _ _ _ _ _ h_ => h_), (fun _ _ _ _ _ h_ => h_), (fun _ _ _ _ _ h_ => h_), (fun _ _ _ _ _ h_ => h_), (fun _ _ _ _ _ h_ => h_), (fun _ _ _ _ _ h_ => h_), (fun _ _ _ _ _ h_ => h_), (fun _ _ _ _ _ h_ => h_), (fun _ _ _ _ _ h_ => h_), (fun _ _ _ _ _ h_ => h_), (fun _ _ _ _ _ h_ => h_), (fun _ _ _ _ _ h_ => h_), (fun _ _ _ _ _ h_ => h_), (fun _ _ _ _ _ h_ => h_), trivial⟩ ?_ ?_
 ·skip
  refine ⟨fun a w E hA hS hd => gv1 (c_5 rfl x_0 (hA.ev rfl) (hS.bk 7 rfl) (l := [(Value.int .i64 b.scales), vt, vm]) rfl rfl), ?_⟩
  refine ⟨fun a w E hA hS hd => d_6 rfl (vn (b_0 rfl aa_2 (ev1 (gu hd 0)) (q_9 b vt vm lr lb lk _ (a_6 (hS.ok 8 _ rfl)) (c_3 (hS.ok 9 _ rfl)) hth)) (fun v w' h => by obtain ⟨vt, vm, lr, lb, lk, rfl, hT⟩ := h; exact ⟨_, ⟨vt, vm, lr, lb, lk, rfl, rfl⟩, hT, rfl⟩)), ?_⟩
  refine ⟨fun a w E hA hS hd => gv1 (a_1 rfl (hA.ev rfl)), ?_⟩
  refine ⟨fun a w E hA hS hd => gv1 (a_4 rfl f_4 (hA.ev rfl)), ?_⟩
  refine ⟨fun a w E hA hS hd => gv1 (a_3 rfl k_1 (gu hd 3) (hS.bk 3 rfl) rfl), ?_⟩
  refine ⟨fun a w E hA hS hd => gv1 (a_1 rfl (hA.ev rfl)), ?_⟩
  refine ⟨fun a w E hA hS hd => gv1 (b_3 rfl k_2 m_6 (gu hd 4) (i := ii) (gu hd 5) ((a_6 (hS.ok 8 _ rfl)).row (i := kk) (by omega)) (by decide) (by omega)), ?_⟩
  refine ⟨fun a w E hA hS hd => gv1 (c_8 rfl h_9 (gu hd 6) ((a_6 (hS.ok 8 _ rfl)).row (i := kk) (by omega)) (by rw [(((a_6 (hS.ok 8 _ rfl)).row (i := kk) (by omega))).1]; omega)), ?_⟩
  refine ⟨fun a w E hA hS hd => gv1 (c_2 rfl ty_3 (gu hd 7) ((a_6 (hS.ok 8 _ rfl)).row (i := kk) (by omega)) (e_5 (by omega))), ?_⟩
  refine ⟨fun a w E hA hS hd => gv1 (a_4 rfl f_4 (hA.ev rfl)), ?_⟩
  refine ⟨fun a w E hA hS hd => gv1 (a_3 rfl k_1 (gu hd 9) (hS.bk 3 rfl) rfl), ?_⟩
  refine ⟨fun a w E hA hS hd => gv1 (a_1 rfl (hA.ev rfl)), ?_⟩
  refine ⟨fun a w E hA hS hd => gv1 (b_3 rfl k_2 m_6 (gu hd 10) (i := ii) (gu hd 11) ((a_6 (hS.ok 8 _ rfl)).row (i := kk) (by omega)) (by decide) (by omega)), ?_⟩
  refine ⟨fun a w E hA hS hd => gv1 (c_8 rfl h_9 (gu hd 12) ((a_6 (hS.ok 8 _ rfl)).row (i := kk) (by omega)) (by rw [(((a_6 (hS.ok 8 _ rfl)).row (i := kk) (by omega))).1]; omega)), ?_⟩
  refine ⟨fun a w E hA hS hd => gv1 (c_2 rfl ty_3 (gu hd 13) ((a_6 (hS.ok 8 _ rfl)).row (i := kk) (by omega)) (e_5 (by omega))), ?_⟩
  refine ⟨fun a w E hA hS hd => gv1 (g_0 rfl (gu hd 14) (evc _ _) (by omega) (by omega)), ?_⟩
  refine ⟨fun a w E hA hS hd => gx1 (b_0 rfl v_2 (ev2 (gu hd 8) (gu hd 15)) (g_4 _ _ _)), ?_⟩
  refine ⟨fun a w E hA hS hd => ?_, ?_⟩
  ·skip
   obtain ⟨e1, Ez, BP, BE⟩ := hd 1 (by decide)
   obtain ⟨vt1_vs354, vm1_vs354, lr1_vs354, lb1_vs354, lk1_vs354, BO, BN⟩ := BP; subst BN
   rw [BO] at e1
   have hp1_0 := BE _ (List.mem_of_getElem? (i := 0) rfl)
   have hp1_1 := BE _ (List.mem_of_getElem? (i := 1) rfl)
   exact gx1 (b_0 rfl aa_7 (ev3 (c_9 (d_4 e1 rfl)) (gu hd 2) (gu hd 16)) (k_7 b vt1_vs354 vm1_vs354 lr1_vs354 lb1_vs354 lk1_vs354 _ (a_6 hp1_0) (c_3 hp1_1) hth (kk : Int) ((((b.tabs.getD kk tab0).rows).getD ii (0, 0)).1) (((((b.tabs.getD kk tab0).rows).getD ii (0, 0)).1) + 1)))
  refine ⟨fun a w E hA hS hd => gv1 (a_1 rfl (gu hd 17)), ?_⟩
  refine ⟨fun a w E hA hS hd => gv1 (c_6 rfl (gu hd 18) rfl), ?_⟩
  refine ⟨fun a w E hA hS hd => gv1 (c_6 rfl (gu hd 18) rfl), ?_⟩
  trivial
 intro E1 G5 E rsf360 EL U DJ; clear EK Bo
 obtain ⟨Ae, Ay⟩ := U 0 (by decide)
 obtain ⟨Ao, o⟩ := Ay
 obtain ⟨Af, Az⟩ := U 1 (by decide)
 obtain ⟨vt1_vs354, vm1_vs354, lr1_vs354, lb1_vs354, lk1_vs354, Ap, p⟩ := Az
 obtain ⟨Ag, A0⟩ := U 2 (by decide)
 obtain ⟨Aq, q⟩ := A0
 obtain ⟨Ah, A1⟩ := U 3 (by decide)
 obtain ⟨Ar, r⟩ := A1
 obtain ⟨Ai, A2⟩ := U 4 (by decide)
 obtain ⟨As, s⟩ := A2
 obtain ⟨Aj, A3⟩ := U 5 (by decide)
 obtain ⟨At, t⟩ := A3
 obtain ⟨Ak, A4⟩ := U 6 (by decide)
 obtain ⟨Au, u⟩ := A4
 obtain ⟨Al, A5⟩ := U 7 (by decide)
 obtain ⟨Av, z⟩ := A5
 obtain ⟨Am, A6⟩ := U 8 (by decide)
 obtain ⟨Aw, AA⟩ := A6
 obtain ⟨An, A7⟩ := U 9 (by decide)
 obtain ⟨Ax, AB⟩ := A7
 obtain ⟨AI, AV⟩ := U 10 (by decide)
 obtain ⟨AO, H⟩ := AV
 obtain ⟨AJ, AW⟩ := U 11 (by decide)
 obtain ⟨AP, I⟩ := AW
 obtain ⟨AK, AX⟩ := U 12 (by decide)
 obtain ⟨AQ, J⟩ := AX
 obtain ⟨AL, AY⟩ := U 13 (by decide)
 obtain ⟨AR, K⟩ := AY
 obtain ⟨AM, AZ⟩ := U 14 (by decide)
 obtain ⟨AS, L⟩ := AZ
 obtain ⟨AN, Aa⟩ := U 15 (by decide)
 obtain ⟨AT, M⟩ := Aa
 obtain ⟨AF, Ab⟩ := U 16 (by decide)
 obtain ⟨AH, N⟩ := Ab
 obtain ⟨P, Ac⟩ := U 17 (by decide)
 obtain ⟨g, O⟩ := Ac
 obtain ⟨Q, Ad⟩ := U 18 (by decide)
 obtain ⟨AC, e⟩ := Ad
 obtain ⟨f, A8⟩ := U 19 (by decide)
 obtain ⟨AU, AD⟩ := A8
 obtain ⟨R, A9⟩ := U 20 (by decide)
 obtain ⟨AG, AE⟩ := A9
 have DK : Sep NoB w G5 [(b_6 true vt1_vs354 lr1_vs354 lb1_vs354 b.tabs), (c_0 true vm1_vs354 lk1_vs354 b.macs), (b_6 true vt1_ lr1_ lb1_ b.tabs), (c_0 true vm1_ lk1_ b.macs), (blk b19_ 30 [(Value.int .i64 ((b_7 b (kk : Int) (((((b.tabs.getD kk tab0).rows).getD 0 (0, 0)).1) - 1, (((b.tabs.getD kk tab0).rows).getD 0 (0, 0)).1)).1)), (Value.int .i64 ((b_7 b (kk : Int) (((((b.tabs.getD kk tab0).rows).getD 0 (0, 0)).1) - 1, (((b.tabs.getD kk tab0).rows).getD 0 (0, 0)).1)).2))]), (blk A 46 [(Value.int .i64 ((b.tabs.getD kk tab0).frm)), (Value.int .i64 ((b.tabs.getD kk tab0).dst)), (lr kk), (lb kk), (Value.int .i64 ((b.tabs.getD kk tab0).err))]), (row BA 98 2 l.length (pairs l)), (b_6 true vt26 lr28 lb29 b.tabs), (c_0 true vm27 lk30 b.macs), (blk Z 25 [(Value.int .i64 b.scales), vt, vm]), (b_6 false vt lr lb b.tabs), (c_0 false vm lk b.macs), (sl xl 2 l.length (pairs l))] := by rw [show catR rsf360 0 21 = ([(b_6 true vt1_vs354 lr1_vs354 lb1_vs354 b.tabs), (c_0 true vm1_vs354 lk1_vs354 b.macs)] : List Res) by (try simp only [catR, o, p, q, r, s, t, u, z, AA, AB, H, I, J, K, L, M, N, O, e, AD, AE]); (try rfl)] at DJ; exact DJ
 rw [AG] at R
 have Cq : Fr 197 [] [(167, (Value.int .i64 (e_0 b (kk : Int) ((((b.tabs.getD kk tab0).rows).getD ii (0, 0)).1, ((((b.tabs.getD kk tab0).rows).getD ii (0, 0)).1) + 1)))), (19, (Value.int .i64 (ii : Int))), (16, (bptr A 0)), (15, (Value.int .i64 (kk : Int))), (4, (bptr Z 0))] E1 := EL.add (d_4 R rfl); clear EL
 clear U DJ Ae Af Ag Ah Ai Aj Ak Al Am An AI AJ AK AL AM AN AF P Q f R
 clear o
 clear Ao
 clear p
 clear Ap
 clear q
 clear Aq
 clear r
 clear Ar
 clear s
 clear As
 clear t
 clear At
 clear u
 clear Au
 clear z
 clear Av
 clear AA
 clear Aw
 clear AB
 clear Ax
 clear H
 clear AO
 clear I
 clear AP
 clear J
 clear AQ
 clear K
 clear AR
 clear L
 clear AS
 clear M
 clear AT
 clear N
 clear AH
 clear O
 clear g
 clear e
 clear AC
 clear AD
 clear AU
 clear AE
 clear AG
 refine s1 Cq (a_0 rfl (Cq.ev rfl)) fun Hn EM => ?_; clear Cq E1
 refine n2 ?_
 have Cr := EM.as [(18, (Value.int .i64 (e_0 b (kk : Int) ((((b.tabs.getD kk tab0).rows).getD ii (0, 0)).1, ((((b.tabs.getD kk tab0).rows).getD ii (0, 0)).1) + 1)))), (19, (Value.int .i64 (ii : Int))), (16, (bptr A 0)), (15, (Value.int .i64 (kk : Int))), (4, (bptr Z 0))] rfl; clear EM
 refine y_2 mixed Cr DK 21 19 rfl rfl [[], [0], [], [], [3], [], [4, 5], [6], [7], [], [9], [], [10, 11], [12], [13], [8, 14], [1, 2, 15], [16], [17], [17], []] [(fun (C : Nat → Value) (v_ : Value) (rs_ : List Res) => v_ = (Value.agg #[(Value.int .i64 b.scales), vt, vm]) ∧ rs_ = []), (fun (C : Nat → Value) (v_ : Value) (rs_ : List Res) => ∃ (vt1_vs366 : Value), ∃ (vm1_vs366 : Value), ∃ (lr1_vs366 : Nat → Value), ∃ (lb1_vs366 : Nat → Value), ∃ (lk1_vs366 : Nat → Value), v_ = (Value.agg #[(Value.int .i64 b.scales), vt1_vs366, vm1_vs366]) ∧ rs_ = [(b_6 true vt1_vs366 lr1_vs366 lb1_vs366 b.tabs), (c_0 true vm1_vs366 lk1_vs366 b.macs)]), (fun (C : Nat → Value) (v_ : Value) (rs_ : List Res) => v_ = (Value.int .i64 (kk : Int)) ∧ rs_ = []), (fun (C : Nat → Value) (v_ : Value) (rs_ : List Res) => v_ = (bptr A 2) ∧ rs_ = []), (fun (C : Nat → Value) (v_ : Value) (rs_ : List Res) => v_ = (lr kk) ∧ rs_ = []), (fun (C : Nat → Value) (v_ : Value) (rs_ : List Res) => v_ = (Value.int .i64 (ii : Int)) ∧ rs_ = []), (fun (C : Nat → Value) (v_ : Value) (rs_ : List Res) => v_ = (eptr (lr kk) (ii * 2)) ∧ rs_ = []), (fun (C : Nat → Value) (v_ : Value) (rs_ : List Res) => v_ = (eptr (lr kk) (ii * 2 + 0)) ∧ rs_ = []), (fun (C : Nat → Value) (v_ : Value) (rs_ : List Res) => v_ = (Value.int .i64 ((((b.tabs.getD kk tab0).rows).getD ii (0, 0)).1)) ∧ rs_ = []), (fun (C : Nat → Value) (v_ : Value) (rs_ : List Res) => v_ = (bptr A 2) ∧ rs_ = []), (fun (C : Nat → Value) (v_ : Value) (rs_ : List Res) => v_ = (lr kk) ∧ rs_ = []), (fun (C : Nat → Value) (v_ : Value) (rs_ : List Res) => v_ = (Value.int .i64 (ii : Int)) ∧ rs_ = []), (fun (C : Nat → Value) (v_ : Value) (rs_ : List Res) => v_ = (eptr (lr kk) (ii * 2)) ∧ rs_ = []), (fun (C : Nat → Value) (v_ : Value) (rs_ : List Res) => v_ = (eptr (lr kk) (ii * 2 + 0)) ∧ rs_ = []), (fun (C : Nat → Value) (v_ : Value) (rs_ : List Res) => v_ = (Value.int .i64 ((((b.tabs.getD kk tab0).rows).getD ii (0, 0)).1)) ∧ rs_ = []), (fun (C : Nat → Value) (v_ : Value) (rs_ : List Res) => v_ = (Value.agg #[(Value.int .i64 ((((b.tabs.getD kk tab0).rows).getD ii (0, 0)).1)), (Value.int .i64 ((((b.tabs.getD kk tab0).rows).getD ii (0, 0)).1))]) ∧ rs_ = []), (fun (C : Nat → Value) (v_ : Value) (rs_ : List Res) => v_ = (Value.tuple #[(Value.agg #[(Value.int .i64 ((b_7 b (kk : Int) ((((b.tabs.getD kk tab0).rows).getD ii (0, 0)).1, (((b.tabs.getD kk tab0).rows).getD ii (0, 0)).1)).1)), (Value.int .i64 ((b_7 b (kk : Int) ((((b.tabs.getD kk tab0).rows).getD ii (0, 0)).1, (((b.tabs.getD kk tab0).rows).getD ii (0, 0)).1)).2))]), (Value.int .i64 (e_0 b (kk : Int) ((((b.tabs.getD kk tab0).rows).getD ii (0, 0)).1, (((b.tabs.getD kk tab0).rows).getD ii (0, 0)).1)))]) ∧ rs_ = []), (fun (C : Nat → Value) (v_ : Value) (rs_ : List Res) => v_ = (Value.tuple #[(Value.agg #[(Value.int .i64 ((b_7 b (kk : Int) ((((b.tabs.getD kk tab0).rows).getD ii (0, 0)).1, (((b.tabs.getD kk tab0).rows).getD ii (0, 0)).1)).1)), (Value.int .i64 ((b_7 b (kk : Int) ((((b.tabs.getD kk tab0).rows).getD ii (0, 0)).1, (((b.tabs.getD kk tab0).rows).getD ii (0, 0)).1)).2))]), (Value.int .i64 (e_0 b (kk : Int) ((((b.tabs.getD kk tab0).rows).getD ii (0, 0)).1, (((b.tabs.getD kk tab0).rows).getD ii (0, 0)).1)))]) ∧ rs_ = []), (fun (C : Nat → Value) (v_ : Value) (rs_ : List Res) => v_ = (Value.agg #[(Value.int .i64 ((b_7 b (kk : Int) ((((b.tabs.getD kk tab0).rows).getD ii (0, 0)).1, (((b.tabs.getD kk tab0).rows).getD ii (0, 0)).1)).1)), (Value.int .i64 ((b_7 b (kk : Int) ((((b.tabs.getD kk tab0).rows).getD ii (0, 0)).1, (((b.tabs.getD kk tab0).rows).getD ii (0, 0)).1)).2))]) ∧ rs_ = []), (fun (C : Nat → Value) (v_ : Value) (rs_ : List Res) => v_ = (Value.int .i64 (e_0 b (kk : Int) ((((b.tabs.getD kk tab0).rows).getD ii (0, 0)).1, (((b.tabs.getD kk tab0).rows).getD ii (0, 0)).1))) ∧ rs_ = []), (fun (C : Nat → Value) (v_ : Value) (rs_ : List Res) => ∃ (b20_ : Nat), v_ = (bptr b20_ 0) ∧ rs_ = [(blk b20_ 30 [(Value.int .i64 0), (Value.int .i64 0)])])] (by decide +kernel) (by decide +kernel) (by decide +kernel) rfl rfl ⟨(fun _ _ _ _ _ h_ => h_), (fun _ _ _ _ _ h_ => h_), (fun _ _ _ _ _ h_ => h_), (fun _ _ _ _ _ h_ => h_), (fun _ _ _ _ _ h_ => h_), (fun _ _ _ _ _ h_ => h_), (fun _ _ _ _ _ h_ => h_), (fun _ _ _ _ _ h_ => h_), (fun _ _ _ _ _ h_ => h_), (fun _ _ _ _ _ h_ => h_), (fun _ _ _ _ _ h_ => h_), (fun _ _ _ _ _ h_ => h_), (fun _ _ _ _ _ h_ => h_), (fun _ _ _ _ _ h_ => h_), (fun _ _ _ _ _ h_ => h_), (fun _ _ _ _ _ h_ => h_), (fun _ _ _ _ _ h_ => h_), (fun _ _ _ _ _ h_ => h_), (fun _ _ _ _ _ h_ => h_), (fun _ _ _ _ _ h_ => h_), (fun _ _ _ _ _ h_ => h_), trivial⟩ ?_ ?_ ?_
 ·skip
  refine ⟨fun a w C hA hS hd => gv1 (c_5 rfl x_0 (hA.ev rfl) (hS.bk 9 rfl) (l := [(Value.int .i64 b.scales), vt, vm]) rfl rfl), ?_⟩
  refine ⟨fun a w C hA hS hd => d_6 rfl (vn (b_0 rfl aa_2 (ev1 (gu hd 0)) (q_9 b vt vm lr lb lk _ (a_6 (hS.ok 10 _ rfl)) (c_3 (hS.ok 11 _ rfl)) hth)) (fun v w' h => by obtain ⟨vt, vm, lr, lb, lk, rfl, hT⟩ := h; exact ⟨_, ⟨vt, vm, lr, lb, lk, rfl, rfl⟩, hT, rfl⟩)), ?_⟩
  refine ⟨fun a w C hA hS hd => gv1 (a_1 rfl (hA.ev rfl)), ?_⟩
  refine ⟨fun a w C hA hS hd => gv1 (a_4 rfl f_4 (hA.ev rfl)), ?_⟩
  refine ⟨fun a w C hA hS hd => gv1 (a_3 rfl k_1 (gu hd 3) (hS.bk 5 rfl) rfl), ?_⟩
  refine ⟨fun a w C hA hS hd => gv1 (a_1 rfl (hA.ev rfl)), ?_⟩
  refine ⟨fun a w C hA hS hd => gv1 (b_3 rfl k_2 m_6 (gu hd 4) (i := ii) (gu hd 5) ((a_6 (hS.ok 10 _ rfl)).row (i := kk) (by omega)) (by decide) (by omega)), ?_⟩
  refine ⟨fun a w C hA hS hd => gv1 (c_8 rfl h_9 (gu hd 6) ((a_6 (hS.ok 10 _ rfl)).row (i := kk) (by omega)) (by rw [(((a_6 (hS.ok 10 _ rfl)).row (i := kk) (by omega))).1]; omega)), ?_⟩
  refine ⟨fun a w C hA hS hd => gv1 (c_2 rfl ty_3 (gu hd 7) ((a_6 (hS.ok 10 _ rfl)).row (i := kk) (by omega)) (e_5 (by omega))), ?_⟩
  refine ⟨fun a w C hA hS hd => gv1 (a_4 rfl f_4 (hA.ev rfl)), ?_⟩
  refine ⟨fun a w C hA hS hd => gv1 (a_3 rfl k_1 (gu hd 9) (hS.bk 5 rfl) rfl), ?_⟩
  refine ⟨fun a w C hA hS hd => gv1 (a_1 rfl (hA.ev rfl)), ?_⟩
  refine ⟨fun a w C hA hS hd => gv1 (b_3 rfl k_2 m_6 (gu hd 10) (i := ii) (gu hd 11) ((a_6 (hS.ok 10 _ rfl)).row (i := kk) (by omega)) (by decide) (by omega)), ?_⟩
  refine ⟨fun a w C hA hS hd => gv1 (c_8 rfl h_9 (gu hd 12) ((a_6 (hS.ok 10 _ rfl)).row (i := kk) (by omega)) (by rw [(((a_6 (hS.ok 10 _ rfl)).row (i := kk) (by omega))).1]; omega)), ?_⟩
  refine ⟨fun a w C hA hS hd => gv1 (c_2 rfl ty_3 (gu hd 13) ((a_6 (hS.ok 10 _ rfl)).row (i := kk) (by omega)) (e_5 (by omega))), ?_⟩
  refine ⟨fun a w C hA hS hd => gx1 (b_0 rfl v_2 (ev2 (gu hd 8) (gu hd 14)) (g_4 _ _ _)), ?_⟩
  refine ⟨fun a w C hA hS hd => ?_, ?_⟩
  ·skip
   obtain ⟨e1, Ez, BP, BE⟩ := hd 1 (by decide)
   obtain ⟨vt1_vs366, vm1_vs366, lr1_vs366, lb1_vs366, lk1_vs366, BO, BN⟩ := BP; subst BN
   rw [BO] at e1
   have hp1_0 := BE _ (List.mem_of_getElem? (i := 0) rfl)
   have hp1_1 := BE _ (List.mem_of_getElem? (i := 1) rfl)
   exact gx1 (b_0 rfl aa_7 (ev3 (c_9 (d_4 e1 rfl)) (gu hd 2) (gu hd 15)) (k_7 b vt1_vs366 vm1_vs366 lr1_vs366 lb1_vs366 lk1_vs366 _ (a_6 hp1_0) (c_3 hp1_1) hth (kk : Int) ((((b.tabs.getD kk tab0).rows).getD ii (0, 0)).1) ((((b.tabs.getD kk tab0).rows).getD ii (0, 0)).1)))
  refine ⟨fun a w C hA hS hd => gv1 (a_1 rfl (gu hd 16)), ?_⟩
  refine ⟨fun a w C hA hS hd => gv1 (c_6 rfl (gu hd 17) rfl), ?_⟩
  refine ⟨fun a w C hA hS hd => gv1 (c_6 rfl (gu hd 17) rfl), ?_⟩
  refine ⟨fun a w C hA hS hd => d_6 rfl (valloc rfl t_5 (cs := [(Value.int .i64 0), (Value.int .i64 0)]) rfl (fun b_ => ⟨b_, rfl, rfl⟩)), ?_⟩
  trivial
 ·skip
  intro Bx G6 C rsf372 EN V DL; clear Cr DK
  obtain ⟨Ae, Ay⟩ := V 0 (by decide)
  obtain ⟨Ao, o⟩ := Ay
  obtain ⟨Af, Az⟩ := V 1 (by decide)
  obtain ⟨vt1_vs366, vm1_vs366, lr1_vs366, lb1_vs366, lk1_vs366, Ap, p⟩ := Az
  obtain ⟨Ag, A0⟩ := V 2 (by decide)
  obtain ⟨Aq, q⟩ := A0
  obtain ⟨Ah, A1⟩ := V 3 (by decide)
  obtain ⟨Ar, r⟩ := A1
  obtain ⟨Ai, A2⟩ := V 4 (by decide)
  obtain ⟨As, s⟩ := A2
  obtain ⟨Aj, A3⟩ := V 5 (by decide)
  obtain ⟨At, t⟩ := A3
  obtain ⟨Ak, A4⟩ := V 6 (by decide)
  obtain ⟨Au, u⟩ := A4
  obtain ⟨Al, A5⟩ := V 7 (by decide)
  obtain ⟨Av, z⟩ := A5
  obtain ⟨Am, A6⟩ := V 8 (by decide)
  obtain ⟨Aw, AA⟩ := A6
  obtain ⟨An, A7⟩ := V 9 (by decide)
  obtain ⟨Ax, AB⟩ := A7
  obtain ⟨AI, AV⟩ := V 10 (by decide)
  obtain ⟨AO, H⟩ := AV
  obtain ⟨AJ, AW⟩ := V 11 (by decide)
  obtain ⟨AP, I⟩ := AW
  obtain ⟨AK, AX⟩ := V 12 (by decide)
  obtain ⟨AQ, J⟩ := AX
  obtain ⟨AL, AY⟩ := V 13 (by decide)
  obtain ⟨AR, K⟩ := AY
  obtain ⟨AM, AZ⟩ := V 14 (by decide)
  obtain ⟨AS, L⟩ := AZ
  obtain ⟨AN, Aa⟩ := V 15 (by decide)
  obtain ⟨AT, M⟩ := Aa
  obtain ⟨AF, Ab⟩ := V 16 (by decide)
  obtain ⟨AH, N⟩ := Ab
  obtain ⟨P, Ac⟩ := V 17 (by decide)
  obtain ⟨g, O⟩ := Ac
  obtain ⟨Q, Ad⟩ := V 18 (by decide)
  obtain ⟨AC, e⟩ := Ad
  obtain ⟨f, A8⟩ := V 19 (by decide)
  obtain ⟨AU, AD⟩ := A8
  obtain ⟨R, A9⟩ := V 20 (by decide)
  obtain ⟨b20_, AG, AE⟩ := A9
  have Er : Sep NoB w G6 [(b_6 true vt1_vs366 lr1_vs366 lb1_vs366 b.tabs), (c_0 true vm1_vs366 lk1_vs366 b.macs), (blk b20_ 30 [(Value.int .i64 0), (Value.int .i64 0)]), (b_6 true vt1_vs354 lr1_vs354 lb1_vs354 b.tabs), (c_0 true vm1_vs354 lk1_vs354 b.macs), (b_6 true vt1_ lr1_ lb1_ b.tabs), (c_0 true vm1_ lk1_ b.macs), (blk b19_ 30 [(Value.int .i64 ((b_7 b (kk : Int) (((((b.tabs.getD kk tab0).rows).getD 0 (0, 0)).1) - 1, (((b.tabs.getD kk tab0).rows).getD 0 (0, 0)).1)).1)), (Value.int .i64 ((b_7 b (kk : Int) (((((b.tabs.getD kk tab0).rows).getD 0 (0, 0)).1) - 1, (((b.tabs.getD kk tab0).rows).getD 0 (0, 0)).1)).2))]), (blk A 46 [(Value.int .i64 ((b.tabs.getD kk tab0).frm)), (Value.int .i64 ((b.tabs.getD kk tab0).dst)), (lr kk), (lb kk), (Value.int .i64 ((b.tabs.getD kk tab0).err))]), (row BA 98 2 l.length (pairs l)), (b_6 true vt26 lr28 lb29 b.tabs), (c_0 true vm27 lk30 b.macs), (blk Z 25 [(Value.int .i64 b.scales), vt, vm]), (b_6 false vt lr lb b.tabs), (c_0 false vm lk b.macs), (sl xl 2 l.length (pairs l))] := by rw [show catR rsf372 0 21 = ([(b_6 true vt1_vs366 lr1_vs366 lb1_vs366 b.tabs), (c_0 true vm1_vs366 lk1_vs366 b.macs), (blk b20_ 30 [(Value.int .i64 0), (Value.int .i64 0)])] : List Res) by (try simp only [catR, o, p, q, r, s, t, u, z, AA, AB, H, I, J, K, L, M, N, O, e, AD, AE]); (try rfl)] at DL; exact DL
  rw [AC] at Q
  have EO : Fr 197 [] [(186, (Value.agg #[(Value.int .i64 ((b_7 b (kk : Int) ((((b.tabs.getD kk tab0).rows).getD ii (0, 0)).1, (((b.tabs.getD kk tab0).rows).getD ii (0, 0)).1)).1)), (Value.int .i64 ((b_7 b (kk : Int) ((((b.tabs.getD kk tab0).rows).getD ii (0, 0)).1, (((b.tabs.getD kk tab0).rows).getD ii (0, 0)).1)).2))])), (18, (Value.int .i64 (e_0 b (kk : Int) ((((b.tabs.getD kk tab0).rows).getD ii (0, 0)).1, ((((b.tabs.getD kk tab0).rows).getD ii (0, 0)).1) + 1)))), (19, (Value.int .i64 (ii : Int))), (16, (bptr A 0)), (15, (Value.int .i64 (kk : Int))), (4, (bptr Z 0))] Bx := EN.add (d_4 Q rfl); clear EN
  rw [AU] at f
  have EP : Fr 197 [] [(187, (Value.int .i64 (e_0 b (kk : Int) ((((b.tabs.getD kk tab0).rows).getD ii (0, 0)).1, (((b.tabs.getD kk tab0).rows).getD ii (0, 0)).1)))), (186, (Value.agg #[(Value.int .i64 ((b_7 b (kk : Int) ((((b.tabs.getD kk tab0).rows).getD ii (0, 0)).1, (((b.tabs.getD kk tab0).rows).getD ii (0, 0)).1)).1)), (Value.int .i64 ((b_7 b (kk : Int) ((((b.tabs.getD kk tab0).rows).getD ii (0, 0)).1, (((b.tabs.getD kk tab0).rows).getD ii (0, 0)).1)).2))])), (18, (Value.int .i64 (e_0 b (kk : Int) ((((b.tabs.getD kk tab0).rows).getD ii (0, 0)).1, ((((b.tabs.getD kk tab0).rows).getD ii (0, 0)).1) + 1)))), (19, (Value.int .i64 (ii : Int))), (16, (bptr A 0)), (15, (Value.int .i64 (kk : Int))), (4, (bptr Z 0))] Bx := EO.add (d_4 f rfl); clear EO
  rw [AG] at R
  have Bg : Fr 197 [] [(20, (bptr b20_ 0)), (187, (Value.int .i64 (e_0 b (kk : Int) ((((b.tabs.getD kk tab0).rows).getD ii (0, 0)).1, (((b.tabs.getD kk tab0).rows).getD ii (0, 0)).1)))), (186, (Value.agg #[(Value.int .i64 ((b_7 b (kk : Int) ((((b.tabs.getD kk tab0).rows).getD ii (0, 0)).1, (((b.tabs.getD kk tab0).rows).getD ii (0, 0)).1)).1)), (Value.int .i64 ((b_7 b (kk : Int) ((((b.tabs.getD kk tab0).rows).getD ii (0, 0)).1, (((b.tabs.getD kk tab0).rows).getD ii (0, 0)).1)).2))])), (18, (Value.int .i64 (e_0 b (kk : Int) ((((b.tabs.getD kk tab0).rows).getD ii (0, 0)).1, ((((b.tabs.getD kk tab0).rows).getD ii (0, 0)).1) + 1)))), (19, (Value.int .i64 (ii : Int))), (16, (bptr A 0)), (15, (Value.int .i64 (kk : Int))), (4, (bptr Z 0))] Bx := EP.add (d_4 R rfl); clear EP
  clear V DL Ae Af Ag Ah Ai Aj Ak Al Am An AI AJ AK AL AM AN AF P Q f R
  clear o
  clear Ao
  clear p
  clear Ap
  clear q
  clear Aq
  clear r
  clear Ar
  clear s
  clear As
  clear t
  clear At
  clear u
  clear Au
  clear z
  clear Av
  clear AA
  clear Aw
  clear AB
  clear Ax
  clear H
  clear AO
  clear I
  clear AP
  clear J
  clear AQ
  clear K
  clear AR
  clear L
  clear AS
  clear M
  clear AT
  clear N
  clear AH
  clear O
  clear g
  clear e
  clear AC
  clear AD
  clear AU
  clear AE
  clear AG
  refine s7 Bg (c_1 Er rfl f_5 (Bg.ev rfl) (Bg.ev rfl) (i := 2) rfl (vs := [(Value.int .i64 ((b_7 b (kk : Int) ((((b.tabs.getD kk tab0).rows).getD ii (0, 0)).1, (((b.tabs.getD kk tab0).rows).getD ii (0, 0)).1)).1)), (Value.int .i64 ((b_7 b (kk : Int) ((((b.tabs.getD kk tab0).rows).getD ii (0, 0)).1, (((b.tabs.getD kk tab0).rows).getD ii (0, 0)).1)).2))]) rfl rfl rfl (Nat.le_of_ble_eq_true rfl)) ?_
  intro _ G7 Es Cs; clear Bg
  have Et : Sep NoB w G7 [(b_6 true vt1_vs366 lr1_vs366 lb1_vs366 b.tabs), (c_0 true vm1_vs366 lk1_vs366 b.macs), (blk b20_ 30 [(Value.int .i64 ((b_7 b (kk : Int) ((((b.tabs.getD kk tab0).rows).getD ii (0, 0)).1, (((b.tabs.getD kk tab0).rows).getD ii (0, 0)).1)).1)), (Value.int .i64 ((b_7 b (kk : Int) ((((b.tabs.getD kk tab0).rows).getD ii (0, 0)).1, (((b.tabs.getD kk tab0).rows).getD ii (0, 0)).1)).2))]), (b_6 true vt1_vs354 lr1_vs354 lb1_vs354 b.tabs), (c_0 true vm1_vs354 lk1_vs354 b.macs), (b_6 true vt1_ lr1_ lb1_ b.tabs), (c_0 true vm1_ lk1_ b.macs), (blk b19_ 30 [(Value.int .i64 ((b_7 b (kk : Int) (((((b.tabs.getD kk tab0).rows).getD 0 (0, 0)).1) - 1, (((b.tabs.getD kk tab0).rows).getD 0 (0, 0)).1)).1)), (Value.int .i64 ((b_7 b (kk : Int) (((((b.tabs.getD kk tab0).rows).getD 0 (0, 0)).1) - 1, (((b.tabs.getD kk tab0).rows).getD 0 (0, 0)).1)).2))]), (blk A 46 [(Value.int .i64 ((b.tabs.getD kk tab0).frm)), (Value.int .i64 ((b.tabs.getD kk tab0).dst)), (lr kk), (lb kk), (Value.int .i64 ((b.tabs.getD kk tab0).err))]), (row BA 98 2 l.length (pairs l)), (b_6 true vt26 lr28 lb29 b.tabs), (c_0 true vm27 lk30 b.macs), (blk Z 25 [(Value.int .i64 b.scales), vt, vm]), (b_6 false vt lr lb b.tabs), (c_0 false vm lk b.macs), (sl xl 2 l.length (pairs l))] := Es; clear Es Er
  refine s1 Cs (a_0 rfl (Cs.ev rfl)) fun GW EQ => ?_; clear Cs Bx
  refine n2 ?_
  have Ct := EQ.as [(21, (Value.int .i64 (e_0 b (kk : Int) ((((b.tabs.getD kk tab0).rows).getD ii (0, 0)).1, (((b.tabs.getD kk tab0).rows).getD ii (0, 0)).1)))), (18, (Value.int .i64 (e_0 b (kk : Int) ((((b.tabs.getD kk tab0).rows).getD ii (0, 0)).1, ((((b.tabs.getD kk tab0).rows).getD ii (0, 0)).1) + 1))))] rfl; clear EQ
  refine a_5 ?_
  refine s1 Ct (a_1 rfl (Ct.ev rfl)) fun GX Cu => ?_; clear Ct GW
  refine s1 Cu (i_8 rfl (Cu.ev rfl) (evc _ _)) fun GY Bh => ?_; clear Cu GX
  have FT : (e_0 b (kk : Int) ((((b.tabs.getD kk tab0).rows).getD ii (0, 0)).1, ((((b.tabs.getD kk tab0).rows).getD ii (0, 0)).1) + 1)) = 10 := (by first | exact m_4 hc hb_kk | exact m_3 hc hb_kk hi_ii hm_ii)
  rw [decide_eq_true FT] at Bh
  refine s1 Bh (a_1 rfl (Bh.ev rfl)) fun GZ Cv => ?_; clear Bh GY
  refine s5 Cv (a_1 rfl (Cv.ev rfl)) fun Ga Cw => ?_; clear Cv GZ
  refine s5 Cw (i_8 rfl (Cw.ev rfl) (evc _ _)) fun Gb BL => ?_; clear Cw Ga
  have FU : (e_0 b (kk : Int) ((((b.tabs.getD kk tab0).rows).getD ii (0, 0)).1, (((b.tabs.getD kk tab0).rows).getD ii (0, 0)).1)) = 0 := (t_6 hc hb_kk hi_ii)
  rw [decide_eq_true FU] at BL
  refine s1 BL (b_4 rfl (BL.ev rfl) (BL.ev rfl)) fun Gc Cx => ?_; clear BL Gb
  refine s1 Cx (a_1 rfl (Cx.ev rfl)) fun Gd ER => ?_; clear Cx Gc
  refine s6 ER (b_0 rfl y_8 ev0 (l_5 _)) ?_
  rintro Ge _ H1 ⟨rfl, Ee⟩ Bi; have FK := Et.step Ee; clear Ee ER Et Gd
  refine s1 Bi (b_4 rfl (Bi.ev rfl) (Bi.ev rfl)) fun Gf Cy => ?_; clear Bi Ge
  refine s1 Cy (a_0 rfl (Cy.ev rfl)) fun Ho ES => ?_; clear Cy Gf
  refine n1 ?_
  refine c_4 ?_
  refine a_8 ES (.inl rfl) (a_2 ES rfl (.tmp rfl)) ?_
  exact ⟨rfl, FK.ext⟩
 skip
 intro By G8 C rsf414 ET Y hrq DM; clear Cr DK
 obtain ⟨Ae, Ay⟩ := Y 0 (by decide) (by decide)
 obtain ⟨Ao, o⟩ := Ay
 obtain ⟨Af, Az⟩ := Y 1 (by decide) (by decide)
 obtain ⟨vt1_vs366, vm1_vs366, lr1_vs366, lb1_vs366, lk1_vs366, Ap, p⟩ := Az
 obtain ⟨Ag, A0⟩ := Y 2 (by decide) (by decide)
 obtain ⟨Aq, q⟩ := A0
 obtain ⟨Ah, A1⟩ := Y 3 (by decide) (by decide)
 obtain ⟨Ar, r⟩ := A1
 obtain ⟨Ai, A2⟩ := Y 4 (by decide) (by decide)
 obtain ⟨As, s⟩ := A2
 obtain ⟨Aj, A3⟩ := Y 5 (by decide) (by decide)
 obtain ⟨At, t⟩ := A3
 obtain ⟨Ak, A4⟩ := Y 6 (by decide) (by decide)
 obtain ⟨Au, u⟩ := A4
 obtain ⟨Al, A5⟩ := Y 7 (by decide) (by decide)
 obtain ⟨Av, z⟩ := A5
 obtain ⟨Am, A6⟩ := Y 8 (by decide) (by decide)
 obtain ⟨Aw, AA⟩ := A6
 obtain ⟨An, A7⟩ := Y 9 (by decide) (by decide)
 obtain ⟨Ax, AB⟩ := A7
 obtain ⟨AI, AV⟩ := Y 10 (by decide) (by decide)
 obtain ⟨AO, H⟩ := AV
 obtain ⟨AJ, AW⟩ := Y 11 (by decide) (by decide)
 obtain ⟨AP, I⟩ := AW
 obtain ⟨AK, AX⟩ := Y 12 (by decide) (by decide)
 obtain ⟨AQ, J⟩ := AX
 obtain ⟨AL, AY⟩ := Y 13 (by decide) (by decide)
 obtain ⟨AR, K⟩ := AY
 obtain ⟨AM, AZ⟩ := Y 14 (by decide) (by decide)
 obtain ⟨AS, L⟩ := AZ
 obtain ⟨AN, Aa⟩ := Y 15 (by decide) (by decide)
 obtain ⟨AT, M⟩ := Aa
 obtain ⟨AF, Ab⟩ := Y 16 (by decide) (by decide)
 obtain ⟨AH, N⟩ := Ab
 obtain ⟨P, Ac⟩ := Y 17 (by decide) (by decide)
 obtain ⟨g, O⟩ := Ac
 obtain ⟨Q, Ad⟩ := Y 18 (by decide) (by decide)
 obtain ⟨AC, e⟩ := Ad
 obtain ⟨R, A9⟩ := Y 20 (by decide) (by decide)
 obtain ⟨b20_, AG, AE⟩ := A9
 have Eu : Sep NoB w G8 [(b_6 true vt1_vs366 lr1_vs366 lb1_vs366 b.tabs), (c_0 true vm1_vs366 lk1_vs366 b.macs), (blk b20_ 30 [(Value.int .i64 0), (Value.int .i64 0)]), (b_6 true vt1_vs354 lr1_vs354 lb1_vs354 b.tabs), (c_0 true vm1_vs354 lk1_vs354 b.macs), (b_6 true vt1_ lr1_ lb1_ b.tabs), (c_0 true vm1_ lk1_ b.macs), (blk b19_ 30 [(Value.int .i64 ((b_7 b (kk : Int) (((((b.tabs.getD kk tab0).rows).getD 0 (0, 0)).1) - 1, (((b.tabs.getD kk tab0).rows).getD 0 (0, 0)).1)).1)), (Value.int .i64 ((b_7 b (kk : Int) (((((b.tabs.getD kk tab0).rows).getD 0 (0, 0)).1) - 1, (((b.tabs.getD kk tab0).rows).getD 0 (0, 0)).1)).2))]), (blk A 46 [(Value.int .i64 ((b.tabs.getD kk tab0).frm)), (Value.int .i64 ((b.tabs.getD kk tab0).dst)), (lr kk), (lb kk), (Value.int .i64 ((b.tabs.getD kk tab0).err))]), (row BA 98 2 l.length (pairs l)), (b_6 true vt26 lr28 lb29 b.tabs), (c_0 true vm27 lk30 b.macs), (blk Z 25 [(Value.int .i64 b.scales), vt, vm]), (b_6 false vt lr lb b.tabs), (c_0 false vm lk b.macs), (sl xl 2 l.length (pairs l))] := by rw [show catR rsf414 0 21 = ([(b_6 true vt1_vs366 lr1_vs366 lb1_vs366 b.tabs), (c_0 true vm1_vs366 lk1_vs366 b.macs), (blk b20_ 30 [(Value.int .i64 0), (Value.int .i64 0)])] : List Res) by (try simp only [catR, o, p, q, r, s, t, u, z, AA, AB, H, I, J, K, L, M, N, O, e, AE, hrq]); (try rfl)] at DM; exact DM
 rw [g] at P
 have EU : Fr 197 [] [(168, (Value.tuple #[(Value.agg #[(Value.int .i64 ((b_7 b (kk : Int) ((((b.tabs.getD kk tab0).rows).getD ii (0, 0)).1, (((b.tabs.getD kk tab0).rows).getD ii (0, 0)).1)).1)), (Value.int .i64 ((b_7 b (kk : Int) ((((b.tabs.getD kk tab0).rows).getD ii (0, 0)).1, (((b.tabs.getD kk tab0).rows).getD ii (0, 0)).1)).2))]), (Value.int .i64 (e_0 b (kk : Int) ((((b.tabs.getD kk tab0).rows).getD ii (0, 0)).1, (((b.tabs.getD kk tab0).rows).getD ii (0, 0)).1)))])), (18, (Value.int .i64 (e_0 b (kk : Int) ((((b.tabs.getD kk tab0).rows).getD ii (0, 0)).1, ((((b.tabs.getD kk tab0).rows).getD ii (0, 0)).1) + 1)))), (19, (Value.int .i64 (ii : Int))), (16, (bptr A 0)), (15, (Value.int .i64 (kk : Int))), (4, (bptr Z 0))] By := ET.add (d_4 P rfl); clear ET
 rw [AC] at Q
 have EV : Fr 197 [] [(186, (Value.agg #[(Value.int .i64 ((b_7 b (kk : Int) ((((b.tabs.getD kk tab0).rows).getD ii (0, 0)).1, (((b.tabs.getD kk tab0).rows).getD ii (0, 0)).1)).1)), (Value.int .i64 ((b_7 b (kk : Int) ((((b.tabs.getD kk tab0).rows).getD ii (0, 0)).1, (((b.tabs.getD kk tab0).rows).getD ii (0, 0)).1)).2))])), (168, (Value.tuple #[(Value.agg #[(Value.int .i64 ((b_7 b (kk : Int) ((((b.tabs.getD kk tab0).rows).getD ii (0, 0)).1, (((b.tabs.getD kk tab0).rows).getD ii (0, 0)).1)).1)), (Value.int .i64 ((b_7 b (kk : Int) ((((b.tabs.getD kk tab0).rows).getD ii (0, 0)).1, (((b.tabs.getD kk tab0).rows).getD ii (0, 0)).1)).2))]), (Value.int .i64 (e_0 b (kk : Int) ((((b.tabs.getD kk tab0).rows).getD ii (0, 0)).1, (((b.tabs.getD kk tab0).rows).getD ii (0, 0)).1)))])), (18, (Value.int .i64 (e_0 b (kk : Int) ((((b.tabs.getD kk tab0).rows).getD ii (0, 0)).1, ((((b.tabs.getD kk tab0).rows).getD ii (0, 0)).1) + 1)))), (19, (Value.int .i64 (ii : Int))), (16, (bptr A 0)), (15, (Value.int .i64 (kk : Int))), (4, (bptr Z 0))] By := EU.add (d_4 Q rfl); clear EU
 rw [AG] at R
 have Bj : Fr 197 [] [(20, (bptr b20_ 0)), (186, (Value.agg #[(Value.int .i64 ((b_7 b (kk : Int) ((((b.tabs.getD kk tab0).rows).getD ii (0, 0)).1, (((b.tabs.getD kk tab0).rows).getD ii (0, 0)).1)).1)), (Value.int .i64 ((b_7 b (kk : Int) ((((b.tabs.getD kk tab0).rows).getD ii (0, 0)).1, (((b.tabs.getD kk tab0).rows).getD ii (0, 0)).1)).2))])), (168, (Value.tuple #[(Value.agg #[(Value.int .i64 ((b_7 b (kk : Int) ((((b.tabs.getD kk tab0).rows).getD ii (0, 0)).1, (((b.tabs.getD kk tab0).rows).getD ii (0, 0)).1)).1)), (Value.int .i64 ((b_7 b (kk : Int) ((((b.tabs.getD kk tab0).rows).getD ii (0, 0)).1, (((b.tabs.getD kk tab0).rows).getD ii (0, 0)).1)).2))]), (Value.int .i64 (e_0 b (kk : Int) ((((b.tabs.getD kk tab0).rows).getD ii (0, 0)).1, (((b.tabs.getD kk tab0).rows).getD ii (0, 0)).1)))])), (18, (Value.int .i64 (e_0 b (kk : Int) ((((b.tabs.getD kk tab0).rows).getD ii (0, 0)).1, ((((b.tabs.getD kk tab0).rows).getD ii (0, 0)).1) + 1)))), (19, (Value.int .i64 (ii : Int))), (16, (bptr A 0)), (15, (Value.int .i64 (kk : Int))), (4, (bptr Z 0))] By := EV.add (d_4 R rfl); clear EV
 clear Y DM Ae Af Ag Ah Ai Aj Ak Al Am An AI AJ AK AL AM AN AF P Q R hrq
 clear o
 clear Ao
 clear p
 clear Ap
 clear q
 clear Aq
 clear r
 clear Ar
 clear s
 clear As
 clear t
 clear At
 clear u
 clear Au
 clear z
 clear Av
 clear AA
 clear Aw
 clear AB
 clear Ax
 clear H
 clear AO
 clear I
 clear AP
 clear J
 clear AQ
 clear K
 clear AR
 clear L
 clear AS
 clear M
 clear AT
 clear N
 clear AH
 clear O
 clear g
 clear e
 clear AC
 clear AE
 clear AG
 refine s7 Bj (c_1 Eu rfl f_5 (Bj.ev rfl) (Bj.ev rfl) (i := 2) rfl (vs := [(Value.int .i64 ((b_7 b (kk : Int) ((((b.tabs.getD kk tab0).rows).getD ii (0, 0)).1, (((b.tabs.getD kk tab0).rows).getD ii (0, 0)).1)).1)), (Value.int .i64 ((b_7 b (kk : Int) ((((b.tabs.getD kk tab0).rows).getD ii (0, 0)).1, (((b.tabs.getD kk tab0).rows).getD ii (0, 0)).1)).2))]) rfl rfl rfl (Nat.le_of_ble_eq_true rfl)) ?_
 intro _ G9 Ev Cz; clear Bj
 have Ew : Sep NoB w G9 [(b_6 true vt1_vs366 lr1_vs366 lb1_vs366 b.tabs), (c_0 true vm1_vs366 lk1_vs366 b.macs), (blk b20_ 30 [(Value.int .i64 ((b_7 b (kk : Int) ((((b.tabs.getD kk tab0).rows).getD ii (0, 0)).1, (((b.tabs.getD kk tab0).rows).getD ii (0, 0)).1)).1)), (Value.int .i64 ((b_7 b (kk : Int) ((((b.tabs.getD kk tab0).rows).getD ii (0, 0)).1, (((b.tabs.getD kk tab0).rows).getD ii (0, 0)).1)).2))]), (b_6 true vt1_vs354 lr1_vs354 lb1_vs354 b.tabs), (c_0 true vm1_vs354 lk1_vs354 b.macs), (b_6 true vt1_ lr1_ lb1_ b.tabs), (c_0 true vm1_ lk1_ b.macs), (blk b19_ 30 [(Value.int .i64 ((b_7 b (kk : Int) (((((b.tabs.getD kk tab0).rows).getD 0 (0, 0)).1) - 1, (((b.tabs.getD kk tab0).rows).getD 0 (0, 0)).1)).1)), (Value.int .i64 ((b_7 b (kk : Int) (((((b.tabs.getD kk tab0).rows).getD 0 (0, 0)).1) - 1, (((b.tabs.getD kk tab0).rows).getD 0 (0, 0)).1)).2))]), (blk A 46 [(Value.int .i64 ((b.tabs.getD kk tab0).frm)), (Value.int .i64 ((b.tabs.getD kk tab0).dst)), (lr kk), (lb kk), (Value.int .i64 ((b.tabs.getD kk tab0).err))]), (row BA 98 2 l.length (pairs l)), (b_6 true vt26 lr28 lb29 b.tabs), (c_0 true vm27 lk30 b.macs), (blk Z 25 [(Value.int .i64 b.scales), vt, vm]), (b_6 false vt lr lb b.tabs), (c_0 false vm lk b.macs), (sl xl 2 l.length (pairs l))] := Ev; clear Ev Eu
 refine s1 Cz (c_6 rfl (Cz.ev rfl) rfl) fun Gg C0 => ?_; clear Cz By
 refine s1 C0 (a_0 rfl (C0.ev rfl)) fun Gh EW => ?_; clear C0 Gg
 refine n2 ?_
 have C1 := EW.as [(21, (Value.int .i64 (e_0 b (kk : Int) ((((b.tabs.getD kk tab0).rows).getD ii (0, 0)).1, (((b.tabs.getD kk tab0).rows).getD ii (0, 0)).1)))), (18, (Value.int .i64 (e_0 b (kk : Int) ((((b.tabs.getD kk tab0).rows).getD ii (0, 0)).1, ((((b.tabs.getD kk tab0).rows).getD ii (0, 0)).1) + 1))))] rfl; clear EW
 refine a_5 ?_
 refine s1 C1 (a_1 rfl (C1.ev rfl)) fun Gi C2 => ?_; clear C1 Gh
 refine s1 C2 (i_8 rfl (C2.ev rfl) (evc _ _)) fun Gj Bk => ?_; clear C2 Gi
 have FV : (e_0 b (kk : Int) ((((b.tabs.getD kk tab0).rows).getD ii (0, 0)).1, ((((b.tabs.getD kk tab0).rows).getD ii (0, 0)).1) + 1)) = 10 := (by first | exact m_4 hc hb_kk | exact m_3 hc hb_kk hi_ii hm_ii)
 rw [decide_eq_true FV] at Bk
 refine s1 Bk (a_1 rfl (Bk.ev rfl)) fun Gk C3 => ?_; clear Bk Gj
 refine s5 C3 (a_1 rfl (C3.ev rfl)) fun Gl C4 => ?_; clear C3 Gk
 refine s5 C4 (i_8 rfl (C4.ev rfl) (evc _ _)) fun Gm BM => ?_; clear C4 Gl
 have FW : (e_0 b (kk : Int) ((((b.tabs.getD kk tab0).rows).getD ii (0, 0)).1, (((b.tabs.getD kk tab0).rows).getD ii (0, 0)).1)) = 0 := (t_6 hc hb_kk hi_ii)
 rw [decide_eq_true FW] at BM
 refine s1 BM (b_4 rfl (BM.ev rfl) (BM.ev rfl)) fun Gn C5 => ?_; clear BM Gm
 refine s1 C5 (a_1 rfl (C5.ev rfl)) fun Go EX => ?_; clear C5 Gn
 refine s6 EX (b_0 rfl y_8 ev0 (l_5 _)) ?_
 rintro Gp _ H2 ⟨rfl, Ef⟩ Bl; have FL := Ew.step Ef; clear Ef EX Ew Go
 refine s1 Bl (b_4 rfl (Bl.ev rfl) (Bl.ev rfl)) fun Gq C6 => ?_; clear Bl Gp
 refine s1 C6 (a_0 rfl (C6.ev rfl)) fun Hp EY => ?_; clear C6 Gq
 refine n1 ?_
 refine c_4 ?_
 refine a_8 EY (.inl rfl) (a_2 EY rfl (.tmp rfl)) ?_
 exact ⟨rfl, FL.ext⟩
set_option maxHeartbeats 4000000 in
theorem HardAllows_c (b : h_2) (vt vm : Value) (lr lb lk : Nat → Value) (w : World) (hT : j_5 w vt lr lb b.tabs) (hM : k_8 w vm lk b.macs) (l : List (Int × Int)) (xl : Value) (hxl : SlAt w xl 2 l.length (pairs l)) (wa wb : Int) (hA_ : 0 ≤ wa ∧ wa ≤ 255) (hB_ : 0 ≤ wb ∧ wb ≤ 255) (hf : x_4 b l = true) (t : g_5) (hs : m_9 b l = some t) :
  Calls Try.prog 9 #[(Value.agg #[(Value.int .i64 b.scales), vt, vm]), xl, (Value.int .u8 wa), (Value.int .u8 wb)] w (Ret fun v w' => v = .bool true ∧ Ext NoB w w') := by
 refine a_9 Try.func9 rfl fun a0 EU => ?_
 replace EU : Fr 197 [] [(0, (Value.agg #[(Value.int .i64 b.scales), vt, vm])), (1, xl), (2, (Value.int .u8 wa)), (3, (Value.int .u8 wb))] a0 := EU
 have hrd := ready_is hf; have hth := hrd.1; have Kn := hrd.2.1; have hr := hrd.2.2; have htl9 := hth.tl; have hml9 := hth.ml; have hc := read_check hr; have hbl := read_ok hr; have hb := hbl.1; have hl := hbl.2; have K3 := hb.scales; have htln := sp_len hb hl hs
 have HU : Sep NoB w w [(b_6 false vt lr lb b.tabs), (c_0 false vm lk b.macs), (sl xl 2 l.length (pairs l))] := f_2 ⟨rfl, hT, rfl, hM, rfl, hxl, trivial⟩
 refine m2 ?_
 refine s2 EU (f_3 HU rfl (EU.ev rfl) (cs := [(Value.int .i64 b.scales), vt, vm]) rfl) ?_
 rintro a1 _ w3 ⟨H, rfl, CI⟩ HT; clear EU HU a0
 refine s1 HT (a_0 rfl (evc _ _)) fun a6 Gm => ?_; clear HT a1
 refine n2 ?_
 refine m2 ?_
 refine s1 Gm (c_5 rfl x_0 (Gm.ev rfl) (CI.bk 0 rfl) (l := [(Value.int .i64 b.scales), vt, vm]) rfl rfl) fun a8 Gq => ?_; clear Gm a6
 refine s1 Gq (a_1 rfl (Gq.ev rfl)) fun J0 CT => ?_; clear Gq a8
 refine s2 CT (b_0 rfl en_29 (ev2 (CT.ev rfl) (CT.ev rfl)) (ready_ok b vt vm lr lb lk _ (a_6 (CI.ok 1 _ rfl)) (c_3 (CI.ok 2 _ rfl)) l _ (CI.sk 3 rfl))) ?_
 rintro J1 _ K4 ⟨rfl, Gr⟩ CZ; have CF := CI.step Gr; clear Gr CT CI J0
 have Jj : (x_4 b l) = true := hf
 rw [Jj] at CZ
 refine s1 CZ (f_7 rfl (CZ.ev rfl)) fun J2 EV => ?_; clear CZ J1
 refine n1 ?_
 refine b_8 EV rfl ?_
 refine d_2 ?_
 refine b_2 ?_
 refine b_9 ?_
 have EW := EV.as [(4, (bptr H 0)), (1, xl), (2, (Value.int .u8 wa)), (3, (Value.int .u8 wb))] rfl; clear EV
 refine a_5 ?_
 refine s1 EW (c_5 rfl x_0 (EW.ev rfl) (CF.bk 0 rfl) (l := [(Value.int .i64 b.scales), vt, vm]) rfl rfl) fun J3 EX => ?_; clear EW J2
 refine s2 EX (b_0 rfl aa_2 (ev1 (EX.ev rfl)) (q_9 b vt vm lr lb lk _ (a_6 (CF.ok 1 _ rfl)) (c_3 (CF.ok 2 _ rfl)) hth)) ?_
 rintro J4 _ K5 ⟨vt26, vm27, lr28, lb29, lk30, rfl, Gu⟩ EY; have En := CF.y_7 Gu rfl; clear Gu EX CF J3
 refine s1 EY (a_1 rfl (EY.ev rfl)) fun J5 EZ => ?_; clear EY J4
 refine s2 EZ (b_0 rfl en_26 (ev1 (EZ.ev rfl)) (Readings_ok l _ _ (En.sk 5 rfl) (by omega))) ?_
 rintro J6 BD K6 ⟨Gs, hO39⟩ DQ; have CG := En.new_row Gs hO39; clear Gs hO39 EZ En J5
 refine s2 DQ (b_0 rfl en_25 (ev2 (DQ.ev rfl) (DQ.ev rfl)) (Spans_ok b vt26 vm27 lr28 lb29 lk30 _ (a_6 (CG.ok 1 _ rfl)) (c_3 (CG.ok 2 _ rfl)) hth l _ (SlAt.h_7 (CG.j_4 0 rfl)) (by omega) t hr hs)) ?_
 rintro J7 _ KQ ⟨T, rfl, Gv⟩ Ea
 have Gt : Sep NoB w KQ [(row T 30 2 t.length (pairs t)), (row BD 98 2 l.length (pairs l)), (b_6 true vt26 lr28 lb29 b.tabs), (c_0 true vm27 lk30 b.macs), (blk H 25 [(Value.int .i64 b.scales), vt, vm]), (b_6 false vt lr lb b.tabs), (c_0 false vm lk b.macs), (sl xl 2 l.length (pairs l))] := CG.y_7 Gv rfl; clear Gv DQ CG J6
 refine s1 Ea (a_1 rfl (Ea.ev rfl)) fun J8 Eb => ?_; clear Ea J7
 refine s1 Eb (c_6 rfl (Eb.ev rfl) rfl) fun J9 Ec => ?_; clear Eb J8
 refine s1 Ec (c_6 rfl (Ec.ev rfl) rfl) fun KA Ed => ?_; clear Ec J9
 refine s1 Ed (a_0 rfl (Ed.ev rfl)) fun KB Ee => ?_; clear Ed KA
 refine s1 Ee (a_0 rfl (Ee.ev rfl)) fun KC Gi => ?_; clear Ee KB
 refine n2 ?_
 refine b_9 ?_
 have Gj := Gi.as [(10, (Value.int .i64 0)), (9, T), (4, (bptr H 0)), (1, xl), (2, (Value.int .u8 wa)), (3, (Value.int .u8 wb))] rfl; clear Gi
 refine a_5 ?_
 refine s1 Gj (a_0 rfl (evc _ _)) fun KD Gk => ?_; clear Gj KC
 refine n1 ?_
 refine d_0 ?_
 have Gl := Gk.as [(11, (Value.int .i64 0)), (10, (Value.int .i64 0)), (9, T), (4, (bptr H 0)), (1, xl), (2, (Value.int .u8 wa)), (3, (Value.int .u8 wb))] rfl; clear Gk
 refine h_1 (G := Nat) (fun (k : Nat) a_ w_ => Fr 197 [] [(11, (Value.int .i64 (k : Int))), (10, (Value.int .i64 0)), (9, T), (4, (bptr H 0)), (1, xl), (2, (Value.int .u8 wa)), (3, (Value.int .u8 wb))] a_ ∧ Sep NoB w w_ [(row T 30 2 t.length (pairs t)), (row BD 98 2 l.length (pairs l)), (b_6 true vt26 lr28 lb29 b.tabs), (c_0 true vm27 lk30 b.macs), (blk H 25 [(Value.int .i64 b.scales), vt, vm]), (b_6 false vt lr lb b.tabs), (c_0 false vm lk b.macs), (sl xl 2 l.length (pairs l))] ∧ (k ≤ t.length)) (fun k => t.length - k) 0 ⟨Gl.as _ rfl, Gt, by omega⟩ ?_
 clear Gl Gt KD
 rintro k KE K7 ⟨Ef, BA, hkk⟩
 refine b_9 ?_
 refine m2 ?_
 refine s1 Ef (a_1 rfl (Ef.ev rfl)) fun KF Eg => ?_; clear Ef KE
 refine s1 Eg (a_1 rfl (Eg.ev rfl)) fun KG Eh => ?_; clear Eg KF
 refine s1 Eh (d_5 rfl aa_4 (Eh.ev rfl) (SlAt.h_7 (BA.j_4 0 rfl))) fun KH EF => ?_; clear Eh KG
 refine s1 EF (g_3 rfl (EF.ev rfl) (EF.ev rfl)) fun HQ BN => ?_; clear EF KH
 refine n1 ?_
 by_cases Gw : (k : Int) < (t.length : Int)
 ·skip
  rw [decide_eq_true Gw] at BN
  refine c_7 BN rfl ?_
  refine d_2 ?_
  refine b_2 ?_
  refine b_9 ?_
  refine d_0 ?_
  refine m2 ?_
  refine s1 BN (a_0 rfl (evc _ _)) fun KI Gn => ?_; clear BN HQ
  refine n2 ?_
  refine m2 ?_
  refine s1 Gn (a_0 rfl (evc _ _)) fun KJ Go => ?_; clear Gn KI
  refine n1 ?_
  refine d_0 ?_
  have Gp := Go.as [(13, (Value.int .i64 0)), (12, (Value.bool true)), (11, (Value.int .i64 (k : Int))), (10, (Value.int .i64 0)), (9, T), (4, (bptr H 0)), (1, xl), (2, (Value.int .u8 wa)), (3, (Value.int .u8 wb))] rfl; clear Go
  refine h_1 (G := Nat) (fun (k1 : Nat) a_ w_ => Fr 197 [] [(13, (Value.int .i64 (k1 : Int))), (12, (Value.bool (frU b k k1))), (11, (Value.int .i64 (k : Int))), (10, (Value.int .i64 0)), (9, T), (4, (bptr H 0)), (1, xl), (2, (Value.int .u8 wa)), (3, (Value.int .u8 wb))] a_ ∧ Sep NoB w w_ [(row T 30 2 t.length (pairs t)), (row BD 98 2 l.length (pairs l)), (b_6 true vt26 lr28 lb29 b.tabs), (c_0 true vm27 lk30 b.macs), (blk H 25 [(Value.int .i64 b.scales), vt, vm]), (b_6 false vt lr lb b.tabs), (c_0 false vm lk b.macs), (sl xl 2 l.length (pairs l))] ∧ (k1 ≤ b.tabs.length)) (fun k1 => b.tabs.length - k1) 0 ⟨Gp.as _ (by rfl), BA, by omega⟩ ?_
  clear Gp BA KJ
  rintro k1 KK K8 ⟨Ei, BH, hkk1⟩
  refine b_9 ?_
  refine m2 ?_
  refine s1 Ei (a_1 rfl (Ei.ev rfl)) fun KL Ej => ?_; clear Ei KK
  refine s1 Ej (a_4 rfl l_9 (Ej.ev rfl)) fun KM Ek => ?_; clear Ej KL
  refine s1 Ek (a_3 rfl w_9 (Ek.ev rfl) (BH.bk 4 rfl) rfl) fun KN El => ?_; clear Ek KM
  refine s1 El (d_5 rfl x_2 (El.ev rfl) (a_6 (BH.ok 5 _ rfl)).tabs) fun KO EG => ?_; clear El KN
  refine s1 EG (g_3 rfl (EG.ev rfl) (EG.ev rfl)) fun HR BM => ?_; clear EG KO
  refine n1 ?_
  by_cases Gx : (k1 : Int) < (b.tabs.length : Int)
  ·skip
   rw [decide_eq_true Gx] at BM
   refine c_7 BM rfl ?_
   refine d_2 ?_
   refine b_2 ?_
   refine b_9 ?_
   refine d_0 ?_
   refine a_5 ?_
   refine s1 BM (a_1 rfl (BM.ev rfl)) fun KP Em => ?_; clear BM HR
   refine s1 Em (a_1 rfl (Em.ev rfl)) fun HS BU => ?_; clear Em KP
   rcases Bool.eq_false_or_eq_true ((frU b k k1)) with CH | CH
   ·skip
    rw [CH] at BU
    have hnx := frU_t CH
    refine s5 BU (a_4 rfl l_9 (BU.ev rfl)) fun HV CP => ?_; clear BU HS
    refine s5 CP (a_3 rfl w_9 (CP.ev rfl) (BH.bk 4 rfl) rfl) fun HW CQ => ?_; clear CP HV
    refine s5 CQ (a_1 rfl (CQ.ev rfl)) fun HX Bf => ?_; clear CQ HW
    refine s5 Bf (b_3 rfl x_2 z_1 (Bf.ev rfl) (i := k1) (Bf.ev rfl) (a_6 (BH.ok 5 _ rfl)).tabs (by decide) (by omega)) fun HY CR => ?_; clear Bf HX
    refine s5 CR (c_8 rfl fd_46_1 (CR.ev rfl) (a_6 (BH.ok 5 _ rfl)).tabs (by rw [((a_6 (BH.ok 5 _ rfl)).tabs).1]; omega)) fun HZ CS => ?_; clear CR HY
    refine s5 CS (c_2 rfl ty_3 (CS.ev rfl) (a_6 (BH.ok 5 _ rfl)).tabs (tabs_at1 (by omega))) fun Ha CU => ?_; clear CS HZ
    refine s5 CU (a_1 rfl (CU.ev rfl)) fun Hb Bg => ?_; clear CU Ha
    refine s5 Bg (s_8 rfl (Bg.ev rfl) (Bg.ev rfl)) fun Hc Bh => ?_; clear Bg Hb
    refine s1 Bh (b_4 rfl (Bh.ev rfl) (Bh.ev rfl)) fun Hd CV => ?_; clear Bh Hc
    refine s1 CV (a_0 rfl (CV.ev rfl)) fun He Eo => ?_; clear CV Hd
    refine f_0 ?_
    refine g_9 ?_
    refine b_2 ?_
    have CW := Eo.as [(12, (Value.bool (!(decide (((b.tabs.getD k1 tab0).dst) = (k : Int)))))), (13, (Value.int .i64 (k1 : Int))), (11, (Value.int .i64 (k : Int))), (10, (Value.int .i64 0)), (9, T), (4, (bptr H 0)), (1, xl), (2, (Value.int .u8 wa)), (3, (Value.int .u8 wb))] rfl; clear Eo
    refine a_5 ?_
    refine s1 CW (a_1 rfl (CW.ev rfl)) fun Hf CX => ?_; clear CW He
    refine s1 CX (g_0 rfl (CX.ev rfl) (evc _ _) (by omega) (by omega)) fun Hg CY => ?_; clear CX Hf
    refine s1 CY (a_0 rfl (CY.ev rfl)) fun KS Gy => ?_; clear CY Hg
    refine f_0 ?_
    exact b_2 ⟨k1 + 1, ⟨Gy.as _ (by first | (rw [hnx]; done) | (rw [hnx]; rfl)), BH, by omega⟩, by omega⟩
   skip
   rw [CH] at BU
   have hnx := frU_f CH
   refine s3 BU fun Hh Ep => ?_; clear BU HS
   refine s3 Ep fun Hi Eq => ?_; clear Ep Hh
   refine s3 Eq fun Hj Er => ?_; clear Eq Hi
   refine s3 Er fun Hk Es => ?_; clear Er Hj
   refine s3 Es fun Hl Et => ?_; clear Es Hk
   refine s3 Et fun Hm Eu => ?_; clear Et Hl
   refine s3 Eu fun Hn Ev => ?_; clear Eu Hm
   refine s3 Ev fun Ho Ca => ?_; clear Ev Hn
   refine s1 Ca (d_8 rfl (Ca.ev rfl) (evc _ _)) fun Hp Cb => ?_; clear Ca Ho
   refine s1 Cb (a_0 rfl (Cb.ev rfl)) fun Hq Ew => ?_; clear Cb Hp
   refine f_0 ?_
   refine g_9 ?_
   refine b_2 ?_
   have Cc := Ew.as [(12, (Value.bool false)), (13, (Value.int .i64 (k1 : Int))), (11, (Value.int .i64 (k : Int))), (10, (Value.int .i64 0)), (9, T), (4, (bptr H 0)), (1, xl), (2, (Value.int .u8 wa)), (3, (Value.int .u8 wb))] rfl; clear Ew
   refine a_5 ?_
   refine s1 Cc (a_1 rfl (Cc.ev rfl)) fun Hr Cd => ?_; clear Cc Hq
   refine s1 Cd (g_0 rfl (Cd.ev rfl) (evc _ _) (by omega) (by omega)) fun Hs Ce => ?_; clear Cd Hr
   refine s1 Ce (a_0 rfl (Ce.ev rfl)) fun KT Gz => ?_; clear Ce Hs
   refine f_0 ?_
   exact b_2 ⟨k1 + 1, ⟨Gz.as _ (by first | (rw [hnx]; done) | (rw [hnx]; rfl)), BH, by omega⟩, by omega⟩
  skip
  rw [decide_eq_false Gx] at BM
  refine b_8 BM rfl ?_
  refine h_0 ?_
  refine b_5 ?_
  refine b_5 ?_
  refine f_8 ?_
  refine b_2 ?_
  refine b_9 ?_
  refine b_9 ?_
  have Ex := BM.as [(12, (Value.bool (frU b k k1))), (11, (Value.int .i64 (k : Int))), (10, (Value.int .i64 0)), (9, T), (4, (bptr H 0)), (1, xl), (2, (Value.int .u8 wa)), (3, (Value.int .u8 wb))] rfl; clear BM
  refine a_5 ?_
  refine s1 Ex (a_0 rfl (evc _ _)) fun Ht Ey => ?_; clear Ex HR
  refine n1 ?_
  refine d_0 ?_
  have Ez := Ey.as [(14, (Value.int .i64 0)), (12, (Value.bool (frU b k k1))), (11, (Value.int .i64 (k : Int))), (10, (Value.int .i64 0)), (9, T), (4, (bptr H 0)), (1, xl), (2, (Value.int .u8 wa)), (3, (Value.int .u8 wb))] rfl; clear Ey
  refine h_1 (G := Nat) (fun (k2 : Nat) a_ w_ => Fr 197 [] [(14, (Value.int .i64 (k2 : Int))), (12, (Value.bool (fmU b l k k2))), (11, (Value.int .i64 (k : Int))), (10, (Value.int .i64 0)), (9, T), (4, (bptr H 0)), (1, xl), (2, (Value.int .u8 wa)), (3, (Value.int .u8 wb))] a_ ∧ Sep NoB w w_ [(row T 30 2 t.length (pairs t)), (row BD 98 2 l.length (pairs l)), (b_6 true vt26 lr28 lb29 b.tabs), (c_0 true vm27 lk30 b.macs), (blk H 25 [(Value.int .i64 b.scales), vt, vm]), (b_6 false vt lr lb b.tabs), (c_0 false vm lk b.macs), (sl xl 2 l.length (pairs l))] ∧ (k2 ≤ l.length)) (fun k2 => l.length - k2) 0 ⟨Ez.as _ (by rw [show k1 = b.tabs.length by omega]; rfl), BH, by omega⟩ ?_
  clear Ez BH Ht
  rintro k2 Hu Ko ⟨Cf, BG, hkk2⟩
  refine b_9 ?_
  refine m2 ?_
  refine s1 Cf (a_1 rfl (Cf.ev rfl)) fun Hv Cg => ?_; clear Cf Hu
  refine s1 Cg (a_1 rfl (Cg.ev rfl)) fun Hw Ch => ?_; clear Cg Hv
  refine s1 Ch (d_5 rfl aa_1 (Ch.ev rfl) (BG.sk 7 rfl)) fun Hx Bi => ?_; clear Ch Hw
  refine s1 Bi (g_3 rfl (Bi.ev rfl) (Bi.ev rfl)) fun KU BI => ?_; clear Bi Hx
  refine n1 ?_
  by_cases GZ : (k2 : Int) < (l.length : Int)
  ·skip
   rw [decide_eq_true GZ] at BI
   have hlm := hl.mac k2 (by omega)
   refine c_7 BI rfl ?_
   refine d_2 ?_
   refine b_2 ?_
   refine b_9 ?_
   refine d_0 ?_
   have BP := BI.as [(14, (Value.int .i64 (k2 : Int))), (12, (Value.bool (fmU b l k k2))), (11, (Value.int .i64 (k : Int))), (10, (Value.int .i64 0)), (9, T), (4, (bptr H 0)), (1, xl), (2, (Value.int .u8 wa)), (3, (Value.int .u8 wb))] rfl; clear BI
   rcases Bool.eq_false_or_eq_true ((fmU b l k k2)) with Ba | Ba
   ·skip
    rw [Ba] at BP
    have hnx := fmU_t Ba
    have E0 := BP.as [(14, (Value.int .i64 (k2 : Int))), (12, (Value.bool true)), (11, (Value.int .i64 (k : Int))), (10, (Value.int .i64 0)), (9, T), (4, (bptr H 0)), (1, xl), (2, (Value.int .u8 wa)), (3, (Value.int .u8 wb))] rfl; clear BP
    refine g_6 mixed E0 BG 13 [[], [0], [1], [1, 2], [1], [1], [1, 4, 5], [1, 6], [1, 7], [1, 3, 8], [1, 9], [1, 10], [1]] [(Yd.val (Value.bool true)), (Yd.val (Value.bool true)), (Yd.val (bptr H 2)), (Yd.val vm), (Yd.val xl), (Yd.val (Value.int .i64 (k2 : Int))), (Yd.val (eptr xl (k2 * 2))), (Yd.val (eptr xl (k2 * 2 + 0))), (Yd.val (Value.int .i64 ((l.getD k2 (0, 0)).1))), (Yd.val (eptr vm (((l.getD k2 (0, 0)).1).toNat * 2))), (Yd.val (eptr vm (((l.getD k2 (0, 0)).1).toNat * 2 + 0))), (Yd.val (Value.int .i64 ((b.macs.getD (((l.getD k2 (0, 0)).1).toNat) mac0).scale))), (Yd.val (Value.int .i64 (k : Int)))] (by decide +kernel) rfl rfl ?_ ?_
    ·skip
     refine dq (fun a w hA hS hd => a_1 rfl (hA.ev rfl)) ?_
     refine dq (fun a w hA hS hd => a_1 rfl (hq hd 0)) ?_
     refine dy 1 (fun a w hA hS hd => a_4 rfl o_5 (hA.ev rfl)) ?_
     refine dy 1 (fun a w hA hS hd => a_3 rfl z_5 (hq hd 2) (hS.bk 4 rfl) rfl) ?_
     refine dy 1 (fun a w hA hS hd => a_1 rfl (hA.ev rfl)) ?_
     refine dy 1 (fun a w hA hS hd => a_1 rfl (hA.ev rfl)) ?_
     refine dy 1 (fun a w hA hS hd => b_3 rfl aa_1 ty_67 (hq hd 4) (i := k2) (hq hd 5) (hS.sk 7 rfl) (by decide) (by omega)) ?_
     refine dy 1 (fun a w hA hS hd => c_8 rfl fd_67_0 (hq hd 6) (hS.sk 7 rfl) (by rw [((hS.sk 7 rfl)).1]; omega)) ?_
     refine dy 1 (fun a w hA hS hd => c_2 rfl ty_3 (hq hd 7) (hS.sk 7 rfl) (e_5 (by omega))) ?_
     refine dy 1 (fun a w hA hS hd => b_3 rfl z_7 aa_0 (hq hd 3) (i := ((l.getD k2 (0, 0)).1).toNat) ((hq hd 8).trans (j_1 (by omega))) (c_3 (hS.ok 6 _ rfl)).macs (by decide) (by omega)) ?_
     refine dy 1 (fun a w hA hS hd => c_8 rfl fd_61_0 (hq hd 9) (c_3 (hS.ok 6 _ rfl)).macs (by rw [((c_3 (hS.ok 6 _ rfl)).macs).1]; omega)) ?_
     refine dy 1 (fun a w hA hS hd => c_2 rfl ty_3 (hq hd 10) (c_3 (hS.ok 6 _ rfl)).macs (macs_at0 (by omega))) ?_
     refine dy 1 (fun a w hA hS hd => a_1 rfl (hA.ev rfl)) ?_
     trivial
    intro Hy Kp E1 G4 B8; clear E0 BG
    have E2 := E1.add (hz B8 1); clear E1
    have E3 := E2.add (hz B8 11); clear E2
    have Bj := E3.add (hz B8 12); clear E3
    clear B8
    refine s5 Bj (s_8 rfl (Bj.ev rfl) (Bj.ev rfl)) fun Hz Bk => ?_; clear Bj Hy
    refine s1 Bk (b_4 rfl (Bk.ev rfl) (Bk.ev rfl)) fun H0 Ci => ?_; clear Bk Hz
    refine s1 Ci (a_0 rfl (Ci.ev rfl)) fun H1 Cj => ?_; clear Ci H0
    refine f_0 ?_
    refine g_9 ?_
    refine b_2 ?_
    refine a_5 ?_
    refine s1 Cj (a_1 rfl (Cj.ev rfl)) fun H2 Ck => ?_; clear Cj H1
    refine s1 Ck (g_0 rfl (Ck.ev rfl) (evc _ _) (by omega) (by omega)) fun H3 Cl => ?_; clear Ck H2
    refine s1 Cl (a_0 rfl (Cl.ev rfl)) fun KV G0 => ?_; clear Cl H3
    refine f_0 ?_
    exact b_2 ⟨k2 + 1, ⟨G0.as _ (by first | (rw [hnx]; done) | (rw [hnx]; rfl)), G4, by omega⟩, by omega⟩
   skip
   rw [Ba] at BP
   have hnx := fmU_f Ba
   have E4 := BP.as [(14, (Value.int .i64 (k2 : Int))), (12, (Value.bool false)), (11, (Value.int .i64 (k : Int))), (10, (Value.int .i64 0)), (9, T), (4, (bptr H 0)), (1, xl), (2, (Value.int .u8 wa)), (3, (Value.int .u8 wb))] rfl; clear BP
   refine g_6 mixed E4 BG 13 [[], [0], [1], [1, 2], [1], [1], [1, 4, 5], [1, 6], [1, 7], [1, 3, 8], [1, 9], [1, 10], [1]] [(Yd.val (Value.bool false)), (Yd.val (Value.bool false)), (Yd.val undef), (Yd.val undef), (Yd.val undef), (Yd.val undef), (Yd.val undef), (Yd.val undef), (Yd.val undef), (Yd.val undef), (Yd.val undef), (Yd.val undef), (Yd.val undef)] (by decide +kernel) rfl rfl ?_ ?_
   ·skip
    refine dq (fun a w hA hS hd => a_1 rfl (hA.ev rfl)) ?_
    refine dq (fun a w hA hS hd => a_1 rfl (hq hd 0)) ?_
    refine dn 1 ?_
    refine dn 1 ?_
    refine dn 1 ?_
    refine dn 1 ?_
    refine dn 1 ?_
    refine dn 1 ?_
    refine dn 1 ?_
    refine dn 1 ?_
    refine dn 1 ?_
    refine dn 1 ?_
    refine dn 1 ?_
    trivial
   intro H4 Kq E5 G5 B9; clear E4 BG
   have E6 := E5.add (hz B9 1); clear E5
   have E7 := E6.add (hz B9 11); clear E6
   have E8 := E7.add (hz B9 12); clear E7
   clear B9
   refine s3 E8 fun H5 Cm => ?_; clear E8 H4
   refine s1 Cm (d_8 rfl (Cm.ev rfl) (evc _ _)) fun H6 Cn => ?_; clear Cm H5
   refine s1 Cn (a_0 rfl (Cn.ev rfl)) fun H7 Co => ?_; clear Cn H6
   refine f_0 ?_
   refine g_9 ?_
   refine b_2 ?_
   refine a_5 ?_
   refine s1 Co (a_1 rfl (Co.ev rfl)) fun H8 Cp => ?_; clear Co H7
   refine s1 Cp (g_0 rfl (Cp.ev rfl) (evc _ _) (by omega) (by omega)) fun H9 Cq => ?_; clear Cp H8
   refine s1 Cq (a_0 rfl (Cq.ev rfl)) fun KW G1 => ?_; clear Cq H9
   refine f_0 ?_
   exact b_2 ⟨k2 + 1, ⟨G1.as _ (by first | (rw [hnx]; done) | (rw [hnx]; rfl)), G5, by omega⟩, by omega⟩
  skip
  rw [decide_eq_false GZ] at BI
  refine b_8 BI rfl ?_
  refine h_0 ?_
  refine b_5 ?_
  refine b_5 ?_
  refine f_8 ?_
  refine b_2 ?_
  refine b_9 ?_
  have BQ := BI.as [(12, (Value.bool (fmU b l k k2))), (11, (Value.int .i64 (k : Int))), (10, (Value.int .i64 0)), (9, T), (4, (bptr H 0)), (1, xl), (2, (Value.int .u8 wa)), (3, (Value.int .u8 wb))] rfl; clear BI
  rcases Bool.eq_false_or_eq_true ((fmU b l k k2)) with Bb | Bb
  ·skip
   rw [Bb] at BQ
   have hnx := fmU_t Bb
   have E9 := BQ.as [(12, (Value.bool true)), (11, (Value.int .i64 (k : Int))), (10, (Value.int .i64 0)), (9, T), (4, (bptr H 0)), (1, xl), (2, (Value.int .u8 wa)), (3, (Value.int .u8 wb))] rfl; clear BQ
   refine g_6 mixed E9 BG 7 [[], [0], [1], [1], [1, 2, 3], [1, 4], [1]] [(Yd.val (Value.bool true)), (Yd.val (Value.bool true)), (Yd.val T), (Yd.val (Value.int .i64 (k : Int))), (Yd.val (eptr T (k * 2))), (Yd.val (Value.agg #[(Value.int .i64 ((t.getD k (0, 0)).1)), (Value.int .i64 ((t.getD k (0, 0)).2))])), (Yd.val (Value.agg #[(Value.int .i64 0), (Value.int .i64 100000)]))] (by decide +kernel) rfl rfl ?_ ?_
   ·skip
    refine dq (fun a w hA hS hd => a_1 rfl (hA.ev rfl)) ?_
    refine dq (fun a w hA hS hd => a_1 rfl (hq hd 0)) ?_
    refine dy 1 (fun a w hA hS hd => a_1 rfl (hA.ev rfl)) ?_
    refine dy 1 (fun a w hA hS hd => a_1 rfl (hA.ev rfl)) ?_
    refine dy 1 (fun a w hA hS hd => b_3 rfl aa_4 f_5 (hq hd 2) (i := k) (hq hd 3) (SlAt.h_7 (hS.j_4 0 rfl)) (by decide) (by omega)) ?_
    refine dy 1 (fun a w hA hS hd => f_1 rfl f_5 (hq hd 4) (SlAt.h_7 (hS.j_4 0 rfl)) (i_5 (by omega)) rfl (by decide)) ?_
    refine ⟨fun a w hA hS hd => by have e1 := hx hd 1; exact i_1 rfl rfl e1 (dx (b_0 rfl v_2 (ev2 (evc _ _) (evc _ _)) (g_4 _ _ _)) hS (fun _ => rfl)), ?_⟩
    trivial
   intro IA Kr FA G6 CA; clear E9 BG
   have FB := FA.add (hz CA 1); clear FA
   have FC := FB.add (hz CA 5); clear FB
   have Bl := FC.add (hz CA 6); clear FC
   clear CA
   refine s5 Bl (op_neqP tw_30 rfl (Bl.ev rfl) (Bl.ev rfl)) fun IB BV => ?_; clear Bl IA
   have Gd : (decide ((((t.getD k (0, 0)).1) : Int) = 0) && decide ((((t.getD k (0, 0)).2) : Int) = 100000)) = true := (allow_all hb hl hs (k := k) (j := k2) (by omega) (by omega) (by assumption))
   rw [Gd] at BV
   have HP := Gd; simp only [Bool.and_eq_true, Bool.and_eq_false_iff, decide_eq_true_eq, decide_eq_false_iff_not] at HP
   refine s1 BV (b_4 rfl (BV.ev rfl) (BV.ev rfl)) fun IC Cr => ?_; clear BV IB
   refine n1 ?_
   refine b_8 Cr rfl ?_
   refine d_2 ?_
   refine g_9 ?_
   refine b_2 ?_
   have Cs := Cr.as [(11, (Value.int .i64 (k : Int))), (10, (Value.int .i64 0)), (9, T), (4, (bptr H 0)), (1, xl), (2, (Value.int .u8 wa)), (3, (Value.int .u8 wb))] rfl; clear Cr
   refine a_5 ?_
   refine s1 Cs (a_1 rfl (Cs.ev rfl)) fun ID Ct => ?_; clear Cs IC
   refine s1 Ct (g_0 rfl (Ct.ev rfl) (evc _ _) (by omega) (by omega)) fun IE Cu => ?_; clear Ct ID
   refine s1 Cu (a_0 rfl (Cu.ev rfl)) fun KX G2 => ?_; clear Cu IE
   refine f_0 ?_
   exact b_2 ⟨k + 1, ⟨G2.as _ rfl, G6, by omega⟩, by omega⟩
  skip
  rw [Bb] at BQ
  have hnx := fmU_f Bb
  have FD := BQ.as [(12, (Value.bool false)), (11, (Value.int .i64 (k : Int))), (10, (Value.int .i64 0)), (9, T), (4, (bptr H 0)), (1, xl), (2, (Value.int .u8 wa)), (3, (Value.int .u8 wb))] rfl; clear BQ
  refine g_6 mixed FD BG 7 [[], [0], [1], [1], [1, 2, 3], [1, 4], [1]] [(Yd.val (Value.bool false)), (Yd.val (Value.bool false)), (Yd.val undef), (Yd.val undef), (Yd.val undef), (Yd.val undef), (Yd.val undef)] (by decide +kernel) rfl rfl ?_ ?_
  ·skip
   refine dq (fun a w hA hS hd => a_1 rfl (hA.ev rfl)) ?_
   refine dq (fun a w hA hS hd => a_1 rfl (hq hd 0)) ?_
   refine dn 1 ?_
   refine dn 1 ?_
   refine dn 1 ?_
   refine dn 1 ?_
   refine dn 1 ?_
   trivial
  intro IF Ks FE G7 CB; clear FD BG
  have FF := FE.add (hz CB 1); clear FE
  have FG := FF.add (hz CB 5); clear FF
  have FH := FG.add (hz CB 6); clear FG
  clear CB
  refine s3 FH fun IG Cv => ?_; clear FH IF
  refine s1 Cv (d_8 rfl (Cv.ev rfl) (evc _ _)) fun IH Cw => ?_; clear Cv IG
  refine n1 ?_
  refine b_8 Cw rfl ?_
  refine d_2 ?_
  refine g_9 ?_
  refine b_2 ?_
  have Cx := Cw.as [(11, (Value.int .i64 (k : Int))), (10, (Value.int .i64 0)), (9, T), (4, (bptr H 0)), (1, xl), (2, (Value.int .u8 wa)), (3, (Value.int .u8 wb))] rfl; clear Cw
  refine a_5 ?_
  refine s1 Cx (a_1 rfl (Cx.ev rfl)) fun II Cy => ?_; clear Cx IH
  refine s1 Cy (g_0 rfl (Cy.ev rfl) (evc _ _) (by omega) (by omega)) fun IJ Cz => ?_; clear Cy II
  refine s1 Cz (a_0 rfl (Cz.ev rfl)) fun KY G3 => ?_; clear Cz IJ
  refine f_0 ?_
  exact b_2 ⟨k + 1, ⟨G3.as _ rfl, G7, by omega⟩, by omega⟩
 skip
 rw [decide_eq_false Gw] at BN
 refine b_8 BN rfl ?_
 refine h_0 ?_
 refine b_5 ?_
 refine b_5 ?_
 refine f_8 ?_
 refine b_2 ?_
 refine b_9 ?_
 refine b_9 ?_
 have C0 := BN.as [(10, (Value.int .i64 0)), (4, (bptr H 0)), (2, (Value.int .u8 wa)), (3, (Value.int .u8 wb))] rfl; clear BN
 refine a_5 ?_
 refine s1 C0 (a_1 rfl (C0.ev rfl)) fun IK C1 => ?_; clear C0 HQ
 refine s1 C1 (s_8 rfl (C1.ev rfl) (evc _ _)) fun IL C2 => ?_; clear C1 IK
 refine s1 C2 (a_1 rfl (C2.ev rfl)) fun IM FI => ?_; clear C2 IL
 refine s3 FI fun IN FJ => ?_; clear FI IM
 refine s3 FJ fun IOa C3 => ?_; clear FJ IN
 refine s1 C3 (d_8 rfl (C3.ev rfl) (evc _ _)) fun IP C4 => ?_; clear C3 IOa
 refine n1 ?_
 refine b_8 C4 rfl ?_
 refine d_2 ?_
 refine b_2 ?_
 refine b_9 ?_
 refine b_9 ?_
 have C5 := C4.as [(4, (bptr H 0)), (2, (Value.int .u8 wa)), (3, (Value.int .u8 wb))] rfl; clear C4
 refine a_5 ?_
 refine s1 C5 (a_4 rfl l_9 (C5.ev rfl)) fun IQ C6 => ?_; clear C5 IP
 refine s1 C6 (a_3 rfl w_9 (C6.ev rfl) (BA.bk 4 rfl) rfl) fun IR C7 => ?_; clear C6 IQ
 refine s1 C7 (d_5 rfl x_2 (C7.ev rfl) (a_6 (BA.ok 5 _ rfl)).tabs) fun IS C8 => ?_; clear C7 IR
 refine s1 C8 (i_8 rfl (C8.ev rfl) (evc _ _)) fun Gf BF => ?_; clear C8 IS
 refine n1 ?_
 by_cases Ga : (b.tabs.length : Int) = 0
 ·skip
  rw [decide_eq_true Ga] at BF
  refine c_7 BF rfl ?_
  refine b_9 ?_
  have FK := BF.as [] rfl; clear BF
  refine a_5 ?_
  refine s2 FK (b_0 rfl y_8 ev0 (l_5 _)) ?_
  rintro IT _ Kt ⟨rfl, GB⟩ C9; have G8 := BA.step GB; clear GB FK BA Gf
  refine s1 C9 (a_0 rfl (C9.ev rfl)) fun KZ FL => ?_; clear C9 IT
  refine n1 ?_
  refine c_4 ?_
  refine a_7 ?_
  refine a_8 FL (.inl rfl) (a_2 FL rfl (.tmp rfl)) ?_
  exact ⟨rfl, G8.ext⟩
 skip
 rw [decide_eq_false Ga] at BF
 refine b_8 BF rfl ?_
 refine d_2 ?_
 refine b_2 ?_
 refine m2 ?_
 refine s1 BF (a_1 rfl (BF.ev rfl)) fun IU DA => ?_; clear BF Gf
 refine s1 DA (op_conv un_5 un_3 rfl (DA.ev rfl) (v := wa) (wrap_i64 (by omega) (by omega))) fun IV DB => ?_; clear DA IU
 refine s1 DB (a_4 rfl l_9 (DB.ev rfl)) fun IW DC => ?_; clear DB IV
 refine s1 DC (a_3 rfl w_9 (DC.ev rfl) (BA.bk 4 rfl) rfl) fun IX DD => ?_; clear DC IW
 refine s1 DD (d_5 rfl x_2 (DD.ev rfl) (a_6 (BA.ok 5 _ rfl)).tabs) fun IY Bm => ?_; clear DD IX
 refine s1 Bm (op_rem rfl (Bm.ev rfl) (Bm.ev rfl) (by omega)) fun IZ DE => ?_; clear Bm IY
 refine s1 DE (a_0 rfl (DE.ev rfl)) fun Ia FM => ?_; clear DE IZ
 refine n2 ?_
 have Bn := FM.as [(15, (Value.int .i64 ((wa).tmod (b.tabs.length : Int)))), (4, (bptr H 0)), (3, (Value.int .u8 wb))] rfl; clear FM
 obtain ⟨kk, hz_kk, hb_kk⟩ := rem_nat (n := wa) (m := b.tabs.length) hA_.1 (by omega); rw [hz_kk] at Bn
 have htv := hb.tab hb_kk; have htk := hth.tab kk; have hln2 := htv.len; have hbn0 := htv.bnd 0 (by omega); unfold tx ty at hbn0
 refine a_5 ?_
 refine s1 Bn (a_4 rfl l_9 (Bn.ev rfl)) fun Ib DF => ?_; clear Bn Ia
 refine s1 DF (a_3 rfl w_9 (DF.ev rfl) (BA.bk 4 rfl) rfl) fun Ic DG => ?_; clear DF Ib
 refine s1 DG (a_1 rfl (DG.ev rfl)) fun Id Bo => ?_; clear DG Ic
 refine s1 Bo (b_3 rfl x_2 z_1 (Bo.ev rfl) (i := kk) (Bo.ev rfl) (a_6 (BA.ok 5 _ rfl)).tabs (by decide) (by omega)) fun Ie DH => ?_; clear Bo Id
 refine s1 DH (f_1 rfl z_1 (DH.ev rfl) (a_6 (BA.ok 5 _ rfl)).tabs (r_8 (by omega)) rfl (by decide)) fun If FN => ?_; clear DH Ie
 refine s2 FN (e_3 BA rfl ze_46 (cs := [(Value.int .i64 0), (Value.int .i64 0), (Value.slice none 0 0), (Value.slice none 0 0), (Value.int .i64 0)]) rfl) ?_
 rintro Ka _ Ku ⟨A, rfl, CC⟩ Bp; clear FN BA If
 refine s7 Bp (c_1 CC rfl z_1 (Bp.ev rfl) (Bp.ev rfl) (i := 0) rfl (vs := [(Value.int .i64 ((b.tabs.getD kk tab0).frm)), (Value.int .i64 ((b.tabs.getD kk tab0).dst)), (lr kk), (lb kk), (Value.int .i64 ((b.tabs.getD kk tab0).err))]) rfl rfl (h_4 rfl (h_4 rfl (h_4 (SlAt.one ((a_6 (CC.ok 6 _ rfl)).row (i := kk) (by omega))) (h_4 (SlAt.one ((a_6 (CC.ok 6 _ rfl)).brk (i := kk) (by omega))) (h_4 rfl v_0))))) (Nat.le_of_ble_eq_true rfl)) ?_
 intro _ Jk GI FO; clear Bp
 have EJ : Sep NoB w Jk [(blk A 46 [(Value.int .i64 ((b.tabs.getD kk tab0).frm)), (Value.int .i64 ((b.tabs.getD kk tab0).dst)), (lr kk), (lb kk), (Value.int .i64 ((b.tabs.getD kk tab0).err))]), (row T 30 2 t.length (pairs t)), (row BD 98 2 l.length (pairs l)), (b_6 true vt26 lr28 lb29 b.tabs), (c_0 true vm27 lk30 b.macs), (blk H 25 [(Value.int .i64 b.scales), vt, vm]), (b_6 false vt lr lb b.tabs), (c_0 false vm lk b.macs), (sl xl 2 l.length (pairs l))] := GI; clear GI CC
 refine n2 ?_
 have DI := FO.as [(16, (bptr A 0)), (15, (Value.int .i64 (kk : Int))), (4, (bptr H 0)), (3, (Value.int .u8 wb))] rfl; clear FO
 refine y_2 mixed DI EJ 20 18 rfl rfl [[], [0], [], [], [3], [4], [5], [6], [7], [], [9], [10], [11], [12], [8, 13], [1, 2, 14], [15], [16], [16], []] [(fun (F : Nat → Value) (v_ : Value) (rs_ : List Res) => v_ = (Value.agg #[(Value.int .i64 b.scales), vt, vm]) ∧ rs_ = []), (fun (F : Nat → Value) (v_ : Value) (rs_ : List Res) => ∃ (vt1_ : Value), ∃ (vm1_ : Value), ∃ (lr1_ : Nat → Value), ∃ (lb1_ : Nat → Value), ∃ (lk1_ : Nat → Value), v_ = (Value.agg #[(Value.int .i64 b.scales), vt1_, vm1_]) ∧ rs_ = [(b_6 true vt1_ lr1_ lb1_ b.tabs), (c_0 true vm1_ lk1_ b.macs)]), (fun (F : Nat → Value) (v_ : Value) (rs_ : List Res) => v_ = (Value.int .i64 (kk : Int)) ∧ rs_ = []), (fun (F : Nat → Value) (v_ : Value) (rs_ : List Res) => v_ = (bptr A 2) ∧ rs_ = []), (fun (F : Nat → Value) (v_ : Value) (rs_ : List Res) => v_ = (lr kk) ∧ rs_ = []), (fun (F : Nat → Value) (v_ : Value) (rs_ : List Res) => v_ = (eptr (lr kk) (0 * 2)) ∧ rs_ = []), (fun (F : Nat → Value) (v_ : Value) (rs_ : List Res) => v_ = (eptr (lr kk) (0 * 2 + 0)) ∧ rs_ = []), (fun (F : Nat → Value) (v_ : Value) (rs_ : List Res) => v_ = (Value.int .i64 ((((b.tabs.getD kk tab0).rows).getD 0 (0, 0)).1)) ∧ rs_ = []), (fun (F : Nat → Value) (v_ : Value) (rs_ : List Res) => v_ = (Value.int .i64 (((((b.tabs.getD kk tab0).rows).getD 0 (0, 0)).1) - 1)) ∧ rs_ = []), (fun (F : Nat → Value) (v_ : Value) (rs_ : List Res) => v_ = (bptr A 2) ∧ rs_ = []), (fun (F : Nat → Value) (v_ : Value) (rs_ : List Res) => v_ = (lr kk) ∧ rs_ = []), (fun (F : Nat → Value) (v_ : Value) (rs_ : List Res) => v_ = (eptr (lr kk) (0 * 2)) ∧ rs_ = []), (fun (F : Nat → Value) (v_ : Value) (rs_ : List Res) => v_ = (eptr (lr kk) (0 * 2 + 0)) ∧ rs_ = []), (fun (F : Nat → Value) (v_ : Value) (rs_ : List Res) => v_ = (Value.int .i64 ((((b.tabs.getD kk tab0).rows).getD 0 (0, 0)).1)) ∧ rs_ = []), (fun (F : Nat → Value) (v_ : Value) (rs_ : List Res) => v_ = (Value.agg #[(Value.int .i64 (((((b.tabs.getD kk tab0).rows).getD 0 (0, 0)).1) - 1)), (Value.int .i64 ((((b.tabs.getD kk tab0).rows).getD 0 (0, 0)).1))]) ∧ rs_ = []), (fun (F : Nat → Value) (v_ : Value) (rs_ : List Res) => v_ = (Value.tuple #[(Value.agg #[(Value.int .i64 ((b_7 b (kk : Int) (((((b.tabs.getD kk tab0).rows).getD 0 (0, 0)).1) - 1, (((b.tabs.getD kk tab0).rows).getD 0 (0, 0)).1)).1)), (Value.int .i64 ((b_7 b (kk : Int) (((((b.tabs.getD kk tab0).rows).getD 0 (0, 0)).1) - 1, (((b.tabs.getD kk tab0).rows).getD 0 (0, 0)).1)).2))]), (Value.int .i64 (e_0 b (kk : Int) (((((b.tabs.getD kk tab0).rows).getD 0 (0, 0)).1) - 1, (((b.tabs.getD kk tab0).rows).getD 0 (0, 0)).1)))]) ∧ rs_ = []), (fun (F : Nat → Value) (v_ : Value) (rs_ : List Res) => v_ = (Value.tuple #[(Value.agg #[(Value.int .i64 ((b_7 b (kk : Int) (((((b.tabs.getD kk tab0).rows).getD 0 (0, 0)).1) - 1, (((b.tabs.getD kk tab0).rows).getD 0 (0, 0)).1)).1)), (Value.int .i64 ((b_7 b (kk : Int) (((((b.tabs.getD kk tab0).rows).getD 0 (0, 0)).1) - 1, (((b.tabs.getD kk tab0).rows).getD 0 (0, 0)).1)).2))]), (Value.int .i64 (e_0 b (kk : Int) (((((b.tabs.getD kk tab0).rows).getD 0 (0, 0)).1) - 1, (((b.tabs.getD kk tab0).rows).getD 0 (0, 0)).1)))]) ∧ rs_ = []), (fun (F : Nat → Value) (v_ : Value) (rs_ : List Res) => v_ = (Value.agg #[(Value.int .i64 ((b_7 b (kk : Int) (((((b.tabs.getD kk tab0).rows).getD 0 (0, 0)).1) - 1, (((b.tabs.getD kk tab0).rows).getD 0 (0, 0)).1)).1)), (Value.int .i64 ((b_7 b (kk : Int) (((((b.tabs.getD kk tab0).rows).getD 0 (0, 0)).1) - 1, (((b.tabs.getD kk tab0).rows).getD 0 (0, 0)).1)).2))]) ∧ rs_ = []), (fun (F : Nat → Value) (v_ : Value) (rs_ : List Res) => v_ = (Value.int .i64 (e_0 b (kk : Int) (((((b.tabs.getD kk tab0).rows).getD 0 (0, 0)).1) - 1, (((b.tabs.getD kk tab0).rows).getD 0 (0, 0)).1))) ∧ rs_ = []), (fun (F : Nat → Value) (v_ : Value) (rs_ : List Res) => ∃ (b19_ : Nat), v_ = (bptr b19_ 0) ∧ rs_ = [(blk b19_ 30 [(Value.int .i64 0), (Value.int .i64 0)])])] (by decide +kernel) (by decide +kernel) (by decide +kernel) rfl rfl ⟨(fun _ _ _ _ _ h_ => h_), (fun _ _ _ _ _ h_ => h_), (fun _ _ _ _ _ h_ => h_), (fun _ _ _ _ _ h_ => h_), (fun _ _ _ _ _ h_ => h_), (fun _ _ _ _ _ h_ => h_), (fun _ _ _ _ _ h_ => h_), (fun _ _ _ _ _ h_ => h_), (fun _ _ _ _ _ h_ => h_), (fun _ _ _ _ _ h_ => h_), (fun _ _ _ _ _ h_ => h_), (fun _ _ _ _ _ h_ => h_), (fun _ _ _ _ _ h_ => h_), (fun _ _ _ _ _ h_ => h_), (fun _ _ _ _ _ h_ => h_), (fun _ _ _ _ _ h_ => h_), (fun _ _ _ _ _ h_ => h_), (fun _ _ _ _ _ h_ => h_), (fun _ _ _ _ _ h_ => h_), (fun _ _ _ _ _ h_ => h_), trivial⟩ ?_ ?_ ?_
 ·skip
  refine ⟨fun a w F hA hS hd => gv1 (c_5 rfl x_0 (hA.ev rfl) (hS.bk 5 rfl) (l := [(Value.int .i64 b.scales), vt, vm]) rfl rfl), ?_⟩
  refine ⟨fun a w F hA hS hd => d_6 rfl (vn (b_0 rfl aa_2 (ev1 (gu hd 0)) (q_9 b vt vm lr lb lk _ (a_6 (hS.ok 6 _ rfl)) (c_3 (hS.ok 7 _ rfl)) hth)) (fun v w' h => by obtain ⟨vt, vm, lr, lb, lk, rfl, hT⟩ := h; exact ⟨_, ⟨vt, vm, lr, lb, lk, rfl, rfl⟩, hT, rfl⟩)), ?_⟩
  refine ⟨fun a w F hA hS hd => gv1 (a_1 rfl (hA.ev rfl)), ?_⟩
  refine ⟨fun a w F hA hS hd => gv1 (a_4 rfl f_4 (hA.ev rfl)), ?_⟩
  refine ⟨fun a w F hA hS hd => gv1 (a_3 rfl k_1 (gu hd 3) (hS.bk 0 rfl) rfl), ?_⟩
  refine ⟨fun a w F hA hS hd => gv1 (b_3 rfl k_2 m_6 (gu hd 4) (i := 0) (show _ = Value.int .i64 ((0 : Nat) : Int) from (evc _ _)) ((a_6 (hS.ok 6 _ rfl)).row (i := kk) (by omega)) (by decide) (by omega)), ?_⟩
  refine ⟨fun a w F hA hS hd => gv1 (c_8 rfl h_9 (gu hd 5) ((a_6 (hS.ok 6 _ rfl)).row (i := kk) (by omega)) (by rw [(((a_6 (hS.ok 6 _ rfl)).row (i := kk) (by omega))).1]; omega)), ?_⟩
  refine ⟨fun a w F hA hS hd => gv1 (c_2 rfl ty_3 (gu hd 6) ((a_6 (hS.ok 6 _ rfl)).row (i := kk) (by omega)) (e_5 (by omega))), ?_⟩
  refine ⟨fun a w F hA hS hd => gv1 (i_4 rfl (gu hd 7) (evc _ _) (by omega) (by omega)), ?_⟩
  refine ⟨fun a w F hA hS hd => gv1 (a_4 rfl f_4 (hA.ev rfl)), ?_⟩
  refine ⟨fun a w F hA hS hd => gv1 (a_3 rfl k_1 (gu hd 9) (hS.bk 0 rfl) rfl), ?_⟩
  refine ⟨fun a w F hA hS hd => gv1 (b_3 rfl k_2 m_6 (gu hd 10) (i := 0) (show _ = Value.int .i64 ((0 : Nat) : Int) from (evc _ _)) ((a_6 (hS.ok 6 _ rfl)).row (i := kk) (by omega)) (by decide) (by omega)), ?_⟩
  refine ⟨fun a w F hA hS hd => gv1 (c_8 rfl h_9 (gu hd 11) ((a_6 (hS.ok 6 _ rfl)).row (i := kk) (by omega)) (by rw [(((a_6 (hS.ok 6 _ rfl)).row (i := kk) (by omega))).1]; omega)), ?_⟩
  refine ⟨fun a w F hA hS hd => gv1 (c_2 rfl ty_3 (gu hd 12) ((a_6 (hS.ok 6 _ rfl)).row (i := kk) (by omega)) (e_5 (by omega))), ?_⟩
  refine ⟨fun a w F hA hS hd => gx1 (b_0 rfl v_2 (ev2 (gu hd 8) (gu hd 13)) (g_4 _ _ _)), ?_⟩
  refine ⟨fun a w F hA hS hd => ?_, ?_⟩
  ·skip
   obtain ⟨e1, Ge, Be, BL⟩ := hd 1 (by decide)
   obtain ⟨vt1_, vm1_, lr1_, lb1_, lk1_, Bd, Bc⟩ := Be; subst Bc
   rw [Bd] at e1
   have hp1_0 := BL _ (List.mem_of_getElem? (i := 0) rfl)
   have hp1_1 := BL _ (List.mem_of_getElem? (i := 1) rfl)
   exact gx1 (b_0 rfl aa_7 (ev3 (c_9 (d_4 e1 rfl)) (gu hd 2) (gu hd 14)) (k_7 b vt1_ vm1_ lr1_ lb1_ lk1_ _ (a_6 hp1_0) (c_3 hp1_1) hth (kk : Int) (((((b.tabs.getD kk tab0).rows).getD 0 (0, 0)).1) - 1) ((((b.tabs.getD kk tab0).rows).getD 0 (0, 0)).1)))
  refine ⟨fun a w F hA hS hd => gv1 (a_1 rfl (gu hd 15)), ?_⟩
  refine ⟨fun a w F hA hS hd => gv1 (c_6 rfl (gu hd 16) rfl), ?_⟩
  refine ⟨fun a w F hA hS hd => gv1 (c_6 rfl (gu hd 16) rfl), ?_⟩
  refine ⟨fun a w F hA hS hd => d_6 rfl (valloc rfl t_5 (cs := [(Value.int .i64 0), (Value.int .i64 0)]) rfl (fun b_ => ⟨b_, rfl, rfl⟩)), ?_⟩
  trivial
 ·skip
  intro CJ Jl F rsf337 FP Y EK; clear DI EJ
  obtain ⟨Ag, A0⟩ := Y 0 (by decide)
  obtain ⟨Aq, p⟩ := A0
  obtain ⟨Ah, A1⟩ := Y 1 (by decide)
  obtain ⟨vt1_, vm1_, lr1_, lb1_, lk1_, Ar, q⟩ := A1
  obtain ⟨Ai, A2⟩ := Y 2 (by decide)
  obtain ⟨As, r⟩ := A2
  obtain ⟨Aj, A3⟩ := Y 3 (by decide)
  obtain ⟨At, s⟩ := A3
  obtain ⟨Ak, A4⟩ := Y 4 (by decide)
  obtain ⟨Au, u⟩ := A4
  obtain ⟨Al, A5⟩ := Y 5 (by decide)
  obtain ⟨Av, z⟩ := A5
  obtain ⟨Am, A6⟩ := Y 6 (by decide)
  obtain ⟨Aw, AA⟩ := A6
  obtain ⟨An, A7⟩ := Y 7 (by decide)
  obtain ⟨Ax, AB⟩ := A7
  obtain ⟨Ao, A8⟩ := Y 8 (by decide)
  obtain ⟨Ay, AC⟩ := A8
  obtain ⟨Ap, A9⟩ := Y 9 (by decide)
  obtain ⟨Az, AD⟩ := A9
  obtain ⟨AK, AX⟩ := Y 10 (by decide)
  obtain ⟨AQ, I⟩ := AX
  obtain ⟨AL, AY⟩ := Y 11 (by decide)
  obtain ⟨AR, J⟩ := AY
  obtain ⟨AM, AZ⟩ := Y 12 (by decide)
  obtain ⟨AS, K⟩ := AZ
  obtain ⟨AN, Aa⟩ := Y 13 (by decide)
  obtain ⟨AT, L⟩ := Aa
  obtain ⟨AO, Ab⟩ := Y 14 (by decide)
  obtain ⟨AU, M⟩ := Ab
  obtain ⟨AP, Ac⟩ := Y 15 (by decide)
  obtain ⟨AV, N⟩ := Ac
  obtain ⟨AH, Ad⟩ := Y 16 (by decide)
  obtain ⟨AJ, O⟩ := Ad
  obtain ⟨Q, Ae⟩ := Y 17 (by decide)
  obtain ⟨o, P⟩ := Ae
  obtain ⟨R, Af⟩ := Y 18 (by decide)
  obtain ⟨AE, f⟩ := Af
  obtain ⟨g, BB⟩ := Y 19 (by decide)
  obtain ⟨b19_, AW, AF⟩ := BB
  have GJ : Sep NoB w Jl [(b_6 true vt1_ lr1_ lb1_ b.tabs), (c_0 true vm1_ lk1_ b.macs), (blk b19_ 30 [(Value.int .i64 0), (Value.int .i64 0)]), (blk A 46 [(Value.int .i64 ((b.tabs.getD kk tab0).frm)), (Value.int .i64 ((b.tabs.getD kk tab0).dst)), (lr kk), (lb kk), (Value.int .i64 ((b.tabs.getD kk tab0).err))]), (row T 30 2 t.length (pairs t)), (row BD 98 2 l.length (pairs l)), (b_6 true vt26 lr28 lb29 b.tabs), (c_0 true vm27 lk30 b.macs), (blk H 25 [(Value.int .i64 b.scales), vt, vm]), (b_6 false vt lr lb b.tabs), (c_0 false vm lk b.macs), (sl xl 2 l.length (pairs l))] := by rw [show catR rsf337 0 20 = ([(b_6 true vt1_ lr1_ lb1_ b.tabs), (c_0 true vm1_ lk1_ b.macs), (blk b19_ 30 [(Value.int .i64 0), (Value.int .i64 0)])] : List Res) by (try simp only [catR, p, q, r, s, u, z, AA, AB, AC, AD, I, J, K, L, M, N, O, P, f, AF]); (try rfl)] at EK; exact EK
  rw [o] at Q
  have FQ : Fr 197 [] [(128, (Value.agg #[(Value.int .i64 ((b_7 b (kk : Int) (((((b.tabs.getD kk tab0).rows).getD 0 (0, 0)).1) - 1, (((b.tabs.getD kk tab0).rows).getD 0 (0, 0)).1)).1)), (Value.int .i64 ((b_7 b (kk : Int) (((((b.tabs.getD kk tab0).rows).getD 0 (0, 0)).1) - 1, (((b.tabs.getD kk tab0).rows).getD 0 (0, 0)).1)).2))])), (16, (bptr A 0)), (15, (Value.int .i64 (kk : Int))), (4, (bptr H 0)), (3, (Value.int .u8 wb))] CJ := FP.add (d_4 Q rfl); clear FP
  rw [AE] at R
  have FSa : Fr 197 [] [(129, (Value.int .i64 (e_0 b (kk : Int) (((((b.tabs.getD kk tab0).rows).getD 0 (0, 0)).1) - 1, (((b.tabs.getD kk tab0).rows).getD 0 (0, 0)).1)))), (128, (Value.agg #[(Value.int .i64 ((b_7 b (kk : Int) (((((b.tabs.getD kk tab0).rows).getD 0 (0, 0)).1) - 1, (((b.tabs.getD kk tab0).rows).getD 0 (0, 0)).1)).1)), (Value.int .i64 ((b_7 b (kk : Int) (((((b.tabs.getD kk tab0).rows).getD 0 (0, 0)).1) - 1, (((b.tabs.getD kk tab0).rows).getD 0 (0, 0)).1)).2))])), (16, (bptr A 0)), (15, (Value.int .i64 (kk : Int))), (4, (bptr H 0)), (3, (Value.int .u8 wb))] CJ := FQ.add (d_4 R rfl); clear FQ
  rw [AW] at g
  have Bq : Fr 197 [] [(17, (bptr b19_ 0)), (129, (Value.int .i64 (e_0 b (kk : Int) (((((b.tabs.getD kk tab0).rows).getD 0 (0, 0)).1) - 1, (((b.tabs.getD kk tab0).rows).getD 0 (0, 0)).1)))), (128, (Value.agg #[(Value.int .i64 ((b_7 b (kk : Int) (((((b.tabs.getD kk tab0).rows).getD 0 (0, 0)).1) - 1, (((b.tabs.getD kk tab0).rows).getD 0 (0, 0)).1)).1)), (Value.int .i64 ((b_7 b (kk : Int) (((((b.tabs.getD kk tab0).rows).getD 0 (0, 0)).1) - 1, (((b.tabs.getD kk tab0).rows).getD 0 (0, 0)).1)).2))])), (16, (bptr A 0)), (15, (Value.int .i64 (kk : Int))), (4, (bptr H 0)), (3, (Value.int .u8 wb))] CJ := FSa.add (d_4 g rfl); clear FSa
  clear Y EK Ag Ah Ai Aj Ak Al Am An Ao Ap AK AL AM AN AO AP AH Q R g
  clear p
  clear Aq
  clear q
  clear Ar
  clear r
  clear As
  clear s
  clear At
  clear u
  clear Au
  clear z
  clear Av
  clear AA
  clear Aw
  clear AB
  clear Ax
  clear AC
  clear Ay
  clear AD
  clear Az
  clear I
  clear AQ
  clear J
  clear AR
  clear K
  clear AS
  clear L
  clear AT
  clear M
  clear AU
  clear N
  clear AV
  clear O
  clear AJ
  clear P
  clear o
  clear f
  clear AE
  clear AF
  clear AW
  refine s7 Bq (c_1 GJ rfl f_5 (Bq.ev rfl) (Bq.ev rfl) (i := 2) rfl (vs := [(Value.int .i64 ((b_7 b (kk : Int) (((((b.tabs.getD kk tab0).rows).getD 0 (0, 0)).1) - 1, (((b.tabs.getD kk tab0).rows).getD 0 (0, 0)).1)).1)), (Value.int .i64 ((b_7 b (kk : Int) (((((b.tabs.getD kk tab0).rows).getD 0 (0, 0)).1) - 1, (((b.tabs.getD kk tab0).rows).getD 0 (0, 0)).1)).2))]) rfl rfl rfl (Nat.le_of_ble_eq_true rfl)) ?_
  intro _ Jm GK DJ; clear Bq
  have BR : Sep NoB w Jm [(b_6 true vt1_ lr1_ lb1_ b.tabs), (c_0 true vm1_ lk1_ b.macs), (blk b19_ 30 [(Value.int .i64 ((b_7 b (kk : Int) (((((b.tabs.getD kk tab0).rows).getD 0 (0, 0)).1) - 1, (((b.tabs.getD kk tab0).rows).getD 0 (0, 0)).1)).1)), (Value.int .i64 ((b_7 b (kk : Int) (((((b.tabs.getD kk tab0).rows).getD 0 (0, 0)).1) - 1, (((b.tabs.getD kk tab0).rows).getD 0 (0, 0)).1)).2))]), (blk A 46 [(Value.int .i64 ((b.tabs.getD kk tab0).frm)), (Value.int .i64 ((b.tabs.getD kk tab0).dst)), (lr kk), (lb kk), (Value.int .i64 ((b.tabs.getD kk tab0).err))]), (row T 30 2 t.length (pairs t)), (row BD 98 2 l.length (pairs l)), (b_6 true vt26 lr28 lb29 b.tabs), (c_0 true vm27 lk30 b.macs), (blk H 25 [(Value.int .i64 b.scales), vt, vm]), (b_6 false vt lr lb b.tabs), (c_0 false vm lk b.macs), (sl xl 2 l.length (pairs l))] := GK; clear GK GJ
  refine s1 DJ (a_0 rfl (DJ.ev rfl)) fun Ig DK => ?_; clear DJ CJ
  refine n2 ?_
  refine m2 ?_
  refine s1 DK (a_1 rfl (DK.ev rfl)) fun Ih DL => ?_; clear DK Ig
  refine s1 DL (s_8 rfl (DL.ev rfl) (evc _ _)) fun Ii Br => ?_; clear DL Ih
  have HF : (e_0 b (kk : Int) (((((b.tabs.getD kk tab0).rows).getD 0 (0, 0)).1) - 1, (((b.tabs.getD kk tab0).rows).getD 0 (0, 0)).1)) = 10 := (by first | exact m_4 hc hb_kk | exact m_3 hc hb_kk hi_ii hm_ii)
  rw [decide_eq_true HF] at Br
  refine n1 ?_
  refine b_8 Br rfl ?_
  refine d_2 ?_
  refine b_2 ?_
  refine b_9 ?_
  refine b_9 ?_
  have DM := Br.as [(16, (bptr A 0)), (15, (Value.int .i64 (kk : Int))), (4, (bptr H 0)), (3, (Value.int .u8 wb))] rfl; clear Br
  refine a_5 ?_
  refine s1 DM (a_4 rfl l_0 (DM.ev rfl)) fun Ij DN => ?_; clear DM Ii
  refine s1 DN (a_3 rfl s_0 (DN.ev rfl) (BR.bk 3 rfl) rfl) fun Ik DO => ?_; clear DN Ij
  refine s1 DO (d_5 rfl m_2 (DO.ev rfl) ((a_6 (BR.ok 9 _ rfl)).brk (i := kk) (by omega))) fun Il DP => ?_; clear DO Ik
  refine s1 DP (i_8 rfl (DP.ev rfl) (evc _ _)) fun Im BJ => ?_; clear DP Il
  refine n1 ?_
  by_cases Gb : ((b.tabs.getD kk tab0).brk.length : Int) = 0
  ·skip
   rw [decide_eq_true Gb] at BJ
   refine c_7 BJ rfl ?_
   refine b_9 ?_
   have FT := BJ.as [] rfl; clear BJ
   refine a_5 ?_
   refine s2 FT (b_0 rfl y_8 ev0 (l_5 _)) ?_
   rintro In _ Kv ⟨rfl, GC⟩ DR; have G9 := BR.step GC; clear GC FT BR Im
   refine s1 DR (a_0 rfl (DR.ev rfl)) fun Kb FU => ?_; clear DR In
   refine n1 ?_
   refine c_4 ?_
   refine a_7 ?_
   refine a_8 FU (.inl rfl) (a_2 FU rfl (.tmp rfl)) ?_
   exact ⟨rfl, G9.ext⟩
  skip
  rw [decide_eq_false Gb] at BJ
  refine b_8 BJ rfl ?_
  refine d_2 ?_
  refine b_2 ?_
  refine b_9 ?_
  have hrm := rem_bd (y := wb) (d := ((b.tabs.getD kk tab0).brk.length : Int)) hB_.1 (by omega)
  have FV := BJ.as [(16, (bptr A 0)), (15, (Value.int .i64 (kk : Int))), (4, (bptr H 0)), (3, (Value.int .u8 wb))] rfl; clear BJ
  refine g_6 mixed FV BR 8 [[], [0], [], [2], [], [4], [5], [3, 6]] [(Yd.val (bptr A 3)), (Yd.val (lb kk)), (Yd.val (Value.int .u8 wb)), (Yd.val (Value.int .i64 wb)), (Yd.val (bptr A 3)), (Yd.val (lb kk)), (Yd.val (Value.int .i64 ((b.tabs.getD kk tab0).brk.length : Int))), (Yd.val (Value.int .i64 ((wb).tmod ((b.tabs.getD kk tab0).brk.length : Int))))] (by decide +kernel) rfl rfl ?_ ?_
  ·skip
   refine dq (fun a w hA hS hd => a_4 rfl l_0 (hA.ev rfl)) ?_
   refine dq (fun a w hA hS hd => a_3 rfl s_0 (hq hd 0) (hS.bk 3 rfl) rfl) ?_
   refine dq (fun a w hA hS hd => a_1 rfl (hA.ev rfl)) ?_
   refine dq (fun a w hA hS hd => op_conv un_5 un_3 rfl (hq hd 2) (v := wb) (wrap_i64 (by omega) (by omega))) ?_
   refine dq (fun a w hA hS hd => a_4 rfl l_0 (hA.ev rfl)) ?_
   refine dq (fun a w hA hS hd => a_3 rfl s_0 (hq hd 4) (hS.bk 3 rfl) rfl) ?_
   refine dq (fun a w hA hS hd => d_5 rfl m_2 (hq hd 5) ((a_6 (hS.ok 9 _ rfl)).brk (i := kk) (by omega))) ?_
   refine dq (fun a w hA hS hd => op_rem rfl (hq hd 3) (hq hd 6) (by omega)) ?_
   trivial
  intro Io Kw FW CD EH; clear FV BR
  have FX := FW.add (hz EH 1); clear FW
  have Bs := FX.add (hz EH 7); clear FX
  clear EH
  refine s1 Bs (b_3 rfl m_2 ty_3 (Bs.ev rfl) (i := ((wb).tmod ((b.tabs.getD kk tab0).brk.length : Int)).toNat) ((Bs.ev rfl).trans (j_1 (by omega))) ((a_6 (CD.ok 9 _ rfl)).brk (i := kk) (by omega)) (by decide) (by omega)) fun Ip DS => ?_; clear Bs Io
  refine s1 DS (c_2 rfl ty_3 (DS.ev rfl) ((a_6 (CD.ok 9 _ rfl)).brk (i := kk) (by omega)) (ints_at (by omega))) fun Iq DT => ?_; clear DS Ip
  refine s1 DT (a_0 rfl (DT.ev rfl)) fun Kc DU => ?_; clear DT Iq
  refine n2 ?_
  obtain ⟨ii, hz_ii, hi_ii, hm_ii⟩ := brk_nat htv (j := (((wb).tmod ((b.tabs.getD kk tab0).brk.length : Int)).toNat)) (by omega); rw [hz_ii] at DU; have hbni := htv.bnd ii (by omega); have hbnj := htv.bnd (ii + 1) (by omega); have hxi := htv.rows.x ii hi_ii; unfold tx ty at hbni hbnj; unfold tx at hxi
  have FY := DU.as [(19, (Value.int .i64 (ii : Int))), (16, (bptr A 0)), (15, (Value.int .i64 (kk : Int))), (4, (bptr H 0))] rfl; clear DU
  refine s_5 mixed FY CD 21 [[], [0], [], [], [3], [], [4, 5], [6], [7], [], [9], [], [10, 11], [12], [13], [14], [8, 15], [1, 2, 16], [17], [18], [18]] [(fun (D : Nat → Value) (v_ : Value) (rs_ : List Res) => v_ = (Value.agg #[(Value.int .i64 b.scales), vt, vm]) ∧ rs_ = []), (fun (D : Nat → Value) (v_ : Value) (rs_ : List Res) => ∃ (vt1_vs387 : Value), ∃ (vm1_vs387 : Value), ∃ (lr1_vs387 : Nat → Value), ∃ (lb1_vs387 : Nat → Value), ∃ (lk1_vs387 : Nat → Value), v_ = (Value.agg #[(Value.int .i64 b.scales), vt1_vs387, vm1_vs387]) ∧ rs_ = [(b_6 true vt1_vs387 lr1_vs387 lb1_vs387 b.tabs), (c_0 true vm1_vs387 lk1_vs387 b.macs)]), (fun (D : Nat → Value) (v_ : Value) (rs_ : List Res) => v_ = (Value.int .i64 (kk : Int)) ∧ rs_ = []), (fun (D : Nat → Value) (v_ : Value) (rs_ : List Res) => v_ = (bptr A 2) ∧ rs_ = []), (fun (D : Nat → Value) (v_ : Value) (rs_ : List Res) => v_ = (lr kk) ∧ rs_ = []), (fun (D : Nat → Value) (v_ : Value) (rs_ : List Res) => v_ = (Value.int .i64 (ii : Int)) ∧ rs_ = []), (fun (D : Nat → Value) (v_ : Value) (rs_ : List Res) => v_ = (eptr (lr kk) (ii * 2)) ∧ rs_ = []), (fun (D : Nat → Value) (v_ : Value) (rs_ : List Res) => v_ = (eptr (lr kk) (ii * 2 + 0)) ∧ rs_ = []), (fun (D : Nat → Value) (v_ : Value) (rs_ : List Res) => v_ = (Value.int .i64 ((((b.tabs.getD kk tab0).rows).getD ii (0, 0)).1)) ∧ rs_ = []), (fun (D : Nat → Value) (v_ : Value) (rs_ : List Res) => v_ = (bptr A 2) ∧ rs_ = []), (fun (D : Nat → Value) (v_ : Value) (rs_ : List Res) => v_ = (lr kk) ∧ rs_ = []), (fun (D : Nat → Value) (v_ : Value) (rs_ : List Res) => v_ = (Value.int .i64 (ii : Int)) ∧ rs_ = []), (fun (D : Nat → Value) (v_ : Value) (rs_ : List Res) => v_ = (eptr (lr kk) (ii * 2)) ∧ rs_ = []), (fun (D : Nat → Value) (v_ : Value) (rs_ : List Res) => v_ = (eptr (lr kk) (ii * 2 + 0)) ∧ rs_ = []), (fun (D : Nat → Value) (v_ : Value) (rs_ : List Res) => v_ = (Value.int .i64 ((((b.tabs.getD kk tab0).rows).getD ii (0, 0)).1)) ∧ rs_ = []), (fun (D : Nat → Value) (v_ : Value) (rs_ : List Res) => v_ = (Value.int .i64 (((((b.tabs.getD kk tab0).rows).getD ii (0, 0)).1) + 1)) ∧ rs_ = []), (fun (D : Nat → Value) (v_ : Value) (rs_ : List Res) => v_ = (Value.agg #[(Value.int .i64 ((((b.tabs.getD kk tab0).rows).getD ii (0, 0)).1)), (Value.int .i64 (((((b.tabs.getD kk tab0).rows).getD ii (0, 0)).1) + 1))]) ∧ rs_ = []), (fun (D : Nat → Value) (v_ : Value) (rs_ : List Res) => v_ = (Value.tuple #[(Value.agg #[(Value.int .i64 ((b_7 b (kk : Int) ((((b.tabs.getD kk tab0).rows).getD ii (0, 0)).1, ((((b.tabs.getD kk tab0).rows).getD ii (0, 0)).1) + 1)).1)), (Value.int .i64 ((b_7 b (kk : Int) ((((b.tabs.getD kk tab0).rows).getD ii (0, 0)).1, ((((b.tabs.getD kk tab0).rows).getD ii (0, 0)).1) + 1)).2))]), (Value.int .i64 (e_0 b (kk : Int) ((((b.tabs.getD kk tab0).rows).getD ii (0, 0)).1, ((((b.tabs.getD kk tab0).rows).getD ii (0, 0)).1) + 1)))]) ∧ rs_ = []), (fun (D : Nat → Value) (v_ : Value) (rs_ : List Res) => v_ = (Value.tuple #[(Value.agg #[(Value.int .i64 ((b_7 b (kk : Int) ((((b.tabs.getD kk tab0).rows).getD ii (0, 0)).1, ((((b.tabs.getD kk tab0).rows).getD ii (0, 0)).1) + 1)).1)), (Value.int .i64 ((b_7 b (kk : Int) ((((b.tabs.getD kk tab0).rows).getD ii (0, 0)).1, ((((b.tabs.getD kk tab0).rows).getD ii (0, 0)).1) + 1)).2))]), (Value.int .i64 (e_0 b (kk : Int) ((((b.tabs.getD kk tab0).rows).getD ii (0, 0)).1, ((((b.tabs.getD kk tab0).rows).getD ii (0, 0)).1) + 1)))]) ∧ rs_ = []), (fun (D : Nat → Value) (v_ : Value) (rs_ : List Res) => v_ = (Value.agg #[(Value.int .i64 ((b_7 b (kk : Int) ((((b.tabs.getD kk tab0).rows).getD ii (0, 0)).1, ((((b.tabs.getD kk tab0).rows).getD ii (0, 0)).1) + 1)).1)), (Value.int .i64 ((b_7 b (kk : Int) ((((b.tabs.getD kk tab0).rows).getD ii (0, 0)).1, ((((b.tabs.getD kk tab0).rows).getD ii (0, 0)).1) + 1)).2))]) ∧ rs_ = []), (fun (D : Nat → Value) (v_ : Value) (rs_ : List Res) => v_ = (Value.int .i64 (e_0 b (kk : Int) ((((b.tabs.getD kk tab0).rows).getD ii (0, 0)).1, ((((b.tabs.getD kk tab0).rows).getD ii (0, 0)).1) + 1))) ∧ rs_ = [])] (by decide +kernel) (by decide +kernel) rfl rfl ⟨(fun _ _ _ _ _ h_ => h_), (fun _ _ _ _ _ h_ => h_), (fun _ _ _ _ _ h_ => h_), (fun _ _ _ _ _ h_ => h_), (fun _ _ _ _ _ h_ => h_), (fun _ _ _ _ _ h_ => h_), (fun _ _ _ _ _ h_ => h_), (fun _ _ _ _ _ h_ => h_), (fun _ _ _ _ _ h_ => h_), (fun _ _ _ _ _ h_ => h_), (fun _ _ _ _ _ h_ => h_), (fun _ _ _ _ _ h_ => h_), (fun _ _ _ _ _ h_ => h_), (fun _ _ _ _ _ h_ => h_), (fun _ _ _ _ _ h_ => h_), (fun _ _ _ _ _ h_ => h_), (fun _ _ _ _ _ h_ => h_), (fun _ _ _ _ _ h_ => h_), (fun _ _ _ _ _ h_ => h_), (fun _ _ _ _ _ h_ => h_), (fun _ _ _ _ _ h_ => h_), trivial⟩ ?_ ?_
  ·skip
   refine ⟨fun a w D hA hS hd => gv1 (c_5 rfl x_0 (hA.ev rfl) (hS.bk 8 rfl) (l := [(Value.int .i64 b.scales), vt, vm]) rfl rfl), ?_⟩
   refine ⟨fun a w D hA hS hd => d_6 rfl (vn (b_0 rfl aa_2 (ev1 (gu hd 0)) (q_9 b vt vm lr lb lk _ (a_6 (hS.ok 9 _ rfl)) (c_3 (hS.ok 10 _ rfl)) hth)) (fun v w' h => by obtain ⟨vt, vm, lr, lb, lk, rfl, hT⟩ := h; exact ⟨_, ⟨vt, vm, lr, lb, lk, rfl, rfl⟩, hT, rfl⟩)), ?_⟩
   refine ⟨fun a w D hA hS hd => gv1 (a_1 rfl (hA.ev rfl)), ?_⟩
   refine ⟨fun a w D hA hS hd => gv1 (a_4 rfl f_4 (hA.ev rfl)), ?_⟩
   refine ⟨fun a w D hA hS hd => gv1 (a_3 rfl k_1 (gu hd 3) (hS.bk 3 rfl) rfl), ?_⟩
   refine ⟨fun a w D hA hS hd => gv1 (a_1 rfl (hA.ev rfl)), ?_⟩
   refine ⟨fun a w D hA hS hd => gv1 (b_3 rfl k_2 m_6 (gu hd 4) (i := ii) (gu hd 5) ((a_6 (hS.ok 9 _ rfl)).row (i := kk) (by omega)) (by decide) (by omega)), ?_⟩
   refine ⟨fun a w D hA hS hd => gv1 (c_8 rfl h_9 (gu hd 6) ((a_6 (hS.ok 9 _ rfl)).row (i := kk) (by omega)) (by rw [(((a_6 (hS.ok 9 _ rfl)).row (i := kk) (by omega))).1]; omega)), ?_⟩
   refine ⟨fun a w D hA hS hd => gv1 (c_2 rfl ty_3 (gu hd 7) ((a_6 (hS.ok 9 _ rfl)).row (i := kk) (by omega)) (e_5 (by omega))), ?_⟩
   refine ⟨fun a w D hA hS hd => gv1 (a_4 rfl f_4 (hA.ev rfl)), ?_⟩
   refine ⟨fun a w D hA hS hd => gv1 (a_3 rfl k_1 (gu hd 9) (hS.bk 3 rfl) rfl), ?_⟩
   refine ⟨fun a w D hA hS hd => gv1 (a_1 rfl (hA.ev rfl)), ?_⟩
   refine ⟨fun a w D hA hS hd => gv1 (b_3 rfl k_2 m_6 (gu hd 10) (i := ii) (gu hd 11) ((a_6 (hS.ok 9 _ rfl)).row (i := kk) (by omega)) (by decide) (by omega)), ?_⟩
   refine ⟨fun a w D hA hS hd => gv1 (c_8 rfl h_9 (gu hd 12) ((a_6 (hS.ok 9 _ rfl)).row (i := kk) (by omega)) (by rw [(((a_6 (hS.ok 9 _ rfl)).row (i := kk) (by omega))).1]; omega)), ?_⟩
   refine ⟨fun a w D hA hS hd => gv1 (c_2 rfl ty_3 (gu hd 13) ((a_6 (hS.ok 9 _ rfl)).row (i := kk) (by omega)) (e_5 (by omega))), ?_⟩
   refine ⟨fun a w D hA hS hd => gv1 (g_0 rfl (gu hd 14) (evc _ _) (by omega) (by omega)), ?_⟩
   refine ⟨fun a w D hA hS hd => gx1 (b_0 rfl v_2 (ev2 (gu hd 8) (gu hd 15)) (g_4 _ _ _)), ?_⟩
   refine ⟨fun a w D hA hS hd => ?_, ?_⟩
   ·skip
    obtain ⟨e1, Ge, Be, BL⟩ := hd 1 (by decide)
    obtain ⟨vt1_vs387, vm1_vs387, lr1_vs387, lb1_vs387, lk1_vs387, Bd, Bc⟩ := Be; subst Bc
    rw [Bd] at e1
    have hp1_0 := BL _ (List.mem_of_getElem? (i := 0) rfl)
    have hp1_1 := BL _ (List.mem_of_getElem? (i := 1) rfl)
    exact gx1 (b_0 rfl aa_7 (ev3 (c_9 (d_4 e1 rfl)) (gu hd 2) (gu hd 16)) (k_7 b vt1_vs387 vm1_vs387 lr1_vs387 lb1_vs387 lk1_vs387 _ (a_6 hp1_0) (c_3 hp1_1) hth (kk : Int) ((((b.tabs.getD kk tab0).rows).getD ii (0, 0)).1) (((((b.tabs.getD kk tab0).rows).getD ii (0, 0)).1) + 1)))
   refine ⟨fun a w D hA hS hd => gv1 (a_1 rfl (gu hd 17)), ?_⟩
   refine ⟨fun a w D hA hS hd => gv1 (c_6 rfl (gu hd 18) rfl), ?_⟩
   refine ⟨fun a w D hA hS hd => gv1 (c_6 rfl (gu hd 18) rfl), ?_⟩
   trivial
  intro Gg Jn D rsf393 FZ U EL; clear FY CD
  obtain ⟨Ag, A0⟩ := U 0 (by decide)
  obtain ⟨Aq, p⟩ := A0
  obtain ⟨Ah, A1⟩ := U 1 (by decide)
  obtain ⟨vt1_vs387, vm1_vs387, lr1_vs387, lb1_vs387, lk1_vs387, Ar, q⟩ := A1
  obtain ⟨Ai, A2⟩ := U 2 (by decide)
  obtain ⟨As, r⟩ := A2
  obtain ⟨Aj, A3⟩ := U 3 (by decide)
  obtain ⟨At, s⟩ := A3
  obtain ⟨Ak, A4⟩ := U 4 (by decide)
  obtain ⟨Au, u⟩ := A4
  obtain ⟨Al, A5⟩ := U 5 (by decide)
  obtain ⟨Av, z⟩ := A5
  obtain ⟨Am, A6⟩ := U 6 (by decide)
  obtain ⟨Aw, AA⟩ := A6
  obtain ⟨An, A7⟩ := U 7 (by decide)
  obtain ⟨Ax, AB⟩ := A7
  obtain ⟨Ao, A8⟩ := U 8 (by decide)
  obtain ⟨Ay, AC⟩ := A8
  obtain ⟨Ap, A9⟩ := U 9 (by decide)
  obtain ⟨Az, AD⟩ := A9
  obtain ⟨AK, AX⟩ := U 10 (by decide)
  obtain ⟨AQ, I⟩ := AX
  obtain ⟨AL, AY⟩ := U 11 (by decide)
  obtain ⟨AR, J⟩ := AY
  obtain ⟨AM, AZ⟩ := U 12 (by decide)
  obtain ⟨AS, K⟩ := AZ
  obtain ⟨AN, Aa⟩ := U 13 (by decide)
  obtain ⟨AT, L⟩ := Aa
  obtain ⟨AO, Ab⟩ := U 14 (by decide)
  obtain ⟨AU, M⟩ := Ab
  obtain ⟨AP, Ac⟩ := U 15 (by decide)
  obtain ⟨AV, N⟩ := Ac
  obtain ⟨AH, Ad⟩ := U 16 (by decide)
  obtain ⟨AJ, O⟩ := Ad
  obtain ⟨Q, Ae⟩ := U 17 (by decide)
  obtain ⟨o, P⟩ := Ae
  obtain ⟨R, Af⟩ := U 18 (by decide)
  obtain ⟨AE, f⟩ := Af
  obtain ⟨g, BB⟩ := U 19 (by decide)
  obtain ⟨AW, AF⟩ := BB
  obtain ⟨S, BC⟩ := U 20 (by decide)
  obtain ⟨AI, AG⟩ := BC
  have EM : Sep NoB w Jn [(b_6 true vt1_vs387 lr1_vs387 lb1_vs387 b.tabs), (c_0 true vm1_vs387 lk1_vs387 b.macs), (b_6 true vt1_ lr1_ lb1_ b.tabs), (c_0 true vm1_ lk1_ b.macs), (blk b19_ 30 [(Value.int .i64 ((b_7 b (kk : Int) (((((b.tabs.getD kk tab0).rows).getD 0 (0, 0)).1) - 1, (((b.tabs.getD kk tab0).rows).getD 0 (0, 0)).1)).1)), (Value.int .i64 ((b_7 b (kk : Int) (((((b.tabs.getD kk tab0).rows).getD 0 (0, 0)).1) - 1, (((b.tabs.getD kk tab0).rows).getD 0 (0, 0)).1)).2))]), (blk A 46 [(Value.int .i64 ((b.tabs.getD kk tab0).frm)), (Value.int .i64 ((b.tabs.getD kk tab0).dst)), (lr kk), (lb kk), (Value.int .i64 ((b.tabs.getD kk tab0).err))]), (row T 30 2 t.length (pairs t)), (row BD 98 2 l.length (pairs l)), (b_6 true vt26 lr28 lb29 b.tabs), (c_0 true vm27 lk30 b.macs), (blk H 25 [(Value.int .i64 b.scales), vt, vm]), (b_6 false vt lr lb b.tabs), (c_0 false vm lk b.macs), (sl xl 2 l.length (pairs l))] := by rw [show catR rsf393 0 21 = ([(b_6 true vt1_vs387 lr1_vs387 lb1_vs387 b.tabs), (c_0 true vm1_vs387 lk1_vs387 b.macs)] : List Res) by (try simp only [catR, p, q, r, s, u, z, AA, AB, AC, AD, I, J, K, L, M, N, O, P, f, AF, AG]); (try rfl)] at EL; exact EL
  rw [AI] at S
  have DV : Fr 197 [] [(167, (Value.int .i64 (e_0 b (kk : Int) ((((b.tabs.getD kk tab0).rows).getD ii (0, 0)).1, ((((b.tabs.getD kk tab0).rows).getD ii (0, 0)).1) + 1)))), (19, (Value.int .i64 (ii : Int))), (16, (bptr A 0)), (15, (Value.int .i64 (kk : Int))), (4, (bptr H 0))] Gg := FZ.add (d_4 S rfl); clear FZ
  clear U EL Ag Ah Ai Aj Ak Al Am An Ao Ap AK AL AM AN AO AP AH Q R g S
  clear p
  clear Aq
  clear q
  clear Ar
  clear r
  clear As
  clear s
  clear At
  clear u
  clear Au
  clear z
  clear Av
  clear AA
  clear Aw
  clear AB
  clear Ax
  clear AC
  clear Ay
  clear AD
  clear Az
  clear I
  clear AQ
  clear J
  clear AR
  clear K
  clear AS
  clear L
  clear AT
  clear M
  clear AU
  clear N
  clear AV
  clear O
  clear AJ
  clear P
  clear o
  clear f
  clear AE
  clear AF
  clear AW
  clear AG
  clear AI
  refine s1 DV (a_0 rfl (DV.ev rfl)) fun Kd Fa => ?_; clear DV Gg
  refine n2 ?_
  have DW := Fa.as [(18, (Value.int .i64 (e_0 b (kk : Int) ((((b.tabs.getD kk tab0).rows).getD ii (0, 0)).1, ((((b.tabs.getD kk tab0).rows).getD ii (0, 0)).1) + 1)))), (19, (Value.int .i64 (ii : Int))), (16, (bptr A 0)), (15, (Value.int .i64 (kk : Int))), (4, (bptr H 0))] rfl; clear Fa
  refine y_2 mixed DW EM 21 19 rfl rfl [[], [0], [], [], [3], [], [4, 5], [6], [7], [], [9], [], [10, 11], [12], [13], [8, 14], [1, 2, 15], [16], [17], [17], []] [(fun (B : Nat → Value) (v_ : Value) (rs_ : List Res) => v_ = (Value.agg #[(Value.int .i64 b.scales), vt, vm]) ∧ rs_ = []), (fun (B : Nat → Value) (v_ : Value) (rs_ : List Res) => ∃ (vt1_vs399 : Value), ∃ (vm1_vs399 : Value), ∃ (lr1_vs399 : Nat → Value), ∃ (lb1_vs399 : Nat → Value), ∃ (lk1_vs399 : Nat → Value), v_ = (Value.agg #[(Value.int .i64 b.scales), vt1_vs399, vm1_vs399]) ∧ rs_ = [(b_6 true vt1_vs399 lr1_vs399 lb1_vs399 b.tabs), (c_0 true vm1_vs399 lk1_vs399 b.macs)]), (fun (B : Nat → Value) (v_ : Value) (rs_ : List Res) => v_ = (Value.int .i64 (kk : Int)) ∧ rs_ = []), (fun (B : Nat → Value) (v_ : Value) (rs_ : List Res) => v_ = (bptr A 2) ∧ rs_ = []), (fun (B : Nat → Value) (v_ : Value) (rs_ : List Res) => v_ = (lr kk) ∧ rs_ = []), (fun (B : Nat → Value) (v_ : Value) (rs_ : List Res) => v_ = (Value.int .i64 (ii : Int)) ∧ rs_ = []), (fun (B : Nat → Value) (v_ : Value) (rs_ : List Res) => v_ = (eptr (lr kk) (ii * 2)) ∧ rs_ = []), (fun (B : Nat → Value) (v_ : Value) (rs_ : List Res) => v_ = (eptr (lr kk) (ii * 2 + 0)) ∧ rs_ = []), (fun (B : Nat → Value) (v_ : Value) (rs_ : List Res) => v_ = (Value.int .i64 ((((b.tabs.getD kk tab0).rows).getD ii (0, 0)).1)) ∧ rs_ = []), (fun (B : Nat → Value) (v_ : Value) (rs_ : List Res) => v_ = (bptr A 2) ∧ rs_ = []), (fun (B : Nat → Value) (v_ : Value) (rs_ : List Res) => v_ = (lr kk) ∧ rs_ = []), (fun (B : Nat → Value) (v_ : Value) (rs_ : List Res) => v_ = (Value.int .i64 (ii : Int)) ∧ rs_ = []), (fun (B : Nat → Value) (v_ : Value) (rs_ : List Res) => v_ = (eptr (lr kk) (ii * 2)) ∧ rs_ = []), (fun (B : Nat → Value) (v_ : Value) (rs_ : List Res) => v_ = (eptr (lr kk) (ii * 2 + 0)) ∧ rs_ = []), (fun (B : Nat → Value) (v_ : Value) (rs_ : List Res) => v_ = (Value.int .i64 ((((b.tabs.getD kk tab0).rows).getD ii (0, 0)).1)) ∧ rs_ = []), (fun (B : Nat → Value) (v_ : Value) (rs_ : List Res) => v_ = (Value.agg #[(Value.int .i64 ((((b.tabs.getD kk tab0).rows).getD ii (0, 0)).1)), (Value.int .i64 ((((b.tabs.getD kk tab0).rows).getD ii (0, 0)).1))]) ∧ rs_ = []), (fun (B : Nat → Value) (v_ : Value) (rs_ : List Res) => v_ = (Value.tuple #[(Value.agg #[(Value.int .i64 ((b_7 b (kk : Int) ((((b.tabs.getD kk tab0).rows).getD ii (0, 0)).1, (((b.tabs.getD kk tab0).rows).getD ii (0, 0)).1)).1)), (Value.int .i64 ((b_7 b (kk : Int) ((((b.tabs.getD kk tab0).rows).getD ii (0, 0)).1, (((b.tabs.getD kk tab0).rows).getD ii (0, 0)).1)).2))]), (Value.int .i64 (e_0 b (kk : Int) ((((b.tabs.getD kk tab0).rows).getD ii (0, 0)).1, (((b.tabs.getD kk tab0).rows).getD ii (0, 0)).1)))]) ∧ rs_ = []), (fun (B : Nat → Value) (v_ : Value) (rs_ : List Res) => v_ = (Value.tuple #[(Value.agg #[(Value.int .i64 ((b_7 b (kk : Int) ((((b.tabs.getD kk tab0).rows).getD ii (0, 0)).1, (((b.tabs.getD kk tab0).rows).getD ii (0, 0)).1)).1)), (Value.int .i64 ((b_7 b (kk : Int) ((((b.tabs.getD kk tab0).rows).getD ii (0, 0)).1, (((b.tabs.getD kk tab0).rows).getD ii (0, 0)).1)).2))]), (Value.int .i64 (e_0 b (kk : Int) ((((b.tabs.getD kk tab0).rows).getD ii (0, 0)).1, (((b.tabs.getD kk tab0).rows).getD ii (0, 0)).1)))]) ∧ rs_ = []), (fun (B : Nat → Value) (v_ : Value) (rs_ : List Res) => v_ = (Value.agg #[(Value.int .i64 ((b_7 b (kk : Int) ((((b.tabs.getD kk tab0).rows).getD ii (0, 0)).1, (((b.tabs.getD kk tab0).rows).getD ii (0, 0)).1)).1)), (Value.int .i64 ((b_7 b (kk : Int) ((((b.tabs.getD kk tab0).rows).getD ii (0, 0)).1, (((b.tabs.getD kk tab0).rows).getD ii (0, 0)).1)).2))]) ∧ rs_ = []), (fun (B : Nat → Value) (v_ : Value) (rs_ : List Res) => v_ = (Value.int .i64 (e_0 b (kk : Int) ((((b.tabs.getD kk tab0).rows).getD ii (0, 0)).1, (((b.tabs.getD kk tab0).rows).getD ii (0, 0)).1))) ∧ rs_ = []), (fun (B : Nat → Value) (v_ : Value) (rs_ : List Res) => ∃ (b20_ : Nat), v_ = (bptr b20_ 0) ∧ rs_ = [(blk b20_ 30 [(Value.int .i64 0), (Value.int .i64 0)])])] (by decide +kernel) (by decide +kernel) (by decide +kernel) rfl rfl ⟨(fun _ _ _ _ _ h_ => h_), (fun _ _ _ _ _ h_ => h_), (fun _ _ _ _ _ h_ => h_), (fun _ _ _ _ _ h_ => h_), (fun _ _ _ _ _ h_ => h_), (fun _ _ _ _ _ h_ => h_), (fun _ _ _ _ _ h_ => h_), (fun _ _ _ _ _ h_ => h_), (fun _ _ _ _ _ h_ => h_), (fun _ _ _ _ _ h_ => h_), (fun _ _ _ _ _ h_ => h_), (fun _ _ _ _ _ h_ => h_), (fun _ _ _ _ _ h_ => h_), (fun _ _ _ _ _ h_ => h_), (fun _ _ _ _ _ h_ => h_), (fun _ _ _ _ _ h_ => h_), (fun _ _ _ _ _ h_ => h_), (fun _ _ _ _ _ h_ => h_), (fun _ _ _ _ _ h_ => h_), (fun _ _ _ _ _ h_ => h_), (fun _ _ _ _ _ h_ => h_), trivial⟩ ?_ ?_ ?_
  ·skip
   refine ⟨fun a w B hA hS hd => gv1 (c_5 rfl x_0 (hA.ev rfl) (hS.bk 10 rfl) (l := [(Value.int .i64 b.scales), vt, vm]) rfl rfl), ?_⟩
   refine ⟨fun a w B hA hS hd => d_6 rfl (vn (b_0 rfl aa_2 (ev1 (gu hd 0)) (q_9 b vt vm lr lb lk _ (a_6 (hS.ok 11 _ rfl)) (c_3 (hS.ok 12 _ rfl)) hth)) (fun v w' h => by obtain ⟨vt, vm, lr, lb, lk, rfl, hT⟩ := h; exact ⟨_, ⟨vt, vm, lr, lb, lk, rfl, rfl⟩, hT, rfl⟩)), ?_⟩
   refine ⟨fun a w B hA hS hd => gv1 (a_1 rfl (hA.ev rfl)), ?_⟩
   refine ⟨fun a w B hA hS hd => gv1 (a_4 rfl f_4 (hA.ev rfl)), ?_⟩
   refine ⟨fun a w B hA hS hd => gv1 (a_3 rfl k_1 (gu hd 3) (hS.bk 5 rfl) rfl), ?_⟩
   refine ⟨fun a w B hA hS hd => gv1 (a_1 rfl (hA.ev rfl)), ?_⟩
   refine ⟨fun a w B hA hS hd => gv1 (b_3 rfl k_2 m_6 (gu hd 4) (i := ii) (gu hd 5) ((a_6 (hS.ok 11 _ rfl)).row (i := kk) (by omega)) (by decide) (by omega)), ?_⟩
   refine ⟨fun a w B hA hS hd => gv1 (c_8 rfl h_9 (gu hd 6) ((a_6 (hS.ok 11 _ rfl)).row (i := kk) (by omega)) (by rw [(((a_6 (hS.ok 11 _ rfl)).row (i := kk) (by omega))).1]; omega)), ?_⟩
   refine ⟨fun a w B hA hS hd => gv1 (c_2 rfl ty_3 (gu hd 7) ((a_6 (hS.ok 11 _ rfl)).row (i := kk) (by omega)) (e_5 (by omega))), ?_⟩
   refine ⟨fun a w B hA hS hd => gv1 (a_4 rfl f_4 (hA.ev rfl)), ?_⟩
   refine ⟨fun a w B hA hS hd => gv1 (a_3 rfl k_1 (gu hd 9) (hS.bk 5 rfl) rfl), ?_⟩
   refine ⟨fun a w B hA hS hd => gv1 (a_1 rfl (hA.ev rfl)), ?_⟩
   refine ⟨fun a w B hA hS hd => gv1 (b_3 rfl k_2 m_6 (gu hd 10) (i := ii) (gu hd 11) ((a_6 (hS.ok 11 _ rfl)).row (i := kk) (by omega)) (by decide) (by omega)), ?_⟩
   refine ⟨fun a w B hA hS hd => gv1 (c_8 rfl h_9 (gu hd 12) ((a_6 (hS.ok 11 _ rfl)).row (i := kk) (by omega)) (by rw [(((a_6 (hS.ok 11 _ rfl)).row (i := kk) (by omega))).1]; omega)), ?_⟩
   refine ⟨fun a w B hA hS hd => gv1 (c_2 rfl ty_3 (gu hd 13) ((a_6 (hS.ok 11 _ rfl)).row (i := kk) (by omega)) (e_5 (by omega))), ?_⟩
   refine ⟨fun a w B hA hS hd => gx1 (b_0 rfl v_2 (ev2 (gu hd 8) (gu hd 14)) (g_4 _ _ _)), ?_⟩
   refine ⟨fun a w B hA hS hd => ?_, ?_⟩
   ·skip
    obtain ⟨e1, Ge, Be, BL⟩ := hd 1 (by decide)
    obtain ⟨vt1_vs399, vm1_vs399, lr1_vs399, lb1_vs399, lk1_vs399, Bd, Bc⟩ := Be; subst Bc
    rw [Bd] at e1
    have hp1_0 := BL _ (List.mem_of_getElem? (i := 0) rfl)
    have hp1_1 := BL _ (List.mem_of_getElem? (i := 1) rfl)
    exact gx1 (b_0 rfl aa_7 (ev3 (c_9 (d_4 e1 rfl)) (gu hd 2) (gu hd 15)) (k_7 b vt1_vs399 vm1_vs399 lr1_vs399 lb1_vs399 lk1_vs399 _ (a_6 hp1_0) (c_3 hp1_1) hth (kk : Int) ((((b.tabs.getD kk tab0).rows).getD ii (0, 0)).1) ((((b.tabs.getD kk tab0).rows).getD ii (0, 0)).1)))
   refine ⟨fun a w B hA hS hd => gv1 (a_1 rfl (gu hd 16)), ?_⟩
   refine ⟨fun a w B hA hS hd => gv1 (c_6 rfl (gu hd 17) rfl), ?_⟩
   refine ⟨fun a w B hA hS hd => gv1 (c_6 rfl (gu hd 17) rfl), ?_⟩
   refine ⟨fun a w B hA hS hd => d_6 rfl (valloc rfl t_5 (cs := [(Value.int .i64 0), (Value.int .i64 0)]) rfl (fun b_ => ⟨b_, rfl, rfl⟩)), ?_⟩
   trivial
  ·skip
   intro CK Jo B rsf405 Fb V EN; clear DW EM
   obtain ⟨Ag, A0⟩ := V 0 (by decide)
   obtain ⟨Aq, p⟩ := A0
   obtain ⟨Ah, A1⟩ := V 1 (by decide)
   obtain ⟨vt1_vs399, vm1_vs399, lr1_vs399, lb1_vs399, lk1_vs399, Ar, q⟩ := A1
   obtain ⟨Ai, A2⟩ := V 2 (by decide)
   obtain ⟨As, r⟩ := A2
   obtain ⟨Aj, A3⟩ := V 3 (by decide)
   obtain ⟨At, s⟩ := A3
   obtain ⟨Ak, A4⟩ := V 4 (by decide)
   obtain ⟨Au, u⟩ := A4
   obtain ⟨Al, A5⟩ := V 5 (by decide)
   obtain ⟨Av, z⟩ := A5
   obtain ⟨Am, A6⟩ := V 6 (by decide)
   obtain ⟨Aw, AA⟩ := A6
   obtain ⟨An, A7⟩ := V 7 (by decide)
   obtain ⟨Ax, AB⟩ := A7
   obtain ⟨Ao, A8⟩ := V 8 (by decide)
   obtain ⟨Ay, AC⟩ := A8
   obtain ⟨Ap, A9⟩ := V 9 (by decide)
   obtain ⟨Az, AD⟩ := A9
   obtain ⟨AK, AX⟩ := V 10 (by decide)
   obtain ⟨AQ, I⟩ := AX
   obtain ⟨AL, AY⟩ := V 11 (by decide)
   obtain ⟨AR, J⟩ := AY
   obtain ⟨AM, AZ⟩ := V 12 (by decide)
   obtain ⟨AS, K⟩ := AZ
   obtain ⟨AN, Aa⟩ := V 13 (by decide)
   obtain ⟨AT, L⟩ := Aa
   obtain ⟨AO, Ab⟩ := V 14 (by decide)
   obtain ⟨AU, M⟩ := Ab
   obtain ⟨AP, Ac⟩ := V 15 (by decide)
   obtain ⟨AV, N⟩ := Ac
   obtain ⟨AH, Ad⟩ := V 16 (by decide)
   obtain ⟨AJ, O⟩ := Ad
   obtain ⟨Q, Ae⟩ := V 17 (by decide)
   obtain ⟨o, P⟩ := Ae
   obtain ⟨R, Af⟩ := V 18 (by decide)
   obtain ⟨AE, f⟩ := Af
   obtain ⟨g, BB⟩ := V 19 (by decide)
   obtain ⟨AW, AF⟩ := BB
   obtain ⟨S, BC⟩ := V 20 (by decide)
   obtain ⟨b20_, AI, AG⟩ := BC
   have GL : Sep NoB w Jo [(b_6 true vt1_vs399 lr1_vs399 lb1_vs399 b.tabs), (c_0 true vm1_vs399 lk1_vs399 b.macs), (blk b20_ 30 [(Value.int .i64 0), (Value.int .i64 0)]), (b_6 true vt1_vs387 lr1_vs387 lb1_vs387 b.tabs), (c_0 true vm1_vs387 lk1_vs387 b.macs), (b_6 true vt1_ lr1_ lb1_ b.tabs), (c_0 true vm1_ lk1_ b.macs), (blk b19_ 30 [(Value.int .i64 ((b_7 b (kk : Int) (((((b.tabs.getD kk tab0).rows).getD 0 (0, 0)).1) - 1, (((b.tabs.getD kk tab0).rows).getD 0 (0, 0)).1)).1)), (Value.int .i64 ((b_7 b (kk : Int) (((((b.tabs.getD kk tab0).rows).getD 0 (0, 0)).1) - 1, (((b.tabs.getD kk tab0).rows).getD 0 (0, 0)).1)).2))]), (blk A 46 [(Value.int .i64 ((b.tabs.getD kk tab0).frm)), (Value.int .i64 ((b.tabs.getD kk tab0).dst)), (lr kk), (lb kk), (Value.int .i64 ((b.tabs.getD kk tab0).err))]), (row T 30 2 t.length (pairs t)), (row BD 98 2 l.length (pairs l)), (b_6 true vt26 lr28 lb29 b.tabs), (c_0 true vm27 lk30 b.macs), (blk H 25 [(Value.int .i64 b.scales), vt, vm]), (b_6 false vt lr lb b.tabs), (c_0 false vm lk b.macs), (sl xl 2 l.length (pairs l))] := by rw [show catR rsf405 0 21 = ([(b_6 true vt1_vs399 lr1_vs399 lb1_vs399 b.tabs), (c_0 true vm1_vs399 lk1_vs399 b.macs), (blk b20_ 30 [(Value.int .i64 0), (Value.int .i64 0)])] : List Res) by (try simp only [catR, p, q, r, s, u, z, AA, AB, AC, AD, I, J, K, L, M, N, O, P, f, AF, AG]); (try rfl)] at EN; exact EN
   rw [AE] at R
   have Fc : Fr 197 [] [(186, (Value.agg #[(Value.int .i64 ((b_7 b (kk : Int) ((((b.tabs.getD kk tab0).rows).getD ii (0, 0)).1, (((b.tabs.getD kk tab0).rows).getD ii (0, 0)).1)).1)), (Value.int .i64 ((b_7 b (kk : Int) ((((b.tabs.getD kk tab0).rows).getD ii (0, 0)).1, (((b.tabs.getD kk tab0).rows).getD ii (0, 0)).1)).2))])), (18, (Value.int .i64 (e_0 b (kk : Int) ((((b.tabs.getD kk tab0).rows).getD ii (0, 0)).1, ((((b.tabs.getD kk tab0).rows).getD ii (0, 0)).1) + 1)))), (19, (Value.int .i64 (ii : Int))), (16, (bptr A 0)), (15, (Value.int .i64 (kk : Int))), (4, (bptr H 0))] CK := Fb.add (d_4 R rfl); clear Fb
   rw [AW] at g
   have Fd : Fr 197 [] [(187, (Value.int .i64 (e_0 b (kk : Int) ((((b.tabs.getD kk tab0).rows).getD ii (0, 0)).1, (((b.tabs.getD kk tab0).rows).getD ii (0, 0)).1)))), (186, (Value.agg #[(Value.int .i64 ((b_7 b (kk : Int) ((((b.tabs.getD kk tab0).rows).getD ii (0, 0)).1, (((b.tabs.getD kk tab0).rows).getD ii (0, 0)).1)).1)), (Value.int .i64 ((b_7 b (kk : Int) ((((b.tabs.getD kk tab0).rows).getD ii (0, 0)).1, (((b.tabs.getD kk tab0).rows).getD ii (0, 0)).1)).2))])), (18, (Value.int .i64 (e_0 b (kk : Int) ((((b.tabs.getD kk tab0).rows).getD ii (0, 0)).1, ((((b.tabs.getD kk tab0).rows).getD ii (0, 0)).1) + 1)))), (19, (Value.int .i64 (ii : Int))), (16, (bptr A 0)), (15, (Value.int .i64 (kk : Int))), (4, (bptr H 0))] CK := Fc.add (d_4 g rfl); clear Fc
   rw [AI] at S
   have Bt : Fr 197 [] [(20, (bptr b20_ 0)), (187, (Value.int .i64 (e_0 b (kk : Int) ((((b.tabs.getD kk tab0).rows).getD ii (0, 0)).1, (((b.tabs.getD kk tab0).rows).getD ii (0, 0)).1)))), (186, (Value.agg #[(Value.int .i64 ((b_7 b (kk : Int) ((((b.tabs.getD kk tab0).rows).getD ii (0, 0)).1, (((b.tabs.getD kk tab0).rows).getD ii (0, 0)).1)).1)), (Value.int .i64 ((b_7 b (kk : Int) ((((b.tabs.getD kk tab0).rows).getD ii (0, 0)).1, (((b.tabs.getD kk tab0).rows).getD ii (0, 0)).1)).2))])), (18, (Value.int .i64 (e_0 b (kk : Int) ((((b.tabs.getD kk tab0).rows).getD ii (0, 0)).1, ((((b.tabs.getD kk tab0).rows).getD ii (0, 0)).1) + 1)))), (19, (Value.int .i64 (ii : Int))), (16, (bptr A 0)), (15, (Value.int .i64 (kk : Int))), (4, (bptr H 0))] CK := Fd.add (d_4 S rfl); clear Fd
   clear V EN Ag Ah Ai Aj Ak Al Am An Ao Ap AK AL AM AN AO AP AH Q R g S
   clear p
   clear Aq
   clear q
   clear Ar
   clear r
   clear As
   clear s
   clear At
   clear u
   clear Au
   clear z
   clear Av
   clear AA
   clear Aw
   clear AB
   clear Ax
   clear AC
   clear Ay
   clear AD
   clear Az
   clear I
   clear AQ
   clear J
   clear AR
   clear K
   clear AS
   clear L
   clear AT
   clear M
   clear AU
   clear N
   clear AV
   clear O
   clear AJ
   clear P
   clear o
   clear f
   clear AE
   clear AF
   clear AW
   clear AG
   clear AI
   refine s7 Bt (c_1 GL rfl f_5 (Bt.ev rfl) (Bt.ev rfl) (i := 2) rfl (vs := [(Value.int .i64 ((b_7 b (kk : Int) ((((b.tabs.getD kk tab0).rows).getD ii (0, 0)).1, (((b.tabs.getD kk tab0).rows).getD ii (0, 0)).1)).1)), (Value.int .i64 ((b_7 b (kk : Int) ((((b.tabs.getD kk tab0).rows).getD ii (0, 0)).1, (((b.tabs.getD kk tab0).rows).getD ii (0, 0)).1)).2))]) rfl rfl rfl (Nat.le_of_ble_eq_true rfl)) ?_
   intro _ Jp GM DX; clear Bt
   have GN : Sep NoB w Jp [(b_6 true vt1_vs399 lr1_vs399 lb1_vs399 b.tabs), (c_0 true vm1_vs399 lk1_vs399 b.macs), (blk b20_ 30 [(Value.int .i64 ((b_7 b (kk : Int) ((((b.tabs.getD kk tab0).rows).getD ii (0, 0)).1, (((b.tabs.getD kk tab0).rows).getD ii (0, 0)).1)).1)), (Value.int .i64 ((b_7 b (kk : Int) ((((b.tabs.getD kk tab0).rows).getD ii (0, 0)).1, (((b.tabs.getD kk tab0).rows).getD ii (0, 0)).1)).2))]), (b_6 true vt1_vs387 lr1_vs387 lb1_vs387 b.tabs), (c_0 true vm1_vs387 lk1_vs387 b.macs), (b_6 true vt1_ lr1_ lb1_ b.tabs), (c_0 true vm1_ lk1_ b.macs), (blk b19_ 30 [(Value.int .i64 ((b_7 b (kk : Int) (((((b.tabs.getD kk tab0).rows).getD 0 (0, 0)).1) - 1, (((b.tabs.getD kk tab0).rows).getD 0 (0, 0)).1)).1)), (Value.int .i64 ((b_7 b (kk : Int) (((((b.tabs.getD kk tab0).rows).getD 0 (0, 0)).1) - 1, (((b.tabs.getD kk tab0).rows).getD 0 (0, 0)).1)).2))]), (blk A 46 [(Value.int .i64 ((b.tabs.getD kk tab0).frm)), (Value.int .i64 ((b.tabs.getD kk tab0).dst)), (lr kk), (lb kk), (Value.int .i64 ((b.tabs.getD kk tab0).err))]), (row T 30 2 t.length (pairs t)), (row BD 98 2 l.length (pairs l)), (b_6 true vt26 lr28 lb29 b.tabs), (c_0 true vm27 lk30 b.macs), (blk H 25 [(Value.int .i64 b.scales), vt, vm]), (b_6 false vt lr lb b.tabs), (c_0 false vm lk b.macs), (sl xl 2 l.length (pairs l))] := GM; clear GM GL
   refine s1 DX (a_0 rfl (DX.ev rfl)) fun Ir Fe => ?_; clear DX CK
   refine n2 ?_
   have DY := Fe.as [(21, (Value.int .i64 (e_0 b (kk : Int) ((((b.tabs.getD kk tab0).rows).getD ii (0, 0)).1, (((b.tabs.getD kk tab0).rows).getD ii (0, 0)).1)))), (18, (Value.int .i64 (e_0 b (kk : Int) ((((b.tabs.getD kk tab0).rows).getD ii (0, 0)).1, ((((b.tabs.getD kk tab0).rows).getD ii (0, 0)).1) + 1))))] rfl; clear Fe
   refine a_5 ?_
   refine s1 DY (a_1 rfl (DY.ev rfl)) fun Is DZ => ?_; clear DY Ir
   refine s1 DZ (i_8 rfl (DZ.ev rfl) (evc _ _)) fun It Bu => ?_; clear DZ Is
   have HG : (e_0 b (kk : Int) ((((b.tabs.getD kk tab0).rows).getD ii (0, 0)).1, ((((b.tabs.getD kk tab0).rows).getD ii (0, 0)).1) + 1)) = 10 := (by first | exact m_4 hc hb_kk | exact m_3 hc hb_kk hi_ii hm_ii)
   rw [decide_eq_true HG] at Bu
   refine s1 Bu (a_1 rfl (Bu.ev rfl)) fun Iu Da => ?_; clear Bu It
   refine s5 Da (a_1 rfl (Da.ev rfl)) fun Iv Db => ?_; clear Da Iu
   refine s5 Db (i_8 rfl (Db.ev rfl) (evc _ _)) fun Iw BW => ?_; clear Db Iv
   have HH : (e_0 b (kk : Int) ((((b.tabs.getD kk tab0).rows).getD ii (0, 0)).1, (((b.tabs.getD kk tab0).rows).getD ii (0, 0)).1)) = 0 := (t_6 hc hb_kk hi_ii)
   rw [decide_eq_true HH] at BW
   refine s1 BW (b_4 rfl (BW.ev rfl) (BW.ev rfl)) fun Ix Dc => ?_; clear BW Iw
   refine s1 Dc (a_1 rfl (Dc.ev rfl)) fun Iy Ff => ?_; clear Dc Ix
   refine s6 Ff (b_0 rfl y_8 ev0 (l_5 _)) ?_
   rintro Iz _ Kx ⟨rfl, GD⟩ Bv; have HA := GN.step GD; clear GD Ff GN Iy
   refine s1 Bv (b_4 rfl (Bv.ev rfl) (Bv.ev rfl)) fun I0 Dd => ?_; clear Bv Iz
   refine s1 Dd (a_0 rfl (Dd.ev rfl)) fun Ke Fg => ?_; clear Dd I0
   refine n1 ?_
   refine c_4 ?_
   refine a_8 Fg (.inl rfl) (a_2 Fg rfl (.tmp rfl)) ?_
   exact ⟨rfl, HA.ext⟩
  skip
  intro CL Jq B rsf447 Fh Z hrq EO; clear DW EM
  obtain ⟨Ag, A0⟩ := Z 0 (by decide) (by decide)
  obtain ⟨Aq, p⟩ := A0
  obtain ⟨Ah, A1⟩ := Z 1 (by decide) (by decide)
  obtain ⟨vt1_vs399, vm1_vs399, lr1_vs399, lb1_vs399, lk1_vs399, Ar, q⟩ := A1
  obtain ⟨Ai, A2⟩ := Z 2 (by decide) (by decide)
  obtain ⟨As, r⟩ := A2
  obtain ⟨Aj, A3⟩ := Z 3 (by decide) (by decide)
  obtain ⟨At, s⟩ := A3
  obtain ⟨Ak, A4⟩ := Z 4 (by decide) (by decide)
  obtain ⟨Au, u⟩ := A4
  obtain ⟨Al, A5⟩ := Z 5 (by decide) (by decide)
  obtain ⟨Av, z⟩ := A5
  obtain ⟨Am, A6⟩ := Z 6 (by decide) (by decide)
  obtain ⟨Aw, AA⟩ := A6
  obtain ⟨An, A7⟩ := Z 7 (by decide) (by decide)
  obtain ⟨Ax, AB⟩ := A7
  obtain ⟨Ao, A8⟩ := Z 8 (by decide) (by decide)
  obtain ⟨Ay, AC⟩ := A8
  obtain ⟨Ap, A9⟩ := Z 9 (by decide) (by decide)
  obtain ⟨Az, AD⟩ := A9
  obtain ⟨AK, AX⟩ := Z 10 (by decide) (by decide)
  obtain ⟨AQ, I⟩ := AX
  obtain ⟨AL, AY⟩ := Z 11 (by decide) (by decide)
  obtain ⟨AR, J⟩ := AY
  obtain ⟨AM, AZ⟩ := Z 12 (by decide) (by decide)
  obtain ⟨AS, K⟩ := AZ
  obtain ⟨AN, Aa⟩ := Z 13 (by decide) (by decide)
  obtain ⟨AT, L⟩ := Aa
  obtain ⟨AO, Ab⟩ := Z 14 (by decide) (by decide)
  obtain ⟨AU, M⟩ := Ab
  obtain ⟨AP, Ac⟩ := Z 15 (by decide) (by decide)
  obtain ⟨AV, N⟩ := Ac
  obtain ⟨AH, Ad⟩ := Z 16 (by decide) (by decide)
  obtain ⟨AJ, O⟩ := Ad
  obtain ⟨Q, Ae⟩ := Z 17 (by decide) (by decide)
  obtain ⟨o, P⟩ := Ae
  obtain ⟨R, Af⟩ := Z 18 (by decide) (by decide)
  obtain ⟨AE, f⟩ := Af
  obtain ⟨S, BC⟩ := Z 20 (by decide) (by decide)
  obtain ⟨b20_, AI, AG⟩ := BC
  have GO : Sep NoB w Jq [(b_6 true vt1_vs399 lr1_vs399 lb1_vs399 b.tabs), (c_0 true vm1_vs399 lk1_vs399 b.macs), (blk b20_ 30 [(Value.int .i64 0), (Value.int .i64 0)]), (b_6 true vt1_vs387 lr1_vs387 lb1_vs387 b.tabs), (c_0 true vm1_vs387 lk1_vs387 b.macs), (b_6 true vt1_ lr1_ lb1_ b.tabs), (c_0 true vm1_ lk1_ b.macs), (blk b19_ 30 [(Value.int .i64 ((b_7 b (kk : Int) (((((b.tabs.getD kk tab0).rows).getD 0 (0, 0)).1) - 1, (((b.tabs.getD kk tab0).rows).getD 0 (0, 0)).1)).1)), (Value.int .i64 ((b_7 b (kk : Int) (((((b.tabs.getD kk tab0).rows).getD 0 (0, 0)).1) - 1, (((b.tabs.getD kk tab0).rows).getD 0 (0, 0)).1)).2))]), (blk A 46 [(Value.int .i64 ((b.tabs.getD kk tab0).frm)), (Value.int .i64 ((b.tabs.getD kk tab0).dst)), (lr kk), (lb kk), (Value.int .i64 ((b.tabs.getD kk tab0).err))]), (row T 30 2 t.length (pairs t)), (row BD 98 2 l.length (pairs l)), (b_6 true vt26 lr28 lb29 b.tabs), (c_0 true vm27 lk30 b.macs), (blk H 25 [(Value.int .i64 b.scales), vt, vm]), (b_6 false vt lr lb b.tabs), (c_0 false vm lk b.macs), (sl xl 2 l.length (pairs l))] := by rw [show catR rsf447 0 21 = ([(b_6 true vt1_vs399 lr1_vs399 lb1_vs399 b.tabs), (c_0 true vm1_vs399 lk1_vs399 b.macs), (blk b20_ 30 [(Value.int .i64 0), (Value.int .i64 0)])] : List Res) by (try simp only [catR, p, q, r, s, u, z, AA, AB, AC, AD, I, J, K, L, M, N, O, P, f, AG, hrq]); (try rfl)] at EO; exact EO
  rw [o] at Q
  have Fi : Fr 197 [] [(168, (Value.tuple #[(Value.agg #[(Value.int .i64 ((b_7 b (kk : Int) ((((b.tabs.getD kk tab0).rows).getD ii (0, 0)).1, (((b.tabs.getD kk tab0).rows).getD ii (0, 0)).1)).1)), (Value.int .i64 ((b_7 b (kk : Int) ((((b.tabs.getD kk tab0).rows).getD ii (0, 0)).1, (((b.tabs.getD kk tab0).rows).getD ii (0, 0)).1)).2))]), (Value.int .i64 (e_0 b (kk : Int) ((((b.tabs.getD kk tab0).rows).getD ii (0, 0)).1, (((b.tabs.getD kk tab0).rows).getD ii (0, 0)).1)))])), (18, (Value.int .i64 (e_0 b (kk : Int) ((((b.tabs.getD kk tab0).rows).getD ii (0, 0)).1, ((((b.tabs.getD kk tab0).rows).getD ii (0, 0)).1) + 1)))), (19, (Value.int .i64 (ii : Int))), (16, (bptr A 0)), (15, (Value.int .i64 (kk : Int))), (4, (bptr H 0))] CL := Fh.add (d_4 Q rfl); clear Fh
  rw [AE] at R
  have Fj : Fr 197 [] [(186, (Value.agg #[(Value.int .i64 ((b_7 b (kk : Int) ((((b.tabs.getD kk tab0).rows).getD ii (0, 0)).1, (((b.tabs.getD kk tab0).rows).getD ii (0, 0)).1)).1)), (Value.int .i64 ((b_7 b (kk : Int) ((((b.tabs.getD kk tab0).rows).getD ii (0, 0)).1, (((b.tabs.getD kk tab0).rows).getD ii (0, 0)).1)).2))])), (168, (Value.tuple #[(Value.agg #[(Value.int .i64 ((b_7 b (kk : Int) ((((b.tabs.getD kk tab0).rows).getD ii (0, 0)).1, (((b.tabs.getD kk tab0).rows).getD ii (0, 0)).1)).1)), (Value.int .i64 ((b_7 b (kk : Int) ((((b.tabs.getD kk tab0).rows).getD ii (0, 0)).1, (((b.tabs.getD kk tab0).rows).getD ii (0, 0)).1)).2))]), (Value.int .i64 (e_0 b (kk : Int) ((((b.tabs.getD kk tab0).rows).getD ii (0, 0)).1, (((b.tabs.getD kk tab0).rows).getD ii (0, 0)).1)))])), (18, (Value.int .i64 (e_0 b (kk : Int) ((((b.tabs.getD kk tab0).rows).getD ii (0, 0)).1, ((((b.tabs.getD kk tab0).rows).getD ii (0, 0)).1) + 1)))), (19, (Value.int .i64 (ii : Int))), (16, (bptr A 0)), (15, (Value.int .i64 (kk : Int))), (4, (bptr H 0))] CL := Fi.add (d_4 R rfl); clear Fi
  rw [AI] at S
  have Bw : Fr 197 [] [(20, (bptr b20_ 0)), (186, (Value.agg #[(Value.int .i64 ((b_7 b (kk : Int) ((((b.tabs.getD kk tab0).rows).getD ii (0, 0)).1, (((b.tabs.getD kk tab0).rows).getD ii (0, 0)).1)).1)), (Value.int .i64 ((b_7 b (kk : Int) ((((b.tabs.getD kk tab0).rows).getD ii (0, 0)).1, (((b.tabs.getD kk tab0).rows).getD ii (0, 0)).1)).2))])), (168, (Value.tuple #[(Value.agg #[(Value.int .i64 ((b_7 b (kk : Int) ((((b.tabs.getD kk tab0).rows).getD ii (0, 0)).1, (((b.tabs.getD kk tab0).rows).getD ii (0, 0)).1)).1)), (Value.int .i64 ((b_7 b (kk : Int) ((((b.tabs.getD kk tab0).rows).getD ii (0, 0)).1, (((b.tabs.getD kk tab0).rows).getD ii (0, 0)).1)).2))]), (Value.int .i64 (e_0 b (kk : Int) ((((b.tabs.getD kk tab0).rows).getD ii (0, 0)).1, (((b.tabs.getD kk tab0).rows).getD ii (0, 0)).1)))])), (18, (Value.int .i64 (e_0 b (kk : Int) ((((b.tabs.getD kk tab0).rows).getD ii (0, 0)).1, ((((b.tabs.getD kk tab0).rows).getD ii (0, 0)).1) + 1)))), (19, (Value.int .i64 (ii : Int))), (16, (bptr A 0)), (15, (Value.int .i64 (kk : Int))), (4, (bptr H 0))] CL := Fj.add (d_4 S rfl); clear Fj
  clear Z EO Ag Ah Ai Aj Ak Al Am An Ao Ap AK AL AM AN AO AP AH Q R S hrq
  clear p
  clear Aq
  clear q
  clear Ar
  clear r
  clear As
  clear s
  clear At
  clear u
  clear Au
  clear z
  clear Av
  clear AA
  clear Aw
  clear AB
  clear Ax
  clear AC
  clear Ay
  clear AD
  clear Az
  clear I
  clear AQ
  clear J
  clear AR
  clear K
  clear AS
  clear L
  clear AT
  clear M
  clear AU
  clear N
  clear AV
  clear O
  clear AJ
  clear P
  clear o
  clear f
  clear AE
  clear AG
  clear AI
  refine s7 Bw (c_1 GO rfl f_5 (Bw.ev rfl) (Bw.ev rfl) (i := 2) rfl (vs := [(Value.int .i64 ((b_7 b (kk : Int) ((((b.tabs.getD kk tab0).rows).getD ii (0, 0)).1, (((b.tabs.getD kk tab0).rows).getD ii (0, 0)).1)).1)), (Value.int .i64 ((b_7 b (kk : Int) ((((b.tabs.getD kk tab0).rows).getD ii (0, 0)).1, (((b.tabs.getD kk tab0).rows).getD ii (0, 0)).1)).2))]) rfl rfl rfl (Nat.le_of_ble_eq_true rfl)) ?_
  intro _ Jr GP De; clear Bw
  have GQ : Sep NoB w Jr [(b_6 true vt1_vs399 lr1_vs399 lb1_vs399 b.tabs), (c_0 true vm1_vs399 lk1_vs399 b.macs), (blk b20_ 30 [(Value.int .i64 ((b_7 b (kk : Int) ((((b.tabs.getD kk tab0).rows).getD ii (0, 0)).1, (((b.tabs.getD kk tab0).rows).getD ii (0, 0)).1)).1)), (Value.int .i64 ((b_7 b (kk : Int) ((((b.tabs.getD kk tab0).rows).getD ii (0, 0)).1, (((b.tabs.getD kk tab0).rows).getD ii (0, 0)).1)).2))]), (b_6 true vt1_vs387 lr1_vs387 lb1_vs387 b.tabs), (c_0 true vm1_vs387 lk1_vs387 b.macs), (b_6 true vt1_ lr1_ lb1_ b.tabs), (c_0 true vm1_ lk1_ b.macs), (blk b19_ 30 [(Value.int .i64 ((b_7 b (kk : Int) (((((b.tabs.getD kk tab0).rows).getD 0 (0, 0)).1) - 1, (((b.tabs.getD kk tab0).rows).getD 0 (0, 0)).1)).1)), (Value.int .i64 ((b_7 b (kk : Int) (((((b.tabs.getD kk tab0).rows).getD 0 (0, 0)).1) - 1, (((b.tabs.getD kk tab0).rows).getD 0 (0, 0)).1)).2))]), (blk A 46 [(Value.int .i64 ((b.tabs.getD kk tab0).frm)), (Value.int .i64 ((b.tabs.getD kk tab0).dst)), (lr kk), (lb kk), (Value.int .i64 ((b.tabs.getD kk tab0).err))]), (row T 30 2 t.length (pairs t)), (row BD 98 2 l.length (pairs l)), (b_6 true vt26 lr28 lb29 b.tabs), (c_0 true vm27 lk30 b.macs), (blk H 25 [(Value.int .i64 b.scales), vt, vm]), (b_6 false vt lr lb b.tabs), (c_0 false vm lk b.macs), (sl xl 2 l.length (pairs l))] := GP; clear GP GO
  refine s1 De (c_6 rfl (De.ev rfl) rfl) fun I1 Df => ?_; clear De CL
  refine s1 Df (a_0 rfl (Df.ev rfl)) fun I2 Fk => ?_; clear Df I1
  refine n2 ?_
  have Dg := Fk.as [(21, (Value.int .i64 (e_0 b (kk : Int) ((((b.tabs.getD kk tab0).rows).getD ii (0, 0)).1, (((b.tabs.getD kk tab0).rows).getD ii (0, 0)).1)))), (18, (Value.int .i64 (e_0 b (kk : Int) ((((b.tabs.getD kk tab0).rows).getD ii (0, 0)).1, ((((b.tabs.getD kk tab0).rows).getD ii (0, 0)).1) + 1))))] rfl; clear Fk
  refine a_5 ?_
  refine s1 Dg (a_1 rfl (Dg.ev rfl)) fun I3 Dh => ?_; clear Dg I2
  refine s1 Dh (i_8 rfl (Dh.ev rfl) (evc _ _)) fun I4 Bx => ?_; clear Dh I3
  have HI : (e_0 b (kk : Int) ((((b.tabs.getD kk tab0).rows).getD ii (0, 0)).1, ((((b.tabs.getD kk tab0).rows).getD ii (0, 0)).1) + 1)) = 10 := (by first | exact m_4 hc hb_kk | exact m_3 hc hb_kk hi_ii hm_ii)
  rw [decide_eq_true HI] at Bx
  refine s1 Bx (a_1 rfl (Bx.ev rfl)) fun I5 Di => ?_; clear Bx I4
  refine s5 Di (a_1 rfl (Di.ev rfl)) fun I6 Dj => ?_; clear Di I5
  refine s5 Dj (i_8 rfl (Dj.ev rfl) (evc _ _)) fun I7 BX => ?_; clear Dj I6
  have HJ : (e_0 b (kk : Int) ((((b.tabs.getD kk tab0).rows).getD ii (0, 0)).1, (((b.tabs.getD kk tab0).rows).getD ii (0, 0)).1)) = 0 := (t_6 hc hb_kk hi_ii)
  rw [decide_eq_true HJ] at BX
  refine s1 BX (b_4 rfl (BX.ev rfl) (BX.ev rfl)) fun I8 Dk => ?_; clear BX I7
  refine s1 Dk (a_1 rfl (Dk.ev rfl)) fun I9 Fl => ?_; clear Dk I8
  refine s6 Fl (b_0 rfl y_8 ev0 (l_5 _)) ?_
  rintro JA _ Ky ⟨rfl, GE⟩ By; have HB := GQ.step GE; clear GE Fl GQ I9
  refine s1 By (b_4 rfl (By.ev rfl) (By.ev rfl)) fun JB Dl => ?_; clear By JA
  refine s1 Dl (a_0 rfl (Dl.ev rfl)) fun Kf Fm => ?_; clear Dl JB
  refine n1 ?_
  refine c_4 ?_
  refine a_8 Fm (.inl rfl) (a_2 Fm rfl (.tmp rfl)) ?_
  exact ⟨rfl, HB.ext⟩
 skip
 intro CM Js F rsf491 Fn e hrq EP; clear DI EJ
 obtain ⟨Ag, A0⟩ := e 0 (by decide) (by decide)
 obtain ⟨Aq, p⟩ := A0
 obtain ⟨Ah, A1⟩ := e 1 (by decide) (by decide)
 obtain ⟨vt1_, vm1_, lr1_, lb1_, lk1_, Ar, q⟩ := A1
 obtain ⟨Ai, A2⟩ := e 2 (by decide) (by decide)
 obtain ⟨As, r⟩ := A2
 obtain ⟨Aj, A3⟩ := e 3 (by decide) (by decide)
 obtain ⟨At, s⟩ := A3
 obtain ⟨Ak, A4⟩ := e 4 (by decide) (by decide)
 obtain ⟨Au, u⟩ := A4
 obtain ⟨Al, A5⟩ := e 5 (by decide) (by decide)
 obtain ⟨Av, z⟩ := A5
 obtain ⟨Am, A6⟩ := e 6 (by decide) (by decide)
 obtain ⟨Aw, AA⟩ := A6
 obtain ⟨An, A7⟩ := e 7 (by decide) (by decide)
 obtain ⟨Ax, AB⟩ := A7
 obtain ⟨Ao, A8⟩ := e 8 (by decide) (by decide)
 obtain ⟨Ay, AC⟩ := A8
 obtain ⟨Ap, A9⟩ := e 9 (by decide) (by decide)
 obtain ⟨Az, AD⟩ := A9
 obtain ⟨AK, AX⟩ := e 10 (by decide) (by decide)
 obtain ⟨AQ, I⟩ := AX
 obtain ⟨AL, AY⟩ := e 11 (by decide) (by decide)
 obtain ⟨AR, J⟩ := AY
 obtain ⟨AM, AZ⟩ := e 12 (by decide) (by decide)
 obtain ⟨AS, K⟩ := AZ
 obtain ⟨AN, Aa⟩ := e 13 (by decide) (by decide)
 obtain ⟨AT, L⟩ := Aa
 obtain ⟨AO, Ab⟩ := e 14 (by decide) (by decide)
 obtain ⟨AU, M⟩ := Ab
 obtain ⟨AP, Ac⟩ := e 15 (by decide) (by decide)
 obtain ⟨AV, N⟩ := Ac
 obtain ⟨AH, Ad⟩ := e 16 (by decide) (by decide)
 obtain ⟨AJ, O⟩ := Ad
 obtain ⟨Q, Ae⟩ := e 17 (by decide) (by decide)
 obtain ⟨o, P⟩ := Ae
 obtain ⟨g, BB⟩ := e 19 (by decide) (by decide)
 obtain ⟨b19_, AW, AF⟩ := BB
 have GR : Sep NoB w Js [(b_6 true vt1_ lr1_ lb1_ b.tabs), (c_0 true vm1_ lk1_ b.macs), (blk b19_ 30 [(Value.int .i64 0), (Value.int .i64 0)]), (blk A 46 [(Value.int .i64 ((b.tabs.getD kk tab0).frm)), (Value.int .i64 ((b.tabs.getD kk tab0).dst)), (lr kk), (lb kk), (Value.int .i64 ((b.tabs.getD kk tab0).err))]), (row T 30 2 t.length (pairs t)), (row BD 98 2 l.length (pairs l)), (b_6 true vt26 lr28 lb29 b.tabs), (c_0 true vm27 lk30 b.macs), (blk H 25 [(Value.int .i64 b.scales), vt, vm]), (b_6 false vt lr lb b.tabs), (c_0 false vm lk b.macs), (sl xl 2 l.length (pairs l))] := by rw [show catR rsf491 0 20 = ([(b_6 true vt1_ lr1_ lb1_ b.tabs), (c_0 true vm1_ lk1_ b.macs), (blk b19_ 30 [(Value.int .i64 0), (Value.int .i64 0)])] : List Res) by (try simp only [catR, p, q, r, s, u, z, AA, AB, AC, AD, I, J, K, L, M, N, O, P, AF, hrq]); (try rfl)] at EP; exact EP
 rw [AJ] at AH
 have Fo : Fr 197 [] [(111, (Value.tuple #[(Value.agg #[(Value.int .i64 ((b_7 b (kk : Int) (((((b.tabs.getD kk tab0).rows).getD 0 (0, 0)).1) - 1, (((b.tabs.getD kk tab0).rows).getD 0 (0, 0)).1)).1)), (Value.int .i64 ((b_7 b (kk : Int) (((((b.tabs.getD kk tab0).rows).getD 0 (0, 0)).1) - 1, (((b.tabs.getD kk tab0).rows).getD 0 (0, 0)).1)).2))]), (Value.int .i64 (e_0 b (kk : Int) (((((b.tabs.getD kk tab0).rows).getD 0 (0, 0)).1) - 1, (((b.tabs.getD kk tab0).rows).getD 0 (0, 0)).1)))])), (16, (bptr A 0)), (15, (Value.int .i64 (kk : Int))), (4, (bptr H 0)), (3, (Value.int .u8 wb))] CM := Fn.add (d_4 AH rfl); clear Fn
 rw [o] at Q
 have Fp : Fr 197 [] [(128, (Value.agg #[(Value.int .i64 ((b_7 b (kk : Int) (((((b.tabs.getD kk tab0).rows).getD 0 (0, 0)).1) - 1, (((b.tabs.getD kk tab0).rows).getD 0 (0, 0)).1)).1)), (Value.int .i64 ((b_7 b (kk : Int) (((((b.tabs.getD kk tab0).rows).getD 0 (0, 0)).1) - 1, (((b.tabs.getD kk tab0).rows).getD 0 (0, 0)).1)).2))])), (111, (Value.tuple #[(Value.agg #[(Value.int .i64 ((b_7 b (kk : Int) (((((b.tabs.getD kk tab0).rows).getD 0 (0, 0)).1) - 1, (((b.tabs.getD kk tab0).rows).getD 0 (0, 0)).1)).1)), (Value.int .i64 ((b_7 b (kk : Int) (((((b.tabs.getD kk tab0).rows).getD 0 (0, 0)).1) - 1, (((b.tabs.getD kk tab0).rows).getD 0 (0, 0)).1)).2))]), (Value.int .i64 (e_0 b (kk : Int) (((((b.tabs.getD kk tab0).rows).getD 0 (0, 0)).1) - 1, (((b.tabs.getD kk tab0).rows).getD 0 (0, 0)).1)))])), (16, (bptr A 0)), (15, (Value.int .i64 (kk : Int))), (4, (bptr H 0)), (3, (Value.int .u8 wb))] CM := Fo.add (d_4 Q rfl); clear Fo
 rw [AW] at g
 have Bz : Fr 197 [] [(17, (bptr b19_ 0)), (128, (Value.agg #[(Value.int .i64 ((b_7 b (kk : Int) (((((b.tabs.getD kk tab0).rows).getD 0 (0, 0)).1) - 1, (((b.tabs.getD kk tab0).rows).getD 0 (0, 0)).1)).1)), (Value.int .i64 ((b_7 b (kk : Int) (((((b.tabs.getD kk tab0).rows).getD 0 (0, 0)).1) - 1, (((b.tabs.getD kk tab0).rows).getD 0 (0, 0)).1)).2))])), (111, (Value.tuple #[(Value.agg #[(Value.int .i64 ((b_7 b (kk : Int) (((((b.tabs.getD kk tab0).rows).getD 0 (0, 0)).1) - 1, (((b.tabs.getD kk tab0).rows).getD 0 (0, 0)).1)).1)), (Value.int .i64 ((b_7 b (kk : Int) (((((b.tabs.getD kk tab0).rows).getD 0 (0, 0)).1) - 1, (((b.tabs.getD kk tab0).rows).getD 0 (0, 0)).1)).2))]), (Value.int .i64 (e_0 b (kk : Int) (((((b.tabs.getD kk tab0).rows).getD 0 (0, 0)).1) - 1, (((b.tabs.getD kk tab0).rows).getD 0 (0, 0)).1)))])), (16, (bptr A 0)), (15, (Value.int .i64 (kk : Int))), (4, (bptr H 0)), (3, (Value.int .u8 wb))] CM := Fp.add (d_4 g rfl); clear Fp
 clear e EP Ag Ah Ai Aj Ak Al Am An Ao Ap AK AL AM AN AO AP AH Q g hrq
 clear p
 clear Aq
 clear q
 clear Ar
 clear r
 clear As
 clear s
 clear At
 clear u
 clear Au
 clear z
 clear Av
 clear AA
 clear Aw
 clear AB
 clear Ax
 clear AC
 clear Ay
 clear AD
 clear Az
 clear I
 clear AQ
 clear J
 clear AR
 clear K
 clear AS
 clear L
 clear AT
 clear M
 clear AU
 clear N
 clear AV
 clear O
 clear AJ
 clear P
 clear o
 clear AF
 clear AW
 refine s7 Bz (c_1 GR rfl f_5 (Bz.ev rfl) (Bz.ev rfl) (i := 2) rfl (vs := [(Value.int .i64 ((b_7 b (kk : Int) (((((b.tabs.getD kk tab0).rows).getD 0 (0, 0)).1) - 1, (((b.tabs.getD kk tab0).rows).getD 0 (0, 0)).1)).1)), (Value.int .i64 ((b_7 b (kk : Int) (((((b.tabs.getD kk tab0).rows).getD 0 (0, 0)).1) - 1, (((b.tabs.getD kk tab0).rows).getD 0 (0, 0)).1)).2))]) rfl rfl rfl (Nat.le_of_ble_eq_true rfl)) ?_
 intro _ Jt GS Dm; clear Bz
 have BS : Sep NoB w Jt [(b_6 true vt1_ lr1_ lb1_ b.tabs), (c_0 true vm1_ lk1_ b.macs), (blk b19_ 30 [(Value.int .i64 ((b_7 b (kk : Int) (((((b.tabs.getD kk tab0).rows).getD 0 (0, 0)).1) - 1, (((b.tabs.getD kk tab0).rows).getD 0 (0, 0)).1)).1)), (Value.int .i64 ((b_7 b (kk : Int) (((((b.tabs.getD kk tab0).rows).getD 0 (0, 0)).1) - 1, (((b.tabs.getD kk tab0).rows).getD 0 (0, 0)).1)).2))]), (blk A 46 [(Value.int .i64 ((b.tabs.getD kk tab0).frm)), (Value.int .i64 ((b.tabs.getD kk tab0).dst)), (lr kk), (lb kk), (Value.int .i64 ((b.tabs.getD kk tab0).err))]), (row T 30 2 t.length (pairs t)), (row BD 98 2 l.length (pairs l)), (b_6 true vt26 lr28 lb29 b.tabs), (c_0 true vm27 lk30 b.macs), (blk H 25 [(Value.int .i64 b.scales), vt, vm]), (b_6 false vt lr lb b.tabs), (c_0 false vm lk b.macs), (sl xl 2 l.length (pairs l))] := GS; clear GS GR
 refine s1 Dm (c_6 rfl (Dm.ev rfl) rfl) fun JC Dn => ?_; clear Dm CM
 refine s1 Dn (a_0 rfl (Dn.ev rfl)) fun JD Do => ?_; clear Dn JC
 refine n2 ?_
 refine m2 ?_
 refine s1 Do (a_1 rfl (Do.ev rfl)) fun JE Dp => ?_; clear Do JD
 refine s1 Dp (s_8 rfl (Dp.ev rfl) (evc _ _)) fun JF B0 => ?_; clear Dp JE
 have HK : (e_0 b (kk : Int) (((((b.tabs.getD kk tab0).rows).getD 0 (0, 0)).1) - 1, (((b.tabs.getD kk tab0).rows).getD 0 (0, 0)).1)) = 10 := (by first | exact m_4 hc hb_kk | exact m_3 hc hb_kk hi_ii hm_ii)
 rw [decide_eq_true HK] at B0
 refine n1 ?_
 refine b_8 B0 rfl ?_
 refine d_2 ?_
 refine b_2 ?_
 refine b_9 ?_
 refine b_9 ?_
 have Dq := B0.as [(16, (bptr A 0)), (15, (Value.int .i64 (kk : Int))), (4, (bptr H 0)), (3, (Value.int .u8 wb))] rfl; clear B0
 refine a_5 ?_
 refine s1 Dq (a_4 rfl l_0 (Dq.ev rfl)) fun JG Dr => ?_; clear Dq JF
 refine s1 Dr (a_3 rfl s_0 (Dr.ev rfl) (BS.bk 3 rfl) rfl) fun JH Ds => ?_; clear Dr JG
 refine s1 Ds (d_5 rfl m_2 (Ds.ev rfl) ((a_6 (BS.ok 9 _ rfl)).brk (i := kk) (by omega))) fun JI Dt => ?_; clear Ds JH
 refine s1 Dt (i_8 rfl (Dt.ev rfl) (evc _ _)) fun JJ BK => ?_; clear Dt JI
 refine n1 ?_
 by_cases Gc : ((b.tabs.getD kk tab0).brk.length : Int) = 0
 ·skip
  rw [decide_eq_true Gc] at BK
  refine c_7 BK rfl ?_
  refine b_9 ?_
  have Fq := BK.as [] rfl; clear BK
  refine a_5 ?_
  refine s2 Fq (b_0 rfl y_8 ev0 (l_5 _)) ?_
  rintro JK _ Kz ⟨rfl, GF⟩ Du; have HC := BS.step GF; clear GF Fq BS JJ
  refine s1 Du (a_0 rfl (Du.ev rfl)) fun Kg Fs => ?_; clear Du JK
  refine n1 ?_
  refine c_4 ?_
  refine a_7 ?_
  refine a_8 Fs (.inl rfl) (a_2 Fs rfl (.tmp rfl)) ?_
  exact ⟨rfl, HC.ext⟩
 skip
 rw [decide_eq_false Gc] at BK
 refine b_8 BK rfl ?_
 refine d_2 ?_
 refine b_2 ?_
 refine b_9 ?_
 have hrm := rem_bd (y := wb) (d := ((b.tabs.getD kk tab0).brk.length : Int)) hB_.1 (by omega)
 have Ft := BK.as [(16, (bptr A 0)), (15, (Value.int .i64 (kk : Int))), (4, (bptr H 0)), (3, (Value.int .u8 wb))] rfl; clear BK
 refine g_6 mixed Ft BS 8 [[], [0], [], [2], [], [4], [5], [3, 6]] [(Yd.val (bptr A 3)), (Yd.val (lb kk)), (Yd.val (Value.int .u8 wb)), (Yd.val (Value.int .i64 wb)), (Yd.val (bptr A 3)), (Yd.val (lb kk)), (Yd.val (Value.int .i64 ((b.tabs.getD kk tab0).brk.length : Int))), (Yd.val (Value.int .i64 ((wb).tmod ((b.tabs.getD kk tab0).brk.length : Int))))] (by decide +kernel) rfl rfl ?_ ?_
 ·skip
  refine dq (fun a w hA hS hd => a_4 rfl l_0 (hA.ev rfl)) ?_
  refine dq (fun a w hA hS hd => a_3 rfl s_0 (hq hd 0) (hS.bk 3 rfl) rfl) ?_
  refine dq (fun a w hA hS hd => a_1 rfl (hA.ev rfl)) ?_
  refine dq (fun a w hA hS hd => op_conv un_5 un_3 rfl (hq hd 2) (v := wb) (wrap_i64 (by omega) (by omega))) ?_
  refine dq (fun a w hA hS hd => a_4 rfl l_0 (hA.ev rfl)) ?_
  refine dq (fun a w hA hS hd => a_3 rfl s_0 (hq hd 4) (hS.bk 3 rfl) rfl) ?_
  refine dq (fun a w hA hS hd => d_5 rfl m_2 (hq hd 5) ((a_6 (hS.ok 9 _ rfl)).brk (i := kk) (by omega))) ?_
  refine dq (fun a w hA hS hd => op_rem rfl (hq hd 3) (hq hd 6) (by omega)) ?_
  trivial
 intro JL K0 Fu CE EI; clear Ft BS
 have Fv := Fu.add (hz EI 1); clear Fu
 have B1 := Fv.add (hz EI 7); clear Fv
 clear EI
 refine s1 B1 (b_3 rfl m_2 ty_3 (B1.ev rfl) (i := ((wb).tmod ((b.tabs.getD kk tab0).brk.length : Int)).toNat) ((B1.ev rfl).trans (j_1 (by omega))) ((a_6 (CE.ok 9 _ rfl)).brk (i := kk) (by omega)) (by decide) (by omega)) fun JM Dv => ?_; clear B1 JL
 refine s1 Dv (c_2 rfl ty_3 (Dv.ev rfl) ((a_6 (CE.ok 9 _ rfl)).brk (i := kk) (by omega)) (ints_at (by omega))) fun JN Dw => ?_; clear Dv JM
 refine s1 Dw (a_0 rfl (Dw.ev rfl)) fun Kh Dx => ?_; clear Dw JN
 refine n2 ?_
 obtain ⟨ii, hz_ii, hi_ii, hm_ii⟩ := brk_nat htv (j := (((wb).tmod ((b.tabs.getD kk tab0).brk.length : Int)).toNat)) (by omega); rw [hz_ii] at Dx; have hbni := htv.bnd ii (by omega); have hbnj := htv.bnd (ii + 1) (by omega); have hxi := htv.rows.x ii hi_ii; unfold tx ty at hbni hbnj; unfold tx at hxi
 have Fw := Dx.as [(19, (Value.int .i64 (ii : Int))), (16, (bptr A 0)), (15, (Value.int .i64 (kk : Int))), (4, (bptr H 0))] rfl; clear Dx
 refine s_5 mixed Fw CE 21 [[], [0], [], [], [3], [], [4, 5], [6], [7], [], [9], [], [10, 11], [12], [13], [14], [8, 15], [1, 2, 16], [17], [18], [18]] [(fun (E : Nat → Value) (v_ : Value) (rs_ : List Res) => v_ = (Value.agg #[(Value.int .i64 b.scales), vt, vm]) ∧ rs_ = []), (fun (E : Nat → Value) (v_ : Value) (rs_ : List Res) => ∃ (vt1_vs543 : Value), ∃ (vm1_vs543 : Value), ∃ (lr1_vs543 : Nat → Value), ∃ (lb1_vs543 : Nat → Value), ∃ (lk1_vs543 : Nat → Value), v_ = (Value.agg #[(Value.int .i64 b.scales), vt1_vs543, vm1_vs543]) ∧ rs_ = [(b_6 true vt1_vs543 lr1_vs543 lb1_vs543 b.tabs), (c_0 true vm1_vs543 lk1_vs543 b.macs)]), (fun (E : Nat → Value) (v_ : Value) (rs_ : List Res) => v_ = (Value.int .i64 (kk : Int)) ∧ rs_ = []), (fun (E : Nat → Value) (v_ : Value) (rs_ : List Res) => v_ = (bptr A 2) ∧ rs_ = []), (fun (E : Nat → Value) (v_ : Value) (rs_ : List Res) => v_ = (lr kk) ∧ rs_ = []), (fun (E : Nat → Value) (v_ : Value) (rs_ : List Res) => v_ = (Value.int .i64 (ii : Int)) ∧ rs_ = []), (fun (E : Nat → Value) (v_ : Value) (rs_ : List Res) => v_ = (eptr (lr kk) (ii * 2)) ∧ rs_ = []), (fun (E : Nat → Value) (v_ : Value) (rs_ : List Res) => v_ = (eptr (lr kk) (ii * 2 + 0)) ∧ rs_ = []), (fun (E : Nat → Value) (v_ : Value) (rs_ : List Res) => v_ = (Value.int .i64 ((((b.tabs.getD kk tab0).rows).getD ii (0, 0)).1)) ∧ rs_ = []), (fun (E : Nat → Value) (v_ : Value) (rs_ : List Res) => v_ = (bptr A 2) ∧ rs_ = []), (fun (E : Nat → Value) (v_ : Value) (rs_ : List Res) => v_ = (lr kk) ∧ rs_ = []), (fun (E : Nat → Value) (v_ : Value) (rs_ : List Res) => v_ = (Value.int .i64 (ii : Int)) ∧ rs_ = []), (fun (E : Nat → Value) (v_ : Value) (rs_ : List Res) => v_ = (eptr (lr kk) (ii * 2)) ∧ rs_ = []), (fun (E : Nat → Value) (v_ : Value) (rs_ : List Res) => v_ = (eptr (lr kk) (ii * 2 + 0)) ∧ rs_ = []), (fun (E : Nat → Value) (v_ : Value) (rs_ : List Res) => v_ = (Value.int .i64 ((((b.tabs.getD kk tab0).rows).getD ii (0, 0)).1)) ∧ rs_ = []), (fun (E : Nat → Value) (v_ : Value) (rs_ : List Res) => v_ = (Value.int .i64 (((((b.tabs.getD kk tab0).rows).getD ii (0, 0)).1) + 1)) ∧ rs_ = []), (fun (E : Nat → Value) (v_ : Value) (rs_ : List Res) => v_ = (Value.agg #[(Value.int .i64 ((((b.tabs.getD kk tab0).rows).getD ii (0, 0)).1)), (Value.int .i64 (((((b.tabs.getD kk tab0).rows).getD ii (0, 0)).1) + 1))]) ∧ rs_ = []), (fun (E : Nat → Value) (v_ : Value) (rs_ : List Res) => v_ = (Value.tuple #[(Value.agg #[(Value.int .i64 ((b_7 b (kk : Int) ((((b.tabs.getD kk tab0).rows).getD ii (0, 0)).1, ((((b.tabs.getD kk tab0).rows).getD ii (0, 0)).1) + 1)).1)), (Value.int .i64 ((b_7 b (kk : Int) ((((b.tabs.getD kk tab0).rows).getD ii (0, 0)).1, ((((b.tabs.getD kk tab0).rows).getD ii (0, 0)).1) + 1)).2))]), (Value.int .i64 (e_0 b (kk : Int) ((((b.tabs.getD kk tab0).rows).getD ii (0, 0)).1, ((((b.tabs.getD kk tab0).rows).getD ii (0, 0)).1) + 1)))]) ∧ rs_ = []), (fun (E : Nat → Value) (v_ : Value) (rs_ : List Res) => v_ = (Value.tuple #[(Value.agg #[(Value.int .i64 ((b_7 b (kk : Int) ((((b.tabs.getD kk tab0).rows).getD ii (0, 0)).1, ((((b.tabs.getD kk tab0).rows).getD ii (0, 0)).1) + 1)).1)), (Value.int .i64 ((b_7 b (kk : Int) ((((b.tabs.getD kk tab0).rows).getD ii (0, 0)).1, ((((b.tabs.getD kk tab0).rows).getD ii (0, 0)).1) + 1)).2))]), (Value.int .i64 (e_0 b (kk : Int) ((((b.tabs.getD kk tab0).rows).getD ii (0, 0)).1, ((((b.tabs.getD kk tab0).rows).getD ii (0, 0)).1) + 1)))]) ∧ rs_ = []), (fun (E : Nat → Value) (v_ : Value) (rs_ : List Res) => v_ = (Value.agg #[(Value.int .i64 ((b_7 b (kk : Int) ((((b.tabs.getD kk tab0).rows).getD ii (0, 0)).1, ((((b.tabs.getD kk tab0).rows).getD ii (0, 0)).1) + 1)).1)), (Value.int .i64 ((b_7 b (kk : Int) ((((b.tabs.getD kk tab0).rows).getD ii (0, 0)).1, ((((b.tabs.getD kk tab0).rows).getD ii (0, 0)).1) + 1)).2))]) ∧ rs_ = []), (fun (E : Nat → Value) (v_ : Value) (rs_ : List Res) => v_ = (Value.int .i64 (e_0 b (kk : Int) ((((b.tabs.getD kk tab0).rows).getD ii (0, 0)).1, ((((b.tabs.getD kk tab0).rows).getD ii (0, 0)).1) + 1))) ∧ rs_ = [])] (by decide +kernel) (by decide +kernel) rfl rfl ⟨(fun _ _ _ _ _ h_ => h_), (fun _ _ _ _ _ h_ => h_), (fun _ _ _ _ _ h_ => h_), (fun _ _ _ _ _ h_ => h_), (fun _ _ _ _ _ h_ => h_), (fun _ _ _ _ _ h_ => h_), (fun _ _ _ _ _ h_ => h_), (fun _ _ _ _ _ h_ => h_), (fun _ _ _ _ _ h_ => h_), (fun _ _ _ _ _ h_ => h_), (fun _ _ _ _ _ h_ => h_), (fun _ _ _ _ _ h_ => h_), (fun _ _ _ _ _ h_ => h_), (fun _ _ _ _ _ h_ => h_), (fun _ _ _ _ _ h_ => h_), (fun _ _ _ _ _ h_ => h_), (fun _ _ _ _ _ h_ => h_), (fun _ _ _ _ _ h_ => h_), (fun _ _ _ _ _ h_ => h_), (fun _ _ _ _ _ h_ => h_), (fun _ _ _ _ _ h_ => h_), trivial⟩ ?_ ?_
 ·skip
  refine ⟨fun a w E hA hS hd => gv1 (c_5 rfl x_0 (hA.ev rfl) (hS.bk 8 rfl) (l := [(Value.int .i64 b.scales), vt, vm]) rfl rfl), ?_⟩
  refine ⟨fun a w E hA hS hd => d_6 rfl (vn (b_0 rfl aa_2 (ev1 (gu hd 0)) (q_9 b vt vm lr lb lk _ (a_6 (hS.ok 9 _ rfl)) (c_3 (hS.ok 10 _ rfl)) hth)) (fun v w' h => by obtain ⟨vt, vm, lr, lb, lk, rfl, hT⟩ := h; exact ⟨_, ⟨vt, vm, lr, lb, lk, rfl, rfl⟩, hT, rfl⟩)), ?_⟩
  refine ⟨fun a w E hA hS hd => gv1 (a_1 rfl (hA.ev rfl)), ?_⟩
  refine ⟨fun a w E hA hS hd => gv1 (a_4 rfl f_4 (hA.ev rfl)), ?_⟩
  refine ⟨fun a w E hA hS hd => gv1 (a_3 rfl k_1 (gu hd 3) (hS.bk 3 rfl) rfl), ?_⟩
  refine ⟨fun a w E hA hS hd => gv1 (a_1 rfl (hA.ev rfl)), ?_⟩
  refine ⟨fun a w E hA hS hd => gv1 (b_3 rfl k_2 m_6 (gu hd 4) (i := ii) (gu hd 5) ((a_6 (hS.ok 9 _ rfl)).row (i := kk) (by omega)) (by decide) (by omega)), ?_⟩
  refine ⟨fun a w E hA hS hd => gv1 (c_8 rfl h_9 (gu hd 6) ((a_6 (hS.ok 9 _ rfl)).row (i := kk) (by omega)) (by rw [(((a_6 (hS.ok 9 _ rfl)).row (i := kk) (by omega))).1]; omega)), ?_⟩
  refine ⟨fun a w E hA hS hd => gv1 (c_2 rfl ty_3 (gu hd 7) ((a_6 (hS.ok 9 _ rfl)).row (i := kk) (by omega)) (e_5 (by omega))), ?_⟩
  refine ⟨fun a w E hA hS hd => gv1 (a_4 rfl f_4 (hA.ev rfl)), ?_⟩
  refine ⟨fun a w E hA hS hd => gv1 (a_3 rfl k_1 (gu hd 9) (hS.bk 3 rfl) rfl), ?_⟩
  refine ⟨fun a w E hA hS hd => gv1 (a_1 rfl (hA.ev rfl)), ?_⟩
  refine ⟨fun a w E hA hS hd => gv1 (b_3 rfl k_2 m_6 (gu hd 10) (i := ii) (gu hd 11) ((a_6 (hS.ok 9 _ rfl)).row (i := kk) (by omega)) (by decide) (by omega)), ?_⟩
  refine ⟨fun a w E hA hS hd => gv1 (c_8 rfl h_9 (gu hd 12) ((a_6 (hS.ok 9 _ rfl)).row (i := kk) (by omega)) (by rw [(((a_6 (hS.ok 9 _ rfl)).row (i := kk) (by omega))).1]; omega)), ?_⟩
  refine ⟨fun a w E hA hS hd => gv1 (c_2 rfl ty_3 (gu hd 13) ((a_6 (hS.ok 9 _ rfl)).row (i := kk) (by omega)) (e_5 (by omega))), ?_⟩
  refine ⟨fun a w E hA hS hd => gv1 (g_0 rfl (gu hd 14) (evc _ _) (by omega) (by omega)), ?_⟩
  refine ⟨fun a w E hA hS hd => gx1 (b_0 rfl v_2 (ev2 (gu hd 8) (gu hd 15)) (g_4 _ _ _)), ?_⟩
  refine ⟨fun a w E hA hS hd => ?_, ?_⟩
  ·skip
   obtain ⟨e1, Ge, Be, BL⟩ := hd 1 (by decide)
   obtain ⟨vt1_vs543, vm1_vs543, lr1_vs543, lb1_vs543, lk1_vs543, Bd, Bc⟩ := Be; subst Bc
   rw [Bd] at e1
   have hp1_0 := BL _ (List.mem_of_getElem? (i := 0) rfl)
   have hp1_1 := BL _ (List.mem_of_getElem? (i := 1) rfl)
   exact gx1 (b_0 rfl aa_7 (ev3 (c_9 (d_4 e1 rfl)) (gu hd 2) (gu hd 16)) (k_7 b vt1_vs543 vm1_vs543 lr1_vs543 lb1_vs543 lk1_vs543 _ (a_6 hp1_0) (c_3 hp1_1) hth (kk : Int) ((((b.tabs.getD kk tab0).rows).getD ii (0, 0)).1) (((((b.tabs.getD kk tab0).rows).getD ii (0, 0)).1) + 1)))
  refine ⟨fun a w E hA hS hd => gv1 (a_1 rfl (gu hd 17)), ?_⟩
  refine ⟨fun a w E hA hS hd => gv1 (c_6 rfl (gu hd 18) rfl), ?_⟩
  refine ⟨fun a w E hA hS hd => gv1 (c_6 rfl (gu hd 18) rfl), ?_⟩
  trivial
 intro Gh Ju E rsf549 Fx W EQ; clear Fw CE
 obtain ⟨Ag, A0⟩ := W 0 (by decide)
 obtain ⟨Aq, p⟩ := A0
 obtain ⟨Ah, A1⟩ := W 1 (by decide)
 obtain ⟨vt1_vs543, vm1_vs543, lr1_vs543, lb1_vs543, lk1_vs543, Ar, q⟩ := A1
 obtain ⟨Ai, A2⟩ := W 2 (by decide)
 obtain ⟨As, r⟩ := A2
 obtain ⟨Aj, A3⟩ := W 3 (by decide)
 obtain ⟨At, s⟩ := A3
 obtain ⟨Ak, A4⟩ := W 4 (by decide)
 obtain ⟨Au, u⟩ := A4
 obtain ⟨Al, A5⟩ := W 5 (by decide)
 obtain ⟨Av, z⟩ := A5
 obtain ⟨Am, A6⟩ := W 6 (by decide)
 obtain ⟨Aw, AA⟩ := A6
 obtain ⟨An, A7⟩ := W 7 (by decide)
 obtain ⟨Ax, AB⟩ := A7
 obtain ⟨Ao, A8⟩ := W 8 (by decide)
 obtain ⟨Ay, AC⟩ := A8
 obtain ⟨Ap, A9⟩ := W 9 (by decide)
 obtain ⟨Az, AD⟩ := A9
 obtain ⟨AK, AX⟩ := W 10 (by decide)
 obtain ⟨AQ, I⟩ := AX
 obtain ⟨AL, AY⟩ := W 11 (by decide)
 obtain ⟨AR, J⟩ := AY
 obtain ⟨AM, AZ⟩ := W 12 (by decide)
 obtain ⟨AS, K⟩ := AZ
 obtain ⟨AN, Aa⟩ := W 13 (by decide)
 obtain ⟨AT, L⟩ := Aa
 obtain ⟨AO, Ab⟩ := W 14 (by decide)
 obtain ⟨AU, M⟩ := Ab
 obtain ⟨AP, Ac⟩ := W 15 (by decide)
 obtain ⟨AV, N⟩ := Ac
 obtain ⟨AH, Ad⟩ := W 16 (by decide)
 obtain ⟨AJ, O⟩ := Ad
 obtain ⟨Q, Ae⟩ := W 17 (by decide)
 obtain ⟨o, P⟩ := Ae
 obtain ⟨R, Af⟩ := W 18 (by decide)
 obtain ⟨AE, f⟩ := Af
 obtain ⟨g, BB⟩ := W 19 (by decide)
 obtain ⟨AW, AF⟩ := BB
 obtain ⟨S, BC⟩ := W 20 (by decide)
 obtain ⟨AI, AG⟩ := BC
 have ER : Sep NoB w Ju [(b_6 true vt1_vs543 lr1_vs543 lb1_vs543 b.tabs), (c_0 true vm1_vs543 lk1_vs543 b.macs), (b_6 true vt1_ lr1_ lb1_ b.tabs), (c_0 true vm1_ lk1_ b.macs), (blk b19_ 30 [(Value.int .i64 ((b_7 b (kk : Int) (((((b.tabs.getD kk tab0).rows).getD 0 (0, 0)).1) - 1, (((b.tabs.getD kk tab0).rows).getD 0 (0, 0)).1)).1)), (Value.int .i64 ((b_7 b (kk : Int) (((((b.tabs.getD kk tab0).rows).getD 0 (0, 0)).1) - 1, (((b.tabs.getD kk tab0).rows).getD 0 (0, 0)).1)).2))]), (blk A 46 [(Value.int .i64 ((b.tabs.getD kk tab0).frm)), (Value.int .i64 ((b.tabs.getD kk tab0).dst)), (lr kk), (lb kk), (Value.int .i64 ((b.tabs.getD kk tab0).err))]), (row T 30 2 t.length (pairs t)), (row BD 98 2 l.length (pairs l)), (b_6 true vt26 lr28 lb29 b.tabs), (c_0 true vm27 lk30 b.macs), (blk H 25 [(Value.int .i64 b.scales), vt, vm]), (b_6 false vt lr lb b.tabs), (c_0 false vm lk b.macs), (sl xl 2 l.length (pairs l))] := by rw [show catR rsf549 0 21 = ([(b_6 true vt1_vs543 lr1_vs543 lb1_vs543 b.tabs), (c_0 true vm1_vs543 lk1_vs543 b.macs)] : List Res) by (try simp only [catR, p, q, r, s, u, z, AA, AB, AC, AD, I, J, K, L, M, N, O, P, f, AF, AG]); (try rfl)] at EQ; exact EQ
 rw [AI] at S
 have Dy : Fr 197 [] [(167, (Value.int .i64 (e_0 b (kk : Int) ((((b.tabs.getD kk tab0).rows).getD ii (0, 0)).1, ((((b.tabs.getD kk tab0).rows).getD ii (0, 0)).1) + 1)))), (19, (Value.int .i64 (ii : Int))), (16, (bptr A 0)), (15, (Value.int .i64 (kk : Int))), (4, (bptr H 0))] Gh := Fx.add (d_4 S rfl); clear Fx
 clear W EQ Ag Ah Ai Aj Ak Al Am An Ao Ap AK AL AM AN AO AP AH Q R g S
 clear p
 clear Aq
 clear q
 clear Ar
 clear r
 clear As
 clear s
 clear At
 clear u
 clear Au
 clear z
 clear Av
 clear AA
 clear Aw
 clear AB
 clear Ax
 clear AC
 clear Ay
 clear AD
 clear Az
 clear I
 clear AQ
 clear J
 clear AR
 clear K
 clear AS
 clear L
 clear AT
 clear M
 clear AU
 clear N
 clear AV
 clear O
 clear AJ
 clear P
 clear o
 clear f
 clear AE
 clear AF
 clear AW
 clear AG
 clear AI
 refine s1 Dy (a_0 rfl (Dy.ev rfl)) fun Ki Fy => ?_; clear Dy Gh
 refine n2 ?_
 have Dz := Fy.as [(18, (Value.int .i64 (e_0 b (kk : Int) ((((b.tabs.getD kk tab0).rows).getD ii (0, 0)).1, ((((b.tabs.getD kk tab0).rows).getD ii (0, 0)).1) + 1)))), (19, (Value.int .i64 (ii : Int))), (16, (bptr A 0)), (15, (Value.int .i64 (kk : Int))), (4, (bptr H 0))] rfl; clear Fy
 refine y_2 mixed Dz ER 21 19 rfl rfl [[], [0], [], [], [3], [], [4, 5], [6], [7], [], [9], [], [10, 11], [12], [13], [8, 14], [1, 2, 15], [16], [17], [17], []] [(fun (C : Nat → Value) (v_ : Value) (rs_ : List Res) => v_ = (Value.agg #[(Value.int .i64 b.scales), vt, vm]) ∧ rs_ = []), (fun (C : Nat → Value) (v_ : Value) (rs_ : List Res) => ∃ (vt1_vs555 : Value), ∃ (vm1_vs555 : Value), ∃ (lr1_vs555 : Nat → Value), ∃ (lb1_vs555 : Nat → Value), ∃ (lk1_vs555 : Nat → Value), v_ = (Value.agg #[(Value.int .i64 b.scales), vt1_vs555, vm1_vs555]) ∧ rs_ = [(b_6 true vt1_vs555 lr1_vs555 lb1_vs555 b.tabs), (c_0 true vm1_vs555 lk1_vs555 b.macs)]), (fun (C : Nat → Value) (v_ : Value) (rs_ : List Res) => v_ = (Value.int .i64 (kk : Int)) ∧ rs_ = []), (fun (C : Nat → Value) (v_ : Value) (rs_ : List Res) => v_ = (bptr A 2) ∧ rs_ = []), (fun (C : Nat → Value) (v_ : Value) (rs_ : List Res) => v_ = (lr kk) ∧ rs_ = []), (fun (C : Nat → Value) (v_ : Value) (rs_ : List Res) => v_ = (Value.int .i64 (ii : Int)) ∧ rs_ = []), (fun (C : Nat → Value) (v_ : Value) (rs_ : List Res) => v_ = (eptr (lr kk) (ii * 2)) ∧ rs_ = []), (fun (C : Nat → Value) (v_ : Value) (rs_ : List Res) => v_ = (eptr (lr kk) (ii * 2 + 0)) ∧ rs_ = []), (fun (C : Nat → Value) (v_ : Value) (rs_ : List Res) => v_ = (Value.int .i64 ((((b.tabs.getD kk tab0).rows).getD ii (0, 0)).1)) ∧ rs_ = []), (fun (C : Nat → Value) (v_ : Value) (rs_ : List Res) => v_ = (bptr A 2) ∧ rs_ = []), (fun (C : Nat → Value) (v_ : Value) (rs_ : List Res) => v_ = (lr kk) ∧ rs_ = []), (fun (C : Nat → Value) (v_ : Value) (rs_ : List Res) => v_ = (Value.int .i64 (ii : Int)) ∧ rs_ = []), (fun (C : Nat → Value) (v_ : Value) (rs_ : List Res) => v_ = (eptr (lr kk) (ii * 2)) ∧ rs_ = []), (fun (C : Nat → Value) (v_ : Value) (rs_ : List Res) => v_ = (eptr (lr kk) (ii * 2 + 0)) ∧ rs_ = []), (fun (C : Nat → Value) (v_ : Value) (rs_ : List Res) => v_ = (Value.int .i64 ((((b.tabs.getD kk tab0).rows).getD ii (0, 0)).1)) ∧ rs_ = []), (fun (C : Nat → Value) (v_ : Value) (rs_ : List Res) => v_ = (Value.agg #[(Value.int .i64 ((((b.tabs.getD kk tab0).rows).getD ii (0, 0)).1)), (Value.int .i64 ((((b.tabs.getD kk tab0).rows).getD ii (0, 0)).1))]) ∧ rs_ = []), (fun (C : Nat → Value) (v_ : Value) (rs_ : List Res) => v_ = (Value.tuple #[(Value.agg #[(Value.int .i64 ((b_7 b (kk : Int) ((((b.tabs.getD kk tab0).rows).getD ii (0, 0)).1, (((b.tabs.getD kk tab0).rows).getD ii (0, 0)).1)).1)), (Value.int .i64 ((b_7 b (kk : Int) ((((b.tabs.getD kk tab0).rows).getD ii (0, 0)).1, (((b.tabs.getD kk tab0).rows).getD ii (0, 0)).1)).2))]), (Value.int .i64 (e_0 b (kk : Int) ((((b.tabs.getD kk tab0).rows).getD ii (0, 0)).1, (((b.tabs.getD kk tab0).rows).getD ii (0, 0)).1)))]) ∧ rs_ = []), (fun (C : Nat → Value) (v_ : Value) (rs_ : List Res) => v_ = (Value.tuple #[(Value.agg #[(Value.int .i64 ((b_7 b (kk : Int) ((((b.tabs.getD kk tab0).rows).getD ii (0, 0)).1, (((b.tabs.getD kk tab0).rows).getD ii (0, 0)).1)).1)), (Value.int .i64 ((b_7 b (kk : Int) ((((b.tabs.getD kk tab0).rows).getD ii (0, 0)).1, (((b.tabs.getD kk tab0).rows).getD ii (0, 0)).1)).2))]), (Value.int .i64 (e_0 b (kk : Int) ((((b.tabs.getD kk tab0).rows).getD ii (0, 0)).1, (((b.tabs.getD kk tab0).rows).getD ii (0, 0)).1)))]) ∧ rs_ = []), (fun (C : Nat → Value) (v_ : Value) (rs_ : List Res) => v_ = (Value.agg #[(Value.int .i64 ((b_7 b (kk : Int) ((((b.tabs.getD kk tab0).rows).getD ii (0, 0)).1, (((b.tabs.getD kk tab0).rows).getD ii (0, 0)).1)).1)), (Value.int .i64 ((b_7 b (kk : Int) ((((b.tabs.getD kk tab0).rows).getD ii (0, 0)).1, (((b.tabs.getD kk tab0).rows).getD ii (0, 0)).1)).2))]) ∧ rs_ = []), (fun (C : Nat → Value) (v_ : Value) (rs_ : List Res) => v_ = (Value.int .i64 (e_0 b (kk : Int) ((((b.tabs.getD kk tab0).rows).getD ii (0, 0)).1, (((b.tabs.getD kk tab0).rows).getD ii (0, 0)).1))) ∧ rs_ = []), (fun (C : Nat → Value) (v_ : Value) (rs_ : List Res) => ∃ (b20_ : Nat), v_ = (bptr b20_ 0) ∧ rs_ = [(blk b20_ 30 [(Value.int .i64 0), (Value.int .i64 0)])])] (by decide +kernel) (by decide +kernel) (by decide +kernel) rfl rfl ⟨(fun _ _ _ _ _ h_ => h_), (fun _ _ _ _ _ h_ => h_), (fun _ _ _ _ _ h_ => h_), (fun _ _ _ _ _ h_ => h_), (fun _ _ _ _ _ h_ => h_), (fun _ _ _ _ _ h_ => h_), (fun _ _ _ _ _ h_ => h_), (fun _ _ _ _ _ h_ => h_), (fun _ _ _ _ _ h_ => h_), (fun _ _ _ _ _ h_ => h_), (fun _ _ _ _ _ h_ => h_), (fun _ _ _ _ _ h_ => h_), (fun _ _ _ _ _ h_ => h_), (fun _ _ _ _ _ h_ => h_), (fun _ _ _ _ _ h_ => h_), (fun _ _ _ _ _ h_ => h_), (fun _ _ _ _ _ h_ => h_), (fun _ _ _ _ _ h_ => h_), (fun _ _ _ _ _ h_ => h_), (fun _ _ _ _ _ h_ => h_), (fun _ _ _ _ _ h_ => h_), trivial⟩ ?_ ?_ ?_
 ·skip
  refine ⟨fun a w C hA hS hd => gv1 (c_5 rfl x_0 (hA.ev rfl) (hS.bk 10 rfl) (l := [(Value.int .i64 b.scales), vt, vm]) rfl rfl), ?_⟩
  refine ⟨fun a w C hA hS hd => d_6 rfl (vn (b_0 rfl aa_2 (ev1 (gu hd 0)) (q_9 b vt vm lr lb lk _ (a_6 (hS.ok 11 _ rfl)) (c_3 (hS.ok 12 _ rfl)) hth)) (fun v w' h => by obtain ⟨vt, vm, lr, lb, lk, rfl, hT⟩ := h; exact ⟨_, ⟨vt, vm, lr, lb, lk, rfl, rfl⟩, hT, rfl⟩)), ?_⟩
  refine ⟨fun a w C hA hS hd => gv1 (a_1 rfl (hA.ev rfl)), ?_⟩
  refine ⟨fun a w C hA hS hd => gv1 (a_4 rfl f_4 (hA.ev rfl)), ?_⟩
  refine ⟨fun a w C hA hS hd => gv1 (a_3 rfl k_1 (gu hd 3) (hS.bk 5 rfl) rfl), ?_⟩
  refine ⟨fun a w C hA hS hd => gv1 (a_1 rfl (hA.ev rfl)), ?_⟩
  refine ⟨fun a w C hA hS hd => gv1 (b_3 rfl k_2 m_6 (gu hd 4) (i := ii) (gu hd 5) ((a_6 (hS.ok 11 _ rfl)).row (i := kk) (by omega)) (by decide) (by omega)), ?_⟩
  refine ⟨fun a w C hA hS hd => gv1 (c_8 rfl h_9 (gu hd 6) ((a_6 (hS.ok 11 _ rfl)).row (i := kk) (by omega)) (by rw [(((a_6 (hS.ok 11 _ rfl)).row (i := kk) (by omega))).1]; omega)), ?_⟩
  refine ⟨fun a w C hA hS hd => gv1 (c_2 rfl ty_3 (gu hd 7) ((a_6 (hS.ok 11 _ rfl)).row (i := kk) (by omega)) (e_5 (by omega))), ?_⟩
  refine ⟨fun a w C hA hS hd => gv1 (a_4 rfl f_4 (hA.ev rfl)), ?_⟩
  refine ⟨fun a w C hA hS hd => gv1 (a_3 rfl k_1 (gu hd 9) (hS.bk 5 rfl) rfl), ?_⟩
  refine ⟨fun a w C hA hS hd => gv1 (a_1 rfl (hA.ev rfl)), ?_⟩
  refine ⟨fun a w C hA hS hd => gv1 (b_3 rfl k_2 m_6 (gu hd 10) (i := ii) (gu hd 11) ((a_6 (hS.ok 11 _ rfl)).row (i := kk) (by omega)) (by decide) (by omega)), ?_⟩
  refine ⟨fun a w C hA hS hd => gv1 (c_8 rfl h_9 (gu hd 12) ((a_6 (hS.ok 11 _ rfl)).row (i := kk) (by omega)) (by rw [(((a_6 (hS.ok 11 _ rfl)).row (i := kk) (by omega))).1]; omega)), ?_⟩
  refine ⟨fun a w C hA hS hd => gv1 (c_2 rfl ty_3 (gu hd 13) ((a_6 (hS.ok 11 _ rfl)).row (i := kk) (by omega)) (e_5 (by omega))), ?_⟩
  refine ⟨fun a w C hA hS hd => gx1 (b_0 rfl v_2 (ev2 (gu hd 8) (gu hd 14)) (g_4 _ _ _)), ?_⟩
  refine ⟨fun a w C hA hS hd => ?_, ?_⟩
  ·skip
   obtain ⟨e1, Ge, Be, BL⟩ := hd 1 (by decide)
   obtain ⟨vt1_vs555, vm1_vs555, lr1_vs555, lb1_vs555, lk1_vs555, Bd, Bc⟩ := Be; subst Bc
   rw [Bd] at e1
   have hp1_0 := BL _ (List.mem_of_getElem? (i := 0) rfl)
   have hp1_1 := BL _ (List.mem_of_getElem? (i := 1) rfl)
   exact gx1 (b_0 rfl aa_7 (ev3 (c_9 (d_4 e1 rfl)) (gu hd 2) (gu hd 15)) (k_7 b vt1_vs555 vm1_vs555 lr1_vs555 lb1_vs555 lk1_vs555 _ (a_6 hp1_0) (c_3 hp1_1) hth (kk : Int) ((((b.tabs.getD kk tab0).rows).getD ii (0, 0)).1) ((((b.tabs.getD kk tab0).rows).getD ii (0, 0)).1)))
  refine ⟨fun a w C hA hS hd => gv1 (a_1 rfl (gu hd 16)), ?_⟩
  refine ⟨fun a w C hA hS hd => gv1 (c_6 rfl (gu hd 17) rfl), ?_⟩
  refine ⟨fun a w C hA hS hd => gv1 (c_6 rfl (gu hd 17) rfl), ?_⟩
  refine ⟨fun a w C hA hS hd => d_6 rfl (valloc rfl t_5 (cs := [(Value.int .i64 0), (Value.int .i64 0)]) rfl (fun b_ => ⟨b_, rfl, rfl⟩)), ?_⟩
  trivial
 ·skip
  intro CN Jv C rsf561 Fz X ES; clear Dz ER
  obtain ⟨Ag, A0⟩ := X 0 (by decide)
  obtain ⟨Aq, p⟩ := A0
  obtain ⟨Ah, A1⟩ := X 1 (by decide)
  obtain ⟨vt1_vs555, vm1_vs555, lr1_vs555, lb1_vs555, lk1_vs555, Ar, q⟩ := A1
  obtain ⟨Ai, A2⟩ := X 2 (by decide)
  obtain ⟨As, r⟩ := A2
  obtain ⟨Aj, A3⟩ := X 3 (by decide)
  obtain ⟨At, s⟩ := A3
  obtain ⟨Ak, A4⟩ := X 4 (by decide)
  obtain ⟨Au, u⟩ := A4
  obtain ⟨Al, A5⟩ := X 5 (by decide)
  obtain ⟨Av, z⟩ := A5
  obtain ⟨Am, A6⟩ := X 6 (by decide)
  obtain ⟨Aw, AA⟩ := A6
  obtain ⟨An, A7⟩ := X 7 (by decide)
  obtain ⟨Ax, AB⟩ := A7
  obtain ⟨Ao, A8⟩ := X 8 (by decide)
  obtain ⟨Ay, AC⟩ := A8
  obtain ⟨Ap, A9⟩ := X 9 (by decide)
  obtain ⟨Az, AD⟩ := A9
  obtain ⟨AK, AX⟩ := X 10 (by decide)
  obtain ⟨AQ, I⟩ := AX
  obtain ⟨AL, AY⟩ := X 11 (by decide)
  obtain ⟨AR, J⟩ := AY
  obtain ⟨AM, AZ⟩ := X 12 (by decide)
  obtain ⟨AS, K⟩ := AZ
  obtain ⟨AN, Aa⟩ := X 13 (by decide)
  obtain ⟨AT, L⟩ := Aa
  obtain ⟨AO, Ab⟩ := X 14 (by decide)
  obtain ⟨AU, M⟩ := Ab
  obtain ⟨AP, Ac⟩ := X 15 (by decide)
  obtain ⟨AV, N⟩ := Ac
  obtain ⟨AH, Ad⟩ := X 16 (by decide)
  obtain ⟨AJ, O⟩ := Ad
  obtain ⟨Q, Ae⟩ := X 17 (by decide)
  obtain ⟨o, P⟩ := Ae
  obtain ⟨R, Af⟩ := X 18 (by decide)
  obtain ⟨AE, f⟩ := Af
  obtain ⟨g, BB⟩ := X 19 (by decide)
  obtain ⟨AW, AF⟩ := BB
  obtain ⟨S, BC⟩ := X 20 (by decide)
  obtain ⟨b20_, AI, AG⟩ := BC
  have GT : Sep NoB w Jv [(b_6 true vt1_vs555 lr1_vs555 lb1_vs555 b.tabs), (c_0 true vm1_vs555 lk1_vs555 b.macs), (blk b20_ 30 [(Value.int .i64 0), (Value.int .i64 0)]), (b_6 true vt1_vs543 lr1_vs543 lb1_vs543 b.tabs), (c_0 true vm1_vs543 lk1_vs543 b.macs), (b_6 true vt1_ lr1_ lb1_ b.tabs), (c_0 true vm1_ lk1_ b.macs), (blk b19_ 30 [(Value.int .i64 ((b_7 b (kk : Int) (((((b.tabs.getD kk tab0).rows).getD 0 (0, 0)).1) - 1, (((b.tabs.getD kk tab0).rows).getD 0 (0, 0)).1)).1)), (Value.int .i64 ((b_7 b (kk : Int) (((((b.tabs.getD kk tab0).rows).getD 0 (0, 0)).1) - 1, (((b.tabs.getD kk tab0).rows).getD 0 (0, 0)).1)).2))]), (blk A 46 [(Value.int .i64 ((b.tabs.getD kk tab0).frm)), (Value.int .i64 ((b.tabs.getD kk tab0).dst)), (lr kk), (lb kk), (Value.int .i64 ((b.tabs.getD kk tab0).err))]), (row T 30 2 t.length (pairs t)), (row BD 98 2 l.length (pairs l)), (b_6 true vt26 lr28 lb29 b.tabs), (c_0 true vm27 lk30 b.macs), (blk H 25 [(Value.int .i64 b.scales), vt, vm]), (b_6 false vt lr lb b.tabs), (c_0 false vm lk b.macs), (sl xl 2 l.length (pairs l))] := by rw [show catR rsf561 0 21 = ([(b_6 true vt1_vs555 lr1_vs555 lb1_vs555 b.tabs), (c_0 true vm1_vs555 lk1_vs555 b.macs), (blk b20_ 30 [(Value.int .i64 0), (Value.int .i64 0)])] : List Res) by (try simp only [catR, p, q, r, s, u, z, AA, AB, AC, AD, I, J, K, L, M, N, O, P, f, AF, AG]); (try rfl)] at ES; exact ES
  rw [AE] at R
  have F0 : Fr 197 [] [(186, (Value.agg #[(Value.int .i64 ((b_7 b (kk : Int) ((((b.tabs.getD kk tab0).rows).getD ii (0, 0)).1, (((b.tabs.getD kk tab0).rows).getD ii (0, 0)).1)).1)), (Value.int .i64 ((b_7 b (kk : Int) ((((b.tabs.getD kk tab0).rows).getD ii (0, 0)).1, (((b.tabs.getD kk tab0).rows).getD ii (0, 0)).1)).2))])), (18, (Value.int .i64 (e_0 b (kk : Int) ((((b.tabs.getD kk tab0).rows).getD ii (0, 0)).1, ((((b.tabs.getD kk tab0).rows).getD ii (0, 0)).1) + 1)))), (19, (Value.int .i64 (ii : Int))), (16, (bptr A 0)), (15, (Value.int .i64 (kk : Int))), (4, (bptr H 0))] CN := Fz.add (d_4 R rfl); clear Fz
  rw [AW] at g
  have F1 : Fr 197 [] [(187, (Value.int .i64 (e_0 b (kk : Int) ((((b.tabs.getD kk tab0).rows).getD ii (0, 0)).1, (((b.tabs.getD kk tab0).rows).getD ii (0, 0)).1)))), (186, (Value.agg #[(Value.int .i64 ((b_7 b (kk : Int) ((((b.tabs.getD kk tab0).rows).getD ii (0, 0)).1, (((b.tabs.getD kk tab0).rows).getD ii (0, 0)).1)).1)), (Value.int .i64 ((b_7 b (kk : Int) ((((b.tabs.getD kk tab0).rows).getD ii (0, 0)).1, (((b.tabs.getD kk tab0).rows).getD ii (0, 0)).1)).2))])), (18, (Value.int .i64 (e_0 b (kk : Int) ((((b.tabs.getD kk tab0).rows).getD ii (0, 0)).1, ((((b.tabs.getD kk tab0).rows).getD ii (0, 0)).1) + 1)))), (19, (Value.int .i64 (ii : Int))), (16, (bptr A 0)), (15, (Value.int .i64 (kk : Int))), (4, (bptr H 0))] CN := F0.add (d_4 g rfl); clear F0
  rw [AI] at S
  have B2 : Fr 197 [] [(20, (bptr b20_ 0)), (187, (Value.int .i64 (e_0 b (kk : Int) ((((b.tabs.getD kk tab0).rows).getD ii (0, 0)).1, (((b.tabs.getD kk tab0).rows).getD ii (0, 0)).1)))), (186, (Value.agg #[(Value.int .i64 ((b_7 b (kk : Int) ((((b.tabs.getD kk tab0).rows).getD ii (0, 0)).1, (((b.tabs.getD kk tab0).rows).getD ii (0, 0)).1)).1)), (Value.int .i64 ((b_7 b (kk : Int) ((((b.tabs.getD kk tab0).rows).getD ii (0, 0)).1, (((b.tabs.getD kk tab0).rows).getD ii (0, 0)).1)).2))])), (18, (Value.int .i64 (e_0 b (kk : Int) ((((b.tabs.getD kk tab0).rows).getD ii (0, 0)).1, ((((b.tabs.getD kk tab0).rows).getD ii (0, 0)).1) + 1)))), (19, (Value.int .i64 (ii : Int))), (16, (bptr A 0)), (15, (Value.int .i64 (kk : Int))), (4, (bptr H 0))] CN := F1.add (d_4 S rfl); clear F1
  clear X ES Ag Ah Ai Aj Ak Al Am An Ao Ap AK AL AM AN AO AP AH Q R g S
  clear p
  clear Aq
  clear q
  clear Ar
  clear r
  clear As
  clear s
  clear At
  clear u
  clear Au
  clear z
  clear Av
  clear AA
  clear Aw
  clear AB
  clear Ax
  clear AC
  clear Ay
  clear AD
  clear Az
  clear I
  clear AQ
  clear J
  clear AR
  clear K
  clear AS
  clear L
  clear AT
  clear M
  clear AU
  clear N
  clear AV
  clear O
  clear AJ
  clear P
  clear o
  clear f
  clear AE
  clear AF
  clear AW
  clear AG
  clear AI
  refine s7 B2 (c_1 GT rfl f_5 (B2.ev rfl) (B2.ev rfl) (i := 2) rfl (vs := [(Value.int .i64 ((b_7 b (kk : Int) ((((b.tabs.getD kk tab0).rows).getD ii (0, 0)).1, (((b.tabs.getD kk tab0).rows).getD ii (0, 0)).1)).1)), (Value.int .i64 ((b_7 b (kk : Int) ((((b.tabs.getD kk tab0).rows).getD ii (0, 0)).1, (((b.tabs.getD kk tab0).rows).getD ii (0, 0)).1)).2))]) rfl rfl rfl (Nat.le_of_ble_eq_true rfl)) ?_
  intro _ Jw GU D0; clear B2
  have GV : Sep NoB w Jw [(b_6 true vt1_vs555 lr1_vs555 lb1_vs555 b.tabs), (c_0 true vm1_vs555 lk1_vs555 b.macs), (blk b20_ 30 [(Value.int .i64 ((b_7 b (kk : Int) ((((b.tabs.getD kk tab0).rows).getD ii (0, 0)).1, (((b.tabs.getD kk tab0).rows).getD ii (0, 0)).1)).1)), (Value.int .i64 ((b_7 b (kk : Int) ((((b.tabs.getD kk tab0).rows).getD ii (0, 0)).1, (((b.tabs.getD kk tab0).rows).getD ii (0, 0)).1)).2))]), (b_6 true vt1_vs543 lr1_vs543 lb1_vs543 b.tabs), (c_0 true vm1_vs543 lk1_vs543 b.macs), (b_6 true vt1_ lr1_ lb1_ b.tabs), (c_0 true vm1_ lk1_ b.macs), (blk b19_ 30 [(Value.int .i64 ((b_7 b (kk : Int) (((((b.tabs.getD kk tab0).rows).getD 0 (0, 0)).1) - 1, (((b.tabs.getD kk tab0).rows).getD 0 (0, 0)).1)).1)), (Value.int .i64 ((b_7 b (kk : Int) (((((b.tabs.getD kk tab0).rows).getD 0 (0, 0)).1) - 1, (((b.tabs.getD kk tab0).rows).getD 0 (0, 0)).1)).2))]), (blk A 46 [(Value.int .i64 ((b.tabs.getD kk tab0).frm)), (Value.int .i64 ((b.tabs.getD kk tab0).dst)), (lr kk), (lb kk), (Value.int .i64 ((b.tabs.getD kk tab0).err))]), (row T 30 2 t.length (pairs t)), (row BD 98 2 l.length (pairs l)), (b_6 true vt26 lr28 lb29 b.tabs), (c_0 true vm27 lk30 b.macs), (blk H 25 [(Value.int .i64 b.scales), vt, vm]), (b_6 false vt lr lb b.tabs), (c_0 false vm lk b.macs), (sl xl 2 l.length (pairs l))] := GU; clear GU GT
  refine s1 D0 (a_0 rfl (D0.ev rfl)) fun JO F2 => ?_; clear D0 CN
  refine n2 ?_
  have D1 := F2.as [(21, (Value.int .i64 (e_0 b (kk : Int) ((((b.tabs.getD kk tab0).rows).getD ii (0, 0)).1, (((b.tabs.getD kk tab0).rows).getD ii (0, 0)).1)))), (18, (Value.int .i64 (e_0 b (kk : Int) ((((b.tabs.getD kk tab0).rows).getD ii (0, 0)).1, ((((b.tabs.getD kk tab0).rows).getD ii (0, 0)).1) + 1))))] rfl; clear F2
  refine a_5 ?_
  refine s1 D1 (a_1 rfl (D1.ev rfl)) fun JP D2 => ?_; clear D1 JO
  refine s1 D2 (i_8 rfl (D2.ev rfl) (evc _ _)) fun JQ B3 => ?_; clear D2 JP
  have HL : (e_0 b (kk : Int) ((((b.tabs.getD kk tab0).rows).getD ii (0, 0)).1, ((((b.tabs.getD kk tab0).rows).getD ii (0, 0)).1) + 1)) = 10 := (by first | exact m_4 hc hb_kk | exact m_3 hc hb_kk hi_ii hm_ii)
  rw [decide_eq_true HL] at B3
  refine s1 B3 (a_1 rfl (B3.ev rfl)) fun JR D3 => ?_; clear B3 JQ
  refine s5 D3 (a_1 rfl (D3.ev rfl)) fun JS D4 => ?_; clear D3 JR
  refine s5 D4 (i_8 rfl (D4.ev rfl) (evc _ _)) fun JT BY => ?_; clear D4 JS
  have HM : (e_0 b (kk : Int) ((((b.tabs.getD kk tab0).rows).getD ii (0, 0)).1, (((b.tabs.getD kk tab0).rows).getD ii (0, 0)).1)) = 0 := (t_6 hc hb_kk hi_ii)
  rw [decide_eq_true HM] at BY
  refine s1 BY (b_4 rfl (BY.ev rfl) (BY.ev rfl)) fun JU D5 => ?_; clear BY JT
  refine s1 D5 (a_1 rfl (D5.ev rfl)) fun JV F3 => ?_; clear D5 JU
  refine s6 F3 (b_0 rfl y_8 ev0 (l_5 _)) ?_
  rintro JW _ K1 ⟨rfl, GG⟩ B4; have HD := GV.step GG; clear GG F3 GV JV
  refine s1 B4 (b_4 rfl (B4.ev rfl) (B4.ev rfl)) fun JX D6 => ?_; clear B4 JW
  refine s1 D6 (a_0 rfl (D6.ev rfl)) fun Kj F4 => ?_; clear D6 JX
  refine n1 ?_
  refine c_4 ?_
  refine a_8 F4 (.inl rfl) (a_2 F4 rfl (.tmp rfl)) ?_
  exact ⟨rfl, HD.ext⟩
 skip
 intro CO Jx C rsf603 F5 c hrq ET; clear Dz ER
 obtain ⟨Ag, A0⟩ := c 0 (by decide) (by decide)
 obtain ⟨Aq, p⟩ := A0
 obtain ⟨Ah, A1⟩ := c 1 (by decide) (by decide)
 obtain ⟨vt1_vs555, vm1_vs555, lr1_vs555, lb1_vs555, lk1_vs555, Ar, q⟩ := A1
 obtain ⟨Ai, A2⟩ := c 2 (by decide) (by decide)
 obtain ⟨As, r⟩ := A2
 obtain ⟨Aj, A3⟩ := c 3 (by decide) (by decide)
 obtain ⟨At, s⟩ := A3
 obtain ⟨Ak, A4⟩ := c 4 (by decide) (by decide)
 obtain ⟨Au, u⟩ := A4
 obtain ⟨Al, A5⟩ := c 5 (by decide) (by decide)
 obtain ⟨Av, z⟩ := A5
 obtain ⟨Am, A6⟩ := c 6 (by decide) (by decide)
 obtain ⟨Aw, AA⟩ := A6
 obtain ⟨An, A7⟩ := c 7 (by decide) (by decide)
 obtain ⟨Ax, AB⟩ := A7
 obtain ⟨Ao, A8⟩ := c 8 (by decide) (by decide)
 obtain ⟨Ay, AC⟩ := A8
 obtain ⟨Ap, A9⟩ := c 9 (by decide) (by decide)
 obtain ⟨Az, AD⟩ := A9
 obtain ⟨AK, AX⟩ := c 10 (by decide) (by decide)
 obtain ⟨AQ, I⟩ := AX
 obtain ⟨AL, AY⟩ := c 11 (by decide) (by decide)
 obtain ⟨AR, J⟩ := AY
 obtain ⟨AM, AZ⟩ := c 12 (by decide) (by decide)
 obtain ⟨AS, K⟩ := AZ
 obtain ⟨AN, Aa⟩ := c 13 (by decide) (by decide)
 obtain ⟨AT, L⟩ := Aa
 obtain ⟨AO, Ab⟩ := c 14 (by decide) (by decide)
 obtain ⟨AU, M⟩ := Ab
 obtain ⟨AP, Ac⟩ := c 15 (by decide) (by decide)
 obtain ⟨AV, N⟩ := Ac
 obtain ⟨AH, Ad⟩ := c 16 (by decide) (by decide)
 obtain ⟨AJ, O⟩ := Ad
 obtain ⟨Q, Ae⟩ := c 17 (by decide) (by decide)
 obtain ⟨o, P⟩ := Ae
 obtain ⟨R, Af⟩ := c 18 (by decide) (by decide)
 obtain ⟨AE, f⟩ := Af
 obtain ⟨S, BC⟩ := c 20 (by decide) (by decide)
 obtain ⟨b20_, AI, AG⟩ := BC
 have GW : Sep NoB w Jx [(b_6 true vt1_vs555 lr1_vs555 lb1_vs555 b.tabs), (c_0 true vm1_vs555 lk1_vs555 b.macs), (blk b20_ 30 [(Value.int .i64 0), (Value.int .i64 0)]), (b_6 true vt1_vs543 lr1_vs543 lb1_vs543 b.tabs), (c_0 true vm1_vs543 lk1_vs543 b.macs), (b_6 true vt1_ lr1_ lb1_ b.tabs), (c_0 true vm1_ lk1_ b.macs), (blk b19_ 30 [(Value.int .i64 ((b_7 b (kk : Int) (((((b.tabs.getD kk tab0).rows).getD 0 (0, 0)).1) - 1, (((b.tabs.getD kk tab0).rows).getD 0 (0, 0)).1)).1)), (Value.int .i64 ((b_7 b (kk : Int) (((((b.tabs.getD kk tab0).rows).getD 0 (0, 0)).1) - 1, (((b.tabs.getD kk tab0).rows).getD 0 (0, 0)).1)).2))]), (blk A 46 [(Value.int .i64 ((b.tabs.getD kk tab0).frm)), (Value.int .i64 ((b.tabs.getD kk tab0).dst)), (lr kk), (lb kk), (Value.int .i64 ((b.tabs.getD kk tab0).err))]), (row T 30 2 t.length (pairs t)), (row BD 98 2 l.length (pairs l)), (b_6 true vt26 lr28 lb29 b.tabs), (c_0 true vm27 lk30 b.macs), (blk H 25 [(Value.int .i64 b.scales), vt, vm]), (b_6 false vt lr lb b.tabs), (c_0 false vm lk b.macs), (sl xl 2 l.length (pairs l))] := by rw [show catR rsf603 0 21 = ([(b_6 true vt1_vs555 lr1_vs555 lb1_vs555 b.tabs), (c_0 true vm1_vs555 lk1_vs555 b.macs), (blk b20_ 30 [(Value.int .i64 0), (Value.int .i64 0)])] : List Res) by (try simp only [catR, p, q, r, s, u, z, AA, AB, AC, AD, I, J, K, L, M, N, O, P, f, AG, hrq]); (try rfl)] at ET; exact ET
 rw [o] at Q
 have F6 : Fr 197 [] [(168, (Value.tuple #[(Value.agg #[(Value.int .i64 ((b_7 b (kk : Int) ((((b.tabs.getD kk tab0).rows).getD ii (0, 0)).1, (((b.tabs.getD kk tab0).rows).getD ii (0, 0)).1)).1)), (Value.int .i64 ((b_7 b (kk : Int) ((((b.tabs.getD kk tab0).rows).getD ii (0, 0)).1, (((b.tabs.getD kk tab0).rows).getD ii (0, 0)).1)).2))]), (Value.int .i64 (e_0 b (kk : Int) ((((b.tabs.getD kk tab0).rows).getD ii (0, 0)).1, (((b.tabs.getD kk tab0).rows).getD ii (0, 0)).1)))])), (18, (Value.int .i64 (e_0 b (kk : Int) ((((b.tabs.getD kk tab0).rows).getD ii (0, 0)).1, ((((b.tabs.getD kk tab0).rows).getD ii (0, 0)).1) + 1)))), (19, (Value.int .i64 (ii : Int))), (16, (bptr A 0)), (15, (Value.int .i64 (kk : Int))), (4, (bptr H 0))] CO := F5.add (d_4 Q rfl); clear F5
 rw [AE] at R
 have F7 : Fr 197 [] [(186, (Value.agg #[(Value.int .i64 ((b_7 b (kk : Int) ((((b.tabs.getD kk tab0).rows).getD ii (0, 0)).1, (((b.tabs.getD kk tab0).rows).getD ii (0, 0)).1)).1)), (Value.int .i64 ((b_7 b (kk : Int) ((((b.tabs.getD kk tab0).rows).getD ii (0, 0)).1, (((b.tabs.getD kk tab0).rows).getD ii (0, 0)).1)).2))])), (168, (Value.tuple #[(Value.agg #[(Value.int .i64 ((b_7 b (kk : Int) ((((b.tabs.getD kk tab0).rows).getD ii (0, 0)).1, (((b.tabs.getD kk tab0).rows).getD ii (0, 0)).1)).1)), (Value.int .i64 ((b_7 b (kk : Int) ((((b.tabs.getD kk tab0).rows).getD ii (0, 0)).1, (((b.tabs.getD kk tab0).rows).getD ii (0, 0)).1)).2))]), (Value.int .i64 (e_0 b (kk : Int) ((((b.tabs.getD kk tab0).rows).getD ii (0, 0)).1, (((b.tabs.getD kk tab0).rows).getD ii (0, 0)).1)))])), (18, (Value.int .i64 (e_0 b (kk : Int) ((((b.tabs.getD kk tab0).rows).getD ii (0, 0)).1, ((((b.tabs.getD kk tab0).rows).getD ii (0, 0)).1) + 1)))), (19, (Value.int .i64 (ii : Int))), (16, (bptr A 0)), (15, (Value.int .i64 (kk : Int))), (4, (bptr H 0))] CO := F6.add (d_4 R rfl); clear F6
 rw [AI] at S
 have B5 : Fr 197 [] [(20, (bptr b20_ 0)), (186, (Value.agg #[(Value.int .i64 ((b_7 b (kk : Int) ((((b.tabs.getD kk tab0).rows).getD ii (0, 0)).1, (((b.tabs.getD kk tab0).rows).getD ii (0, 0)).1)).1)), (Value.int .i64 ((b_7 b (kk : Int) ((((b.tabs.getD kk tab0).rows).getD ii (0, 0)).1, (((b.tabs.getD kk tab0).rows).getD ii (0, 0)).1)).2))])), (168, (Value.tuple #[(Value.agg #[(Value.int .i64 ((b_7 b (kk : Int) ((((b.tabs.getD kk tab0).rows).getD ii (0, 0)).1, (((b.tabs.getD kk tab0).rows).getD ii (0, 0)).1)).1)), (Value.int .i64 ((b_7 b (kk : Int) ((((b.tabs.getD kk tab0).rows).getD ii (0, 0)).1, (((b.tabs.getD kk tab0).rows).getD ii (0, 0)).1)).2))]), (Value.int .i64 (e_0 b (kk : Int) ((((b.tabs.getD kk tab0).rows).getD ii (0, 0)).1, (((b.tabs.getD kk tab0).rows).getD ii (0, 0)).1)))])), (18, (Value.int .i64 (e_0 b (kk : Int) ((((b.tabs.getD kk tab0).rows).getD ii (0, 0)).1, ((((b.tabs.getD kk tab0).rows).getD ii (0, 0)).1) + 1)))), (19, (Value.int .i64 (ii : Int))), (16, (bptr A 0)), (15, (Value.int .i64 (kk : Int))), (4, (bptr H 0))] CO := F7.add (d_4 S rfl); clear F7
 clear c ET Ag Ah Ai Aj Ak Al Am An Ao Ap AK AL AM AN AO AP AH Q R S hrq
 clear p
 clear Aq
 clear q
 clear Ar
 clear r
 clear As
 clear s
 clear At
 clear u
 clear Au
 clear z
 clear Av
 clear AA
 clear Aw
 clear AB
 clear Ax
 clear AC
 clear Ay
 clear AD
 clear Az
 clear I
 clear AQ
 clear J
 clear AR
 clear K
 clear AS
 clear L
 clear AT
 clear M
 clear AU
 clear N
 clear AV
 clear O
 clear AJ
 clear P
 clear o
 clear f
 clear AE
 clear AG
 clear AI
 refine s7 B5 (c_1 GW rfl f_5 (B5.ev rfl) (B5.ev rfl) (i := 2) rfl (vs := [(Value.int .i64 ((b_7 b (kk : Int) ((((b.tabs.getD kk tab0).rows).getD ii (0, 0)).1, (((b.tabs.getD kk tab0).rows).getD ii (0, 0)).1)).1)), (Value.int .i64 ((b_7 b (kk : Int) ((((b.tabs.getD kk tab0).rows).getD ii (0, 0)).1, (((b.tabs.getD kk tab0).rows).getD ii (0, 0)).1)).2))]) rfl rfl rfl (Nat.le_of_ble_eq_true rfl)) ?_
 intro _ Jy GX D7; clear B5
 have GY : Sep NoB w Jy [(b_6 true vt1_vs555 lr1_vs555 lb1_vs555 b.tabs), (c_0 true vm1_vs555 lk1_vs555 b.macs), (blk b20_ 30 [(Value.int .i64 ((b_7 b (kk : Int) ((((b.tabs.getD kk tab0).rows).getD ii (0, 0)).1, (((b.tabs.getD kk tab0).rows).getD ii (0, 0)).1)).1)), (Value.int .i64 ((b_7 b (kk : Int) ((((b.tabs.getD kk tab0).rows).getD ii (0, 0)).1, (((b.tabs.getD kk tab0).rows).getD ii (0, 0)).1)).2))]), (b_6 true vt1_vs543 lr1_vs543 lb1_vs543 b.tabs), (c_0 true vm1_vs543 lk1_vs543 b.macs), (b_6 true vt1_ lr1_ lb1_ b.tabs), (c_0 true vm1_ lk1_ b.macs), (blk b19_ 30 [(Value.int .i64 ((b_7 b (kk : Int) (((((b.tabs.getD kk tab0).rows).getD 0 (0, 0)).1) - 1, (((b.tabs.getD kk tab0).rows).getD 0 (0, 0)).1)).1)), (Value.int .i64 ((b_7 b (kk : Int) (((((b.tabs.getD kk tab0).rows).getD 0 (0, 0)).1) - 1, (((b.tabs.getD kk tab0).rows).getD 0 (0, 0)).1)).2))]), (blk A 46 [(Value.int .i64 ((b.tabs.getD kk tab0).frm)), (Value.int .i64 ((b.tabs.getD kk tab0).dst)), (lr kk), (lb kk), (Value.int .i64 ((b.tabs.getD kk tab0).err))]), (row T 30 2 t.length (pairs t)), (row BD 98 2 l.length (pairs l)), (b_6 true vt26 lr28 lb29 b.tabs), (c_0 true vm27 lk30 b.macs), (blk H 25 [(Value.int .i64 b.scales), vt, vm]), (b_6 false vt lr lb b.tabs), (c_0 false vm lk b.macs), (sl xl 2 l.length (pairs l))] := GX; clear GX GW
 refine s1 D7 (c_6 rfl (D7.ev rfl) rfl) fun JY D8 => ?_; clear D7 CO
 refine s1 D8 (a_0 rfl (D8.ev rfl)) fun JZ F8 => ?_; clear D8 JY
 refine n2 ?_
 have D9 := F8.as [(21, (Value.int .i64 (e_0 b (kk : Int) ((((b.tabs.getD kk tab0).rows).getD ii (0, 0)).1, (((b.tabs.getD kk tab0).rows).getD ii (0, 0)).1)))), (18, (Value.int .i64 (e_0 b (kk : Int) ((((b.tabs.getD kk tab0).rows).getD ii (0, 0)).1, ((((b.tabs.getD kk tab0).rows).getD ii (0, 0)).1) + 1))))] rfl; clear F8
 refine a_5 ?_
 refine s1 D9 (a_1 rfl (D9.ev rfl)) fun Ja EA => ?_; clear D9 JZ
 refine s1 EA (i_8 rfl (EA.ev rfl) (evc _ _)) fun Jb B6 => ?_; clear EA Ja
 have HN : (e_0 b (kk : Int) ((((b.tabs.getD kk tab0).rows).getD ii (0, 0)).1, ((((b.tabs.getD kk tab0).rows).getD ii (0, 0)).1) + 1)) = 10 := (by first | exact m_4 hc hb_kk | exact m_3 hc hb_kk hi_ii hm_ii)
 rw [decide_eq_true HN] at B6
 refine s1 B6 (a_1 rfl (B6.ev rfl)) fun Jc EB => ?_; clear B6 Jb
 refine s5 EB (a_1 rfl (EB.ev rfl)) fun Jd EC => ?_; clear EB Jc
 refine s5 EC (i_8 rfl (EC.ev rfl) (evc _ _)) fun Je BZ => ?_; clear EC Jd
 have HO : (e_0 b (kk : Int) ((((b.tabs.getD kk tab0).rows).getD ii (0, 0)).1, (((b.tabs.getD kk tab0).rows).getD ii (0, 0)).1)) = 0 := (t_6 hc hb_kk hi_ii)
 rw [decide_eq_true HO] at BZ
 refine s1 BZ (b_4 rfl (BZ.ev rfl) (BZ.ev rfl)) fun Jf ED => ?_; clear BZ Je
 refine s1 ED (a_1 rfl (ED.ev rfl)) fun Jg F9 => ?_; clear ED Jf
 refine s6 F9 (b_0 rfl y_8 ev0 (l_5 _)) ?_
 rintro Jh _ K2 ⟨rfl, GH⟩ B7; have HE := GY.step GH; clear GH F9 GY Jg
 refine s1 B7 (b_4 rfl (B7.ev rfl) (B7.ev rfl)) fun Ji EE => ?_; clear B7 Jh
 refine s1 EE (a_0 rfl (EE.ev rfl)) fun Kl GA => ?_; clear EE Ji
 refine n1 ?_
 refine c_4 ?_
 refine a_8 GA (.inl rfl) (a_2 GA rfl (.tmp rfl)) ?_
 exact ⟨rfl, HE.ext⟩
theorem HardAllows_ok (b : h_2) (vt vm : Value) (lr lb lk : Nat → Value) (w : World) (hT : j_5 w vt lr lb b.tabs) (hM : k_8 w vm lk b.macs) (l : List (Int × Int)) (xl : Value) (hxl : SlAt w xl 2 l.length (pairs l)) (wa : Int) (hA_ : 0 ≤ wa ∧ wa ≤ 255) (wb : Int) (hB_ : 0 ≤ wb ∧ wb ≤ 255) : Calls Try.prog 9 #[.agg #[.int .i64 b.scales, vt, vm], xl, .int .u8 wa, .int .u8 wb] w (Ret fun v w' => v = .bool true ∧ Ext NoB w w') := by
 rcases Bool.eq_false_or_eq_true (x_4 b l) with hf | hf
 ·have hr := (ready_is hf).2.2
  cases hs : m_9 b l with
  | none => exact HardAllows_b b vt vm lr lb lk w hT hM l xl hxl wa wb hA_ hB_ hf hs
  | some t => exact HardAllows_c b vt vm lr lb lk w hT hM l xl hxl wa wb hA_ hB_ hf t hs
 exact HardAllows_a b vt vm lr lb lk w hT hM l xl hxl wa wb hA_ hB_ hf
end Go.Proofs.Ytohgladndklciaa
