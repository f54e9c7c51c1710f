/-
  Walks through the functions of the seat, printed by a program of ours (gowalk), a theorem a function: what the call returns and what it leaves in memory.
-/
import Derived.Test.YtohgladndklciaaBe
set_option linter.unusedSimpArgs false
set_option linter.unusedVariables false
namespace Go.Proofs.Ytohgladndklciaa
open Go.RowKit Go.Shelf Go.Eng Go.Hard
set_option maxHeartbeats 4000000 in
theorem HardDoubtful_a (b : h_0) (vt vm : Value) (lr lb lk : Nat → Value) (w : World) (hT : j_6 w vt lr lb b.tabs) (hM : k_4 w vm lk b.macs) (l : List (Int × Int)) (xl : Value) (hxl : SlAt w xl 2 l.length (pairs l)) (z : List Int) (xz : Value) (hxz : SlAt w xz 1 z.length (ints z)) (hf : p_2 b l = false) :
  Calls Try.prog 13 #[(Value.agg #[(Value.int .i64 b.scales), vt, vm]), xl, xz] w (Ret fun v w' => v = .bool true ∧ Ext NoB w w') := by
 refine a_8 Try.func13 rfl fun W D => ?_
 replace D : Fr 137 [] [(0, (Value.agg #[(Value.int .i64 b.scales), vt, vm])), (1, xl), (2, xz)] W := D
 have T : Sep NoB w w [(c_9 false vt lr lb b.tabs), (d_2 false vm lk b.macs), (sl xl 2 l.length (pairs l)), (sl xz 1 z.length (ints z))] := f_0 ⟨rfl, hT, rfl, hM, rfl, hxl, rfl, hxz, trivial⟩
 refine m2 ?_
 refine s2 D (f_3 T rfl (D.ev rfl) (cs := [(Value.int .i64 b.scales), vt, vm]) rfl) ?_
 rintro h _ p ⟨o, rfl, A⟩ S; clear D T W
 refine s1 S (a_1 rfl (evc _ _)) fun i N => ?_; clear S h
 refine n2 ?_
 refine m2 ?_
 refine s1 N (c_4 rfl r_4 (N.ev rfl) (A.bk 0 rfl) (l := [(Value.int .i64 b.scales), vt, vm]) rfl rfl) fun j O => ?_; clear N i
 refine s1 O (a_0 rfl (O.ev rfl)) fun X B => ?_; clear O j
 refine s2 B (a_6 rfl en_29 (ev2 (B.ev rfl) (B.ev rfl)) (ready_ok b vt vm lr lb lk _ (b_6 (A.ok 1 _ rfl)) (b_8 (A.ok 2 _ rfl)) l _ (A.sk 3 rfl))) ?_
 rintro Y _ m ⟨rfl, P⟩ C; have R := A.step P; clear P B A X
 have V : (p_2 b l) = false := hf
 rw [V] at C
 refine s1 C (f_4 rfl (C.ev rfl)) fun Z E => ?_; clear C Y
 refine s1 E (a_0 rfl (E.ev rfl)) fun a I => ?_; clear E Z
 refine s3 I fun c J => ?_; clear I a
 refine s3 J fun d K => ?_; clear J c
 refine s3 K fun e F => ?_; clear K d
 refine s1 F (b_3 rfl (F.ev rfl) (evc _ _)) fun f G => ?_; clear F e
 refine n1 ?_
 refine c_6 G rfl ?_
 refine b_7 ?_
 have L := G.as [] rfl; clear G
 refine a_5 ?_
 refine s2 L (a_6 rfl en_17 ev0 (awake_ok _)) ?_
 rintro g _ n ⟨rfl, Q⟩ H; have U := R.step Q; clear Q L R f
 refine s1 H (a_1 rfl (H.ev rfl)) fun k M => ?_; clear H g
 refine n1 ?_
 refine c_8 ?_
 refine a_7 ?_
 refine a_9 M (.inl rfl) (a_2 M rfl (.tmp rfl)) ?_
 exact ⟨rfl, U.ext⟩
set_option maxHeartbeats 4000000 in
theorem HardDoubtful_z (b : h_0) (vt vm : Value) (lr lb lk : Nat → Value) (w : World) (hT : j_6 w vt lr lb b.tabs) (hM : k_4 w vm lk b.macs) (l : List (Int × Int)) (xl : Value) (hxl : SlAt w xl 2 l.length (pairs l)) (z : List Int) (xz : Value) (hxz : SlAt w xz 1 z.length (ints z)) (hf : p_2 b l = true) (hzn : ¬ z.length ≤ 9) :
  Calls Try.prog 13 #[(Value.agg #[(Value.int .i64 b.scales), vt, vm]), xl, xz] w (Ret fun v w' => v = .bool true ∧ Ext NoB w w') := by
 refine a_8 Try.func13 rfl fun X E => ?_
 replace E : Fr 137 [] [(0, (Value.agg #[(Value.int .i64 b.scales), vt, vm])), (1, xl), (2, xz)] X := E
 have T : Sep NoB w w [(c_9 false vt lr lb b.tabs), (d_2 false vm lk b.macs), (sl xl 2 l.length (pairs l)), (sl xz 1 z.length (ints z))] := f_0 ⟨rfl, hT, rfl, hM, rfl, hxl, rfl, hxz, trivial⟩
 refine m2 ?_
 refine s2 E (f_3 T rfl (E.ev rfl) (cs := [(Value.int .i64 b.scales), vt, vm]) rfl) ?_
 rintro i _ q ⟨p, rfl, B⟩ S; clear E T X
 refine s1 S (a_1 rfl (evc _ _)) fun j O => ?_; clear S i
 refine n2 ?_
 refine m2 ?_
 refine s1 O (c_4 rfl r_4 (O.ev rfl) (B.bk 0 rfl) (l := [(Value.int .i64 b.scales), vt, vm]) rfl rfl) fun k P => ?_; clear O j
 refine s1 P (a_0 rfl (P.ev rfl)) fun Y C => ?_; clear P k
 refine s2 C (a_6 rfl en_29 (ev2 (C.ev rfl) (C.ev rfl)) (ready_ok b vt vm lr lb lk _ (b_6 (B.ok 1 _ rfl)) (b_8 (B.ok 2 _ rfl)) l _ (B.sk 3 rfl))) ?_
 rintro Z _ n ⟨rfl, Q⟩ D; have L := B.step Q; clear Q C B Y
 have V : (p_2 b l) = true := hf
 rw [V] at D
 refine s1 D (f_4 rfl (D.ev rfl)) fun a F => ?_; clear D Z
 refine s1 F (a_0 rfl (F.ev rfl)) fun c G => ?_; clear F a
 refine s5 G (a_0 rfl (G.ev rfl)) fun d H => ?_; clear G c
 refine s5 H (c_0 rfl h_8 (H.ev rfl) (L.sk 4 rfl)) fun e I => ?_; clear H d
 refine s5 I (g_9 rfl (I.ev rfl) (evc _ _)) fun f A => ?_; clear I e
 have W : 9 < (z.length : Int) := (by omega)
 rw [decide_eq_true W] at A
 refine s1 A (c_2 rfl (A.ev rfl) (A.ev rfl)) fun g J => ?_; clear A f
 refine n1 ?_
 refine c_6 J rfl ?_
 refine b_7 ?_
 have M := J.as [] rfl; clear J
 refine a_5 ?_
 refine s2 M (a_6 rfl en_17 ev0 (awake_ok _)) ?_
 rintro h _ o ⟨rfl, R⟩ K; have U := L.step R; clear R M L g
 refine s1 K (a_1 rfl (K.ev rfl)) fun m N => ?_; clear K h
 refine n1 ?_
 refine c_8 ?_
 refine a_7 ?_
 refine a_9 N (.inl rfl) (a_2 N rfl (.tmp rfl)) ?_
 exact ⟨rfl, U.ext⟩
set_option maxHeartbeats 4000000 in
theorem HardDoubtful_b (b : h_0) (vt vm : Value) (lr lb lk : Nat → Value) (w : World) (hT : j_6 w vt lr lb b.tabs) (hM : k_4 w vm lk b.macs) (l : List (Int × Int)) (xl : Value) (hxl : SlAt w xl 2 l.length (pairs l)) (z : List Int) (xz : Value) (hxz : SlAt w xz 1 z.length (ints z)) (hf : p_2 b l = true) (hzn : z.length ≤ 9) (hs : i_7 b l = none) (hw : i_7 b (woF l z) = none) :
  Calls Try.prog 13 #[(Value.agg #[(Value.int .i64 b.scales), vt, vm]), xl, xz] w (Ret fun v w' => v = .bool true ∧ Ext NoB w w') := by
 refine a_8 Try.func13 rfl fun a0 A9 => ?_
 replace A9 : Fr 137 [] [(0, (Value.agg #[(Value.int .i64 b.scales), vt, vm])), (1, xl), (2, xz)] a0 := A9
 have hrd := ready_is hf; have hth := hrd.1; have Ej := hrd.2.1; have hr := hrd.2.2; have htl9 := hth.tl; have hml9 := hth.ml; have hc := o_6 hr; have hbl := z_7 hr; have hb := hbl.1; have hl := hbl.2; have E2 := hb.scales; have hdb := doubt_bd hb l; have hll := hl.len; have hwl1 := wo_len l z; have hwl2 := wo_len l (c_1 b l); have hrw := z_8 hr z; have hrd2 := z_8 hr (c_1 b l); obtain ⟨td, hsd⟩ := doubt_some hb l; have E1 := doubt_pos hb hs
 have CZ : Sep NoB w w [(c_9 false vt lr lb b.tabs), (d_2 false vm lk b.macs), (sl xl 2 l.length (pairs l)), (sl xz 1 z.length (ints z))] := f_0 ⟨rfl, hT, rfl, hM, rfl, hxl, rfl, hxz, trivial⟩
 refine m2 ?_
 refine s2 A9 (f_3 CZ rfl (A9.ev rfl) (cs := [(Value.int .i64 b.scales), vt, vm]) rfl) ?_
 rintro a1 _ w3 ⟨D, rfl, s⟩ CY; clear A9 CZ a0
 refine s1 CY (a_1 rfl (evc _ _)) fun a6 CF => ?_; clear CY a1
 refine n2 ?_
 refine m2 ?_
 refine s1 CF (c_4 rfl r_4 (CF.ev rfl) (s.bk 0 rfl) (l := [(Value.int .i64 b.scales), vt, vm]) rfl rfl) fun a8 CH => ?_; clear CF a6
 refine s1 CH (a_0 rfl (CH.ev rfl)) fun D7 u => ?_; clear CH a8
 refine s2 u (a_6 rfl en_29 (ev2 (u.ev rfl) (u.ev rfl)) (ready_ok b vt vm lr lb lk _ (b_6 (s.ok 1 _ rfl)) (b_8 (s.ok 2 _ rfl)) l _ (s.sk 3 rfl))) ?_
 rintro D8 _ E3 ⟨rfl, CK⟩ AB; have P := s.step CK; clear CK u s D7
 have Dy : (p_2 b l) = true := hf
 rw [Dy] at AB
 refine s1 AB (f_4 rfl (AB.ev rfl)) fun D9 BA => ?_; clear AB D8
 refine s1 BA (a_0 rfl (BA.ev rfl)) fun EA BB => ?_; clear BA D9
 refine s5 BB (a_0 rfl (BB.ev rfl)) fun EB BC => ?_; clear BB EA
 refine s5 BC (c_0 rfl h_8 (BC.ev rfl) (P.sk 4 rfl)) fun EC BD => ?_; clear BC EB
 refine s5 BD (g_9 rfl (BD.ev rfl) (evc _ _)) fun ED p => ?_; clear BD EC
 have Dz : ¬ (9 < (z.length : Int)) := (by omega)
 rw [decide_eq_false Dz] at p
 refine s1 p (c_2 rfl (p.ev rfl) (p.ev rfl)) fun EE BE => ?_; clear p ED
 refine n1 ?_
 refine b_5 BE rfl ?_
 refine d_1 ?_
 refine b_0 ?_
 refine b_7 ?_
 have BF := BE.as [(3, (bptr D 0)), (1, xl), (2, xz)] rfl; clear BE
 refine a_5 ?_
 refine s1 BF (c_4 rfl r_4 (BF.ev rfl) (P.bk 0 rfl) (l := [(Value.int .i64 b.scales), vt, vm]) rfl rfl) fun EF BG => ?_; clear BF EE
 refine s2 BG (a_6 rfl aa_0 (ev1 (BG.ev rfl)) (n_3 b vt vm lr lb lk _ (b_6 (P.ok 1 _ rfl)) (b_8 (P.ok 2 _ rfl)) hth)) ?_
 rintro EG _ E4 ⟨vt37, vm38, lr39, lb40, lk41, rfl, CM⟩ BH; have BY := P.l_5 CM rfl; clear CM BG P EF
 refine s1 BH (a_0 rfl (BH.ev rfl)) fun EH BI => ?_; clear BH EG
 refine s2 BI (a_6 rfl aa_1 (ev1 (BI.ev rfl)) (h_9 l _ _ (BY.sk 5 rfl) (by omega))) ?_
 rintro EI CO E5 ⟨CL, hO50⟩ A3; have r := BY.h_7 CL hO50; clear CL hO50 BI BY EH
 refine s2 A3 (a_6 rfl en_41 (ev2 (A3.ev rfl) (A3.ev rfl)) (Doubt_ok b vt37 vm38 lr39 lb40 lk41 _ (b_6 (r.ok 1 _ rfl)) (b_8 (r.ok 2 _ rfl)) hth l _ (SlAt.d_4 (r.d_7 0 rfl)) (by omega) hr)) ?_
 rintro EJ _ Ec ⟨A, rfl, CN⟩ BJ
 have A8 : Sep NoB w Ec [(row A 3 1 ((c_1 b l).length) (ints (c_1 b l))), (row CO 98 2 l.length (pairs l)), (c_9 true vt37 lr39 lb40 b.tabs), (d_2 true vm38 lk41 b.macs), (blk D 25 [(Value.int .i64 b.scales), vt, vm]), (c_9 false vt lr lb b.tabs), (d_2 false vm lk b.macs), (sl xl 2 l.length (pairs l)), (sl xz 1 z.length (ints z))] := r.l_5 CN rfl; clear CN A3 r EI
 refine s1 BJ (a_0 rfl (BJ.ev rfl)) fun EK BK => ?_; clear BJ EJ
 refine s1 BK (c_3 rfl (BK.ev rfl) rfl) fun EL BL => ?_; clear BK EK
 refine s1 BL (c_3 rfl (BL.ev rfl) rfl) fun EM BM => ?_; clear BL EL
 refine s1 BM (a_1 rfl (BM.ev rfl)) fun EN BN => ?_; clear BM EM
 refine s1 BN (a_1 rfl (BN.ev rfl)) fun EO CE => ?_; clear BN EN
 refine n2 ?_
 refine b_7 ?_
 have BO := CE.as [(8, (Value.int .i64 0)), (7, A), (3, (bptr D 0)), (1, xl), (2, xz)] rfl; clear CE
 refine a_5 ?_
 refine s1 BO (a_0 rfl (BO.ev rfl)) fun EP BP => ?_; clear BO EO
 refine s1 BP (y_6 rfl (BP.ev rfl) (evc _ _)) fun EQ BQ => ?_; clear BP EP
 refine s1 BQ (a_0 rfl (BQ.ev rfl)) fun ER BR => ?_; clear BQ EQ
 refine s5 BR (a_0 rfl (BR.ev rfl)) fun ES BS => ?_; clear BR ER
 refine s5 BS (c_0 rfl h_8 (BS.ev rfl) (SlAt.d_4 (A8.d_7 0 rfl))) fun ET BT => ?_; clear BS ES
 refine s5 BT (a_0 rfl (BT.ev rfl)) fun EU BU => ?_; clear BT ET
 refine s5 BU (c_0 rfl m_9 (BU.ev rfl) (A8.sk 7 rfl)) fun EV A4 => ?_; clear BU EU
 refine s5 A4 (g_9 rfl (A4.ev rfl) (A4.ev rfl)) fun EW q => ?_; clear A4 EV
 have D0 : ¬ ((l.length : Int) < ((c_1 b l).length : Int)) := (by omega)
 rw [decide_eq_false D0] at q
 refine s1 q (c_2 rfl (q.ev rfl) (q.ev rfl)) fun EX BV => ?_; clear q EW
 refine n1 ?_
 refine b_5 BV rfl ?_
 refine d_1 ?_
 refine b_0 ?_
 refine b_7 ?_
 refine b_7 ?_
 have CG := BV.as [(7, A), (3, (bptr D 0)), (1, xl), (2, xz)] rfl; clear BV
 refine a_5 ?_
 refine s1 CG (a_1 rfl (evc _ _)) fun EY CI => ?_; clear CG EX
 refine n1 ?_
 refine d_0 ?_
 have CJ := CI.as [(9, (Value.int .i64 0)), (7, A), (3, (bptr D 0)), (1, xl), (2, xz)] rfl; clear CI
 refine h_3 (G := Nat) (fun (k : Nat) a_ w_ => Fr 137 [] [(9, (Value.int .i64 (k : Int))), (7, A), (3, (bptr D 0)), (1, xl), (2, xz)] a_ ∧ Sep NoB w w_ [(row A 3 1 ((c_1 b l).length) (ints (c_1 b l))), (row CO 98 2 l.length (pairs l)), (c_9 true vt37 lr39 lb40 b.tabs), (d_2 true vm38 lk41 b.macs), (blk D 25 [(Value.int .i64 b.scales), vt, vm]), (c_9 false vt lr lb b.tabs), (d_2 false vm lk b.macs), (sl xl 2 l.length (pairs l)), (sl xz 1 z.length (ints z))] ∧ (k ≤ (c_1 b l).length)) (fun k => (c_1 b l).length - k) 0 ⟨CJ.as _ rfl, A8, by omega⟩ ?_
 clear CJ A8 EY
 rintro k EZ E6 ⟨BW, C, hkk⟩
 refine b_7 ?_
 refine m2 ?_
 refine s1 BW (a_0 rfl (BW.ev rfl)) fun Ea BX => ?_; clear BW EZ
 refine s1 BX (a_0 rfl (BX.ev rfl)) fun Eb t => ?_; clear BX Ea
 refine s1 t (c_0 rfl h_8 (t.ev rfl) (SlAt.d_4 (C.d_7 0 rfl))) fun Ca Q => ?_; clear t Eb
 refine s1 Q (f_9 rfl (Q.ev rfl) (Q.ev rfl)) fun Cb B => ?_; clear Q Ca
 refine n1 ?_
 by_cases CB : (k : Int) < ((c_1 b l).length : Int)
 ·skip
  rw [decide_eq_true CB] at B
  have hbk := hdb.2.1 k (by omega)
  refine c_6 B rfl ?_
  refine d_1 ?_
  refine b_0 ?_
  refine b_7 ?_
  refine d_0 ?_
  refine b_7 ?_
  have R := B.as [(9, (Value.int .i64 (k : Int))), (7, A), (3, (bptr D 0)), (1, xl), (2, xz)] rfl; clear B
  by_cases CC : 0 < (k : Int)
  ·skip
   have BZ := R.as [(9, (Value.int .i64 (k : Int))), (7, A), (3, (bptr D 0)), (1, xl), (2, xz)] rfl; clear R
   refine g_6 mixed BZ C 22 [[], [], [0, 1], [2], [], [4], [5], [3, 6], [7], [8], [9], [9, 10], [9, 11], [12], [12], [12, 13, 14], [12, 15], [12], [12], [12, 18], [12, 17, 19], [12, 20]] [(Yd.val A), (Yd.val (Value.int .i64 (k : Int))), (Yd.val (eptr A (k * 1))), (Yd.val (Value.int .i64 ((c_1 b l).getD k 0))), (Yd.val xl), (Yd.val (Value.int .i64 (l.length : Int))), (Yd.val (Value.int .i64 ((l.length : Int) - 1))), (Yd.val (Value.bool true)), (Yd.val (Value.bool (!true))), (Yd.val (Value.bool (!true))), (Yd.val (Value.int .i64 (k : Int))), (Yd.val (Value.bool true)), (Yd.val (Value.bool true)), (Yd.val A), (Yd.val (Value.int .i64 (k : Int))), (Yd.val (eptr A (k * 1))), (Yd.val (Value.int .i64 ((c_1 b l).getD k 0))), (Yd.val A), (Yd.val (Value.int .i64 (k : Int))), (Yd.val (Value.int .i64 ((k : Int) - 1))), (Yd.val (eptr A (((k : Int) - 1).toNat * 1))), (Yd.val (Value.int .i64 ((c_1 b l).getD (((k : Int) - 1).toNat) 0)))] (by decide +kernel) rfl rfl ?_ ?_
   ·skip
    refine dq (fun a w hA hS hd => a_0 rfl (hA.ev rfl)) ?_
    refine dq (fun a w hA hS hd => a_0 rfl (hA.ev rfl)) ?_
    refine dq (fun a w hA hS hd => b_2 rfl h_8 ty_3 (hq hd 0) (i := k) (hq hd 1) (SlAt.d_4 (hS.d_7 0 rfl)) (by decide) (by omega)) ?_
    refine dq (fun a w hA hS hd => c_7 rfl ty_3 (hq hd 2) (SlAt.d_4 (hS.d_7 0 rfl)) (ints_at (by omega))) ?_
    refine dq (fun a w hA hS hd => a_0 rfl (hA.ev rfl)) ?_
    refine dq (fun a w hA hS hd => c_0 rfl m_9 (hq hd 4) (hS.sk 7 rfl)) ?_
    refine dq (fun a w hA hS hd => g_1 rfl (hq hd 5) (evc _ _) (by omega) (by omega)) ?_
    refine ⟨fun a w hA hS hd => by have e3 := hx hd 3; have e6 := hx hd 6; exact d_9 rfl (dv (a_6 rfl v_5 (ev3 (b_9 e3) (evc _ _) (b_9 e6)) (v_4 _ _ _ _)) hS (by show Value.bool _ = _; simp only [(show (inB ((c_1 b l).getD k 0) 0 ((l.length : Int) - 1)) = true from (h_4.2 (by omega))), decide_true, decide_false, Bool.not_true, Bool.not_false])), ?_⟩
    refine dq (fun a w hA hS hd => f_4 rfl (hq hd 7)) ?_
    refine dq (fun a w hA hS hd => a_0 rfl (hq hd 8)) ?_
    refine dy 9 (fun a w hA hS hd => a_0 rfl (hA.ev rfl)) ?_
    refine ⟨fun a w hA hS hd => by have e9 := hx hd 9; have CD := hx hd 10; exact f_1 rfl rfl e9 (dv (g_9 rfl (b_9 CD) (evc _ _)) hS (by show Value.bool _ = _; simp only [decide_eq_true CC, decide_true, decide_false, Bool.not_true, Bool.not_false])), ?_⟩
    refine dy 9 (fun a w hA hS hd => a_0 rfl (hq hd 11)) ?_
    refine dy 12 (fun a w hA hS hd => a_0 rfl (hA.ev rfl)) ?_
    refine dy 12 (fun a w hA hS hd => a_0 rfl (hA.ev rfl)) ?_
    refine dy 12 (fun a w hA hS hd => b_2 rfl h_8 ty_3 (hq hd 13) (i := k) (hq hd 14) (SlAt.d_4 (hS.d_7 0 rfl)) (by decide) (by omega)) ?_
    refine dy 12 (fun a w hA hS hd => c_7 rfl ty_3 (hq hd 15) (SlAt.d_4 (hS.d_7 0 rfl)) (ints_at (by omega))) ?_
    refine dy 12 (fun a w hA hS hd => a_0 rfl (hA.ev rfl)) ?_
    refine dy 12 (fun a w hA hS hd => a_0 rfl (hA.ev rfl)) ?_
    refine dy 12 (fun a w hA hS hd => g_1 rfl (hq hd 18) (evc _ _) (by omega) (by omega)) ?_
    refine dy 12 (fun a w hA hS hd => b_2 rfl h_8 ty_3 (hq hd 17) (i := ((k : Int) - 1).toNat) ((hq hd 19).trans (k_3 (by omega))) (SlAt.d_4 (hS.d_7 0 rfl)) (by decide) (by omega)) ?_
    refine dy 12 (fun a w hA hS hd => c_7 rfl ty_3 (hq hd 20) (SlAt.d_4 (hS.d_7 0 rfl)) (ints_at (by omega))) ?_
    trivial
   intro Cc En Ba CR H; clear BZ C
   have Bb := Ba.add (hz H 9); clear Ba
   have Bc := Bb.add (hz H 12); clear Bb
   have Bd := Bc.add (hz H 16); clear Bc
   have S := Bd.add (hz H 21); clear Bd
   clear H
   refine s5 S (p_1 rfl (S.ev rfl) (S.ev rfl)) fun Cd E => ?_; clear S Cc
   have CU : ¬ (((c_1 b l).getD k 0) ≤ ((c_1 b l).getD (((k : Int) - 1).toNat) 0)) := (by have hz_ := hdb.2.2 k (by omega) (by omega); rw [show ((k : Int) - 1).toNat = k - 1 by omega]; omega)
   rw [decide_eq_false CU] at E
   refine s5 E (b_3 rfl (E.ev rfl) (E.ev rfl)) fun Ce T => ?_; clear E Cd
   refine s1 T (c_2 rfl (T.ev rfl) (T.ev rfl)) fun Cf x => ?_; clear T Ce
   refine n1 ?_
   refine b_5 x rfl ?_
   refine d_1 ?_
   refine g_8 ?_
   refine b_0 ?_
   have y := x.as [(9, (Value.int .i64 (k : Int))), (7, A), (3, (bptr D 0)), (1, xl), (2, xz)] rfl; clear x
   refine a_5 ?_
   refine s1 y (a_0 rfl (y.ev rfl)) fun Cg AA => ?_; clear y Cf
   refine s1 AA (f_6 rfl (AA.ev rfl) (evc _ _) (by omega) (by omega)) fun Ch AC => ?_; clear AA Cg
   refine s1 AC (a_1 rfl (AC.ev rfl)) fun Ee CP => ?_; clear AC Ch
   refine e_8 ?_
   exact b_0 ⟨k + 1, ⟨CP.as _ rfl, CR, by omega⟩, by omega⟩
  skip
  have Be := R.as [(9, (Value.int .i64 (k : Int))), (7, A), (3, (bptr D 0)), (1, xl), (2, xz)] rfl; clear R
  refine g_6 mixed Be C 22 [[], [], [0, 1], [2], [], [4], [5], [3, 6], [7], [8], [9], [9, 10], [9, 11], [12], [12], [12, 13, 14], [12, 15], [12], [12], [12, 18], [12, 17, 19], [12, 20]] [(Yd.val A), (Yd.val (Value.int .i64 (k : Int))), (Yd.val (eptr A (k * 1))), (Yd.val (Value.int .i64 ((c_1 b l).getD k 0))), (Yd.val xl), (Yd.val (Value.int .i64 (l.length : Int))), (Yd.val (Value.int .i64 ((l.length : Int) - 1))), (Yd.val (Value.bool true)), (Yd.val (Value.bool (!true))), (Yd.val (Value.bool (!true))), (Yd.val (Value.int .i64 (k : Int))), (Yd.val (Value.bool false)), (Yd.val (Value.bool false)), (Yd.val undef), (Yd.val undef), (Yd.val undef), (Yd.val undef), (Yd.val undef), (Yd.val undef), (Yd.val undef), (Yd.val undef), (Yd.val undef)] (by decide +kernel) rfl rfl ?_ ?_
  ·skip
   refine dq (fun a w hA hS hd => a_0 rfl (hA.ev rfl)) ?_
   refine dq (fun a w hA hS hd => a_0 rfl (hA.ev rfl)) ?_
   refine dq (fun a w hA hS hd => b_2 rfl h_8 ty_3 (hq hd 0) (i := k) (hq hd 1) (SlAt.d_4 (hS.d_7 0 rfl)) (by decide) (by omega)) ?_
   refine dq (fun a w hA hS hd => c_7 rfl ty_3 (hq hd 2) (SlAt.d_4 (hS.d_7 0 rfl)) (ints_at (by omega))) ?_
   refine dq (fun a w hA hS hd => a_0 rfl (hA.ev rfl)) ?_
   refine dq (fun a w hA hS hd => c_0 rfl m_9 (hq hd 4) (hS.sk 7 rfl)) ?_
   refine dq (fun a w hA hS hd => g_1 rfl (hq hd 5) (evc _ _) (by omega) (by omega)) ?_
   refine ⟨fun a w hA hS hd => by have e3 := hx hd 3; have e6 := hx hd 6; exact d_9 rfl (dv (a_6 rfl v_5 (ev3 (b_9 e3) (evc _ _) (b_9 e6)) (v_4 _ _ _ _)) hS (by show Value.bool _ = _; simp only [(show (inB ((c_1 b l).getD k 0) 0 ((l.length : Int) - 1)) = true from (h_4.2 (by omega))), decide_true, decide_false, Bool.not_true, Bool.not_false])), ?_⟩
   refine dq (fun a w hA hS hd => f_4 rfl (hq hd 7)) ?_
   refine dq (fun a w hA hS hd => a_0 rfl (hq hd 8)) ?_
   refine dy 9 (fun a w hA hS hd => a_0 rfl (hA.ev rfl)) ?_
   refine ⟨fun a w hA hS hd => by have e9 := hx hd 9; have CD := hx hd 10; exact f_1 rfl rfl e9 (dv (g_9 rfl (b_9 CD) (evc _ _)) hS (by show Value.bool _ = _; simp only [decide_eq_false CC, decide_true, decide_false, Bool.not_true, Bool.not_false])), ?_⟩
   refine dy 9 (fun a w hA hS hd => a_0 rfl (hq hd 11)) ?_
   refine dn 12 ?_
   refine dn 12 ?_
   refine dn 12 ?_
   refine dn 12 ?_
   refine dn 12 ?_
   refine dn 12 ?_
   refine dn 12 ?_
   refine dn 12 ?_
   refine dn 12 ?_
   trivial
  intro Ci Eo Bf CS I; clear Be C
  have Bg := Bf.add (hz I 9); clear Bf
  have Bh := Bg.add (hz I 12); clear Bg
  have Bi := Bh.add (hz I 16); clear Bh
  have Bj := Bi.add (hz I 21); clear Bi
  clear I
  refine s3 Bj fun Cj AD => ?_; clear Bj Ci
  refine s5 AD (c_2 rfl (AD.ev rfl) (evc _ _)) fun Ck U => ?_; clear AD Cj
  refine s1 U (c_2 rfl (U.ev rfl) (U.ev rfl)) fun Cl AE => ?_; clear U Ck
  refine n1 ?_
  refine b_5 AE rfl ?_
  refine d_1 ?_
  refine g_8 ?_
  refine b_0 ?_
  have AF := AE.as [(9, (Value.int .i64 (k : Int))), (7, A), (3, (bptr D 0)), (1, xl), (2, xz)] rfl; clear AE
  refine a_5 ?_
  refine s1 AF (a_0 rfl (AF.ev rfl)) fun Cm AG => ?_; clear AF Cl
  refine s1 AG (f_6 rfl (AG.ev rfl) (evc _ _) (by omega) (by omega)) fun Cn AH => ?_; clear AG Cm
  refine s1 AH (a_1 rfl (AH.ev rfl)) fun Ef CQ => ?_; clear AH Cn
  refine e_8 ?_
  exact b_0 ⟨k + 1, ⟨CQ.as _ rfl, CS, by omega⟩, by omega⟩
 skip
 rw [decide_eq_false CB] at B
 refine b_5 B rfl ?_
 refine h_1 ?_
 refine b_4 ?_
 refine b_4 ?_
 refine f_7 ?_
 refine b_0 ?_
 refine m2 ?_
 refine s1 B (c_4 rfl r_4 (B.ev rfl) (C.bk 4 rfl) (l := [(Value.int .i64 b.scales), vt, vm]) rfl rfl) fun Co AI => ?_; clear B Cb
 refine s2 AI (a_6 rfl aa_0 (ev1 (AI.ev rfl)) (n_3 b vt vm lr lb lk _ (b_6 (C.ok 5 _ rfl)) (b_8 (C.ok 6 _ rfl)) hth)) ?_
 rintro Cp _ Ep ⟨vt163, vm164, lr165, lb166, lk167, rfl, B7⟩ AJ; have A5 := C.l_5 B7 rfl; clear B7 AI C Co
 refine s1 AJ (a_0 rfl (AJ.ev rfl)) fun Cq AK => ?_; clear AJ Cp
 refine s2 AK (a_6 rfl aa_1 (ev1 (AK.ev rfl)) (h_9 l _ _ (A5.sk 9 rfl) (by omega))) ?_
 rintro Cr D2 Eq ⟨By, hO176⟩ V; have J := A5.h_7 By hO176; clear By hO176 AK A5 Cq
 refine s2 V (a_6 rfl ab_5 (ev2 (V.ev rfl) (V.ev rfl)) (Spans_none b vt163 vm164 lr165 lb166 lk167 _ (b_6 (J.ok 1 _ rfl)) (b_8 (J.ok 2 _ rfl)) hth l _ (SlAt.d_4 (J.d_7 0 rfl)) (by omega) hr hs)) ?_
 rintro Cs _ Er ⟨rfl, Bz⟩ AL; have K := J.step Bz; clear Bz V J Cr
 refine s1 AL (a_0 rfl (AL.ev rfl)) fun Ct AM => ?_; clear AL Cs
 refine s1 AM (c_3 rfl (AM.ev rfl) rfl) fun Cu AN => ?_; clear AM Ct
 refine s1 AN (c_3 rfl (AN.ev rfl) rfl) fun Cv AO => ?_; clear AN Cu
 refine s1 AO (a_1 rfl (AO.ev rfl)) fun Cw AP => ?_; clear AO Cv
 refine s1 AP (a_1 rfl (AP.ev rfl)) fun Cx Bk => ?_; clear AP Cw
 refine n2 ?_
 have AQ := Bk.as [(11, (Value.int .i64 (spE b l))), (7, A), (3, (bptr D 0)), (1, xl), (2, xz)] rfl; clear Bk
 refine a_5 ?_
 refine s1 AQ (c_4 rfl r_4 (AQ.ev rfl) (K.bk 7 rfl) (l := [(Value.int .i64 b.scales), vt, vm]) rfl rfl) fun Cy AR => ?_; clear AQ Cx
 refine s2 AR (a_6 rfl aa_0 (ev1 (AR.ev rfl)) (n_3 b vt vm lr lb lk _ (b_6 (K.ok 8 _ rfl)) (b_8 (K.ok 9 _ rfl)) hth)) ?_
 rintro Cz _ Es ⟨vt200, vm201, lr202, lb203, lk204, rfl, B8⟩ AS; have m := K.l_5 B8 rfl; clear B8 AR K Cy
 refine s1 AS (a_0 rfl (AS.ev rfl)) fun C0 AT => ?_; clear AS Cz
 refine s1 AT (a_0 rfl (AT.ev rfl)) fun C1 W => ?_; clear AT C0
 refine s2 W (a_6 rfl ab_9 (ev2 (W.ev rfl) (W.ev rfl)) (k_9 l _ _ (m.sk 12 rfl) (c_1 b l) _ (SlAt.d_4 (m.d_7 5 rfl)) (by omega) (by omega))) ?_
 rintro C2 D3 Et ⟨B0, hO215⟩ AU; have A6 := m.h_7 B0 hO215; clear B0 hO215 W m C1
 refine s2 AU (a_6 rfl aa_1 (ev1 (AU.ev rfl)) (h_9 (woF l (c_1 b l)) _ _ (SlAt.d_4 (A6.d_7 0 rfl)) (by omega))) ?_
 rintro C3 D4 Eu ⟨B1, hO222⟩ X; have L := A6.h_7 B1 hO222; clear B1 hO222 AU A6 C2
 refine s2 X (a_6 rfl ab_5 (ev2 (X.ev rfl) (X.ev rfl)) (s_3 b vt200 vm201 lr202 lb203 lk204 _ (b_6 (L.ok 2 _ rfl)) (b_8 (L.ok 3 _ rfl)) hth (woF l (c_1 b l)) _ (SlAt.d_4 (L.d_7 0 rfl)) (by omega) td hrd2 hsd)) ?_
 rintro C4 _ D5 ⟨D1, rfl, B9⟩ AV
 have M : Sep NoB w D5 [(row D1 30 2 td.length (pairs td)), (row D4 98 2 ((woF l (c_1 b l)).length) (pairs (woF l (c_1 b l)))), (row D3 67 2 ((woF l (c_1 b l)).length) (pairs (woF l (c_1 b l)))), (c_9 true vt200 lr202 lb203 b.tabs), (d_2 true vm201 lk204 b.macs), (row D2 98 2 l.length (pairs l)), (c_9 true vt163 lr165 lb166 b.tabs), (d_2 true vm164 lk167 b.macs), (row A 3 1 ((c_1 b l).length) (ints (c_1 b l))), (row CO 98 2 l.length (pairs l)), (c_9 true vt37 lr39 lb40 b.tabs), (d_2 true vm38 lk41 b.macs), (blk D 25 [(Value.int .i64 b.scales), vt, vm]), (c_9 false vt lr lb b.tabs), (d_2 false vm lk b.macs), (sl xl 2 l.length (pairs l)), (sl xz 1 z.length (ints z))] := L.l_5 B9 rfl; clear B9 X L C3
 refine s1 AV (a_0 rfl (AV.ev rfl)) fun C5 AW => ?_; clear AV C4
 refine s1 AW (c_3 rfl (AW.ev rfl) rfl) fun C6 AX => ?_; clear AW C5
 refine s1 AX (c_3 rfl (AX.ev rfl) rfl) fun C7 AY => ?_; clear AX C6
 refine s1 AY (a_1 rfl (AY.ev rfl)) fun C8 AZ => ?_; clear AY C7
 refine s1 AZ (a_1 rfl (AZ.ev rfl)) fun C9 Bl => ?_; clear AZ C8
 refine n2 ?_
 have Aa := Bl.as [(13, (Value.int .i64 0)), (11, (Value.int .i64 (spE b l))), (7, A), (3, (bptr D 0)), (1, xl), (2, xz)] rfl; clear Bl
 refine a_5 ?_
 refine s1 Aa (c_4 rfl r_4 (Aa.ev rfl) (M.bk 12 rfl) (l := [(Value.int .i64 b.scales), vt, vm]) rfl rfl) fun DA Ab => ?_; clear Aa C9
 refine s2 Ab (a_6 rfl aa_0 (ev1 (Ab.ev rfl)) (n_3 b vt vm lr lb lk _ (b_6 (M.ok 13 _ rfl)) (b_8 (M.ok 14 _ rfl)) hth)) ?_
 rintro DB _ Ev ⟨vt247, vm248, lr249, lb250, lk251, rfl, CA⟩ Ac; have n := M.l_5 CA rfl; clear CA Ab M DA
 refine s1 Ac (a_0 rfl (Ac.ev rfl)) fun DC Ad => ?_; clear Ac DB
 refine s1 Ad (a_0 rfl (Ad.ev rfl)) fun DD Y => ?_; clear Ad DC
 refine s2 Y (a_6 rfl ab_9 (ev2 (Y.ev rfl) (Y.ev rfl)) (k_9 l _ _ (n.sk 17 rfl) z _ (n.sk 18 rfl) (by omega) (by omega))) ?_
 rintro DE Ek Ew ⟨B2, hO262⟩ Ae; have A7 := n.h_7 B2 hO262; clear B2 hO262 Y n DD
 refine s2 Ae (a_6 rfl aa_1 (ev1 (Ae.ev rfl)) (h_9 (woF l z) _ _ (SlAt.d_4 (A7.d_7 0 rfl)) (by omega))) ?_
 rintro DF El Ex ⟨B3, hO269⟩ Z; have N := A7.h_7 B3 hO269; clear B3 hO269 Ae A7 DE
 refine s2 Z (a_6 rfl ab_5 (ev2 (Z.ev rfl) (Z.ev rfl)) (Spans_none b vt247 vm248 lr249 lb250 lk251 _ (b_6 (N.ok 2 _ rfl)) (b_8 (N.ok 3 _ rfl)) hth (woF l z) _ (SlAt.d_4 (N.d_7 0 rfl)) (by omega) hrw hw)) ?_
 rintro DG _ Ey ⟨rfl, B4⟩ Af; have O := N.step B4; clear B4 Z N DF
 refine s1 Af (a_0 rfl (Af.ev rfl)) fun DH Ag => ?_; clear Af DG
 refine s1 Ag (c_3 rfl (Ag.ev rfl) rfl) fun DI Ah => ?_; clear Ag DH
 refine s1 Ah (c_3 rfl (Ah.ev rfl) rfl) fun DJ Ai => ?_; clear Ah DI
 refine s1 Ai (a_1 rfl (Ai.ev rfl)) fun DK Aj => ?_; clear Ai DJ
 refine s1 Aj (a_1 rfl (Aj.ev rfl)) fun DL Bm => ?_; clear Aj DK
 refine n2 ?_
 have Ak := Bm.as [(15, (Value.int .i64 (spE b (woF l z)))), (13, (Value.int .i64 0)), (11, (Value.int .i64 (spE b l))), (7, A), (1, xl), (2, xz)] rfl; clear Bm
 refine a_5 ?_
 refine s1 Ak (a_0 rfl (Ak.ev rfl)) fun DM Al => ?_; clear Ak DL
 refine s1 Al (c_0 rfl m_9 (Al.ev rfl) (O.sk 19 rfl)) fun DN Am => ?_; clear Al DM
 refine s1 Am (a_0 rfl (Am.ev rfl)) fun DO An => ?_; clear Am DN
 refine s1 An (a_0 rfl (An.ev rfl)) fun DP c => ?_; clear An DO
 refine s2 c (a_6 rfl ab_9 (ev2 (c.ev rfl) (c.ev rfl)) (k_9 l _ _ (O.sk 19 rfl) z _ (O.sk 20 rfl) (by omega) (by omega))) ?_
 rintro DQ Em Ez ⟨B5, hO300⟩ Ao; have o := O.h_7 B5 hO300; clear B5 hO300 c O DP
 refine s1 Ao (c_0 rfl m_9 (Ao.ev rfl) (SlAt.d_4 (o.d_7 0 rfl))) fun DR d => ?_; clear Ao DQ
 refine s1 d (g_1 rfl (d.ev rfl) (d.ev rfl) (by omega) (by omega)) fun DS Ap => ?_; clear d DR
 refine s1 Ap (a_1 rfl (Ap.ev rfl)) fun DT Bn => ?_; clear Ap DS
 refine n2 ?_
 have Aq := Bn.as [(16, (Value.int .i64 ((l.length : Int) - ((woF l z).length : Int)))), (15, (Value.int .i64 (spE b (woF l z)))), (13, (Value.int .i64 0)), (11, (Value.int .i64 (spE b l))), (7, A)] rfl; clear Bn
 refine a_5 ?_
 refine s1 Aq (a_0 rfl (Aq.ev rfl)) fun DU Ar => ?_; clear Aq DT
 refine s1 Ar (j_8 rfl (Ar.ev rfl) (evc _ _)) fun DV e => ?_; clear Ar DU
 have CV : ¬ ((spE b l) = 0) := (by rw [spE_9 hr hs]; decide)
 rw [decide_eq_false CV] at e
 refine s1 e (a_0 rfl (e.ev rfl)) fun DW As => ?_; clear e DV
 refine s1 As (c_0 rfl h_8 (As.ev rfl) (SlAt.d_4 (o.d_7 13 rfl))) fun DX At => ?_; clear As DW
 refine s1 At (j_8 rfl (At.ev rfl) (evc _ _)) fun DY F => ?_; clear At DX
 have CW : ¬ (((c_1 b l).length : Int) = 0) := (by omega)
 rw [decide_eq_false CW] at F
 refine s1 F (op_eqlB un_4 rfl (F.ev rfl) (F.ev rfl)) fun DZ Au => ?_; clear F DY
 refine s1 Au (a_0 rfl (Au.ev rfl)) fun Da Av => ?_; clear Au DZ
 refine s5 Av (a_0 rfl (Av.ev rfl)) fun Db Aw => ?_; clear Av Da
 refine s5 Aw (j_8 rfl (Aw.ev rfl) (evc _ _)) fun Dc f => ?_; clear Aw Db
 refine s1 f (b_3 rfl (f.ev rfl) (f.ev rfl)) fun Dd Ax => ?_; clear f Dc
 refine s1 Ax (a_0 rfl (Ax.ev rfl)) fun De Ay => ?_; clear Ax Dd
 refine s5 Ay (a_0 rfl (Ay.ev rfl)) fun Df Az => ?_; clear Ay De
 refine s5 Az (j_8 rfl (Az.ev rfl) (evc _ _)) fun Dg g => ?_; clear Az Df
 have CX : (spE b (woF l z)) = 9 := (spE_9 hrw hw)
 rw [decide_eq_true CX] at g
 refine s5 g (a_0 rfl (g.ev rfl)) fun Dh Bo => ?_; clear g Dg
 refine s3 Bo fun Di Bp => ?_; clear Bo Dh
 refine s3 Bp fun Dj Bq => ?_; clear Bp Di
 refine s3 Bq fun Dk Br => ?_; clear Bq Dj
 refine s4 Br fun Dl Bs => ?_; clear Br Dk
 refine s4 Bs fun Dm Bt => ?_; clear Bs Dl
 refine s4 Bt fun Dn Bu => ?_; clear Bt Dm
 refine s4 Bu fun Do Bv => ?_; clear Bu Dn
 refine s3 Bv fun Dp A0 => ?_; clear Bv Do
 refine s5 A0 (b_3 rfl (A0.ev rfl) (evc _ _)) fun Dq h => ?_; clear A0 Dp
 refine s1 h (b_3 rfl (h.ev rfl) (h.ev rfl)) fun Dr A1 => ?_; clear h Dq
 refine s1 A1 (a_0 rfl (A1.ev rfl)) fun Ds Bw => ?_; clear A1 Dr
 refine s6 Bw (a_6 rfl en_17 ev0 (awake_ok _)) ?_
 rintro Dt _ E0 ⟨rfl, B6⟩ j; have CT := o.step B6; clear B6 Bw o Ds
 refine s1 j (b_3 rfl (j.ev rfl) (j.ev rfl)) fun Du A2 => ?_; clear j Dt
 refine s1 A2 (a_1 rfl (A2.ev rfl)) fun Eg Bx => ?_; clear A2 Du
 refine n1 ?_
 refine c_8 ?_
 refine a_9 Bx (.inl rfl) (a_2 Bx rfl (.tmp rfl)) ?_
 exact ⟨rfl, CT.ext⟩
set_option maxHeartbeats 4000000 in
theorem HardDoubtful_c (b : h_0) (vt vm : Value) (lr lb lk : Nat → Value) (w : World) (hT : j_6 w vt lr lb b.tabs) (hM : k_4 w vm lk b.macs) (l : List (Int × Int)) (xl : Value) (hxl : SlAt w xl 2 l.length (pairs l)) (z : List Int) (xz : Value) (hxz : SlAt w xz 1 z.length (ints z)) (hf : p_2 b l = true) (hzn : z.length ≤ 9) (hs : i_7 b l = none) (tw : h_2) (hw : i_7 b (woF l z) = some tw) :
  Calls Try.prog 13 #[(Value.agg #[(Value.int .i64 b.scales), vt, vm]), xl, xz] w (Ret fun v w' => v = .bool true ∧ Ext NoB w w') := by
 refine a_8 Try.func13 rfl fun a0 BH => ?_
 replace BH : Fr 137 [] [(0, (Value.agg #[(Value.int .i64 b.scales), vt, vm])), (1, xl), (2, xz)] a0 := BH
 have hrd := ready_is hf; have hth := hrd.1; have En := hrd.2.1; have hr := hrd.2.2; have htl9 := hth.tl; have hml9 := hth.ml; have hc := o_6 hr; have hbl := z_7 hr; have hb := hbl.1; have hl := hbl.2; have E3 := hb.scales; have hdb := doubt_bd hb l; have hll := hl.len; have hwl1 := wo_len l z; have hwl2 := wo_len l (c_1 b l); have hrw := z_8 hr z; have hrd2 := z_8 hr (c_1 b l); obtain ⟨td, hsd⟩ := doubt_some hb l; have E2 := doubt_pos hb hs; have hdl := doubt_few hb hw
 have Cd : Sep NoB w w [(c_9 false vt lr lb b.tabs), (d_2 false vm lk b.macs), (sl xl 2 l.length (pairs l)), (sl xz 1 z.length (ints z))] := f_0 ⟨rfl, hT, rfl, hM, rfl, hxl, rfl, hxz, trivial⟩
 refine m2 ?_
 refine s2 BH (f_3 Cd rfl (BH.ev rfl) (cs := [(Value.int .i64 b.scales), vt, vm]) rfl) ?_
 rintro a1 _ w3 ⟨D, rfl, u⟩ Cc; clear BH Cd a0
 refine s1 Cc (a_1 rfl (evc _ _)) fun a6 CG => ?_; clear Cc a1
 refine n2 ?_
 refine m2 ?_
 refine s1 CG (c_4 rfl r_4 (CG.ev rfl) (u.bk 0 rfl) (l := [(Value.int .i64 b.scales), vt, vm]) rfl rfl) fun a8 CI => ?_; clear CG a6
 refine s1 CI (a_0 rfl (CI.ev rfl)) fun EB y => ?_; clear CI a8
 refine s2 y (a_6 rfl en_29 (ev2 (y.ev rfl) (y.ev rfl)) (ready_ok b vt vm lr lb lk _ (b_6 (u.ok 1 _ rfl)) (b_8 (u.ok 2 _ rfl)) l _ (u.sk 3 rfl))) ?_
 rintro EC _ E4 ⟨rfl, CL⟩ AD; have R := u.step CL; clear CL y u EB
 have D2 : (p_2 b l) = true := hf
 rw [D2] at AD
 refine s1 AD (f_4 rfl (AD.ev rfl)) fun ED BI => ?_; clear AD EC
 refine s1 BI (a_0 rfl (BI.ev rfl)) fun EE BJ => ?_; clear BI ED
 refine s5 BJ (a_0 rfl (BJ.ev rfl)) fun EF BK => ?_; clear BJ EE
 refine s5 BK (c_0 rfl h_8 (BK.ev rfl) (R.sk 4 rfl)) fun EG BL => ?_; clear BK EF
 refine s5 BL (g_9 rfl (BL.ev rfl) (evc _ _)) fun EH r => ?_; clear BL EG
 have D3 : ¬ (9 < (z.length : Int)) := (by omega)
 rw [decide_eq_false D3] at r
 refine s1 r (c_2 rfl (r.ev rfl) (r.ev rfl)) fun EI BM => ?_; clear r EH
 refine n1 ?_
 refine b_5 BM rfl ?_
 refine d_1 ?_
 refine b_0 ?_
 refine b_7 ?_
 have BN := BM.as [(3, (bptr D 0)), (1, xl), (2, xz)] rfl; clear BM
 refine a_5 ?_
 refine s1 BN (c_4 rfl r_4 (BN.ev rfl) (R.bk 0 rfl) (l := [(Value.int .i64 b.scales), vt, vm]) rfl rfl) fun EJ BO => ?_; clear BN EI
 refine s2 BO (a_6 rfl aa_0 (ev1 (BO.ev rfl)) (n_3 b vt vm lr lb lk _ (b_6 (R.ok 1 _ rfl)) (b_8 (R.ok 2 _ rfl)) hth)) ?_
 rintro EK _ E5 ⟨vt37, vm38, lr39, lb40, lk41, rfl, CN⟩ BP; have Bg := R.l_5 CN rfl; clear CN BO R EJ
 refine s1 BP (a_0 rfl (BP.ev rfl)) fun EL BQ => ?_; clear BP EK
 refine s2 BQ (a_6 rfl aa_1 (ev1 (BQ.ev rfl)) (h_9 l _ _ (Bg.sk 5 rfl) (by omega))) ?_
 rintro EM CD E6 ⟨CM, hO50⟩ BB; have t := Bg.h_7 CM hO50; clear CM hO50 BQ Bg EL
 refine s2 BB (a_6 rfl en_41 (ev2 (BB.ev rfl) (BB.ev rfl)) (Doubt_ok b vt37 vm38 lr39 lb40 lk41 _ (b_6 (t.ok 1 _ rfl)) (b_8 (t.ok 2 _ rfl)) hth l _ (SlAt.d_4 (t.d_7 0 rfl)) (by omega) hr)) ?_
 rintro EN _ Eg ⟨A, rfl, CO⟩ BR
 have BG : Sep NoB w Eg [(row A 3 1 ((c_1 b l).length) (ints (c_1 b l))), (row CD 98 2 l.length (pairs l)), (c_9 true vt37 lr39 lb40 b.tabs), (d_2 true vm38 lk41 b.macs), (blk D 25 [(Value.int .i64 b.scales), vt, vm]), (c_9 false vt lr lb b.tabs), (d_2 false vm lk b.macs), (sl xl 2 l.length (pairs l)), (sl xz 1 z.length (ints z))] := t.l_5 CO rfl; clear CO BB t EM
 refine s1 BR (a_0 rfl (BR.ev rfl)) fun EO BS => ?_; clear BR EN
 refine s1 BS (c_3 rfl (BS.ev rfl) rfl) fun EP BT => ?_; clear BS EO
 refine s1 BT (c_3 rfl (BT.ev rfl) rfl) fun EQ BU => ?_; clear BT EP
 refine s1 BU (a_1 rfl (BU.ev rfl)) fun ER BV => ?_; clear BU EQ
 refine s1 BV (a_1 rfl (BV.ev rfl)) fun ES CF => ?_; clear BV ER
 refine n2 ?_
 refine b_7 ?_
 have BW := CF.as [(8, (Value.int .i64 0)), (7, A), (3, (bptr D 0)), (1, xl), (2, xz)] rfl; clear CF
 refine a_5 ?_
 refine s1 BW (a_0 rfl (BW.ev rfl)) fun ET BX => ?_; clear BW ES
 refine s1 BX (y_6 rfl (BX.ev rfl) (evc _ _)) fun EU BY => ?_; clear BX ET
 refine s1 BY (a_0 rfl (BY.ev rfl)) fun EV BZ => ?_; clear BY EU
 refine s5 BZ (a_0 rfl (BZ.ev rfl)) fun EW Ba => ?_; clear BZ EV
 refine s5 Ba (c_0 rfl h_8 (Ba.ev rfl) (SlAt.d_4 (BG.d_7 0 rfl))) fun EX Bb => ?_; clear Ba EW
 refine s5 Bb (a_0 rfl (Bb.ev rfl)) fun EY Bc => ?_; clear Bb EX
 refine s5 Bc (c_0 rfl m_9 (Bc.ev rfl) (BG.sk 7 rfl)) fun EZ BC => ?_; clear Bc EY
 refine s5 BC (g_9 rfl (BC.ev rfl) (BC.ev rfl)) fun Ea s => ?_; clear BC EZ
 have D4 : ¬ ((l.length : Int) < ((c_1 b l).length : Int)) := (by omega)
 rw [decide_eq_false D4] at s
 refine s1 s (c_2 rfl (s.ev rfl) (s.ev rfl)) fun Eb Bd => ?_; clear s Ea
 refine n1 ?_
 refine b_5 Bd rfl ?_
 refine d_1 ?_
 refine b_0 ?_
 refine b_7 ?_
 refine b_7 ?_
 have CH := Bd.as [(7, A), (3, (bptr D 0)), (1, xl), (2, xz)] rfl; clear Bd
 refine a_5 ?_
 refine s1 CH (a_1 rfl (evc _ _)) fun Ec CJ => ?_; clear CH Eb
 refine n1 ?_
 refine d_0 ?_
 have CK := CJ.as [(9, (Value.int .i64 0)), (7, A), (3, (bptr D 0)), (1, xl), (2, xz)] rfl; clear CJ
 refine h_3 (G := Nat) (fun (k : Nat) a_ w_ => Fr 137 [] [(9, (Value.int .i64 (k : Int))), (7, A), (3, (bptr D 0)), (1, xl), (2, xz)] a_ ∧ Sep NoB w w_ [(row A 3 1 ((c_1 b l).length) (ints (c_1 b l))), (row CD 98 2 l.length (pairs l)), (c_9 true vt37 lr39 lb40 b.tabs), (d_2 true vm38 lk41 b.macs), (blk D 25 [(Value.int .i64 b.scales), vt, vm]), (c_9 false vt lr lb b.tabs), (d_2 false vm lk b.macs), (sl xl 2 l.length (pairs l)), (sl xz 1 z.length (ints z))] ∧ (k ≤ (c_1 b l).length)) (fun k => (c_1 b l).length - k) 0 ⟨CK.as _ rfl, BG, by omega⟩ ?_
 clear CK BG Ec
 rintro k Ed E7 ⟨Be, C, hkk⟩
 refine b_7 ?_
 refine m2 ?_
 refine s1 Be (a_0 rfl (Be.ev rfl)) fun Ee Bf => ?_; clear Be Ed
 refine s1 Bf (a_0 rfl (Bf.ev rfl)) fun Ef x => ?_; clear Bf Ee
 refine s1 x (c_0 rfl h_8 (x.ev rfl) (SlAt.d_4 (C.d_7 0 rfl))) fun Ce S => ?_; clear x Ef
 refine s1 S (f_9 rfl (S.ev rfl) (S.ev rfl)) fun Cf B => ?_; clear S Ce
 refine n1 ?_
 by_cases CB : (k : Int) < ((c_1 b l).length : Int)
 ·skip
  rw [decide_eq_true CB] at B
  have hbk := hdb.2.1 k (by omega)
  refine c_6 B rfl ?_
  refine d_1 ?_
  refine b_0 ?_
  refine b_7 ?_
  refine d_0 ?_
  refine b_7 ?_
  have T := B.as [(9, (Value.int .i64 (k : Int))), (7, A), (3, (bptr D 0)), (1, xl), (2, xz)] rfl; clear B
  by_cases CC : 0 < (k : Int)
  ·skip
   have Bh := T.as [(9, (Value.int .i64 (k : Int))), (7, A), (3, (bptr D 0)), (1, xl), (2, xz)] rfl; clear T
   refine g_6 mixed Bh C 22 [[], [], [0, 1], [2], [], [4], [5], [3, 6], [7], [8], [9], [9, 10], [9, 11], [12], [12], [12, 13, 14], [12, 15], [12], [12], [12, 18], [12, 17, 19], [12, 20]] [(Yd.val A), (Yd.val (Value.int .i64 (k : Int))), (Yd.val (eptr A (k * 1))), (Yd.val (Value.int .i64 ((c_1 b l).getD k 0))), (Yd.val xl), (Yd.val (Value.int .i64 (l.length : Int))), (Yd.val (Value.int .i64 ((l.length : Int) - 1))), (Yd.val (Value.bool true)), (Yd.val (Value.bool (!true))), (Yd.val (Value.bool (!true))), (Yd.val (Value.int .i64 (k : Int))), (Yd.val (Value.bool true)), (Yd.val (Value.bool true)), (Yd.val A), (Yd.val (Value.int .i64 (k : Int))), (Yd.val (eptr A (k * 1))), (Yd.val (Value.int .i64 ((c_1 b l).getD k 0))), (Yd.val A), (Yd.val (Value.int .i64 (k : Int))), (Yd.val (Value.int .i64 ((k : Int) - 1))), (Yd.val (eptr A (((k : Int) - 1).toNat * 1))), (Yd.val (Value.int .i64 ((c_1 b l).getD (((k : Int) - 1).toNat) 0)))] (by decide +kernel) rfl rfl ?_ ?_
   ·skip
    refine dq (fun a w hA hS hd => a_0 rfl (hA.ev rfl)) ?_
    refine dq (fun a w hA hS hd => a_0 rfl (hA.ev rfl)) ?_
    refine dq (fun a w hA hS hd => b_2 rfl h_8 ty_3 (hq hd 0) (i := k) (hq hd 1) (SlAt.d_4 (hS.d_7 0 rfl)) (by decide) (by omega)) ?_
    refine dq (fun a w hA hS hd => c_7 rfl ty_3 (hq hd 2) (SlAt.d_4 (hS.d_7 0 rfl)) (ints_at (by omega))) ?_
    refine dq (fun a w hA hS hd => a_0 rfl (hA.ev rfl)) ?_
    refine dq (fun a w hA hS hd => c_0 rfl m_9 (hq hd 4) (hS.sk 7 rfl)) ?_
    refine dq (fun a w hA hS hd => g_1 rfl (hq hd 5) (evc _ _) (by omega) (by omega)) ?_
    refine ⟨fun a w hA hS hd => by have e3 := hx hd 3; have e6 := hx hd 6; exact d_9 rfl (dv (a_6 rfl v_5 (ev3 (b_9 e3) (evc _ _) (b_9 e6)) (v_4 _ _ _ _)) hS (by show Value.bool _ = _; simp only [(show (inB ((c_1 b l).getD k 0) 0 ((l.length : Int) - 1)) = true from (h_4.2 (by omega))), decide_true, decide_false, Bool.not_true, Bool.not_false])), ?_⟩
    refine dq (fun a w hA hS hd => f_4 rfl (hq hd 7)) ?_
    refine dq (fun a w hA hS hd => a_0 rfl (hq hd 8)) ?_
    refine dy 9 (fun a w hA hS hd => a_0 rfl (hA.ev rfl)) ?_
    refine ⟨fun a w hA hS hd => by have e9 := hx hd 9; have CE := hx hd 10; exact f_1 rfl rfl e9 (dv (g_9 rfl (b_9 CE) (evc _ _)) hS (by show Value.bool _ = _; simp only [decide_eq_true CC, decide_true, decide_false, Bool.not_true, Bool.not_false])), ?_⟩
    refine dy 9 (fun a w hA hS hd => a_0 rfl (hq hd 11)) ?_
    refine dy 12 (fun a w hA hS hd => a_0 rfl (hA.ev rfl)) ?_
    refine dy 12 (fun a w hA hS hd => a_0 rfl (hA.ev rfl)) ?_
    refine dy 12 (fun a w hA hS hd => b_2 rfl h_8 ty_3 (hq hd 13) (i := k) (hq hd 14) (SlAt.d_4 (hS.d_7 0 rfl)) (by decide) (by omega)) ?_
    refine dy 12 (fun a w hA hS hd => c_7 rfl ty_3 (hq hd 15) (SlAt.d_4 (hS.d_7 0 rfl)) (ints_at (by omega))) ?_
    refine dy 12 (fun a w hA hS hd => a_0 rfl (hA.ev rfl)) ?_
    refine dy 12 (fun a w hA hS hd => a_0 rfl (hA.ev rfl)) ?_
    refine dy 12 (fun a w hA hS hd => g_1 rfl (hq hd 18) (evc _ _) (by omega) (by omega)) ?_
    refine dy 12 (fun a w hA hS hd => b_2 rfl h_8 ty_3 (hq hd 17) (i := ((k : Int) - 1).toNat) ((hq hd 19).trans (k_3 (by omega))) (SlAt.d_4 (hS.d_7 0 rfl)) (by decide) (by omega)) ?_
    refine dy 12 (fun a w hA hS hd => c_7 rfl ty_3 (hq hd 20) (SlAt.d_4 (hS.d_7 0 rfl)) (ints_at (by omega))) ?_
    trivial
   intro Cg Ep Bi CV I; clear Bh C
   have Bj := Bi.add (hz I 9); clear Bi
   have Bk := Bj.add (hz I 12); clear Bj
   have Bl := Bk.add (hz I 16); clear Bk
   have U := Bl.add (hz I 21); clear Bl
   clear I
   refine s5 U (p_1 rfl (U.ev rfl) (U.ev rfl)) fun Ch E => ?_; clear U Cg
   have CY : ¬ (((c_1 b l).getD k 0) ≤ ((c_1 b l).getD (((k : Int) - 1).toNat) 0)) := (by have hz_ := hdb.2.2 k (by omega) (by omega); rw [show ((k : Int) - 1).toNat = k - 1 by omega]; omega)
   rw [decide_eq_false CY] at E
   refine s5 E (b_3 rfl (E.ev rfl) (E.ev rfl)) fun Ci V => ?_; clear E Ch
   refine s1 V (c_2 rfl (V.ev rfl) (V.ev rfl)) fun Cj AA => ?_; clear V Ci
   refine n1 ?_
   refine b_5 AA rfl ?_
   refine d_1 ?_
   refine g_8 ?_
   refine b_0 ?_
   have AB := AA.as [(9, (Value.int .i64 (k : Int))), (7, A), (3, (bptr D 0)), (1, xl), (2, xz)] rfl; clear AA
   refine a_5 ?_
   refine s1 AB (a_0 rfl (AB.ev rfl)) fun Ck AC => ?_; clear AB Cj
   refine s1 AC (f_6 rfl (AC.ev rfl) (evc _ _) (by omega) (by omega)) fun Cl AE => ?_; clear AC Ck
   refine s1 AE (a_1 rfl (AE.ev rfl)) fun Ei CT => ?_; clear AE Cl
   refine e_8 ?_
   exact b_0 ⟨k + 1, ⟨CT.as _ rfl, CV, by omega⟩, by omega⟩
  skip
  have Bm := T.as [(9, (Value.int .i64 (k : Int))), (7, A), (3, (bptr D 0)), (1, xl), (2, xz)] rfl; clear T
  refine g_6 mixed Bm C 22 [[], [], [0, 1], [2], [], [4], [5], [3, 6], [7], [8], [9], [9, 10], [9, 11], [12], [12], [12, 13, 14], [12, 15], [12], [12], [12, 18], [12, 17, 19], [12, 20]] [(Yd.val A), (Yd.val (Value.int .i64 (k : Int))), (Yd.val (eptr A (k * 1))), (Yd.val (Value.int .i64 ((c_1 b l).getD k 0))), (Yd.val xl), (Yd.val (Value.int .i64 (l.length : Int))), (Yd.val (Value.int .i64 ((l.length : Int) - 1))), (Yd.val (Value.bool true)), (Yd.val (Value.bool (!true))), (Yd.val (Value.bool (!true))), (Yd.val (Value.int .i64 (k : Int))), (Yd.val (Value.bool false)), (Yd.val (Value.bool false)), (Yd.val undef), (Yd.val undef), (Yd.val undef), (Yd.val undef), (Yd.val undef), (Yd.val undef), (Yd.val undef), (Yd.val undef), (Yd.val undef)] (by decide +kernel) rfl rfl ?_ ?_
  ·skip
   refine dq (fun a w hA hS hd => a_0 rfl (hA.ev rfl)) ?_
   refine dq (fun a w hA hS hd => a_0 rfl (hA.ev rfl)) ?_
   refine dq (fun a w hA hS hd => b_2 rfl h_8 ty_3 (hq hd 0) (i := k) (hq hd 1) (SlAt.d_4 (hS.d_7 0 rfl)) (by decide) (by omega)) ?_
   refine dq (fun a w hA hS hd => c_7 rfl ty_3 (hq hd 2) (SlAt.d_4 (hS.d_7 0 rfl)) (ints_at (by omega))) ?_
   refine dq (fun a w hA hS hd => a_0 rfl (hA.ev rfl)) ?_
   refine dq (fun a w hA hS hd => c_0 rfl m_9 (hq hd 4) (hS.sk 7 rfl)) ?_
   refine dq (fun a w hA hS hd => g_1 rfl (hq hd 5) (evc _ _) (by omega) (by omega)) ?_
   refine ⟨fun a w hA hS hd => by have e3 := hx hd 3; have e6 := hx hd 6; exact d_9 rfl (dv (a_6 rfl v_5 (ev3 (b_9 e3) (evc _ _) (b_9 e6)) (v_4 _ _ _ _)) hS (by show Value.bool _ = _; simp only [(show (inB ((c_1 b l).getD k 0) 0 ((l.length : Int) - 1)) = true from (h_4.2 (by omega))), decide_true, decide_false, Bool.not_true, Bool.not_false])), ?_⟩
   refine dq (fun a w hA hS hd => f_4 rfl (hq hd 7)) ?_
   refine dq (fun a w hA hS hd => a_0 rfl (hq hd 8)) ?_
   refine dy 9 (fun a w hA hS hd => a_0 rfl (hA.ev rfl)) ?_
   refine ⟨fun a w hA hS hd => by have e9 := hx hd 9; have CE := hx hd 10; exact f_1 rfl rfl e9 (dv (g_9 rfl (b_9 CE) (evc _ _)) hS (by show Value.bool _ = _; simp only [decide_eq_false CC, decide_true, decide_false, Bool.not_true, Bool.not_false])), ?_⟩
   refine dy 9 (fun a w hA hS hd => a_0 rfl (hq hd 11)) ?_
   refine dn 12 ?_
   refine dn 12 ?_
   refine dn 12 ?_
   refine dn 12 ?_
   refine dn 12 ?_
   refine dn 12 ?_
   refine dn 12 ?_
   refine dn 12 ?_
   refine dn 12 ?_
   trivial
  intro Cm Eq Bn CW J; clear Bm C
  have Bo := Bn.add (hz J 9); clear Bn
  have Bp := Bo.add (hz J 12); clear Bo
  have Bq := Bp.add (hz J 16); clear Bp
  have Br := Bq.add (hz J 21); clear Bq
  clear J
  refine s3 Br fun Cn AF => ?_; clear Br Cm
  refine s5 AF (c_2 rfl (AF.ev rfl) (evc _ _)) fun Co W => ?_; clear AF Cn
  refine s1 W (c_2 rfl (W.ev rfl) (W.ev rfl)) fun Cp AG => ?_; clear W Co
  refine n1 ?_
  refine b_5 AG rfl ?_
  refine d_1 ?_
  refine g_8 ?_
  refine b_0 ?_
  have AH := AG.as [(9, (Value.int .i64 (k : Int))), (7, A), (3, (bptr D 0)), (1, xl), (2, xz)] rfl; clear AG
  refine a_5 ?_
  refine s1 AH (a_0 rfl (AH.ev rfl)) fun Cq AI => ?_; clear AH Cp
  refine s1 AI (f_6 rfl (AI.ev rfl) (evc _ _) (by omega) (by omega)) fun Cr AJ => ?_; clear AI Cq
  refine s1 AJ (a_1 rfl (AJ.ev rfl)) fun Ej CU => ?_; clear AJ Cr
  refine e_8 ?_
  exact b_0 ⟨k + 1, ⟨CU.as _ rfl, CW, by omega⟩, by omega⟩
 skip
 rw [decide_eq_false CB] at B
 refine b_5 B rfl ?_
 refine h_1 ?_
 refine b_4 ?_
 refine b_4 ?_
 refine f_7 ?_
 refine b_0 ?_
 refine m2 ?_
 refine s1 B (c_4 rfl r_4 (B.ev rfl) (C.bk 4 rfl) (l := [(Value.int .i64 b.scales), vt, vm]) rfl rfl) fun Cs AK => ?_; clear B Cf
 refine s2 AK (a_6 rfl aa_0 (ev1 (AK.ev rfl)) (n_3 b vt vm lr lb lk _ (b_6 (C.ok 5 _ rfl)) (b_8 (C.ok 6 _ rfl)) hth)) ?_
 rintro Ct _ Er ⟨vt163, vm164, lr165, lb166, lk167, rfl, B6⟩ AL; have BD := C.l_5 B6 rfl; clear B6 AK C Cs
 refine s1 AL (a_0 rfl (AL.ev rfl)) fun Cu AM => ?_; clear AL Ct
 refine s2 AM (a_6 rfl aa_1 (ev1 (AM.ev rfl)) (h_9 l _ _ (BD.sk 9 rfl) (by omega))) ?_
 rintro Cv CQ Es ⟨By, hO176⟩ X; have K := BD.h_7 By hO176; clear By hO176 AM BD Cu
 refine s2 X (a_6 rfl ab_5 (ev2 (X.ev rfl) (X.ev rfl)) (Spans_none b vt163 vm164 lr165 lb166 lk167 _ (b_6 (K.ok 1 _ rfl)) (b_8 (K.ok 2 _ rfl)) hth l _ (SlAt.d_4 (K.d_7 0 rfl)) (by omega) hr hs)) ?_
 rintro Cw _ Et ⟨rfl, Bz⟩ AN; have L := K.step Bz; clear Bz X K Cv
 refine s1 AN (a_0 rfl (AN.ev rfl)) fun Cx AO => ?_; clear AN Cw
 refine s1 AO (c_3 rfl (AO.ev rfl) rfl) fun Cy AP => ?_; clear AO Cx
 refine s1 AP (c_3 rfl (AP.ev rfl) rfl) fun Cz AQ => ?_; clear AP Cy
 refine s1 AQ (a_1 rfl (AQ.ev rfl)) fun C0 AR => ?_; clear AQ Cz
 refine s1 AR (a_1 rfl (AR.ev rfl)) fun C1 Bs => ?_; clear AR C0
 refine n2 ?_
 have AS := Bs.as [(11, (Value.int .i64 (spE b l))), (7, A), (3, (bptr D 0)), (1, xl), (2, xz)] rfl; clear Bs
 refine a_5 ?_
 refine s1 AS (c_4 rfl r_4 (AS.ev rfl) (L.bk 7 rfl) (l := [(Value.int .i64 b.scales), vt, vm]) rfl rfl) fun C2 AT => ?_; clear AS C1
 refine s2 AT (a_6 rfl aa_0 (ev1 (AT.ev rfl)) (n_3 b vt vm lr lb lk _ (b_6 (L.ok 8 _ rfl)) (b_8 (L.ok 9 _ rfl)) hth)) ?_
 rintro C3 _ Eu ⟨vt200, vm201, lr202, lb203, lk204, rfl, B7⟩ AU; have p := L.l_5 B7 rfl; clear B7 AT L C2
 refine s1 AU (a_0 rfl (AU.ev rfl)) fun C4 AV => ?_; clear AU C3
 refine s1 AV (a_0 rfl (AV.ev rfl)) fun C5 Y => ?_; clear AV C4
 refine s2 Y (a_6 rfl ab_9 (ev2 (Y.ev rfl) (Y.ev rfl)) (k_9 l _ _ (p.sk 12 rfl) (c_1 b l) _ (SlAt.d_4 (p.d_7 5 rfl)) (by omega) (by omega))) ?_
 rintro C6 CR Ev ⟨B0, hO215⟩ AW; have BE := p.h_7 B0 hO215; clear B0 hO215 Y p C5
 refine s2 AW (a_6 rfl aa_1 (ev1 (AW.ev rfl)) (h_9 (woF l (c_1 b l)) _ _ (SlAt.d_4 (BE.d_7 0 rfl)) (by omega))) ?_
 rintro C7 CS Ew ⟨B1, hO222⟩ Z; have M := BE.h_7 B1 hO222; clear B1 hO222 AW BE C6
 refine s2 Z (a_6 rfl ab_5 (ev2 (Z.ev rfl) (Z.ev rfl)) (s_3 b vt200 vm201 lr202 lb203 lk204 _ (b_6 (M.ok 2 _ rfl)) (b_8 (M.ok 3 _ rfl)) hth (woF l (c_1 b l)) _ (SlAt.d_4 (M.d_7 0 rfl)) (by omega) td hrd2 hsd)) ?_
 rintro C8 _ D8 ⟨CP, rfl, B8⟩ AX
 have N : Sep NoB w D8 [(row CP 30 2 td.length (pairs td)), (row CS 98 2 ((woF l (c_1 b l)).length) (pairs (woF l (c_1 b l)))), (row CR 67 2 ((woF l (c_1 b l)).length) (pairs (woF l (c_1 b l)))), (c_9 true vt200 lr202 lb203 b.tabs), (d_2 true vm201 lk204 b.macs), (row CQ 98 2 l.length (pairs l)), (c_9 true vt163 lr165 lb166 b.tabs), (d_2 true vm164 lk167 b.macs), (row A 3 1 ((c_1 b l).length) (ints (c_1 b l))), (row CD 98 2 l.length (pairs l)), (c_9 true vt37 lr39 lb40 b.tabs), (d_2 true vm38 lk41 b.macs), (blk D 25 [(Value.int .i64 b.scales), vt, vm]), (c_9 false vt lr lb b.tabs), (d_2 false vm lk b.macs), (sl xl 2 l.length (pairs l)), (sl xz 1 z.length (ints z))] := M.l_5 B8 rfl; clear B8 Z M C7
 refine s1 AX (a_0 rfl (AX.ev rfl)) fun C9 AY => ?_; clear AX C8
 refine s1 AY (c_3 rfl (AY.ev rfl) rfl) fun DA AZ => ?_; clear AY C9
 refine s1 AZ (c_3 rfl (AZ.ev rfl) rfl) fun DB Aa => ?_; clear AZ DA
 refine s1 Aa (a_1 rfl (Aa.ev rfl)) fun DC Ab => ?_; clear Aa DB
 refine s1 Ab (a_1 rfl (Ab.ev rfl)) fun DD Bt => ?_; clear Ab DC
 refine n2 ?_
 have Ac := Bt.as [(13, (Value.int .i64 0)), (11, (Value.int .i64 (spE b l))), (7, A), (3, (bptr D 0)), (1, xl), (2, xz)] rfl; clear Bt
 refine a_5 ?_
 refine s1 Ac (c_4 rfl r_4 (Ac.ev rfl) (N.bk 12 rfl) (l := [(Value.int .i64 b.scales), vt, vm]) rfl rfl) fun DE Ad => ?_; clear Ac DD
 refine s2 Ad (a_6 rfl aa_0 (ev1 (Ad.ev rfl)) (n_3 b vt vm lr lb lk _ (b_6 (N.ok 13 _ rfl)) (b_8 (N.ok 14 _ rfl)) hth)) ?_
 rintro DF _ Ex ⟨vt247, vm248, lr249, lb250, lk251, rfl, B9⟩ Ae; have q := N.l_5 B9 rfl; clear B9 Ad N DE
 refine s1 Ae (a_0 rfl (Ae.ev rfl)) fun DG Af => ?_; clear Ae DF
 refine s1 Af (a_0 rfl (Af.ev rfl)) fun DH c => ?_; clear Af DG
 refine s2 c (a_6 rfl ab_9 (ev2 (c.ev rfl) (c.ev rfl)) (k_9 l _ _ (q.sk 17 rfl) z _ (q.sk 18 rfl) (by omega) (by omega))) ?_
 rintro DI D6 Ey ⟨B2, hO262⟩ Ag; have BF := q.h_7 B2 hO262; clear B2 hO262 c q DH
 refine s2 Ag (a_6 rfl aa_1 (ev1 (Ag.ev rfl)) (h_9 (woF l z) _ _ (SlAt.d_4 (BF.d_7 0 rfl)) (by omega))) ?_
 rintro DJ D7 Ez ⟨B3, hO269⟩ d; have O := BF.h_7 B3 hO269; clear B3 hO269 Ag BF DI
 refine s2 d (a_6 rfl ab_5 (ev2 (d.ev rfl) (d.ev rfl)) (s_3 b vt247 vm248 lr249 lb250 lk251 _ (b_6 (O.ok 2 _ rfl)) (b_8 (O.ok 3 _ rfl)) hth (woF l z) _ (SlAt.d_4 (O.d_7 0 rfl)) (by omega) tw hrw hw)) ?_
 rintro DK _ D9 ⟨D5, rfl, CA⟩ Ah
 have P : Sep NoB w D9 [(row D5 30 2 tw.length (pairs tw)), (row D7 98 2 ((woF l z).length) (pairs (woF l z))), (row D6 67 2 ((woF l z).length) (pairs (woF l z))), (c_9 true vt247 lr249 lb250 b.tabs), (d_2 true vm248 lk251 b.macs), (row CP 30 2 td.length (pairs td)), (row CS 98 2 ((woF l (c_1 b l)).length) (pairs (woF l (c_1 b l)))), (row CR 67 2 ((woF l (c_1 b l)).length) (pairs (woF l (c_1 b l)))), (c_9 true vt200 lr202 lb203 b.tabs), (d_2 true vm201 lk204 b.macs), (row CQ 98 2 l.length (pairs l)), (c_9 true vt163 lr165 lb166 b.tabs), (d_2 true vm164 lk167 b.macs), (row A 3 1 ((c_1 b l).length) (ints (c_1 b l))), (row CD 98 2 l.length (pairs l)), (c_9 true vt37 lr39 lb40 b.tabs), (d_2 true vm38 lk41 b.macs), (blk D 25 [(Value.int .i64 b.scales), vt, vm]), (c_9 false vt lr lb b.tabs), (d_2 false vm lk b.macs), (sl xl 2 l.length (pairs l)), (sl xz 1 z.length (ints z))] := O.l_5 CA rfl; clear CA d O DJ
 refine s1 Ah (a_0 rfl (Ah.ev rfl)) fun DL Ai => ?_; clear Ah DK
 refine s1 Ai (c_3 rfl (Ai.ev rfl) rfl) fun DM Aj => ?_; clear Ai DL
 refine s1 Aj (c_3 rfl (Aj.ev rfl) rfl) fun DN Ak => ?_; clear Aj DM
 refine s1 Ak (a_1 rfl (Ak.ev rfl)) fun DO Al => ?_; clear Ak DN
 refine s1 Al (a_1 rfl (Al.ev rfl)) fun DP Bu => ?_; clear Al DO
 refine n2 ?_
 have Am := Bu.as [(15, (Value.int .i64 0)), (13, (Value.int .i64 0)), (11, (Value.int .i64 (spE b l))), (7, A), (1, xl), (2, xz)] rfl; clear Bu
 refine a_5 ?_
 refine s1 Am (a_0 rfl (Am.ev rfl)) fun DQ An => ?_; clear Am DP
 refine s1 An (c_0 rfl m_9 (An.ev rfl) (P.sk 20 rfl)) fun DR Ao => ?_; clear An DQ
 refine s1 Ao (a_0 rfl (Ao.ev rfl)) fun DS Ap => ?_; clear Ao DR
 refine s1 Ap (a_0 rfl (Ap.ev rfl)) fun DT e => ?_; clear Ap DS
 refine s2 e (a_6 rfl ab_9 (ev2 (e.ev rfl) (e.ev rfl)) (k_9 l _ _ (P.sk 20 rfl) z _ (P.sk 21 rfl) (by omega) (by omega))) ?_
 rintro DU Eo E0 ⟨B4, hO301⟩ Aq; have Q := P.h_7 B4 hO301; clear B4 hO301 e P DT
 refine s1 Aq (c_0 rfl m_9 (Aq.ev rfl) (SlAt.d_4 (Q.d_7 0 rfl))) fun DV f => ?_; clear Aq DU
 refine s1 f (g_1 rfl (f.ev rfl) (f.ev rfl) (by omega) (by omega)) fun DW Ar => ?_; clear f DV
 refine s1 Ar (a_1 rfl (Ar.ev rfl)) fun DX Bv => ?_; clear Ar DW
 refine n2 ?_
 have As := Bv.as [(16, (Value.int .i64 ((l.length : Int) - ((woF l z).length : Int)))), (15, (Value.int .i64 0)), (13, (Value.int .i64 0)), (11, (Value.int .i64 (spE b l))), (7, A)] rfl; clear Bv
 refine a_5 ?_
 refine s1 As (a_0 rfl (As.ev rfl)) fun DY At => ?_; clear As DX
 refine s1 At (j_8 rfl (At.ev rfl) (evc _ _)) fun DZ g => ?_; clear At DY
 have CZ : ¬ ((spE b l) = 0) := (by rw [spE_9 hr hs]; decide)
 rw [decide_eq_false CZ] at g
 refine s1 g (a_0 rfl (g.ev rfl)) fun Da Au => ?_; clear g DZ
 refine s1 Au (c_0 rfl h_8 (Au.ev rfl) (SlAt.d_4 (Q.d_7 14 rfl))) fun Db Av => ?_; clear Au Da
 refine s1 Av (j_8 rfl (Av.ev rfl) (evc _ _)) fun Dc F => ?_; clear Av Db
 have Ca : ¬ (((c_1 b l).length : Int) = 0) := (by omega)
 rw [decide_eq_false Ca] at F
 refine s1 F (op_eqlB un_4 rfl (F.ev rfl) (F.ev rfl)) fun Dd Aw => ?_; clear F Dc
 refine s1 Aw (a_0 rfl (Aw.ev rfl)) fun De Ax => ?_; clear Aw Dd
 refine s5 Ax (a_0 rfl (Ax.ev rfl)) fun Df Ay => ?_; clear Ax De
 refine s5 Ay (j_8 rfl (Ay.ev rfl) (evc _ _)) fun Dg h => ?_; clear Ay Df
 refine s1 h (b_3 rfl (h.ev rfl) (h.ev rfl)) fun Dh Az => ?_; clear h Dg
 refine s1 Az (a_0 rfl (Az.ev rfl)) fun Di A0 => ?_; clear Az Dh
 refine s5 A0 (a_0 rfl (A0.ev rfl)) fun Dj A1 => ?_; clear A0 Di
 refine s5 A1 (j_8 rfl (A1.ev rfl) (evc _ _)) fun Dk A2 => ?_; clear A1 Dj
 refine s5 A2 (a_0 rfl (A2.ev rfl)) fun Dl A3 => ?_; clear A2 Dk
 refine s5 A3 (a_0 rfl (A3.ev rfl)) fun Dm A4 => ?_; clear A3 Dl
 refine s5 A4 (j_8 rfl (A4.ev rfl) (evc _ _)) fun Dn A5 => ?_; clear A4 Dm
 refine s5 A5 (a_0 rfl (A5.ev rfl)) fun Do A6 => ?_; clear A5 Dn
 refine s5 A6 (a_0 rfl (A6.ev rfl)) fun Dp A7 => ?_; clear A6 Do
 refine s5 A7 (a_0 rfl (A7.ev rfl)) fun Dq A8 => ?_; clear A7 Dp
 refine s5 A8 (c_0 rfl h_8 (A8.ev rfl) (SlAt.d_4 (Q.d_7 14 rfl))) fun Dr j => ?_; clear A8 Dq
 refine s5 j (w_7 rfl (j.ev rfl) (j.ev rfl)) fun Ds H => ?_; clear j Dr
 have Cb : ((c_1 b l).length : Int) ≤ ((l.length : Int) - ((woF l z).length : Int)) := (by omega)
 rw [decide_eq_true Cb] at H
 refine s5 H (b_3 rfl (H.ev rfl) (H.ev rfl)) fun Dt m => ?_; clear H Ds
 refine s5 m (c_2 rfl (m.ev rfl) (m.ev rfl)) fun Du n => ?_; clear m Dt
 refine s1 n (b_3 rfl (n.ev rfl) (n.ev rfl)) fun Dv A9 => ?_; clear n Du
 refine s1 A9 (a_0 rfl (A9.ev rfl)) fun Dw Bw => ?_; clear A9 Dv
 refine s6 Bw (a_6 rfl en_17 ev0 (awake_ok _)) ?_
 rintro Dx _ E1 ⟨rfl, B5⟩ o; have CX := Q.step B5; clear B5 Bw Q Dw
 refine s1 o (b_3 rfl (o.ev rfl) (o.ev rfl)) fun Dy BA => ?_; clear o Dx
 refine s1 BA (a_1 rfl (BA.ev rfl)) fun Ek Bx => ?_; clear BA Dy
 refine n1 ?_
 refine c_8 ?_
 refine a_9 Bx (.inl rfl) (a_2 Bx rfl (.tmp rfl)) ?_
 exact ⟨rfl, CX.ext⟩
set_option maxHeartbeats 4000000 in
theorem HardDoubtful_d (b : h_0) (vt vm : Value) (lr lb lk : Nat → Value) (w : World) (hT : j_6 w vt lr lb b.tabs) (hM : k_4 w vm lk b.macs) (l : List (Int × Int)) (xl : Value) (hxl : SlAt w xl 2 l.length (pairs l)) (z : List Int) (xz : Value) (hxz : SlAt w xz 1 z.length (ints z)) (hf : p_2 b l = true) (hzn : z.length ≤ 9) (t : h_2) (hs : i_7 b l = some t) (hw : i_7 b (woF l z) = none) :
  Calls Try.prog 13 #[(Value.agg #[(Value.int .i64 b.scales), vt, vm]), xl, xz] w (Ret fun v w' => v = .bool true ∧ Ext NoB w w') := by
 refine a_8 Try.func13 rfl fun a0 BA => ?_
 replace BA : Fr 137 [] [(0, (Value.agg #[(Value.int .i64 b.scales), vt, vm])), (1, xl), (2, xz)] a0 := BA
 have hrd := ready_is hf; have hth := hrd.1; have El := hrd.2.1; have hr := hrd.2.2; have htl9 := hth.tl; have hml9 := hth.ml; have hc := o_6 hr; have hbl := z_7 hr; have hb := hbl.1; have hl := hbl.2; have E3 := hb.scales; have hdb := doubt_bd hb l; have hll := hl.len; have hwl1 := wo_len l z; have hwl2 := wo_len l (c_1 b l); have hrw := z_8 hr z; have hrd2 := z_8 hr (c_1 b l); obtain ⟨td, hsd⟩ := doubt_some hb l; have E2 := doubt_nil hb hs
 have Cb : Sep NoB w w [(c_9 false vt lr lb b.tabs), (d_2 false vm lk b.macs), (sl xl 2 l.length (pairs l)), (sl xz 1 z.length (ints z))] := f_0 ⟨rfl, hT, rfl, hM, rfl, hxl, rfl, hxz, trivial⟩
 refine m2 ?_
 refine s2 BA (f_3 Cb rfl (BA.ev rfl) (cs := [(Value.int .i64 b.scales), vt, vm]) rfl) ?_
 rintro a1 _ w3 ⟨D, rfl, r⟩ Ca; clear BA Cb a0
 refine s1 Ca (a_1 rfl (evc _ _)) fun a6 CH => ?_; clear Ca a1
 refine n2 ?_
 refine m2 ?_
 refine s1 CH (c_4 rfl r_4 (CH.ev rfl) (r.bk 0 rfl) (l := [(Value.int .i64 b.scales), vt, vm]) rfl rfl) fun a8 CJ => ?_; clear CH a6
 refine s1 CJ (a_0 rfl (CJ.ev rfl)) fun D9 u => ?_; clear CJ a8
 refine s2 u (a_6 rfl en_29 (ev2 (u.ev rfl) (u.ev rfl)) (ready_ok b vt vm lr lb lk _ (b_6 (r.ok 1 _ rfl)) (b_8 (r.ok 2 _ rfl)) l _ (r.sk 3 rfl))) ?_
 rintro EA _ E4 ⟨rfl, CM⟩ AB; have P := r.step CM; clear CM u r D9
 have D0 : (p_2 b l) = true := hf
 rw [D0] at AB
 refine s1 AB (f_4 rfl (AB.ev rfl)) fun EB BB => ?_; clear AB EA
 refine s1 BB (a_0 rfl (BB.ev rfl)) fun EC BC => ?_; clear BB EB
 refine s5 BC (a_0 rfl (BC.ev rfl)) fun ED BD => ?_; clear BC EC
 refine s5 BD (c_0 rfl h_8 (BD.ev rfl) (P.sk 4 rfl)) fun EE BE => ?_; clear BD ED
 refine s5 BE (g_9 rfl (BE.ev rfl) (evc _ _)) fun EF o => ?_; clear BE EE
 have D1 : ¬ (9 < (z.length : Int)) := (by omega)
 rw [decide_eq_false D1] at o
 refine s1 o (c_2 rfl (o.ev rfl) (o.ev rfl)) fun EG BF => ?_; clear o EF
 refine n1 ?_
 refine b_5 BF rfl ?_
 refine d_1 ?_
 refine b_0 ?_
 refine b_7 ?_
 have BG := BF.as [(3, (bptr D 0)), (1, xl), (2, xz)] rfl; clear BF
 refine a_5 ?_
 refine s1 BG (c_4 rfl r_4 (BG.ev rfl) (P.bk 0 rfl) (l := [(Value.int .i64 b.scales), vt, vm]) rfl rfl) fun EH BH => ?_; clear BG EG
 refine s2 BH (a_6 rfl aa_0 (ev1 (BH.ev rfl)) (n_3 b vt vm lr lb lk _ (b_6 (P.ok 1 _ rfl)) (b_8 (P.ok 2 _ rfl)) hth)) ?_
 rintro EI _ E5 ⟨vt37, vm38, lr39, lb40, lk41, rfl, CO⟩ BI; have BZ := P.l_5 CO rfl; clear CO BH P EH
 refine s1 BI (a_0 rfl (BI.ev rfl)) fun EJ BJ => ?_; clear BI EI
 refine s2 BJ (a_6 rfl aa_1 (ev1 (BJ.ev rfl)) (h_9 l _ _ (BZ.sk 5 rfl) (by omega))) ?_
 rintro EK CE E6 ⟨CN, hO50⟩ A4; have q := BZ.h_7 CN hO50; clear CN hO50 BJ BZ EJ
 refine s2 A4 (a_6 rfl en_41 (ev2 (A4.ev rfl) (A4.ev rfl)) (Doubt_ok b vt37 vm38 lr39 lb40 lk41 _ (b_6 (q.ok 1 _ rfl)) (b_8 (q.ok 2 _ rfl)) hth l _ (SlAt.d_4 (q.d_7 0 rfl)) (by omega) hr)) ?_
 rintro EL _ Ee ⟨A, rfl, CP⟩ BK
 have A9 : Sep NoB w Ee [(row A 3 1 ((c_1 b l).length) (ints (c_1 b l))), (row CE 98 2 l.length (pairs l)), (c_9 true vt37 lr39 lb40 b.tabs), (d_2 true vm38 lk41 b.macs), (blk D 25 [(Value.int .i64 b.scales), vt, vm]), (c_9 false vt lr lb b.tabs), (d_2 false vm lk b.macs), (sl xl 2 l.length (pairs l)), (sl xz 1 z.length (ints z))] := q.l_5 CP rfl; clear CP A4 q EK
 refine s1 BK (a_0 rfl (BK.ev rfl)) fun EM BL => ?_; clear BK EL
 refine s1 BL (c_3 rfl (BL.ev rfl) rfl) fun EN BM => ?_; clear BL EM
 refine s1 BM (c_3 rfl (BM.ev rfl) rfl) fun EO BN => ?_; clear BM EN
 refine s1 BN (a_1 rfl (BN.ev rfl)) fun EP BO => ?_; clear BN EO
 refine s1 BO (a_1 rfl (BO.ev rfl)) fun EQ CG => ?_; clear BO EP
 refine n2 ?_
 refine b_7 ?_
 have BP := CG.as [(8, (Value.int .i64 0)), (7, A), (3, (bptr D 0)), (1, xl), (2, xz)] rfl; clear CG
 refine a_5 ?_
 refine s1 BP (a_0 rfl (BP.ev rfl)) fun ER BQ => ?_; clear BP EQ
 refine s1 BQ (y_6 rfl (BQ.ev rfl) (evc _ _)) fun ES BR => ?_; clear BQ ER
 refine s1 BR (a_0 rfl (BR.ev rfl)) fun ET BS => ?_; clear BR ES
 refine s5 BS (a_0 rfl (BS.ev rfl)) fun EU BT => ?_; clear BS ET
 refine s5 BT (c_0 rfl h_8 (BT.ev rfl) (SlAt.d_4 (A9.d_7 0 rfl))) fun EV BU => ?_; clear BT EU
 refine s5 BU (a_0 rfl (BU.ev rfl)) fun EW BV => ?_; clear BU EV
 refine s5 BV (c_0 rfl m_9 (BV.ev rfl) (A9.sk 7 rfl)) fun EX A5 => ?_; clear BV EW
 refine s5 A5 (g_9 rfl (A5.ev rfl) (A5.ev rfl)) fun EY p => ?_; clear A5 EX
 have D2 : ¬ ((l.length : Int) < ((c_1 b l).length : Int)) := (by omega)
 rw [decide_eq_false D2] at p
 refine s1 p (c_2 rfl (p.ev rfl) (p.ev rfl)) fun EZ BW => ?_; clear p EY
 refine n1 ?_
 refine b_5 BW rfl ?_
 refine d_1 ?_
 refine b_0 ?_
 refine b_7 ?_
 refine b_7 ?_
 have CI := BW.as [(7, A), (3, (bptr D 0)), (1, xl), (2, xz)] rfl; clear BW
 refine a_5 ?_
 refine s1 CI (a_1 rfl (evc _ _)) fun Ea CK => ?_; clear CI EZ
 refine n1 ?_
 refine d_0 ?_
 have CL := CK.as [(9, (Value.int .i64 0)), (7, A), (3, (bptr D 0)), (1, xl), (2, xz)] rfl; clear CK
 refine h_3 (G := Nat) (fun (k : Nat) a_ w_ => Fr 137 [] [(9, (Value.int .i64 (k : Int))), (7, A), (3, (bptr D 0)), (1, xl), (2, xz)] a_ ∧ Sep NoB w w_ [(row A 3 1 ((c_1 b l).length) (ints (c_1 b l))), (row CE 98 2 l.length (pairs l)), (c_9 true vt37 lr39 lb40 b.tabs), (d_2 true vm38 lk41 b.macs), (blk D 25 [(Value.int .i64 b.scales), vt, vm]), (c_9 false vt lr lb b.tabs), (d_2 false vm lk b.macs), (sl xl 2 l.length (pairs l)), (sl xz 1 z.length (ints z))] ∧ (k ≤ (c_1 b l).length)) (fun k => (c_1 b l).length - k) 0 ⟨CL.as _ rfl, A9, by omega⟩ ?_
 clear CL A9 Ea
 rintro k Eb E7 ⟨BX, C, hkk⟩
 refine b_7 ?_
 refine m2 ?_
 refine s1 BX (a_0 rfl (BX.ev rfl)) fun Ec BY => ?_; clear BX Eb
 refine s1 BY (a_0 rfl (BY.ev rfl)) fun Ed s => ?_; clear BY Ec
 refine s1 s (c_0 rfl h_8 (s.ev rfl) (SlAt.d_4 (C.d_7 0 rfl))) fun Cc Q => ?_; clear s Ed
 refine s1 Q (f_9 rfl (Q.ev rfl) (Q.ev rfl)) fun Cd B => ?_; clear Q Cc
 refine n1 ?_
 by_cases CC : (k : Int) < ((c_1 b l).length : Int)
 ·skip
  rw [decide_eq_true CC] at B
  have hbk := hdb.2.1 k (by omega)
  refine c_6 B rfl ?_
  refine d_1 ?_
  refine b_0 ?_
  refine b_7 ?_
  refine d_0 ?_
  refine b_7 ?_
  have R := B.as [(9, (Value.int .i64 (k : Int))), (7, A), (3, (bptr D 0)), (1, xl), (2, xz)] rfl; clear B
  by_cases CD : 0 < (k : Int)
  ·skip
   have Ba := R.as [(9, (Value.int .i64 (k : Int))), (7, A), (3, (bptr D 0)), (1, xl), (2, xz)] rfl; clear R
   refine g_6 mixed Ba C 22 [[], [], [0, 1], [2], [], [4], [5], [3, 6], [7], [8], [9], [9, 10], [9, 11], [12], [12], [12, 13, 14], [12, 15], [12], [12], [12, 18], [12, 17, 19], [12, 20]] [(Yd.val A), (Yd.val (Value.int .i64 (k : Int))), (Yd.val (eptr A (k * 1))), (Yd.val (Value.int .i64 ((c_1 b l).getD k 0))), (Yd.val xl), (Yd.val (Value.int .i64 (l.length : Int))), (Yd.val (Value.int .i64 ((l.length : Int) - 1))), (Yd.val (Value.bool true)), (Yd.val (Value.bool (!true))), (Yd.val (Value.bool (!true))), (Yd.val (Value.int .i64 (k : Int))), (Yd.val (Value.bool true)), (Yd.val (Value.bool true)), (Yd.val A), (Yd.val (Value.int .i64 (k : Int))), (Yd.val (eptr A (k * 1))), (Yd.val (Value.int .i64 ((c_1 b l).getD k 0))), (Yd.val A), (Yd.val (Value.int .i64 (k : Int))), (Yd.val (Value.int .i64 ((k : Int) - 1))), (Yd.val (eptr A (((k : Int) - 1).toNat * 1))), (Yd.val (Value.int .i64 ((c_1 b l).getD (((k : Int) - 1).toNat) 0)))] (by decide +kernel) rfl rfl ?_ ?_
   ·skip
    refine dq (fun a w hA hS hd => a_0 rfl (hA.ev rfl)) ?_
    refine dq (fun a w hA hS hd => a_0 rfl (hA.ev rfl)) ?_
    refine dq (fun a w hA hS hd => b_2 rfl h_8 ty_3 (hq hd 0) (i := k) (hq hd 1) (SlAt.d_4 (hS.d_7 0 rfl)) (by decide) (by omega)) ?_
    refine dq (fun a w hA hS hd => c_7 rfl ty_3 (hq hd 2) (SlAt.d_4 (hS.d_7 0 rfl)) (ints_at (by omega))) ?_
    refine dq (fun a w hA hS hd => a_0 rfl (hA.ev rfl)) ?_
    refine dq (fun a w hA hS hd => c_0 rfl m_9 (hq hd 4) (hS.sk 7 rfl)) ?_
    refine dq (fun a w hA hS hd => g_1 rfl (hq hd 5) (evc _ _) (by omega) (by omega)) ?_
    refine ⟨fun a w hA hS hd => by have e3 := hx hd 3; have e6 := hx hd 6; exact d_9 rfl (dv (a_6 rfl v_5 (ev3 (b_9 e3) (evc _ _) (b_9 e6)) (v_4 _ _ _ _)) hS (by show Value.bool _ = _; simp only [(show (inB ((c_1 b l).getD k 0) 0 ((l.length : Int) - 1)) = true from (h_4.2 (by omega))), decide_true, decide_false, Bool.not_true, Bool.not_false])), ?_⟩
    refine dq (fun a w hA hS hd => f_4 rfl (hq hd 7)) ?_
    refine dq (fun a w hA hS hd => a_0 rfl (hq hd 8)) ?_
    refine dy 9 (fun a w hA hS hd => a_0 rfl (hA.ev rfl)) ?_
    refine ⟨fun a w hA hS hd => by have e9 := hx hd 9; have CF := hx hd 10; exact f_1 rfl rfl e9 (dv (g_9 rfl (b_9 CF) (evc _ _)) hS (by show Value.bool _ = _; simp only [decide_eq_true CD, decide_true, decide_false, Bool.not_true, Bool.not_false])), ?_⟩
    refine dy 9 (fun a w hA hS hd => a_0 rfl (hq hd 11)) ?_
    refine dy 12 (fun a w hA hS hd => a_0 rfl (hA.ev rfl)) ?_
    refine dy 12 (fun a w hA hS hd => a_0 rfl (hA.ev rfl)) ?_
    refine dy 12 (fun a w hA hS hd => b_2 rfl h_8 ty_3 (hq hd 13) (i := k) (hq hd 14) (SlAt.d_4 (hS.d_7 0 rfl)) (by decide) (by omega)) ?_
    refine dy 12 (fun a w hA hS hd => c_7 rfl ty_3 (hq hd 15) (SlAt.d_4 (hS.d_7 0 rfl)) (ints_at (by omega))) ?_
    refine dy 12 (fun a w hA hS hd => a_0 rfl (hA.ev rfl)) ?_
    refine dy 12 (fun a w hA hS hd => a_0 rfl (hA.ev rfl)) ?_
    refine dy 12 (fun a w hA hS hd => g_1 rfl (hq hd 18) (evc _ _) (by omega) (by omega)) ?_
    refine dy 12 (fun a w hA hS hd => b_2 rfl h_8 ty_3 (hq hd 17) (i := ((k : Int) - 1).toNat) ((hq hd 19).trans (k_3 (by omega))) (SlAt.d_4 (hS.d_7 0 rfl)) (by decide) (by omega)) ?_
    refine dy 12 (fun a w hA hS hd => c_7 rfl ty_3 (hq hd 20) (SlAt.d_4 (hS.d_7 0 rfl)) (ints_at (by omega))) ?_
    trivial
   intro Ce Ep Bb CU H; clear Ba C
   have Bc := Bb.add (hz H 9); clear Bb
   have Bd := Bc.add (hz H 12); clear Bc
   have Be := Bd.add (hz H 16); clear Bd
   have S := Be.add (hz H 21); clear Be
   clear H
   refine s5 S (p_1 rfl (S.ev rfl) (S.ev rfl)) fun Cf E => ?_; clear S Ce
   have CX : ¬ (((c_1 b l).getD k 0) ≤ ((c_1 b l).getD (((k : Int) - 1).toNat) 0)) := (by have hz_ := hdb.2.2 k (by omega) (by omega); rw [show ((k : Int) - 1).toNat = k - 1 by omega]; omega)
   rw [decide_eq_false CX] at E
   refine s5 E (b_3 rfl (E.ev rfl) (E.ev rfl)) fun Cg T => ?_; clear E Cf
   refine s1 T (c_2 rfl (T.ev rfl) (T.ev rfl)) fun Ch x => ?_; clear T Cg
   refine n1 ?_
   refine b_5 x rfl ?_
   refine d_1 ?_
   refine g_8 ?_
   refine b_0 ?_
   have y := x.as [(9, (Value.int .i64 (k : Int))), (7, A), (3, (bptr D 0)), (1, xl), (2, xz)] rfl; clear x
   refine a_5 ?_
   refine s1 y (a_0 rfl (y.ev rfl)) fun Ci AA => ?_; clear y Ch
   refine s1 AA (f_6 rfl (AA.ev rfl) (evc _ _) (by omega) (by omega)) fun Cj AC => ?_; clear AA Ci
   refine s1 AC (a_1 rfl (AC.ev rfl)) fun Eg CS => ?_; clear AC Cj
   refine e_8 ?_
   exact b_0 ⟨k + 1, ⟨CS.as _ rfl, CU, by omega⟩, by omega⟩
  skip
  have Bf := R.as [(9, (Value.int .i64 (k : Int))), (7, A), (3, (bptr D 0)), (1, xl), (2, xz)] rfl; clear R
  refine g_6 mixed Bf C 22 [[], [], [0, 1], [2], [], [4], [5], [3, 6], [7], [8], [9], [9, 10], [9, 11], [12], [12], [12, 13, 14], [12, 15], [12], [12], [12, 18], [12, 17, 19], [12, 20]] [(Yd.val A), (Yd.val (Value.int .i64 (k : Int))), (Yd.val (eptr A (k * 1))), (Yd.val (Value.int .i64 ((c_1 b l).getD k 0))), (Yd.val xl), (Yd.val (Value.int .i64 (l.length : Int))), (Yd.val (Value.int .i64 ((l.length : Int) - 1))), (Yd.val (Value.bool true)), (Yd.val (Value.bool (!true))), (Yd.val (Value.bool (!true))), (Yd.val (Value.int .i64 (k : Int))), (Yd.val (Value.bool false)), (Yd.val (Value.bool false)), (Yd.val undef), (Yd.val undef), (Yd.val undef), (Yd.val undef), (Yd.val undef), (Yd.val undef), (Yd.val undef), (Yd.val undef), (Yd.val undef)] (by decide +kernel) rfl rfl ?_ ?_
  ·skip
   refine dq (fun a w hA hS hd => a_0 rfl (hA.ev rfl)) ?_
   refine dq (fun a w hA hS hd => a_0 rfl (hA.ev rfl)) ?_
   refine dq (fun a w hA hS hd => b_2 rfl h_8 ty_3 (hq hd 0) (i := k) (hq hd 1) (SlAt.d_4 (hS.d_7 0 rfl)) (by decide) (by omega)) ?_
   refine dq (fun a w hA hS hd => c_7 rfl ty_3 (hq hd 2) (SlAt.d_4 (hS.d_7 0 rfl)) (ints_at (by omega))) ?_
   refine dq (fun a w hA hS hd => a_0 rfl (hA.ev rfl)) ?_
   refine dq (fun a w hA hS hd => c_0 rfl m_9 (hq hd 4) (hS.sk 7 rfl)) ?_
   refine dq (fun a w hA hS hd => g_1 rfl (hq hd 5) (evc _ _) (by omega) (by omega)) ?_
   refine ⟨fun a w hA hS hd => by have e3 := hx hd 3; have e6 := hx hd 6; exact d_9 rfl (dv (a_6 rfl v_5 (ev3 (b_9 e3) (evc _ _) (b_9 e6)) (v_4 _ _ _ _)) hS (by show Value.bool _ = _; simp only [(show (inB ((c_1 b l).getD k 0) 0 ((l.length : Int) - 1)) = true from (h_4.2 (by omega))), decide_true, decide_false, Bool.not_true, Bool.not_false])), ?_⟩
   refine dq (fun a w hA hS hd => f_4 rfl (hq hd 7)) ?_
   refine dq (fun a w hA hS hd => a_0 rfl (hq hd 8)) ?_
   refine dy 9 (fun a w hA hS hd => a_0 rfl (hA.ev rfl)) ?_
   refine ⟨fun a w hA hS hd => by have e9 := hx hd 9; have CF := hx hd 10; exact f_1 rfl rfl e9 (dv (g_9 rfl (b_9 CF) (evc _ _)) hS (by show Value.bool _ = _; simp only [decide_eq_false CD, decide_true, decide_false, Bool.not_true, Bool.not_false])), ?_⟩
   refine dy 9 (fun a w hA hS hd => a_0 rfl (hq hd 11)) ?_
   refine dn 12 ?_
   refine dn 12 ?_
   refine dn 12 ?_
   refine dn 12 ?_
   refine dn 12 ?_
   refine dn 12 ?_
   refine dn 12 ?_
   refine dn 12 ?_
   refine dn 12 ?_
   trivial
  intro Ck Eq Bg CV I; clear Bf C
  have Bh := Bg.add (hz I 9); clear Bg
  have Bi := Bh.add (hz I 12); clear Bh
  have Bj := Bi.add (hz I 16); clear Bi
  have Bk := Bj.add (hz I 21); clear Bj
  clear I
  refine s3 Bk fun Cl AD => ?_; clear Bk Ck
  refine s5 AD (c_2 rfl (AD.ev rfl) (evc _ _)) fun Cm U => ?_; clear AD Cl
  refine s1 U (c_2 rfl (U.ev rfl) (U.ev rfl)) fun Cn AE => ?_; clear U Cm
  refine n1 ?_
  refine b_5 AE rfl ?_
  refine d_1 ?_
  refine g_8 ?_
  refine b_0 ?_
  have AF := AE.as [(9, (Value.int .i64 (k : Int))), (7, A), (3, (bptr D 0)), (1, xl), (2, xz)] rfl; clear AE
  refine a_5 ?_
  refine s1 AF (a_0 rfl (AF.ev rfl)) fun Co AG => ?_; clear AF Cn
  refine s1 AG (f_6 rfl (AG.ev rfl) (evc _ _) (by omega) (by omega)) fun Cp AH => ?_; clear AG Co
  refine s1 AH (a_1 rfl (AH.ev rfl)) fun Eh CT => ?_; clear AH Cp
  refine e_8 ?_
  exact b_0 ⟨k + 1, ⟨CT.as _ rfl, CV, by omega⟩, by omega⟩
 skip
 rw [decide_eq_false CC] at B
 refine b_5 B rfl ?_
 refine h_1 ?_
 refine b_4 ?_
 refine b_4 ?_
 refine f_7 ?_
 refine b_0 ?_
 refine m2 ?_
 refine s1 B (c_4 rfl r_4 (B.ev rfl) (C.bk 4 rfl) (l := [(Value.int .i64 b.scales), vt, vm]) rfl rfl) fun Cq AI => ?_; clear B Cd
 refine s2 AI (a_6 rfl aa_0 (ev1 (AI.ev rfl)) (n_3 b vt vm lr lb lk _ (b_6 (C.ok 5 _ rfl)) (b_8 (C.ok 6 _ rfl)) hth)) ?_
 rintro Cr _ Er ⟨vt163, vm164, lr165, lb166, lk167, rfl, B7⟩ AJ; have A6 := C.l_5 B7 rfl; clear B7 AI C Cq
 refine s1 AJ (a_0 rfl (AJ.ev rfl)) fun Cs AK => ?_; clear AJ Cr
 refine s2 AK (a_6 rfl aa_1 (ev1 (AK.ev rfl)) (h_9 l _ _ (A6.sk 9 rfl) (by omega))) ?_
 rintro Ct CR Es ⟨Bz, hO176⟩ V; have J := A6.h_7 Bz hO176; clear Bz hO176 AK A6 Cs
 refine s2 V (a_6 rfl ab_5 (ev2 (V.ev rfl) (V.ev rfl)) (s_3 b vt163 vm164 lr165 lb166 lk167 _ (b_6 (J.ok 1 _ rfl)) (b_8 (J.ok 2 _ rfl)) hth l _ (SlAt.d_4 (J.d_7 0 rfl)) (by omega) t hr hs)) ?_
 rintro Cu _ D6 ⟨CQ, rfl, B8⟩ AL
 have K : Sep NoB w D6 [(row CQ 30 2 t.length (pairs t)), (row CR 98 2 l.length (pairs l)), (c_9 true vt163 lr165 lb166 b.tabs), (d_2 true vm164 lk167 b.macs), (row A 3 1 ((c_1 b l).length) (ints (c_1 b l))), (row CE 98 2 l.length (pairs l)), (c_9 true vt37 lr39 lb40 b.tabs), (d_2 true vm38 lk41 b.macs), (blk D 25 [(Value.int .i64 b.scales), vt, vm]), (c_9 false vt lr lb b.tabs), (d_2 false vm lk b.macs), (sl xl 2 l.length (pairs l)), (sl xz 1 z.length (ints z))] := J.l_5 B8 rfl; clear B8 V J Ct
 refine s1 AL (a_0 rfl (AL.ev rfl)) fun Cv AM => ?_; clear AL Cu
 refine s1 AM (c_3 rfl (AM.ev rfl) rfl) fun Cw AN => ?_; clear AM Cv
 refine s1 AN (c_3 rfl (AN.ev rfl) rfl) fun Cx AO => ?_; clear AN Cw
 refine s1 AO (a_1 rfl (AO.ev rfl)) fun Cy AP => ?_; clear AO Cx
 refine s1 AP (a_1 rfl (AP.ev rfl)) fun Cz Bl => ?_; clear AP Cy
 refine n2 ?_
 have AQ := Bl.as [(11, (Value.int .i64 0)), (7, A), (3, (bptr D 0)), (1, xl), (2, xz)] rfl; clear Bl
 refine a_5 ?_
 refine s1 AQ (c_4 rfl r_4 (AQ.ev rfl) (K.bk 8 rfl) (l := [(Value.int .i64 b.scales), vt, vm]) rfl rfl) fun C0 AR => ?_; clear AQ Cz
 refine s2 AR (a_6 rfl aa_0 (ev1 (AR.ev rfl)) (n_3 b vt vm lr lb lk _ (b_6 (K.ok 9 _ rfl)) (b_8 (K.ok 10 _ rfl)) hth)) ?_
 rintro C1 _ Et ⟨vt201, vm202, lr203, lb204, lk205, rfl, B9⟩ AS; have j := K.l_5 B9 rfl; clear B9 AR K C0
 refine s1 AS (a_0 rfl (AS.ev rfl)) fun C2 AT => ?_; clear AS C1
 refine s1 AT (a_0 rfl (AT.ev rfl)) fun C3 W => ?_; clear AT C2
 refine s2 W (a_6 rfl ab_9 (ev2 (W.ev rfl) (W.ev rfl)) (k_9 l _ _ (j.sk 13 rfl) (c_1 b l) _ (SlAt.d_4 (j.d_7 6 rfl)) (by omega) (by omega))) ?_
 rintro C4 D4 Eu ⟨B0, hO216⟩ AU; have A7 := j.h_7 B0 hO216; clear B0 hO216 W j C3
 refine s2 AU (a_6 rfl aa_1 (ev1 (AU.ev rfl)) (h_9 (woF l (c_1 b l)) _ _ (SlAt.d_4 (A7.d_7 0 rfl)) (by omega))) ?_
 rintro C5 D5 Ev ⟨B1, hO223⟩ X; have L := A7.h_7 B1 hO223; clear B1 hO223 AU A7 C4
 refine s2 X (a_6 rfl ab_5 (ev2 (X.ev rfl) (X.ev rfl)) (s_3 b vt201 vm202 lr203 lb204 lk205 _ (b_6 (L.ok 2 _ rfl)) (b_8 (L.ok 3 _ rfl)) hth (woF l (c_1 b l)) _ (SlAt.d_4 (L.d_7 0 rfl)) (by omega) td hrd2 hsd)) ?_
 rintro C6 _ D7 ⟨D3, rfl, CA⟩ AV
 have M : Sep NoB w D7 [(row D3 30 2 td.length (pairs td)), (row D5 98 2 ((woF l (c_1 b l)).length) (pairs (woF l (c_1 b l)))), (row D4 67 2 ((woF l (c_1 b l)).length) (pairs (woF l (c_1 b l)))), (c_9 true vt201 lr203 lb204 b.tabs), (d_2 true vm202 lk205 b.macs), (row CQ 30 2 t.length (pairs t)), (row CR 98 2 l.length (pairs l)), (c_9 true vt163 lr165 lb166 b.tabs), (d_2 true vm164 lk167 b.macs), (row A 3 1 ((c_1 b l).length) (ints (c_1 b l))), (row CE 98 2 l.length (pairs l)), (c_9 true vt37 lr39 lb40 b.tabs), (d_2 true vm38 lk41 b.macs), (blk D 25 [(Value.int .i64 b.scales), vt, vm]), (c_9 false vt lr lb b.tabs), (d_2 false vm lk b.macs), (sl xl 2 l.length (pairs l)), (sl xz 1 z.length (ints z))] := L.l_5 CA rfl; clear CA X L C5
 refine s1 AV (a_0 rfl (AV.ev rfl)) fun C7 AW => ?_; clear AV C6
 refine s1 AW (c_3 rfl (AW.ev rfl) rfl) fun C8 AX => ?_; clear AW C7
 refine s1 AX (c_3 rfl (AX.ev rfl) rfl) fun C9 AY => ?_; clear AX C8
 refine s1 AY (a_1 rfl (AY.ev rfl)) fun DA AZ => ?_; clear AY C9
 refine s1 AZ (a_1 rfl (AZ.ev rfl)) fun DB Bm => ?_; clear AZ DA
 refine n2 ?_
 have Aa := Bm.as [(13, (Value.int .i64 0)), (11, (Value.int .i64 0)), (7, A), (3, (bptr D 0)), (1, xl), (2, xz)] rfl; clear Bm
 refine a_5 ?_
 refine s1 Aa (c_4 rfl r_4 (Aa.ev rfl) (M.bk 13 rfl) (l := [(Value.int .i64 b.scales), vt, vm]) rfl rfl) fun DC Ab => ?_; clear Aa DB
 refine s2 Ab (a_6 rfl aa_0 (ev1 (Ab.ev rfl)) (n_3 b vt vm lr lb lk _ (b_6 (M.ok 14 _ rfl)) (b_8 (M.ok 15 _ rfl)) hth)) ?_
 rintro DD _ Ew ⟨vt248, vm249, lr250, lb251, lk252, rfl, CB⟩ Ac; have m := M.l_5 CB rfl; clear CB Ab M DC
 refine s1 Ac (a_0 rfl (Ac.ev rfl)) fun DE Ad => ?_; clear Ac DD
 refine s1 Ad (a_0 rfl (Ad.ev rfl)) fun DF Y => ?_; clear Ad DE
 refine s2 Y (a_6 rfl ab_9 (ev2 (Y.ev rfl) (Y.ev rfl)) (k_9 l _ _ (m.sk 18 rfl) z _ (m.sk 19 rfl) (by omega) (by omega))) ?_
 rintro DG Em Ex ⟨B2, hO263⟩ Ae; have A8 := m.h_7 B2 hO263; clear B2 hO263 Y m DF
 refine s2 Ae (a_6 rfl aa_1 (ev1 (Ae.ev rfl)) (h_9 (woF l z) _ _ (SlAt.d_4 (A8.d_7 0 rfl)) (by omega))) ?_
 rintro DH En Ey ⟨B3, hO270⟩ Z; have N := A8.h_7 B3 hO270; clear B3 hO270 Ae A8 DG
 refine s2 Z (a_6 rfl ab_5 (ev2 (Z.ev rfl) (Z.ev rfl)) (Spans_none b vt248 vm249 lr250 lb251 lk252 _ (b_6 (N.ok 2 _ rfl)) (b_8 (N.ok 3 _ rfl)) hth (woF l z) _ (SlAt.d_4 (N.d_7 0 rfl)) (by omega) hrw hw)) ?_
 rintro DI _ Ez ⟨rfl, B4⟩ Af; have O := N.step B4; clear B4 Z N DH
 refine s1 Af (a_0 rfl (Af.ev rfl)) fun DJ Ag => ?_; clear Af DI
 refine s1 Ag (c_3 rfl (Ag.ev rfl) rfl) fun DK Ah => ?_; clear Ag DJ
 refine s1 Ah (c_3 rfl (Ah.ev rfl) rfl) fun DL Ai => ?_; clear Ah DK
 refine s1 Ai (a_1 rfl (Ai.ev rfl)) fun DM Aj => ?_; clear Ai DL
 refine s1 Aj (a_1 rfl (Aj.ev rfl)) fun DN Bn => ?_; clear Aj DM
 refine n2 ?_
 have Ak := Bn.as [(15, (Value.int .i64 (spE b (woF l z)))), (13, (Value.int .i64 0)), (11, (Value.int .i64 0)), (7, A), (1, xl), (2, xz)] rfl; clear Bn
 refine a_5 ?_
 refine s1 Ak (a_0 rfl (Ak.ev rfl)) fun DO Al => ?_; clear Ak DN
 refine s1 Al (c_0 rfl m_9 (Al.ev rfl) (O.sk 20 rfl)) fun DP Am => ?_; clear Al DO
 refine s1 Am (a_0 rfl (Am.ev rfl)) fun DQ An => ?_; clear Am DP
 refine s1 An (a_0 rfl (An.ev rfl)) fun DR c => ?_; clear An DQ
 refine s2 c (a_6 rfl ab_9 (ev2 (c.ev rfl) (c.ev rfl)) (k_9 l _ _ (O.sk 20 rfl) z _ (O.sk 21 rfl) (by omega) (by omega))) ?_
 rintro DS Eo E0 ⟨B5, hO301⟩ Ao; have n := O.h_7 B5 hO301; clear B5 hO301 c O DR
 refine s1 Ao (c_0 rfl m_9 (Ao.ev rfl) (SlAt.d_4 (n.d_7 0 rfl))) fun DT d => ?_; clear Ao DS
 refine s1 d (g_1 rfl (d.ev rfl) (d.ev rfl) (by omega) (by omega)) fun DU Ap => ?_; clear d DT
 refine s1 Ap (a_1 rfl (Ap.ev rfl)) fun DV Bo => ?_; clear Ap DU
 refine n2 ?_
 have Aq := Bo.as [(16, (Value.int .i64 ((l.length : Int) - ((woF l z).length : Int)))), (15, (Value.int .i64 (spE b (woF l z)))), (13, (Value.int .i64 0)), (11, (Value.int .i64 0)), (7, A)] rfl; clear Bo
 refine a_5 ?_
 refine s1 Aq (a_0 rfl (Aq.ev rfl)) fun DW Ar => ?_; clear Aq DV
 refine s1 Ar (j_8 rfl (Ar.ev rfl) (evc _ _)) fun DX As => ?_; clear Ar DW
 refine s1 As (a_0 rfl (As.ev rfl)) fun DY At => ?_; clear As DX
 refine s1 At (c_0 rfl h_8 (At.ev rfl) (SlAt.d_4 (n.d_7 14 rfl))) fun DZ Au => ?_; clear At DY
 refine s1 Au (j_8 rfl (Au.ev rfl) (evc _ _)) fun Da F => ?_; clear Au DZ
 have CY : ((c_1 b l).length : Int) = 0 := (by omega)
 rw [decide_eq_true CY] at F
 refine s1 F (op_eqlB un_4 rfl (F.ev rfl) (F.ev rfl)) fun Db Av => ?_; clear F Da
 refine s1 Av (a_0 rfl (Av.ev rfl)) fun Dc Aw => ?_; clear Av Db
 refine s5 Aw (a_0 rfl (Aw.ev rfl)) fun Dd Ax => ?_; clear Aw Dc
 refine s5 Ax (j_8 rfl (Ax.ev rfl) (evc _ _)) fun De e => ?_; clear Ax Dd
 refine s1 e (b_3 rfl (e.ev rfl) (e.ev rfl)) fun Df Ay => ?_; clear e De
 refine s1 Ay (a_0 rfl (Ay.ev rfl)) fun Dg Az => ?_; clear Ay Df
 refine s5 Az (a_0 rfl (Az.ev rfl)) fun Dh A0 => ?_; clear Az Dg
 refine s5 A0 (j_8 rfl (A0.ev rfl) (evc _ _)) fun Di f => ?_; clear A0 Dh
 have CZ : (spE b (woF l z)) = 9 := (spE_9 hrw hw)
 rw [decide_eq_true CZ] at f
 refine s5 f (a_0 rfl (f.ev rfl)) fun Dj Bp => ?_; clear f Di
 refine s3 Bp fun Dk Bq => ?_; clear Bp Dj
 refine s3 Bq fun Dl Br => ?_; clear Bq Dk
 refine s3 Br fun Dm Bs => ?_; clear Br Dl
 refine s4 Bs fun Dn Bt => ?_; clear Bs Dm
 refine s4 Bt fun Do Bu => ?_; clear Bt Dn
 refine s4 Bu fun Dp Bv => ?_; clear Bu Do
 refine s4 Bv fun Dq Bw => ?_; clear Bv Dp
 refine s3 Bw fun Dr A1 => ?_; clear Bw Dq
 refine s5 A1 (b_3 rfl (A1.ev rfl) (evc _ _)) fun Ds g => ?_; clear A1 Dr
 refine s1 g (b_3 rfl (g.ev rfl) (g.ev rfl)) fun Dt A2 => ?_; clear g Ds
 refine s1 A2 (a_0 rfl (A2.ev rfl)) fun Du Bx => ?_; clear A2 Dt
 refine s6 Bx (a_6 rfl en_17 ev0 (awake_ok _)) ?_
 rintro Dv _ E1 ⟨rfl, B6⟩ h; have CW := n.step B6; clear B6 Bx n Du
 refine s1 h (b_3 rfl (h.ev rfl) (h.ev rfl)) fun Dw A3 => ?_; clear h Dv
 refine s1 A3 (a_1 rfl (A3.ev rfl)) fun Ei By => ?_; clear A3 Dw
 refine n1 ?_
 refine c_8 ?_
 refine a_9 By (.inl rfl) (a_2 By rfl (.tmp rfl)) ?_
 exact ⟨rfl, CW.ext⟩
set_option maxHeartbeats 4000000 in
theorem HardDoubtful_e (b : h_0) (vt vm : Value) (lr lb lk : Nat → Value) (w : World) (hT : j_6 w vt lr lb b.tabs) (hM : k_4 w vm lk b.macs) (l : List (Int × Int)) (xl : Value) (hxl : SlAt w xl 2 l.length (pairs l)) (z : List Int) (xz : Value) (hxz : SlAt w xz 1 z.length (ints z)) (hf : p_2 b l = true) (hzn : z.length ≤ 9) (t : h_2) (hs : i_7 b l = some t) (tw : h_2) (hw : i_7 b (woF l z) = some tw) :
  Calls Try.prog 13 #[(Value.agg #[(Value.int .i64 b.scales), vt, vm]), xl, xz] w (Ret fun v w' => v = .bool true ∧ Ext NoB w w') := by
 refine a_8 Try.func13 rfl fun a0 BI => ?_
 replace BI : Fr 137 [] [(0, (Value.agg #[(Value.int .i64 b.scales), vt, vm])), (1, xl), (2, xz)] a0 := BI
 have hrd := ready_is hf; have hth := hrd.1; have Ep := hrd.2.1; have hr := hrd.2.2; have htl9 := hth.tl; have hml9 := hth.ml; have hc := o_6 hr; have hbl := z_7 hr; have hb := hbl.1; have hl := hbl.2; have E4 := hb.scales; have hdb := doubt_bd hb l; have hll := hl.len; have hwl1 := wo_len l z; have hwl2 := wo_len l (c_1 b l); have hrw := z_8 hr z; have hrd2 := z_8 hr (c_1 b l); obtain ⟨td, hsd⟩ := doubt_some hb l; have E3 := doubt_nil hb hs; have hdl := doubt_few hb hw
 have Ce : Sep NoB w w [(c_9 false vt lr lb b.tabs), (d_2 false vm lk b.macs), (sl xl 2 l.length (pairs l)), (sl xz 1 z.length (ints z))] := f_0 ⟨rfl, hT, rfl, hM, rfl, hxl, rfl, hxz, trivial⟩
 refine m2 ?_
 refine s2 BI (f_3 Ce rfl (BI.ev rfl) (cs := [(Value.int .i64 b.scales), vt, vm]) rfl) ?_
 rintro a1 _ w3 ⟨D, rfl, u⟩ Cd; clear BI Ce a0
 refine s1 Cd (a_1 rfl (evc _ _)) fun a6 CJ => ?_; clear Cd a1
 refine n2 ?_
 refine m2 ?_
 refine s1 CJ (c_4 rfl r_4 (CJ.ev rfl) (u.bk 0 rfl) (l := [(Value.int .i64 b.scales), vt, vm]) rfl rfl) fun a8 CL => ?_; clear CJ a6
 refine s1 CL (a_0 rfl (CL.ev rfl)) fun ED y => ?_; clear CL a8
 refine s2 y (a_6 rfl en_29 (ev2 (y.ev rfl) (y.ev rfl)) (ready_ok b vt vm lr lb lk _ (b_6 (u.ok 1 _ rfl)) (b_8 (u.ok 2 _ rfl)) l _ (u.sk 3 rfl))) ?_
 rintro EE _ E5 ⟨rfl, CO⟩ AD; have R := u.step CO; clear CO y u ED
 have D3 : (p_2 b l) = true := hf
 rw [D3] at AD
 refine s1 AD (f_4 rfl (AD.ev rfl)) fun EF BK => ?_; clear AD EE
 refine s1 BK (a_0 rfl (BK.ev rfl)) fun EG BL => ?_; clear BK EF
 refine s5 BL (a_0 rfl (BL.ev rfl)) fun EH BM => ?_; clear BL EG
 refine s5 BM (c_0 rfl h_8 (BM.ev rfl) (R.sk 4 rfl)) fun EI BN => ?_; clear BM EH
 refine s5 BN (g_9 rfl (BN.ev rfl) (evc _ _)) fun EJ q => ?_; clear BN EI
 have D4 : ¬ (9 < (z.length : Int)) := (by omega)
 rw [decide_eq_false D4] at q
 refine s1 q (c_2 rfl (q.ev rfl) (q.ev rfl)) fun EK BO => ?_; clear q EJ
 refine n1 ?_
 refine b_5 BO rfl ?_
 refine d_1 ?_
 refine b_0 ?_
 refine b_7 ?_
 have BP := BO.as [(3, (bptr D 0)), (1, xl), (2, xz)] rfl; clear BO
 refine a_5 ?_
 refine s1 BP (c_4 rfl r_4 (BP.ev rfl) (R.bk 0 rfl) (l := [(Value.int .i64 b.scales), vt, vm]) rfl rfl) fun EL BQ => ?_; clear BP EK
 refine s2 BQ (a_6 rfl aa_0 (ev1 (BQ.ev rfl)) (n_3 b vt vm lr lb lk _ (b_6 (R.ok 1 _ rfl)) (b_8 (R.ok 2 _ rfl)) hth)) ?_
 rintro EM _ E6 ⟨vt37, vm38, lr39, lb40, lk41, rfl, CQ⟩ BR; have Bi := R.l_5 CQ rfl; clear CQ BQ R EL
 refine s1 BR (a_0 rfl (BR.ev rfl)) fun EN BS => ?_; clear BR EM
 refine s2 BS (a_6 rfl aa_1 (ev1 (BS.ev rfl)) (h_9 l _ _ (Bi.sk 5 rfl) (by omega))) ?_
 rintro EO BJ E7 ⟨CP, hO50⟩ BC; have s := Bi.h_7 CP hO50; clear CP hO50 BS Bi EN
 refine s2 BC (a_6 rfl en_41 (ev2 (BC.ev rfl) (BC.ev rfl)) (Doubt_ok b vt37 vm38 lr39 lb40 lk41 _ (b_6 (s.ok 1 _ rfl)) (b_8 (s.ok 2 _ rfl)) hth l _ (SlAt.d_4 (s.d_7 0 rfl)) (by omega) hr)) ?_
 rintro EP _ Ei ⟨A, rfl, CR⟩ BT
 have BH : Sep NoB w Ei [(row A 3 1 ((c_1 b l).length) (ints (c_1 b l))), (row BJ 98 2 l.length (pairs l)), (c_9 true vt37 lr39 lb40 b.tabs), (d_2 true vm38 lk41 b.macs), (blk D 25 [(Value.int .i64 b.scales), vt, vm]), (c_9 false vt lr lb b.tabs), (d_2 false vm lk b.macs), (sl xl 2 l.length (pairs l)), (sl xz 1 z.length (ints z))] := s.l_5 CR rfl; clear CR BC s EO
 refine s1 BT (a_0 rfl (BT.ev rfl)) fun EQ BU => ?_; clear BT EP
 refine s1 BU (c_3 rfl (BU.ev rfl) rfl) fun ER BV => ?_; clear BU EQ
 refine s1 BV (c_3 rfl (BV.ev rfl) rfl) fun ES BW => ?_; clear BV ER
 refine s1 BW (a_1 rfl (BW.ev rfl)) fun ET BX => ?_; clear BW ES
 refine s1 BX (a_1 rfl (BX.ev rfl)) fun EU CI => ?_; clear BX ET
 refine n2 ?_
 refine b_7 ?_
 have BY := CI.as [(8, (Value.int .i64 0)), (7, A), (3, (bptr D 0)), (1, xl), (2, xz)] rfl; clear CI
 refine a_5 ?_
 refine s1 BY (a_0 rfl (BY.ev rfl)) fun EV BZ => ?_; clear BY EU
 refine s1 BZ (y_6 rfl (BZ.ev rfl) (evc _ _)) fun EW Ba => ?_; clear BZ EV
 refine s1 Ba (a_0 rfl (Ba.ev rfl)) fun EX Bb => ?_; clear Ba EW
 refine s5 Bb (a_0 rfl (Bb.ev rfl)) fun EY Bc => ?_; clear Bb EX
 refine s5 Bc (c_0 rfl h_8 (Bc.ev rfl) (SlAt.d_4 (BH.d_7 0 rfl))) fun EZ Bd => ?_; clear Bc EY
 refine s5 Bd (a_0 rfl (Bd.ev rfl)) fun Ea Be => ?_; clear Bd EZ
 refine s5 Be (c_0 rfl m_9 (Be.ev rfl) (BH.sk 7 rfl)) fun Eb BD => ?_; clear Be Ea
 refine s5 BD (g_9 rfl (BD.ev rfl) (BD.ev rfl)) fun Ec r => ?_; clear BD Eb
 have D5 : ¬ ((l.length : Int) < ((c_1 b l).length : Int)) := (by omega)
 rw [decide_eq_false D5] at r
 refine s1 r (c_2 rfl (r.ev rfl) (r.ev rfl)) fun Ed Bf => ?_; clear r Ec
 refine n1 ?_
 refine b_5 Bf rfl ?_
 refine d_1 ?_
 refine b_0 ?_
 refine b_7 ?_
 refine b_7 ?_
 have CK := Bf.as [(7, A), (3, (bptr D 0)), (1, xl), (2, xz)] rfl; clear Bf
 refine a_5 ?_
 refine s1 CK (a_1 rfl (evc _ _)) fun Ee CM => ?_; clear CK Ed
 refine n1 ?_
 refine d_0 ?_
 have CN := CM.as [(9, (Value.int .i64 0)), (7, A), (3, (bptr D 0)), (1, xl), (2, xz)] rfl; clear CM
 refine h_3 (G := Nat) (fun (k : Nat) a_ w_ => Fr 137 [] [(9, (Value.int .i64 (k : Int))), (7, A), (3, (bptr D 0)), (1, xl), (2, xz)] a_ ∧ Sep NoB w w_ [(row A 3 1 ((c_1 b l).length) (ints (c_1 b l))), (row BJ 98 2 l.length (pairs l)), (c_9 true vt37 lr39 lb40 b.tabs), (d_2 true vm38 lk41 b.macs), (blk D 25 [(Value.int .i64 b.scales), vt, vm]), (c_9 false vt lr lb b.tabs), (d_2 false vm lk b.macs), (sl xl 2 l.length (pairs l)), (sl xz 1 z.length (ints z))] ∧ (k ≤ (c_1 b l).length)) (fun k => (c_1 b l).length - k) 0 ⟨CN.as _ rfl, BH, by omega⟩ ?_
 clear CN BH Ee
 rintro k Ef E8 ⟨Bg, C, hkk⟩
 refine b_7 ?_
 refine m2 ?_
 refine s1 Bg (a_0 rfl (Bg.ev rfl)) fun Eg Bh => ?_; clear Bg Ef
 refine s1 Bh (a_0 rfl (Bh.ev rfl)) fun Eh x => ?_; clear Bh Eg
 refine s1 x (c_0 rfl h_8 (x.ev rfl) (SlAt.d_4 (C.d_7 0 rfl))) fun Cf S => ?_; clear x Eh
 refine s1 S (f_9 rfl (S.ev rfl) (S.ev rfl)) fun Cg B => ?_; clear S Cf
 refine n1 ?_
 by_cases CF : (k : Int) < ((c_1 b l).length : Int)
 ·skip
  rw [decide_eq_true CF] at B
  have hbk := hdb.2.1 k (by omega)
  refine c_6 B rfl ?_
  refine d_1 ?_
  refine b_0 ?_
  refine b_7 ?_
  refine d_0 ?_
  refine b_7 ?_
  have T := B.as [(9, (Value.int .i64 (k : Int))), (7, A), (3, (bptr D 0)), (1, xl), (2, xz)] rfl; clear B
  by_cases CG : 0 < (k : Int)
  ·skip
   have Bl := T.as [(9, (Value.int .i64 (k : Int))), (7, A), (3, (bptr D 0)), (1, xl), (2, xz)] rfl; clear T
   refine g_6 mixed Bl C 22 [[], [], [0, 1], [2], [], [4], [5], [3, 6], [7], [8], [9], [9, 10], [9, 11], [12], [12], [12, 13, 14], [12, 15], [12], [12], [12, 18], [12, 17, 19], [12, 20]] [(Yd.val A), (Yd.val (Value.int .i64 (k : Int))), (Yd.val (eptr A (k * 1))), (Yd.val (Value.int .i64 ((c_1 b l).getD k 0))), (Yd.val xl), (Yd.val (Value.int .i64 (l.length : Int))), (Yd.val (Value.int .i64 ((l.length : Int) - 1))), (Yd.val (Value.bool true)), (Yd.val (Value.bool (!true))), (Yd.val (Value.bool (!true))), (Yd.val (Value.int .i64 (k : Int))), (Yd.val (Value.bool true)), (Yd.val (Value.bool true)), (Yd.val A), (Yd.val (Value.int .i64 (k : Int))), (Yd.val (eptr A (k * 1))), (Yd.val (Value.int .i64 ((c_1 b l).getD k 0))), (Yd.val A), (Yd.val (Value.int .i64 (k : Int))), (Yd.val (Value.int .i64 ((k : Int) - 1))), (Yd.val (eptr A (((k : Int) - 1).toNat * 1))), (Yd.val (Value.int .i64 ((c_1 b l).getD (((k : Int) - 1).toNat) 0)))] (by decide +kernel) rfl rfl ?_ ?_
   ·skip
    refine dq (fun a w hA hS hd => a_0 rfl (hA.ev rfl)) ?_
    refine dq (fun a w hA hS hd => a_0 rfl (hA.ev rfl)) ?_
    refine dq (fun a w hA hS hd => b_2 rfl h_8 ty_3 (hq hd 0) (i := k) (hq hd 1) (SlAt.d_4 (hS.d_7 0 rfl)) (by decide) (by omega)) ?_
    refine dq (fun a w hA hS hd => c_7 rfl ty_3 (hq hd 2) (SlAt.d_4 (hS.d_7 0 rfl)) (ints_at (by omega))) ?_
    refine dq (fun a w hA hS hd => a_0 rfl (hA.ev rfl)) ?_
    refine dq (fun a w hA hS hd => c_0 rfl m_9 (hq hd 4) (hS.sk 7 rfl)) ?_
    refine dq (fun a w hA hS hd => g_1 rfl (hq hd 5) (evc _ _) (by omega) (by omega)) ?_
    refine ⟨fun a w hA hS hd => by have e3 := hx hd 3; have e6 := hx hd 6; exact d_9 rfl (dv (a_6 rfl v_5 (ev3 (b_9 e3) (evc _ _) (b_9 e6)) (v_4 _ _ _ _)) hS (by show Value.bool _ = _; simp only [(show (inB ((c_1 b l).getD k 0) 0 ((l.length : Int) - 1)) = true from (h_4.2 (by omega))), decide_true, decide_false, Bool.not_true, Bool.not_false])), ?_⟩
    refine dq (fun a w hA hS hd => f_4 rfl (hq hd 7)) ?_
    refine dq (fun a w hA hS hd => a_0 rfl (hq hd 8)) ?_
    refine dy 9 (fun a w hA hS hd => a_0 rfl (hA.ev rfl)) ?_
    refine ⟨fun a w hA hS hd => by have e9 := hx hd 9; have CH := hx hd 10; exact f_1 rfl rfl e9 (dv (g_9 rfl (b_9 CH) (evc _ _)) hS (by show Value.bool _ = _; simp only [decide_eq_true CG, decide_true, decide_false, Bool.not_true, Bool.not_false])), ?_⟩
    refine dy 9 (fun a w hA hS hd => a_0 rfl (hq hd 11)) ?_
    refine dy 12 (fun a w hA hS hd => a_0 rfl (hA.ev rfl)) ?_
    refine dy 12 (fun a w hA hS hd => a_0 rfl (hA.ev rfl)) ?_
    refine dy 12 (fun a w hA hS hd => b_2 rfl h_8 ty_3 (hq hd 13) (i := k) (hq hd 14) (SlAt.d_4 (hS.d_7 0 rfl)) (by decide) (by omega)) ?_
    refine dy 12 (fun a w hA hS hd => c_7 rfl ty_3 (hq hd 15) (SlAt.d_4 (hS.d_7 0 rfl)) (ints_at (by omega))) ?_
    refine dy 12 (fun a w hA hS hd => a_0 rfl (hA.ev rfl)) ?_
    refine dy 12 (fun a w hA hS hd => a_0 rfl (hA.ev rfl)) ?_
    refine dy 12 (fun a w hA hS hd => g_1 rfl (hq hd 18) (evc _ _) (by omega) (by omega)) ?_
    refine dy 12 (fun a w hA hS hd => b_2 rfl h_8 ty_3 (hq hd 17) (i := ((k : Int) - 1).toNat) ((hq hd 19).trans (k_3 (by omega))) (SlAt.d_4 (hS.d_7 0 rfl)) (by decide) (by omega)) ?_
    refine dy 12 (fun a w hA hS hd => c_7 rfl ty_3 (hq hd 20) (SlAt.d_4 (hS.d_7 0 rfl)) (ints_at (by omega))) ?_
    trivial
   intro Ch Er Bm CX I; clear Bl C
   have Bn := Bm.add (hz I 9); clear Bm
   have Bo := Bn.add (hz I 12); clear Bn
   have Bp := Bo.add (hz I 16); clear Bo
   have U := Bp.add (hz I 21); clear Bp
   clear I
   refine s5 U (p_1 rfl (U.ev rfl) (U.ev rfl)) fun Ci E => ?_; clear U Ch
   have Ca : ¬ (((c_1 b l).getD k 0) ≤ ((c_1 b l).getD (((k : Int) - 1).toNat) 0)) := (by have hz_ := hdb.2.2 k (by omega) (by omega); rw [show ((k : Int) - 1).toNat = k - 1 by omega]; omega)
   rw [decide_eq_false Ca] at E
   refine s5 E (b_3 rfl (E.ev rfl) (E.ev rfl)) fun Cj V => ?_; clear E Ci
   refine s1 V (c_2 rfl (V.ev rfl) (V.ev rfl)) fun Ck AA => ?_; clear V Cj
   refine n1 ?_
   refine b_5 AA rfl ?_
   refine d_1 ?_
   refine g_8 ?_
   refine b_0 ?_
   have AB := AA.as [(9, (Value.int .i64 (k : Int))), (7, A), (3, (bptr D 0)), (1, xl), (2, xz)] rfl; clear AA
   refine a_5 ?_
   refine s1 AB (a_0 rfl (AB.ev rfl)) fun Cl AC => ?_; clear AB Ck
   refine s1 AC (f_6 rfl (AC.ev rfl) (evc _ _) (by omega) (by omega)) fun Cm AE => ?_; clear AC Cl
   refine s1 AE (a_1 rfl (AE.ev rfl)) fun Ek CV => ?_; clear AE Cm
   refine e_8 ?_
   exact b_0 ⟨k + 1, ⟨CV.as _ rfl, CX, by omega⟩, by omega⟩
  skip
  have Bq := T.as [(9, (Value.int .i64 (k : Int))), (7, A), (3, (bptr D 0)), (1, xl), (2, xz)] rfl; clear T
  refine g_6 mixed Bq C 22 [[], [], [0, 1], [2], [], [4], [5], [3, 6], [7], [8], [9], [9, 10], [9, 11], [12], [12], [12, 13, 14], [12, 15], [12], [12], [12, 18], [12, 17, 19], [12, 20]] [(Yd.val A), (Yd.val (Value.int .i64 (k : Int))), (Yd.val (eptr A (k * 1))), (Yd.val (Value.int .i64 ((c_1 b l).getD k 0))), (Yd.val xl), (Yd.val (Value.int .i64 (l.length : Int))), (Yd.val (Value.int .i64 ((l.length : Int) - 1))), (Yd.val (Value.bool true)), (Yd.val (Value.bool (!true))), (Yd.val (Value.bool (!true))), (Yd.val (Value.int .i64 (k : Int))), (Yd.val (Value.bool false)), (Yd.val (Value.bool false)), (Yd.val undef), (Yd.val undef), (Yd.val undef), (Yd.val undef), (Yd.val undef), (Yd.val undef), (Yd.val undef), (Yd.val undef), (Yd.val undef)] (by decide +kernel) rfl rfl ?_ ?_
  ·skip
   refine dq (fun a w hA hS hd => a_0 rfl (hA.ev rfl)) ?_
   refine dq (fun a w hA hS hd => a_0 rfl (hA.ev rfl)) ?_
   refine dq (fun a w hA hS hd => b_2 rfl h_8 ty_3 (hq hd 0) (i := k) (hq hd 1) (SlAt.d_4 (hS.d_7 0 rfl)) (by decide) (by omega)) ?_
   refine dq (fun a w hA hS hd => c_7 rfl ty_3 (hq hd 2) (SlAt.d_4 (hS.d_7 0 rfl)) (ints_at (by omega))) ?_
   refine dq (fun a w hA hS hd => a_0 rfl (hA.ev rfl)) ?_
   refine dq (fun a w hA hS hd => c_0 rfl m_9 (hq hd 4) (hS.sk 7 rfl)) ?_
   refine dq (fun a w hA hS hd => g_1 rfl (hq hd 5) (evc _ _) (by omega) (by omega)) ?_
   refine ⟨fun a w hA hS hd => by have e3 := hx hd 3; have e6 := hx hd 6; exact d_9 rfl (dv (a_6 rfl v_5 (ev3 (b_9 e3) (evc _ _) (b_9 e6)) (v_4 _ _ _ _)) hS (by show Value.bool _ = _; simp only [(show (inB ((c_1 b l).getD k 0) 0 ((l.length : Int) - 1)) = true from (h_4.2 (by omega))), decide_true, decide_false, Bool.not_true, Bool.not_false])), ?_⟩
   refine dq (fun a w hA hS hd => f_4 rfl (hq hd 7)) ?_
   refine dq (fun a w hA hS hd => a_0 rfl (hq hd 8)) ?_
   refine dy 9 (fun a w hA hS hd => a_0 rfl (hA.ev rfl)) ?_
   refine ⟨fun a w hA hS hd => by have e9 := hx hd 9; have CH := hx hd 10; exact f_1 rfl rfl e9 (dv (g_9 rfl (b_9 CH) (evc _ _)) hS (by show Value.bool _ = _; simp only [decide_eq_false CG, decide_true, decide_false, Bool.not_true, Bool.not_false])), ?_⟩
   refine dy 9 (fun a w hA hS hd => a_0 rfl (hq hd 11)) ?_
   refine dn 12 ?_
   refine dn 12 ?_
   refine dn 12 ?_
   refine dn 12 ?_
   refine dn 12 ?_
   refine dn 12 ?_
   refine dn 12 ?_
   refine dn 12 ?_
   refine dn 12 ?_
   trivial
  intro Cn Es Br CY J; clear Bq C
  have Bs := Br.add (hz J 9); clear Br
  have Bt := Bs.add (hz J 12); clear Bs
  have Bu := Bt.add (hz J 16); clear Bt
  have Bv := Bu.add (hz J 21); clear Bu
  clear J
  refine s3 Bv fun Co AF => ?_; clear Bv Cn
  refine s5 AF (c_2 rfl (AF.ev rfl) (evc _ _)) fun Cp W => ?_; clear AF Co
  refine s1 W (c_2 rfl (W.ev rfl) (W.ev rfl)) fun Cq AG => ?_; clear W Cp
  refine n1 ?_
  refine b_5 AG rfl ?_
  refine d_1 ?_
  refine g_8 ?_
  refine b_0 ?_
  have AH := AG.as [(9, (Value.int .i64 (k : Int))), (7, A), (3, (bptr D 0)), (1, xl), (2, xz)] rfl; clear AG
  refine a_5 ?_
  refine s1 AH (a_0 rfl (AH.ev rfl)) fun Cr AI => ?_; clear AH Cq
  refine s1 AI (f_6 rfl (AI.ev rfl) (evc _ _) (by omega) (by omega)) fun Cs AJ => ?_; clear AI Cr
  refine s1 AJ (a_1 rfl (AJ.ev rfl)) fun El CW => ?_; clear AJ Cs
  refine e_8 ?_
  exact b_0 ⟨k + 1, ⟨CW.as _ rfl, CY, by omega⟩, by omega⟩
 skip
 rw [decide_eq_false CF] at B
 refine b_5 B rfl ?_
 refine h_1 ?_
 refine b_4 ?_
 refine b_4 ?_
 refine f_7 ?_
 refine b_0 ?_
 refine m2 ?_
 refine s1 B (c_4 rfl r_4 (B.ev rfl) (C.bk 4 rfl) (l := [(Value.int .i64 b.scales), vt, vm]) rfl rfl) fun Ct AK => ?_; clear B Cg
 refine s2 AK (a_6 rfl aa_0 (ev1 (AK.ev rfl)) (n_3 b vt vm lr lb lk _ (b_6 (C.ok 5 _ rfl)) (b_8 (C.ok 6 _ rfl)) hth)) ?_
 rintro Cu _ Et ⟨vt163, vm164, lr165, lb166, lk167, rfl, B9⟩ AL; have BE := C.l_5 B9 rfl; clear B9 AK C Ct
 refine s1 AL (a_0 rfl (AL.ev rfl)) fun Cv AM => ?_; clear AL Cu
 refine s2 AM (a_6 rfl aa_1 (ev1 (AM.ev rfl)) (h_9 l _ _ (BE.sk 9 rfl) (by omega))) ?_
 rintro Cw Bk Eu ⟨B2, hO176⟩ X; have K := BE.h_7 B2 hO176; clear B2 hO176 AM BE Cv
 refine s2 X (a_6 rfl ab_5 (ev2 (X.ev rfl) (X.ev rfl)) (s_3 b vt163 vm164 lr165 lb166 lk167 _ (b_6 (K.ok 1 _ rfl)) (b_8 (K.ok 2 _ rfl)) hth l _ (SlAt.d_4 (K.d_7 0 rfl)) (by omega) t hr hs)) ?_
 rintro Cx _ D9 ⟨Bj, rfl, CA⟩ AN
 have L : Sep NoB w D9 [(row Bj 30 2 t.length (pairs t)), (row Bk 98 2 l.length (pairs l)), (c_9 true vt163 lr165 lb166 b.tabs), (d_2 true vm164 lk167 b.macs), (row A 3 1 ((c_1 b l).length) (ints (c_1 b l))), (row BJ 98 2 l.length (pairs l)), (c_9 true vt37 lr39 lb40 b.tabs), (d_2 true vm38 lk41 b.macs), (blk D 25 [(Value.int .i64 b.scales), vt, vm]), (c_9 false vt lr lb b.tabs), (d_2 false vm lk b.macs), (sl xl 2 l.length (pairs l)), (sl xz 1 z.length (ints z))] := K.l_5 CA rfl; clear CA X K Cw
 refine s1 AN (a_0 rfl (AN.ev rfl)) fun Cy AO => ?_; clear AN Cx
 refine s1 AO (c_3 rfl (AO.ev rfl) rfl) fun Cz AP => ?_; clear AO Cy
 refine s1 AP (c_3 rfl (AP.ev rfl) rfl) fun C0 AQ => ?_; clear AP Cz
 refine s1 AQ (a_1 rfl (AQ.ev rfl)) fun C1 AR => ?_; clear AQ C0
 refine s1 AR (a_1 rfl (AR.ev rfl)) fun C2 Bw => ?_; clear AR C1
 refine n2 ?_
 have AS := Bw.as [(11, (Value.int .i64 0)), (7, A), (3, (bptr D 0)), (1, xl), (2, xz)] rfl; clear Bw
 refine a_5 ?_
 refine s1 AS (c_4 rfl r_4 (AS.ev rfl) (L.bk 8 rfl) (l := [(Value.int .i64 b.scales), vt, vm]) rfl rfl) fun C3 AT => ?_; clear AS C2
 refine s2 AT (a_6 rfl aa_0 (ev1 (AT.ev rfl)) (n_3 b vt vm lr lb lk _ (b_6 (L.ok 9 _ rfl)) (b_8 (L.ok 10 _ rfl)) hth)) ?_
 rintro C4 _ Ev ⟨vt201, vm202, lr203, lb204, lk205, rfl, CB⟩ AU; have o := L.l_5 CB rfl; clear CB AT L C3
 refine s1 AU (a_0 rfl (AU.ev rfl)) fun C5 AV => ?_; clear AU C4
 refine s1 AV (a_0 rfl (AV.ev rfl)) fun C6 Y => ?_; clear AV C5
 refine s2 Y (a_6 rfl ab_9 (ev2 (Y.ev rfl) (Y.ev rfl)) (k_9 l _ _ (o.sk 13 rfl) (c_1 b l) _ (SlAt.d_4 (o.d_7 6 rfl)) (by omega) (by omega))) ?_
 rintro C7 CT Ew ⟨B3, hO216⟩ AW; have BF := o.h_7 B3 hO216; clear B3 hO216 Y o C6
 refine s2 AW (a_6 rfl aa_1 (ev1 (AW.ev rfl)) (h_9 (woF l (c_1 b l)) _ _ (SlAt.d_4 (BF.d_7 0 rfl)) (by omega))) ?_
 rintro C8 CU Ex ⟨B4, hO223⟩ Z; have M := BF.h_7 B4 hO223; clear B4 hO223 AW BF C7
 refine s2 Z (a_6 rfl ab_5 (ev2 (Z.ev rfl) (Z.ev rfl)) (s_3 b vt201 vm202 lr203 lb204 lk205 _ (b_6 (M.ok 2 _ rfl)) (b_8 (M.ok 3 _ rfl)) hth (woF l (c_1 b l)) _ (SlAt.d_4 (M.d_7 0 rfl)) (by omega) td hrd2 hsd)) ?_
 rintro C9 _ EA ⟨CS, rfl, CC⟩ AX
 have N : Sep NoB w EA [(row CS 30 2 td.length (pairs td)), (row CU 98 2 ((woF l (c_1 b l)).length) (pairs (woF l (c_1 b l)))), (row CT 67 2 ((woF l (c_1 b l)).length) (pairs (woF l (c_1 b l)))), (c_9 true vt201 lr203 lb204 b.tabs), (d_2 true vm202 lk205 b.macs), (row Bj 30 2 t.length (pairs t)), (row Bk 98 2 l.length (pairs l)), (c_9 true vt163 lr165 lb166 b.tabs), (d_2 true vm164 lk167 b.macs), (row A 3 1 ((c_1 b l).length) (ints (c_1 b l))), (row BJ 98 2 l.length (pairs l)), (c_9 true vt37 lr39 lb40 b.tabs), (d_2 true vm38 lk41 b.macs), (blk D 25 [(Value.int .i64 b.scales), vt, vm]), (c_9 false vt lr lb b.tabs), (d_2 false vm lk b.macs), (sl xl 2 l.length (pairs l)), (sl xz 1 z.length (ints z))] := M.l_5 CC rfl; clear CC Z M C8
 refine s1 AX (a_0 rfl (AX.ev rfl)) fun DA AY => ?_; clear AX C9
 refine s1 AY (c_3 rfl (AY.ev rfl) rfl) fun DB AZ => ?_; clear AY DA
 refine s1 AZ (c_3 rfl (AZ.ev rfl) rfl) fun DC Aa => ?_; clear AZ DB
 refine s1 Aa (a_1 rfl (Aa.ev rfl)) fun DD Ab => ?_; clear Aa DC
 refine s1 Ab (a_1 rfl (Ab.ev rfl)) fun DE Bx => ?_; clear Ab DD
 refine n2 ?_
 have Ac := Bx.as [(13, (Value.int .i64 0)), (11, (Value.int .i64 0)), (7, A), (3, (bptr D 0)), (1, xl), (2, xz)] rfl; clear Bx
 refine a_5 ?_
 refine s1 Ac (c_4 rfl r_4 (Ac.ev rfl) (N.bk 13 rfl) (l := [(Value.int .i64 b.scales), vt, vm]) rfl rfl) fun DF Ad => ?_; clear Ac DE
 refine s2 Ad (a_6 rfl aa_0 (ev1 (Ad.ev rfl)) (n_3 b vt vm lr lb lk _ (b_6 (N.ok 14 _ rfl)) (b_8 (N.ok 15 _ rfl)) hth)) ?_
 rintro DG _ Ey ⟨vt248, vm249, lr250, lb251, lk252, rfl, CD⟩ Ae; have p := N.l_5 CD rfl; clear CD Ad N DF
 refine s1 Ae (a_0 rfl (Ae.ev rfl)) fun DH Af => ?_; clear Ae DG
 refine s1 Af (a_0 rfl (Af.ev rfl)) fun DI c => ?_; clear Af DH
 refine s2 c (a_6 rfl ab_9 (ev2 (c.ev rfl) (c.ev rfl)) (k_9 l _ _ (p.sk 18 rfl) z _ (p.sk 19 rfl) (by omega) (by omega))) ?_
 rintro DJ D7 Ez ⟨B5, hO263⟩ Ag; have BG := p.h_7 B5 hO263; clear B5 hO263 c p DI
 refine s2 Ag (a_6 rfl aa_1 (ev1 (Ag.ev rfl)) (h_9 (woF l z) _ _ (SlAt.d_4 (BG.d_7 0 rfl)) (by omega))) ?_
 rintro DK D8 E0 ⟨B6, hO270⟩ d; have O := BG.h_7 B6 hO270; clear B6 hO270 Ag BG DJ
 refine s2 d (a_6 rfl ab_5 (ev2 (d.ev rfl) (d.ev rfl)) (s_3 b vt248 vm249 lr250 lb251 lk252 _ (b_6 (O.ok 2 _ rfl)) (b_8 (O.ok 3 _ rfl)) hth (woF l z) _ (SlAt.d_4 (O.d_7 0 rfl)) (by omega) tw hrw hw)) ?_
 rintro DL _ EB ⟨D6, rfl, CE⟩ Ah
 have P : Sep NoB w EB [(row D6 30 2 tw.length (pairs tw)), (row D8 98 2 ((woF l z).length) (pairs (woF l z))), (row D7 67 2 ((woF l z).length) (pairs (woF l z))), (c_9 true vt248 lr250 lb251 b.tabs), (d_2 true vm249 lk252 b.macs), (row CS 30 2 td.length (pairs td)), (row CU 98 2 ((woF l (c_1 b l)).length) (pairs (woF l (c_1 b l)))), (row CT 67 2 ((woF l (c_1 b l)).length) (pairs (woF l (c_1 b l)))), (c_9 true vt201 lr203 lb204 b.tabs), (d_2 true vm202 lk205 b.macs), (row Bj 30 2 t.length (pairs t)), (row Bk 98 2 l.length (pairs l)), (c_9 true vt163 lr165 lb166 b.tabs), (d_2 true vm164 lk167 b.macs), (row A 3 1 ((c_1 b l).length) (ints (c_1 b l))), (row BJ 98 2 l.length (pairs l)), (c_9 true vt37 lr39 lb40 b.tabs), (d_2 true vm38 lk41 b.macs), (blk D 25 [(Value.int .i64 b.scales), vt, vm]), (c_9 false vt lr lb b.tabs), (d_2 false vm lk b.macs), (sl xl 2 l.length (pairs l)), (sl xz 1 z.length (ints z))] := O.l_5 CE rfl; clear CE d O DK
 refine s1 Ah (a_0 rfl (Ah.ev rfl)) fun DM Ai => ?_; clear Ah DL
 refine s1 Ai (c_3 rfl (Ai.ev rfl) rfl) fun DN Aj => ?_; clear Ai DM
 refine s1 Aj (c_3 rfl (Aj.ev rfl) rfl) fun DO Ak => ?_; clear Aj DN
 refine s1 Ak (a_1 rfl (Ak.ev rfl)) fun DP Al => ?_; clear Ak DO
 refine s1 Al (a_1 rfl (Al.ev rfl)) fun DQ By => ?_; clear Al DP
 refine n2 ?_
 have Am := By.as [(15, (Value.int .i64 0)), (13, (Value.int .i64 0)), (11, (Value.int .i64 0)), (7, A), (1, xl), (2, xz)] rfl; clear By
 refine a_5 ?_
 refine s1 Am (a_0 rfl (Am.ev rfl)) fun DR An => ?_; clear Am DQ
 refine s1 An (c_0 rfl m_9 (An.ev rfl) (P.sk 21 rfl)) fun DS Ao => ?_; clear An DR
 refine s1 Ao (a_0 rfl (Ao.ev rfl)) fun DT Ap => ?_; clear Ao DS
 refine s1 Ap (a_0 rfl (Ap.ev rfl)) fun DU e => ?_; clear Ap DT
 refine s2 e (a_6 rfl ab_9 (ev2 (e.ev rfl) (e.ev rfl)) (k_9 l _ _ (P.sk 21 rfl) z _ (P.sk 22 rfl) (by omega) (by omega))) ?_
 rintro DV Eq E1 ⟨B7, hO302⟩ Aq; have Q := P.h_7 B7 hO302; clear B7 hO302 e P DU
 refine s1 Aq (c_0 rfl m_9 (Aq.ev rfl) (SlAt.d_4 (Q.d_7 0 rfl))) fun DW f => ?_; clear Aq DV
 refine s1 f (g_1 rfl (f.ev rfl) (f.ev rfl) (by omega) (by omega)) fun DX Ar => ?_; clear f DW
 refine s1 Ar (a_1 rfl (Ar.ev rfl)) fun DY Bz => ?_; clear Ar DX
 refine n2 ?_
 have As := Bz.as [(16, (Value.int .i64 ((l.length : Int) - ((woF l z).length : Int)))), (15, (Value.int .i64 0)), (13, (Value.int .i64 0)), (11, (Value.int .i64 0)), (7, A)] rfl; clear Bz
 refine a_5 ?_
 refine s1 As (a_0 rfl (As.ev rfl)) fun DZ At => ?_; clear As DY
 refine s1 At (j_8 rfl (At.ev rfl) (evc _ _)) fun Da Au => ?_; clear At DZ
 refine s1 Au (a_0 rfl (Au.ev rfl)) fun Db Av => ?_; clear Au Da
 refine s1 Av (c_0 rfl h_8 (Av.ev rfl) (SlAt.d_4 (Q.d_7 15 rfl))) fun Dc Aw => ?_; clear Av Db
 refine s1 Aw (j_8 rfl (Aw.ev rfl) (evc _ _)) fun Dd F => ?_; clear Aw Dc
 have Cb : ((c_1 b l).length : Int) = 0 := (by omega)
 rw [decide_eq_true Cb] at F
 refine s1 F (op_eqlB un_4 rfl (F.ev rfl) (F.ev rfl)) fun De Ax => ?_; clear F Dd
 refine s1 Ax (a_0 rfl (Ax.ev rfl)) fun Df Ay => ?_; clear Ax De
 refine s5 Ay (a_0 rfl (Ay.ev rfl)) fun Dg Az => ?_; clear Ay Df
 refine s5 Az (j_8 rfl (Az.ev rfl) (evc _ _)) fun Dh g => ?_; clear Az Dg
 refine s1 g (b_3 rfl (g.ev rfl) (g.ev rfl)) fun Di A0 => ?_; clear g Dh
 refine s1 A0 (a_0 rfl (A0.ev rfl)) fun Dj A1 => ?_; clear A0 Di
 refine s5 A1 (a_0 rfl (A1.ev rfl)) fun Dk A2 => ?_; clear A1 Dj
 refine s5 A2 (j_8 rfl (A2.ev rfl) (evc _ _)) fun Dl A3 => ?_; clear A2 Dk
 refine s5 A3 (a_0 rfl (A3.ev rfl)) fun Dm A4 => ?_; clear A3 Dl
 refine s5 A4 (a_0 rfl (A4.ev rfl)) fun Dn A5 => ?_; clear A4 Dm
 refine s5 A5 (j_8 rfl (A5.ev rfl) (evc _ _)) fun Do A6 => ?_; clear A5 Dn
 refine s5 A6 (a_0 rfl (A6.ev rfl)) fun Dp A7 => ?_; clear A6 Do
 refine s5 A7 (a_0 rfl (A7.ev rfl)) fun Dq A8 => ?_; clear A7 Dp
 refine s5 A8 (a_0 rfl (A8.ev rfl)) fun Dr A9 => ?_; clear A8 Dq
 refine s5 A9 (c_0 rfl h_8 (A9.ev rfl) (SlAt.d_4 (Q.d_7 15 rfl))) fun Ds h => ?_; clear A9 Dr
 refine s5 h (w_7 rfl (h.ev rfl) (h.ev rfl)) fun Dt H => ?_; clear h Ds
 have Cc : ((c_1 b l).length : Int) ≤ ((l.length : Int) - ((woF l z).length : Int)) := (by omega)
 rw [decide_eq_true Cc] at H
 refine s5 H (b_3 rfl (H.ev rfl) (H.ev rfl)) fun Du j => ?_; clear H Dt
 refine s5 j (c_2 rfl (j.ev rfl) (j.ev rfl)) fun Dv m => ?_; clear j Du
 refine s1 m (b_3 rfl (m.ev rfl) (m.ev rfl)) fun Dw BA => ?_; clear m Dv
 refine s1 BA (a_0 rfl (BA.ev rfl)) fun Dx B0 => ?_; clear BA Dw
 refine s6 B0 (a_6 rfl en_17 ev0 (awake_ok _)) ?_
 rintro Dy _ E2 ⟨rfl, B8⟩ n; have CZ := Q.step B8; clear B8 B0 Q Dx
 refine s1 n (b_3 rfl (n.ev rfl) (n.ev rfl)) fun Dz BB => ?_; clear n Dy
 refine s1 BB (a_1 rfl (BB.ev rfl)) fun Em B1 => ?_; clear BB Dz
 refine n1 ?_
 refine c_8 ?_
 refine a_9 B1 (.inl rfl) (a_2 B1 rfl (.tmp rfl)) ?_
 exact ⟨rfl, CZ.ext⟩
theorem HardDoubtful_ok (b : h_0) (vt vm : Value) (lr lb lk : Nat → Value) (w : World) (hT : j_6 w vt lr lb b.tabs) (hM : k_4 w vm lk b.macs) (l : List (Int × Int)) (xl : Value) (hxl : SlAt w xl 2 l.length (pairs l)) (z : List Int) (xz : Value) (hxz : SlAt w xz 1 z.length (ints z)) : Calls Try.prog 13 #[.agg #[.int .i64 b.scales, vt, vm], xl, xz] w (Ret fun v w' => v = .bool true ∧ Ext NoB w w') := by
 rcases Bool.eq_false_or_eq_true (p_2 b l) with hf | hf
 ·by_cases hz : z.length ≤ 9
  ·cases hs : i_7 b l with
   | none =>
    cases hw : i_7 b (woF l z) with
    | none => exact HardDoubtful_b b vt vm lr lb lk w hT hM l xl hxl z xz hxz hf hz hs hw
    | some tw => exact HardDoubtful_c b vt vm lr lb lk w hT hM l xl hxl z xz hxz hf hz hs tw hw
   | some t =>
    cases hw : i_7 b (woF l z) with
    | none => exact HardDoubtful_d b vt vm lr lb lk w hT hM l xl hxl z xz hxz hf hz t hs hw
    | some tw => exact HardDoubtful_e b vt vm lr lb lk w hT hM l xl hxl z xz hxz hf hz t hs tw hw
  exact HardDoubtful_z b vt vm lr lb lk w hT hM l xl hxl z xz hxz hf hz
 exact HardDoubtful_a b vt vm lr lb lk w hT hM l xl hxl z xz hxz hf
end Go.Proofs.Ytohgladndklciaa
