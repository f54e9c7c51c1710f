/-
  Books built in memory: slices of slices, one more; tables and machines as one thing.
  The chapter's book and what it shows; decided by the kernel.
  What the laws ask first: may a book be played; narrower spans. What HardAllows says.
  Values that fit a book: told by all their tests at once.
  The doubtful readings: lists of numbers by size, readings but some, the first list without which the others fit.
-/
import Derived.Test.YtohgladndklciaaBc
import Derived.Test.YtohgladndklciaaEnga
set_option linter.unusedSimpArgs false
set_option linter.unusedVariables false
namespace Go.Proofs.Ytohgladndklciaa
open Go.RowKit Go.Shelf Go.Eng Go.Hard
theorem ze_98 : (Try.prog.info? 98).bind (·.zero) = some (Value.agg #[(Value.int .i64 0), (Value.int .i64 0)]) := by kernel_rfl
theorem en_88 : ∀ args w, (callFunc 88 args).run Try.prog w = .ok (.enter 88 args) w := enters_of Try.func88 (by kernel_rfl) rfl
theorem ar_120 : Try.prog.underlying 120 = some (.array 4 30) := by kernel_rfl
theorem tw_30 : k_1 Try.prog 30 = true := by kernel_rfl
theorem gt_120 : Try.prog.eqGuardType Try.prog.depth 120 = false := by kernel_rfl
set_option maxHeartbeats 4000000 in
theorem spansb_ok (b : h_0) (vt vm : Value) (lr lb lk : Nat → Value) (w : World) (hT : j_6 w vt lr lb b.tabs) (hM : k_4 w vm lk b.macs) (hth : o_0 b) (bx bm : Nat) (es : Array MapEntry) (ck : Nat) (hMO : p_3 bm es ck (bN b.tabs b.tabs.length)) (hbx : (blk bx 146 [.int .i64 b.scales, vt, vm, .map (some bm)]).p w) (hmx : (mapX false bm es ck es.size 106 5 (bN b.tabs b.tabs.length) (bC lr lb b.tabs b.tabs.length)).p w) (hb : l_3 b) (l : List (Int × Int)) (xl : Value) (hxl : SlAt w xl 2 l.length (pairs l)) (hl : t_6 b l) :
  Calls Try.prog 57 #[(bptr bx 0), xl] w (Ret fun v w' => ∃ x, x.length = 4 ∧ v = .tuple #[.agg (pairs x).toArray, .bool (i_7 b l).isSome] ∧ (∀ t, i_7 b l = some t → x.take b.scales.toNat = t) ∧ Ext NoB w w') := by
 refine a_8 Try.func57 rfl fun a0 Aj => ?_
 replace Aj : Fr 79 [] [(0, (bptr bx 0)), (1, xl)] a0 := Aj
 have hsc := hb.scales; have htl9 := hth.tl; have hml9 := hth.ml; have hll := hl.len
 have Br : Sep NoB w w [(rob bx 146 [(Value.int .i64 b.scales), vt, vm, (Value.map (some bm))]), (mapX false bm es ck es.size 106 5 (bN b.tabs b.tabs.length) (bC lr lb b.tabs b.tabs.length)), (c_9 false vt lr lb b.tabs), (d_2 false vm lk b.macs), (sl xl 2 l.length (pairs l))] := f_0 ⟨rfl, hbx, rfl, hmx, rfl, hT, rfl, hM, rfl, hxl, trivial⟩
 refine m2 ?_
 refine s2 Aj (e_4 Br rfl ze_120 (cs := (pairs zero4)) rfl) ?_
 rintro a1 _ w3 ⟨C, rfl, Bs⟩ Bo; clear Aj Br a0
 refine s1 Bo (a_1 rfl (evc _ _)) fun a6 Bp => ?_; clear Bo a1
 refine n2 ?_
 refine m2 ?_
 refine s1 Bp (a_0 rfl (evc _ _)) fun a8 Bq => ?_; clear Bp a6
 refine n1 ?_
 refine d_0 ?_
 have BE := Bq.as [(13, (Value.int .i64 0)), (4, (bptr C 0)), (0, (bptr bx 0)), (1, xl)] rfl; clear Bq
 refine h_3 (G := Nat) (fun (k : Nat) a_ w_ => Fr 79 [] [(13, (Value.int .i64 (k : Int))), (4, (bptr C 0)), (0, (bptr bx 0)), (1, xl)] a_ ∧ Sep NoB w w_ [(blk C 120 (pairs (fillU k))), (rob bx 146 [(Value.int .i64 b.scales), vt, vm, (Value.map (some bm))]), (mapX false bm es ck es.size 106 5 (bN b.tabs b.tabs.length) (bC lr lb b.tabs b.tabs.length)), (c_9 false vt lr lb b.tabs), (d_2 false vm lk b.macs), (sl xl 2 l.length (pairs l))] ∧ (k ≤ 4)) (fun k => 4 - k) 0 ⟨BE.as _ rfl, Bs, by omega⟩ ?_
 clear BE Bs a8
 rintro k CR DA ⟨AW, c, hk⟩
 have hfl := fillU_len k
 refine m2 ?_
 refine s1 AW (f_9 rfl (AW.ev rfl) (evc _ _)) fun Bl H => ?_; clear AW CR
 refine n2 ?_
 by_cases Bd : (k : Int) < 4
 ·skip
  rw [decide_eq_true Bd] at H
  refine c_6 H rfl ?_
  refine d_1 ?_
  refine b_0 ?_
  refine b_7 ?_
  refine d_0 ?_
  refine m2 ?_
  refine s1 H (a_0 rfl (H.ev rfl)) fun CS AX => ?_; clear H Bl
  refine s1 AX (a_1 rfl (AX.ev rfl)) fun CT AY => ?_; clear AX CS
  refine n3 ?_
  refine s1 AY (a_0 rfl (AY.ev rfl)) fun CU BF => ?_; clear AY CT
  refine s1 BF (e_7 rfl (pv2 (evc _ _) (evc _ _)) (l_9 _ _)) fun CV AN => ?_; clear BF CU
  refine s1 AN (o_8 rfl y_7 g_5 (AN.ev rfl) (i := k) (AN.ev rfl) (by omega)) fun CW AO => ?_; clear AN CV
  refine s7 AO (c_5 c rfl g_5 (AO.ev rfl) (AO.ev rfl) (i := 0) rfl (vs := [(Value.int .i64 0), (Value.int .i64 100000)]) rfl rfl rfl (by simp only [b_1, List.length_set, List.length_cons, List.length_nil]; omega)) ?_
  intro _ DB BU BG; have CO := BU.n_4 (i := 0) rfl (cs' := (pairs ((fillU k).set k (0, 100000)))) (pairs_setZ _ _ _ _); clear BU AO c
  refine e_8 ?_
  refine g_8 ?_
  refine b_0 ?_
  have AZ := BG.as [(13, (Value.int .i64 (k : Int))), (4, (bptr C 0)), (0, (bptr bx 0)), (1, xl)] rfl; clear BG
  refine a_5 ?_
  refine s1 AZ (f_6 rfl (AZ.ev rfl) (evc _ _) (by omega) (by omega)) fun CX Aa => ?_; clear AZ CW
  refine s1 Aa (a_0 rfl (Aa.ev rfl)) fun C5 CN => ?_; clear Aa CX
  refine e_8 ?_
  exact b_0 ⟨k + 1, ⟨CN.as _ rfl, CO, by omega⟩, by omega⟩
 skip
 rw [decide_eq_false Bd] at H
 refine b_5 H rfl ?_
 refine h_1 ?_
 refine b_4 ?_
 refine b_4 ?_
 refine f_7 ?_
 refine b_0 ?_
 refine b_7 ?_
 refine m2 ?_
 refine s1 H (a_0 rfl (H.ev rfl)) fun CY Ab => ?_; clear H Bl
 refine s1 Ab (c_0 rfl p_0 (Ab.ev rfl) (c.sk 5 rfl)) fun CZ BH => ?_; clear Ab CY
 refine s1 BH (a_0 rfl (evc _ _)) fun Ca BI => ?_; clear BH CZ
 refine n1 ?_
 refine d_0 ?_
 have BJ := BI.as [(22, (Value.int .i64 0)), (21, (Value.int .i64 (l.length : Int))), (20, xl), (4, (bptr C 0)), (0, (bptr bx 0))] rfl; clear BI
 refine h_3 (G := Nat) (fun (k : Nat) a_ w_ => Fr 79 [] [(22, (Value.int .i64 (k : Int))), (21, (Value.int .i64 (l.length : Int))), (20, xl), (4, (bptr C 0)), (0, (bptr bx 0))] a_ ∧ Sep NoB w w_ [(blk C 120 (pairs (d_5 b l e_9 k))), (rob bx 146 [(Value.int .i64 b.scales), vt, vm, (Value.map (some bm))]), (mapX false bm es ck es.size 106 5 (bN b.tabs b.tabs.length) (bC lr lb b.tabs b.tabs.length)), (c_9 false vt lr lb b.tabs), (d_2 false vm lk b.macs), (sl xl 2 l.length (pairs l))] ∧ (k ≤ l.length) ∧ (Full b.scales.toNat (d_5 b l e_9 k))) (fun k => l.length - k) 0 ⟨BJ.as _ rfl, (c.n_4 (i := 0) rfl (by rw [show k = 4 by omega, fill4]; rfl)), Nat.zero_le _, full_free hb.four⟩ ?_
 clear BJ c Ca
 rintro k Cb DC ⟨AP, N, hk, hfu⟩
 have hsl := u_6 b l e_9 k; have C8 : e_9.length = 4 := rfl
 refine m2 ?_
 refine s1 AP (f_9 rfl (AP.ev rfl) (AP.ev rfl)) fun Bm I => ?_; clear AP Cb
 refine n2 ?_
 by_cases Be : (k : Int) < (l.length : Int)
 ·skip
  rw [decide_eq_true Be] at I
  have hscl := scale_lt hb hl (k := k) (by omega); unfold o_4 at hscl; have hmv := hl.macV hb (k := k) (by omega); have hsv := hmv.scale; have hbb := biasF_bd hmv; have hlm := hl.mac k (by omega); have hlr := hl.read k (by omega); have hsl1 := u_6 b l e_9 (k + 1); have hb4_ := hb.four
  refine c_6 I rfl ?_
  refine d_1 ?_
  refine b_0 ?_
  refine b_7 ?_
  refine d_0 ?_
  refine m2 ?_
  refine s1 I (b_2 rfl p_0 z_2 (I.ev rfl) (i := k) (I.ev rfl) (N.sk 5 rfl) (by decide) (by omega)) fun Cc Ac => ?_; clear I Bm
  refine s1 Ac (f_2 rfl z_2 (Ac.ev rfl) (N.sk 5 rfl) (i_3 (by omega)) rfl (by decide)) fun Cd BK => ?_; clear Ac Cc
  refine s2 BK (e_4 N rfl ze_98 (cs := [(Value.int .i64 0), (Value.int .i64 0)]) rfl) ?_
  rintro C6 _ DD ⟨L, rfl, BV⟩ AQ; clear BK N Cd
  refine s7 AQ (c_5 BV rfl z_2 (AQ.ev rfl) (AQ.ev rfl) (i := 0) rfl (vs := [(Value.int .i64 ((l.getD k (0, 0)).1)), (Value.int .i64 ((l.getD k (0, 0)).2))]) rfl rfl rfl (Nat.le_of_ble_eq_true rfl)) ?_
  intro _ Ci BW BL; clear AQ
  have BX : Sep NoB w Ci [(blk L 98 [(Value.int .i64 ((l.getD k (0, 0)).1)), (Value.int .i64 ((l.getD k (0, 0)).2))]), (blk C 120 (pairs (d_5 b l e_9 k))), (rob bx 146 [(Value.int .i64 b.scales), vt, vm, (Value.map (some bm))]), (mapX false bm es ck es.size 106 5 (bN b.tabs b.tabs.length) (bC lr lb b.tabs b.tabs.length)), (c_9 false vt lr lb b.tabs), (d_2 false vm lk b.macs), (sl xl 2 l.length (pairs l))] := BW; clear BW BV
  refine n2 ?_
  have BM := BL.as [(8, (bptr L 0)), (22, (Value.int .i64 (k : Int))), (21, (Value.int .i64 (l.length : Int))), (20, xl), (4, (bptr C 0)), (0, (bptr bx 0))] rfl; clear BL
  refine c_drawV mixed BM BX 10 [[], [0], [1], [2], [3], [], [5], [4, 6], [7], []] [(yw (bptr bx 0)), (yw (bptr bx 0)), (yw (bptr bx 0)), (yw (bptr bx 2)), (yw vm), (yw (bptr L 0)), (yw (Value.int .i64 ((l.getD k (0, 0)).1))), (yw (eptr vm (((l.getD k (0, 0)).1).toNat * 2))), (yw (Value.agg #[(Value.int .i64 ((b.macs.getD (((l.getD k (0, 0)).1).toNat) mac0).scale)), (lk (((l.getD k (0, 0)).1).toNat))])), (fun (D : Nat → Value) (v_ : Value) (rs_ : List Res) => ∃ (b9_ : Nat), v_ = (bptr b9_ 0) ∧ rs_ = [(blk b9_ 103 [(Value.int .i64 0), (Value.slice none 0 0)])])] (by decide +kernel) (by decide +kernel) rfl rfl ⟨dw, dw, dw, dw, dw, dw, dw, dw, dw, (fun _ _ _ _ _ h_ => h_), trivial⟩ ?_ ?_
  ·skip
   refine ⟨fun a w D hA hS hd => gv1 (a_0 rfl (hA.ev rfl)), ?_⟩
   refine ⟨fun a w D hA hS hd => gv1 (o_2 rfl (gu hd 0)), ?_⟩
   refine ⟨fun a w D hA hS hd => gv1 (a_4 rfl fd_146_0 (gu hd 1)), ?_⟩
   refine ⟨fun a w D hA hS hd => gv1 (a_4 rfl v_6 (gu hd 2)), ?_⟩
   refine ⟨fun a w D hA hS hd => gv1 (a_3 rfl ty_35 (gu hd 3) (hS.rk 2 rfl) rfl), ?_⟩
   refine ⟨fun a w D hA hS hd => gv1 (a_4 rfl fd_98_0 (hA.ev rfl)), ?_⟩
   refine ⟨fun a w D hA hS hd => gv1 (a_3 rfl ty_3 (gu hd 5) (hS.bk 0 rfl) rfl), ?_⟩
   refine ⟨fun a w D hA hS hd => gv1 (b_2 rfl ac_8 u_7 (gu hd 4) (i := ((l.getD k (0, 0)).1).toNat) ((gu hd 6).trans (k_3 (by omega))) (b_8 (hS.ok 5 _ rfl)).macs (by decide) (by omega)), ?_⟩
   refine ⟨fun a w D hA hS hd => gv1 (f_2 rfl u_7 (gu hd 7) (b_8 (hS.ok 5 _ rfl)).macs (x_7 (by omega)) rfl (by decide)), ?_⟩
   refine ⟨fun a w D hA hS hd => d_9 rfl (valloc rfl ze_103 (cs := [(Value.int .i64 0), (Value.slice none 0 0)]) rfl (fun b_ => ⟨b_, rfl, rfl⟩)), ?_⟩
   trivial
  intro Bn Cj D rsf71 BN B Af; clear BM BX
  obtain ⟨Ah, CP⟩ := B 9 (by decide)
  obtain ⟨b9_, Bg, Bf⟩ := CP
  have Ag : Sep NoB w Cj [(blk b9_ 103 [(Value.int .i64 0), (Value.slice none 0 0)]), (blk L 98 [(Value.int .i64 ((l.getD k (0, 0)).1)), (Value.int .i64 ((l.getD k (0, 0)).2))]), (blk C 120 (pairs (d_5 b l e_9 k))), (rob bx 146 [(Value.int .i64 b.scales), vt, vm, (Value.map (some bm))]), (mapX false bm es ck es.size 106 5 (bN b.tabs b.tabs.length) (bC lr lb b.tabs b.tabs.length)), (c_9 false vt lr lb b.tabs), (d_2 false vm lk b.macs), (sl xl 2 l.length (pairs l))] := by rw [show catR rsf71 0 10 = ([(blk b9_ 103 [(Value.int .i64 0), (Value.slice none 0 0)])] : List Res) by (try simp only [catR, gr (B 0 (by decide)), gr (B 1 (by decide)), gr (B 2 (by decide)), gr (B 3 (by decide)), gr (B 4 (by decide)), gr (B 5 (by decide)), gr (B 6 (by decide)), gr (B 7 (by decide)), gr (B 8 (by decide)), Bf]); (try rfl)] at Af; exact Af
  have BO := BN.add (gs (B 8 (by decide))); clear BN
  rw [Bg] at Ah
  have AR : Fr 79 [] [(9, (bptr b9_ 0)), (34, (Value.agg #[(Value.int .i64 ((b.macs.getD (((l.getD k (0, 0)).1).toNat) mac0).scale)), (lk (((l.getD k (0, 0)).1).toNat))])), (8, (bptr L 0)), (22, (Value.int .i64 (k : Int))), (21, (Value.int .i64 (l.length : Int))), (20, xl), (4, (bptr C 0)), (0, (bptr bx 0))] Bn := BO.add (i_1 Ah rfl); clear BO
  clear B Af Ah
  clear Bf
  clear Bg
  refine s7 AR (c_5 Ag rfl u_7 (AR.ev rfl) (AR.ev rfl) (i := 0) rfl (vs := [(Value.int .i64 ((b.macs.getD (((l.getD k (0, 0)).1).toNat) mac0).scale)), (lk (((l.getD k (0, 0)).1).toNat))]) rfl rfl (j_3 rfl (j_3 (SlAt.one ((b_8 (Ag.ok 6 _ rfl)).blk (i := ((l.getD k (0, 0)).1).toNat) (by omega))) x_2)) (Nat.le_of_ble_eq_true rfl)) ?_
  intro _ Ck BY Ad; clear AR
  have AU : Sep NoB w Ck [(blk b9_ 103 [(Value.int .i64 ((b.macs.getD (((l.getD k (0, 0)).1).toNat) mac0).scale)), (lk (((l.getD k (0, 0)).1).toNat))]), (blk L 98 [(Value.int .i64 ((l.getD k (0, 0)).1)), (Value.int .i64 ((l.getD k (0, 0)).2))]), (blk C 120 (pairs (d_5 b l e_9 k))), (rob bx 146 [(Value.int .i64 b.scales), vt, vm, (Value.map (some bm))]), (mapX false bm es ck es.size 106 5 (bN b.tabs b.tabs.length) (bC lr lb b.tabs b.tabs.length)), (c_9 false vt lr lb b.tabs), (d_2 false vm lk b.macs), (sl xl 2 l.length (pairs l))] := BY; clear BY Ag
  refine n4 ?_
  refine s1 Ad (c_4 rfl u_7 (Ad.ev rfl) (AU.bk 0 rfl) (l := [(Value.int .i64 ((b.macs.getD (((l.getD k (0, 0)).1).toNat) mac0).scale)), (lk (((l.getD k (0, 0)).1).toNat))]) rfl rfl) fun Ce Ae => ?_; clear Ad Bn
  refine s2 Ae (a_6 rfl en_67 (ev1 (Ae.ev rfl)) (bias_ok _ (b.macs.getD (((l.getD k (0, 0)).1).toNat) mac0) _ _ ((b_8 (AU.ok 6 _ rfl)).blk (i := ((l.getD k (0, 0)).1).toNat) (by omega)) (hl.macV hb (by omega)) (hth.kl _))) ?_
  rintro Cf _ DE ⟨rfl, BT⟩ BP; have BZ := AU.step BT; clear BT Ae AU Ce
  refine s2 BP (e_4 BZ rfl aa_2 (cs := [(Value.int .i64 0), (Value.int .i64 0)]) rfl) ?_
  rintro C7 _ DF ⟨Ai, rfl, Ba⟩ AS; clear BP BZ Cf
  refine s7 AS (c_5 Ba rfl g_5 (AS.ev rfl) (AS.ev rfl) (i := 0) rfl (vs := [(Value.int .i64 ((e_5 (b.macs.getD (((l.getD k (0, 0)).1).toNat) mac0)).1)), (Value.int .i64 ((e_5 (b.macs.getD (((l.getD k (0, 0)).1).toNat) mac0)).2))]) rfl rfl rfl (Nat.le_of_ble_eq_true rfl)) ?_
  intro _ Cl Bb BQ; clear AS
  have Bc : Sep NoB w Cl [(blk Ai 30 [(Value.int .i64 ((e_5 (b.macs.getD (((l.getD k (0, 0)).1).toNat) mac0)).1)), (Value.int .i64 ((e_5 (b.macs.getD (((l.getD k (0, 0)).1).toNat) mac0)).2))]), (blk b9_ 103 [(Value.int .i64 ((b.macs.getD (((l.getD k (0, 0)).1).toNat) mac0).scale)), (lk (((l.getD k (0, 0)).1).toNat))]), (blk L 98 [(Value.int .i64 ((l.getD k (0, 0)).1)), (Value.int .i64 ((l.getD k (0, 0)).2))]), (blk C 120 (pairs (d_5 b l e_9 k))), (rob bx 146 [(Value.int .i64 b.scales), vt, vm, (Value.map (some bm))]), (mapX false bm es ck es.size 106 5 (bN b.tabs b.tabs.length) (bC lr lb b.tabs b.tabs.length)), (c_9 false vt lr lb b.tabs), (d_2 false vm lk b.macs), (sl xl 2 l.length (pairs l))] := Bb; clear Bb Ba
  refine n2 ?_
  have BR := BQ.as [(10, (bptr Ai 0)), (9, (bptr b9_ 0)), (8, (bptr L 0)), (22, (Value.int .i64 (k : Int))), (21, (Value.int .i64 (l.length : Int))), (20, xl), (4, (bptr C 0)), (0, (bptr bx 0))] rfl; clear BQ
  refine g_6 mixed BR Bc 18 [[], [0], [], [2], [3], [4], [], [6], [], [8], [7, 9], [], [11], [], [13], [12, 14], [10, 15], [5, 16]] [(Yd.val (bptr b9_ 0)), (Yd.val (Value.int .i64 ((b.macs.getD (((l.getD k (0, 0)).1).toNat) mac0).scale))), (Yd.val (bptr b9_ 0)), (Yd.val (Value.int .i64 ((b.macs.getD (((l.getD k (0, 0)).1).toNat) mac0).scale))), (Yd.val (bptr C (0 + ((b.macs.getD (((l.getD k (0, 0)).1).toNat) mac0).scale).toNat * 2))), (Yd.val (Value.agg #[(Value.int .i64 (((d_5 b l e_9 k).getD (((b.macs.getD (((l.getD k (0, 0)).1).toNat) mac0).scale).toNat) (0, 0)).1)), (Value.int .i64 (((d_5 b l e_9 k).getD (((b.macs.getD (((l.getD k (0, 0)).1).toNat) mac0).scale).toNat) (0, 0)).2))])), (Yd.val (bptr L 1)), (Yd.val (Value.int .i64 ((l.getD k (0, 0)).2))), (Yd.val (bptr Ai 1)), (Yd.val (Value.int .i64 ((e_5 (b.macs.getD (((l.getD k (0, 0)).1).toNat) mac0)).2))), (Yd.val (Value.int .i64 (((l.getD k (0, 0)).2) - ((e_5 (b.macs.getD (((l.getD k (0, 0)).1).toNat) mac0)).2)))), (Yd.val (bptr L 1)), (Yd.val (Value.int .i64 ((l.getD k (0, 0)).2))), (Yd.val (bptr Ai 0)), (Yd.val (Value.int .i64 ((e_5 (b.macs.getD (((l.getD k (0, 0)).1).toNat) mac0)).1))), (Yd.val (Value.int .i64 (((l.getD k (0, 0)).2) - ((e_5 (b.macs.getD (((l.getD k (0, 0)).1).toNat) mac0)).1)))), (Yd.val (Value.agg #[(Value.int .i64 (((l.getD k (0, 0)).2) - ((e_5 (b.macs.getD (((l.getD k (0, 0)).1).toNat) mac0)).2))), (Value.int .i64 (((l.getD k (0, 0)).2) - ((e_5 (b.macs.getD (((l.getD k (0, 0)).1).toNat) mac0)).1)))])), (Yd.val (Value.agg #[(Value.int .i64 ((cutR (((d_5 b l e_9 k).getD (((b.macs.getD (((l.getD k (0, 0)).1).toNat) mac0).scale).toNat) (0, 0)).1, ((d_5 b l e_9 k).getD (((b.macs.getD (((l.getD k (0, 0)).1).toNat) mac0).scale).toNat) (0, 0)).2) (((l.getD k (0, 0)).2) - ((e_5 (b.macs.getD (((l.getD k (0, 0)).1).toNat) mac0)).2), ((l.getD k (0, 0)).2) - ((e_5 (b.macs.getD (((l.getD k (0, 0)).1).toNat) mac0)).1))).1)), (Value.int .i64 ((cutR (((d_5 b l e_9 k).getD (((b.macs.getD (((l.getD k (0, 0)).1).toNat) mac0).scale).toNat) (0, 0)).1, ((d_5 b l e_9 k).getD (((b.macs.getD (((l.getD k (0, 0)).1).toNat) mac0).scale).toNat) (0, 0)).2) (((l.getD k (0, 0)).2) - ((e_5 (b.macs.getD (((l.getD k (0, 0)).1).toNat) mac0)).2), ((l.getD k (0, 0)).2) - ((e_5 (b.macs.getD (((l.getD k (0, 0)).1).toNat) mac0)).1))).2))]))] (by decide +kernel) rfl rfl ?_ ?_
  ·skip
   refine dq (fun a w hA hS hd => a_4 rfl fd_103_0 (hA.ev rfl)) ?_
   refine dq (fun a w hA hS hd => a_3 rfl ty_3 (hq hd 0) (hS.bk 1 rfl) rfl) ?_
   refine dq (fun a w hA hS hd => a_4 rfl fd_103_0 (hA.ev rfl)) ?_
   refine dq (fun a w hA hS hd => a_3 rfl ty_3 (hq hd 2) (hS.bk 1 rfl) rfl) ?_
   refine dq (fun a w hA hS hd => o_8 rfl y_7 g_5 (hA.ev rfl) (i := ((b.macs.getD (((l.getD k (0, 0)).1).toNat) mac0).scale).toNat) ((hq hd 3).trans (k_3 (by omega))) (by omega)) ?_
   refine dq (fun a w hA hS hd => c_4 rfl g_5 (hq hd 4) (hS.bk 3 rfl) (l := [(Value.int .i64 (((d_5 b l e_9 k).getD (((b.macs.getD (((l.getD k (0, 0)).1).toNat) mac0).scale).toNat) (0, 0)).1)), (Value.int .i64 (((d_5 b l e_9 k).getD (((b.macs.getD (((l.getD k (0, 0)).1).toNat) mac0).scale).toNat) (0, 0)).2))]) (t_4 (xs := (d_5 b l e_9 k)) (i := ((b.macs.getD (((l.getD k (0, 0)).1).toNat) mac0).scale).toNat) (by omega)) rfl) ?_
   refine dq (fun a w hA hS hd => a_4 rfl fd_98_1 (hA.ev rfl)) ?_
   refine dq (fun a w hA hS hd => a_3 rfl ty_3 (hq hd 6) (hS.bk 2 rfl) rfl) ?_
   refine dq (fun a w hA hS hd => a_4 rfl p_7 (hA.ev rfl)) ?_
   refine dq (fun a w hA hS hd => a_3 rfl ty_3 (hq hd 8) (hS.bk 0 rfl) rfl) ?_
   refine dq (fun a w hA hS hd => g_1 rfl (hq hd 7) (hq hd 9) (by omega) (by omega)) ?_
   refine dq (fun a w hA hS hd => a_4 rfl fd_98_1 (hA.ev rfl)) ?_
   refine dq (fun a w hA hS hd => a_3 rfl ty_3 (hq hd 11) (hS.bk 2 rfl) rfl) ?_
   refine dq (fun a w hA hS hd => a_4 rfl p_6 (hA.ev rfl)) ?_
   refine dq (fun a w hA hS hd => a_3 rfl ty_3 (hq hd 13) (hS.bk 0 rfl) rfl) ?_
   refine dq (fun a w hA hS hd => g_1 rfl (hq hd 12) (hq hd 14) (by omega) (by omega)) ?_
   refine dq (fun a w hA hS hd => e_7 rfl (pv2 (hq hd 10) (hq hd 15)) (l_9 _ _)) ?_
   refine ⟨fun a w hA hS hd => by have e5 := hx hd 5; have Ch := hx hd 16; exact d_9 rfl (dx (a_6 rfl en_87 (ev2 (b_9 e5) (b_9 Ch)) (cut_ok _ _ _ _ _)) hS (fun _ => rfl)), ?_⟩
   trivial
  intro Cg DG BS Aw AT; clear BR Bc
  have Ak := BS.add (hz AT 1); clear BS
  have O := Ak.add (hz AT 17); clear Ak
  clear AT
  refine s1 O (o_8 rfl y_7 g_5 (O.ev rfl) (i := ((b.macs.getD (((l.getD k (0, 0)).1).toNat) mac0).scale).toNat) ((O.ev rfl).trans (k_3 (by omega))) (by omega)) fun Bu P => ?_; clear O Cg
  refine s7 P (c_5 Aw rfl g_5 (P.ev rfl) (P.ev rfl) (i := 3) rfl (vs := [(Value.int .i64 ((cutR (((d_5 b l e_9 k).getD (((b.macs.getD (((l.getD k (0, 0)).1).toNat) mac0).scale).toNat) (0, 0)).1, ((d_5 b l e_9 k).getD (((b.macs.getD (((l.getD k (0, 0)).1).toNat) mac0).scale).toNat) (0, 0)).2) (((l.getD k (0, 0)).2) - ((e_5 (b.macs.getD (((l.getD k (0, 0)).1).toNat) mac0)).2), ((l.getD k (0, 0)).2) - ((e_5 (b.macs.getD (((l.getD k (0, 0)).1).toNat) mac0)).1))).1)), (Value.int .i64 ((cutR (((d_5 b l e_9 k).getD (((b.macs.getD (((l.getD k (0, 0)).1).toNat) mac0).scale).toNat) (0, 0)).1, ((d_5 b l e_9 k).getD (((b.macs.getD (((l.getD k (0, 0)).1).toNat) mac0).scale).toNat) (0, 0)).2) (((l.getD k (0, 0)).2) - ((e_5 (b.macs.getD (((l.getD k (0, 0)).1).toNat) mac0)).2), ((l.getD k (0, 0)).2) - ((e_5 (b.macs.getD (((l.getD k (0, 0)).1).toNat) mac0)).1))).2))]) rfl rfl rfl (by simp only [b_1, List.length_set, List.length_cons, List.length_nil]; omega)) ?_
  intro _ Cv Ax e; have Z := Ax.n_4 (i := 3) rfl (cs' := (pairs ((d_5 b l e_9 k).set (((b.macs.getD (((l.getD k (0, 0)).1).toNat) mac0).scale).toNat) ((cutR (((d_5 b l e_9 k).getD (((b.macs.getD (((l.getD k (0, 0)).1).toNat) mac0).scale).toNat) (0, 0)).1, ((d_5 b l e_9 k).getD (((b.macs.getD (((l.getD k (0, 0)).1).toNat) mac0).scale).toNat) (0, 0)).2) (((l.getD k (0, 0)).2) - ((e_5 (b.macs.getD (((l.getD k (0, 0)).1).toNat) mac0)).2), ((l.getD k (0, 0)).2) - ((e_5 (b.macs.getD (((l.getD k (0, 0)).1).toNat) mac0)).1))).1, (cutR (((d_5 b l e_9 k).getD (((b.macs.getD (((l.getD k (0, 0)).1).toNat) mac0).scale).toNat) (0, 0)).1, ((d_5 b l e_9 k).getD (((b.macs.getD (((l.getD k (0, 0)).1).toNat) mac0).scale).toNat) (0, 0)).2) (((l.getD k (0, 0)).2) - ((e_5 (b.macs.getD (((l.getD k (0, 0)).1).toNat) mac0)).2), ((l.getD k (0, 0)).2) - ((e_5 (b.macs.getD (((l.getD k (0, 0)).1).toNat) mac0)).1))).2)))) (pairs_setZ _ _ _ _); clear Ax P Aw
  refine n4 ?_
  refine s1 e (a_4 rfl fd_103_0 (e.ev rfl)) fun Bv f => ?_; clear e Bu
  refine s1 f (a_3 rfl ty_3 (f.ev rfl) (Z.bk 1 rfl) rfl) fun Bw Q => ?_; clear f Bv
  refine s1 Q (o_8 rfl y_7 g_5 (Q.ev rfl) (i := ((b.macs.getD (((l.getD k (0, 0)).1).toNat) mac0).scale).toNat) ((Q.ev rfl).trans (k_3 (by omega))) (by omega)) fun Bx h => ?_; clear Q Bw
  refine s1 h (c_4 rfl g_5 (h.ev rfl) (Z.bk 3 rfl) (l := [(Value.int .i64 ((((d_5 b l e_9 k).set (((b.macs.getD (((l.getD k (0, 0)).1).toNat) mac0).scale).toNat) ((cutR (((d_5 b l e_9 k).getD (((b.macs.getD (((l.getD k (0, 0)).1).toNat) mac0).scale).toNat) (0, 0)).1, ((d_5 b l e_9 k).getD (((b.macs.getD (((l.getD k (0, 0)).1).toNat) mac0).scale).toNat) (0, 0)).2) (((l.getD k (0, 0)).2) - ((e_5 (b.macs.getD (((l.getD k (0, 0)).1).toNat) mac0)).2), ((l.getD k (0, 0)).2) - ((e_5 (b.macs.getD (((l.getD k (0, 0)).1).toNat) mac0)).1))).1, (cutR (((d_5 b l e_9 k).getD (((b.macs.getD (((l.getD k (0, 0)).1).toNat) mac0).scale).toNat) (0, 0)).1, ((d_5 b l e_9 k).getD (((b.macs.getD (((l.getD k (0, 0)).1).toNat) mac0).scale).toNat) (0, 0)).2) (((l.getD k (0, 0)).2) - ((e_5 (b.macs.getD (((l.getD k (0, 0)).1).toNat) mac0)).2), ((l.getD k (0, 0)).2) - ((e_5 (b.macs.getD (((l.getD k (0, 0)).1).toNat) mac0)).1))).2)).getD (((b.macs.getD (((l.getD k (0, 0)).1).toNat) mac0).scale).toNat) (0, 0)).1)), (Value.int .i64 ((((d_5 b l e_9 k).set (((b.macs.getD (((l.getD k (0, 0)).1).toNat) mac0).scale).toNat) ((cutR (((d_5 b l e_9 k).getD (((b.macs.getD (((l.getD k (0, 0)).1).toNat) mac0).scale).toNat) (0, 0)).1, ((d_5 b l e_9 k).getD (((b.macs.getD (((l.getD k (0, 0)).1).toNat) mac0).scale).toNat) (0, 0)).2) (((l.getD k (0, 0)).2) - ((e_5 (b.macs.getD (((l.getD k (0, 0)).1).toNat) mac0)).2), ((l.getD k (0, 0)).2) - ((e_5 (b.macs.getD (((l.getD k (0, 0)).1).toNat) mac0)).1))).1, (cutR (((d_5 b l e_9 k).getD (((b.macs.getD (((l.getD k (0, 0)).1).toNat) mac0).scale).toNat) (0, 0)).1, ((d_5 b l e_9 k).getD (((b.macs.getD (((l.getD k (0, 0)).1).toNat) mac0).scale).toNat) (0, 0)).2) (((l.getD k (0, 0)).2) - ((e_5 (b.macs.getD (((l.getD k (0, 0)).1).toNat) mac0)).2), ((l.getD k (0, 0)).2) - ((e_5 (b.macs.getD (((l.getD k (0, 0)).1).toNat) mac0)).1))).2)).getD (((b.macs.getD (((l.getD k (0, 0)).1).toNat) mac0).scale).toNat) (0, 0)).2))]) (t_4 (xs := ((d_5 b l e_9 k).set (((b.macs.getD (((l.getD k (0, 0)).1).toNat) mac0).scale).toNat) ((cutR (((d_5 b l e_9 k).getD (((b.macs.getD (((l.getD k (0, 0)).1).toNat) mac0).scale).toNat) (0, 0)).1, ((d_5 b l e_9 k).getD (((b.macs.getD (((l.getD k (0, 0)).1).toNat) mac0).scale).toNat) (0, 0)).2) (((l.getD k (0, 0)).2) - ((e_5 (b.macs.getD (((l.getD k (0, 0)).1).toNat) mac0)).2), ((l.getD k (0, 0)).2) - ((e_5 (b.macs.getD (((l.getD k (0, 0)).1).toNat) mac0)).1))).1, (cutR (((d_5 b l e_9 k).getD (((b.macs.getD (((l.getD k (0, 0)).1).toNat) mac0).scale).toNat) (0, 0)).1, ((d_5 b l e_9 k).getD (((b.macs.getD (((l.getD k (0, 0)).1).toNat) mac0).scale).toNat) (0, 0)).2) (((l.getD k (0, 0)).2) - ((e_5 (b.macs.getD (((l.getD k (0, 0)).1).toNat) mac0)).2), ((l.getD k (0, 0)).2) - ((e_5 (b.macs.getD (((l.getD k (0, 0)).1).toNat) mac0)).1))).2))) (i := ((b.macs.getD (((l.getD k (0, 0)).1).toNat) mac0).scale).toNat) (by simp only [List.length_set]; omega)) rfl) fun By j => ?_; clear h Bx
  refine s2 j (a_6 rfl en_68 (ev1 (j.ev rfl)) (empty_ok _ _ _)) ?_
  rintro BB _ Cw ⟨rfl, Au⟩ E; have M := Z.step Au; clear Au j Z By
  refine n1 ?_
  by_cases A9 : ((((d_5 b l e_9 k).set (((b.macs.getD (((l.getD k (0, 0)).1).toNat) mac0).scale).toNat) ((cutR (((d_5 b l e_9 k).getD (((b.macs.getD (((l.getD k (0, 0)).1).toNat) mac0).scale).toNat) (0, 0)).1, ((d_5 b l e_9 k).getD (((b.macs.getD (((l.getD k (0, 0)).1).toNat) mac0).scale).toNat) (0, 0)).2) (((l.getD k (0, 0)).2) - ((e_5 (b.macs.getD (((l.getD k (0, 0)).1).toNat) mac0)).2), ((l.getD k (0, 0)).2) - ((e_5 (b.macs.getD (((l.getD k (0, 0)).1).toNat) mac0)).1))).1, (cutR (((d_5 b l e_9 k).getD (((b.macs.getD (((l.getD k (0, 0)).1).toNat) mac0).scale).toNat) (0, 0)).1, ((d_5 b l e_9 k).getD (((b.macs.getD (((l.getD k (0, 0)).1).toNat) mac0).scale).toNat) (0, 0)).2) (((l.getD k (0, 0)).2) - ((e_5 (b.macs.getD (((l.getD k (0, 0)).1).toNat) mac0)).2), ((l.getD k (0, 0)).2) - ((e_5 (b.macs.getD (((l.getD k (0, 0)).1).toNat) mac0)).1))).2)).getD (((b.macs.getD (((l.getD k (0, 0)).1).toNat) mac0).scale).toNat) (0, 0)).2) < ((((d_5 b l e_9 k).set (((b.macs.getD (((l.getD k (0, 0)).1).toNat) mac0).scale).toNat) ((cutR (((d_5 b l e_9 k).getD (((b.macs.getD (((l.getD k (0, 0)).1).toNat) mac0).scale).toNat) (0, 0)).1, ((d_5 b l e_9 k).getD (((b.macs.getD (((l.getD k (0, 0)).1).toNat) mac0).scale).toNat) (0, 0)).2) (((l.getD k (0, 0)).2) - ((e_5 (b.macs.getD (((l.getD k (0, 0)).1).toNat) mac0)).2), ((l.getD k (0, 0)).2) - ((e_5 (b.macs.getD (((l.getD k (0, 0)).1).toNat) mac0)).1))).1, (cutR (((d_5 b l e_9 k).getD (((b.macs.getD (((l.getD k (0, 0)).1).toNat) mac0).scale).toNat) (0, 0)).1, ((d_5 b l e_9 k).getD (((b.macs.getD (((l.getD k (0, 0)).1).toNat) mac0).scale).toNat) (0, 0)).2) (((l.getD k (0, 0)).2) - ((e_5 (b.macs.getD (((l.getD k (0, 0)).1).toNat) mac0)).2), ((l.getD k (0, 0)).2) - ((e_5 (b.macs.getD (((l.getD k (0, 0)).1).toNat) mac0)).1))).2)).getD (((b.macs.getD (((l.getD k (0, 0)).1).toNat) mac0).scale).toNat) (0, 0)).1)
  ·skip
   rw [decide_eq_true A9] at E
   refine c_6 E rfl ?_
   refine b_7 ?_
   have m := E.as [(4, (bptr C 0))] rfl; clear E
   refine a_5 ?_
   refine s1 m (c_4 rfl l_4 (m.ev rfl) (M.bk 3 rfl) (l := (pairs ((d_5 b l e_9 k).set (((b.macs.getD (((l.getD k (0, 0)).1).toNat) mac0).scale).toNat) ((cutR (((d_5 b l e_9 k).getD (((b.macs.getD (((l.getD k (0, 0)).1).toNat) mac0).scale).toNat) (0, 0)).1, ((d_5 b l e_9 k).getD (((b.macs.getD (((l.getD k (0, 0)).1).toNat) mac0).scale).toNat) (0, 0)).2) (((l.getD k (0, 0)).2) - ((e_5 (b.macs.getD (((l.getD k (0, 0)).1).toNat) mac0)).2), ((l.getD k (0, 0)).2) - ((e_5 (b.macs.getD (((l.getD k (0, 0)).1).toNat) mac0)).1))).1, (cutR (((d_5 b l e_9 k).getD (((b.macs.getD (((l.getD k (0, 0)).1).toNat) mac0).scale).toNat) (0, 0)).1, ((d_5 b l e_9 k).getD (((b.macs.getD (((l.getD k (0, 0)).1).toNat) mac0).scale).toNat) (0, 0)).2) (((l.getD k (0, 0)).2) - ((e_5 (b.macs.getD (((l.getD k (0, 0)).1).toNat) mac0)).2), ((l.getD k (0, 0)).2) - ((e_5 (b.macs.getD (((l.getD k (0, 0)).1).toNat) mac0)).1))).2)))) (g_3 _ _ (show (pairs ((d_5 b l e_9 k).set (((b.macs.getD (((l.getD k (0, 0)).1).toNat) mac0).scale).toNat) ((cutR (((d_5 b l e_9 k).getD (((b.macs.getD (((l.getD k (0, 0)).1).toNat) mac0).scale).toNat) (0, 0)).1, ((d_5 b l e_9 k).getD (((b.macs.getD (((l.getD k (0, 0)).1).toNat) mac0).scale).toNat) (0, 0)).2) (((l.getD k (0, 0)).2) - ((e_5 (b.macs.getD (((l.getD k (0, 0)).1).toNat) mac0)).2), ((l.getD k (0, 0)).2) - ((e_5 (b.macs.getD (((l.getD k (0, 0)).1).toNat) mac0)).1))).1, (cutR (((d_5 b l e_9 k).getD (((b.macs.getD (((l.getD k (0, 0)).1).toNat) mac0).scale).toNat) (0, 0)).1, ((d_5 b l e_9 k).getD (((b.macs.getD (((l.getD k (0, 0)).1).toNat) mac0).scale).toNat) (0, 0)).2) (((l.getD k (0, 0)).2) - ((e_5 (b.macs.getD (((l.getD k (0, 0)).1).toNat) mac0)).2), ((l.getD k (0, 0)).2) - ((e_5 (b.macs.getD (((l.getD k (0, 0)).1).toNat) mac0)).1))).2))).length = 8 from by simp only [b_1, List.length_set]; omega)) (show (pairs ((d_5 b l e_9 k).set (((b.macs.getD (((l.getD k (0, 0)).1).toNat) mac0).scale).toNat) ((cutR (((d_5 b l e_9 k).getD (((b.macs.getD (((l.getD k (0, 0)).1).toNat) mac0).scale).toNat) (0, 0)).1, ((d_5 b l e_9 k).getD (((b.macs.getD (((l.getD k (0, 0)).1).toNat) mac0).scale).toNat) (0, 0)).2) (((l.getD k (0, 0)).2) - ((e_5 (b.macs.getD (((l.getD k (0, 0)).1).toNat) mac0)).2), ((l.getD k (0, 0)).2) - ((e_5 (b.macs.getD (((l.getD k (0, 0)).1).toNat) mac0)).1))).1, (cutR (((d_5 b l e_9 k).getD (((b.macs.getD (((l.getD k (0, 0)).1).toNat) mac0).scale).toNat) (0, 0)).1, ((d_5 b l e_9 k).getD (((b.macs.getD (((l.getD k (0, 0)).1).toNat) mac0).scale).toNat) (0, 0)).2) (((l.getD k (0, 0)).2) - ((e_5 (b.macs.getD (((l.getD k (0, 0)).1).toNat) mac0)).2), ((l.getD k (0, 0)).2) - ((e_5 (b.macs.getD (((l.getD k (0, 0)).1).toNat) mac0)).1))).2))).length = 8 from by simp only [b_1, List.length_set]; omega)) fun Bz R => ?_; clear m BB
   refine s7 R (c_5 M rfl l_4 (R.ev rfl) (R.ev rfl) (i := 3) rfl (vs := (pairs ((d_5 b l e_9 k).set (((b.macs.getD (((l.getD k (0, 0)).1).toNat) mac0).scale).toNat) ((cutR (((d_5 b l e_9 k).getD (((b.macs.getD (((l.getD k (0, 0)).1).toNat) mac0).scale).toNat) (0, 0)).1, ((d_5 b l e_9 k).getD (((b.macs.getD (((l.getD k (0, 0)).1).toNat) mac0).scale).toNat) (0, 0)).2) (((l.getD k (0, 0)).2) - ((e_5 (b.macs.getD (((l.getD k (0, 0)).1).toNat) mac0)).2), ((l.getD k (0, 0)).2) - ((e_5 (b.macs.getD (((l.getD k (0, 0)).1).toNat) mac0)).1))).1, (cutR (((d_5 b l e_9 k).getD (((b.macs.getD (((l.getD k (0, 0)).1).toNat) mac0).scale).toNat) (0, 0)).1, ((d_5 b l e_9 k).getD (((b.macs.getD (((l.getD k (0, 0)).1).toNat) mac0).scale).toNat) (0, 0)).2) (((l.getD k (0, 0)).2) - ((e_5 (b.macs.getD (((l.getD k (0, 0)).1).toNat) mac0)).2), ((l.getD k (0, 0)).2) - ((e_5 (b.macs.getD (((l.getD k (0, 0)).1).toNat) mac0)).1))).2)))) rfl (show (pairs ((d_5 b l e_9 k).set (((b.macs.getD (((l.getD k (0, 0)).1).toNat) mac0).scale).toNat) ((cutR (((d_5 b l e_9 k).getD (((b.macs.getD (((l.getD k (0, 0)).1).toNat) mac0).scale).toNat) (0, 0)).1, ((d_5 b l e_9 k).getD (((b.macs.getD (((l.getD k (0, 0)).1).toNat) mac0).scale).toNat) (0, 0)).2) (((l.getD k (0, 0)).2) - ((e_5 (b.macs.getD (((l.getD k (0, 0)).1).toNat) mac0)).2), ((l.getD k (0, 0)).2) - ((e_5 (b.macs.getD (((l.getD k (0, 0)).1).toNat) mac0)).1))).1, (cutR (((d_5 b l e_9 k).getD (((b.macs.getD (((l.getD k (0, 0)).1).toNat) mac0).scale).toNat) (0, 0)).1, ((d_5 b l e_9 k).getD (((b.macs.getD (((l.getD k (0, 0)).1).toNat) mac0).scale).toNat) (0, 0)).2) (((l.getD k (0, 0)).2) - ((e_5 (b.macs.getD (((l.getD k (0, 0)).1).toNat) mac0)).2), ((l.getD k (0, 0)).2) - ((e_5 (b.macs.getD (((l.getD k (0, 0)).1).toNat) mac0)).1))).2))).length = 8 from by simp only [b_1, List.length_set]; omega) (l_1 _) (by simp only [b_1, List.length_set, List.length_cons, List.length_nil]; omega)) ?_
   intro _ Cx Ay Al; have Az := Ay.n_4 (i := 3) rfl (cs' := (pairs ((d_5 b l e_9 k).set (((b.macs.getD (((l.getD k (0, 0)).1).toNat) mac0).scale).toNat) ((cutR (((d_5 b l e_9 k).getD (((b.macs.getD (((l.getD k (0, 0)).1).toNat) mac0).scale).toNat) (0, 0)).1, ((d_5 b l e_9 k).getD (((b.macs.getD (((l.getD k (0, 0)).1).toNat) mac0).scale).toNat) (0, 0)).2) (((l.getD k (0, 0)).2) - ((e_5 (b.macs.getD (((l.getD k (0, 0)).1).toNat) mac0)).2), ((l.getD k (0, 0)).2) - ((e_5 (b.macs.getD (((l.getD k (0, 0)).1).toNat) mac0)).1))).1, (cutR (((d_5 b l e_9 k).getD (((b.macs.getD (((l.getD k (0, 0)).1).toNat) mac0).scale).toNat) (0, 0)).1, ((d_5 b l e_9 k).getD (((b.macs.getD (((l.getD k (0, 0)).1).toNat) mac0).scale).toNat) (0, 0)).2) (((l.getD k (0, 0)).2) - ((e_5 (b.macs.getD (((l.getD k (0, 0)).1).toNat) mac0)).2), ((l.getD k (0, 0)).2) - ((e_5 (b.macs.getD (((l.getD k (0, 0)).1).toNat) mac0)).1))).2)))) (k_0 _ _ (by first | (simp only [b_1, List.length_set, List.length_cons, List.length_nil]; done) | (simp only [b_1, List.length_set, List.length_cons, List.length_nil]; omega))); clear Ay R M
   refine s1 Al (a_1 rfl (evc _ _)) fun Cn Am => ?_; clear Al Bz
   refine n1 ?_
   refine c_8 ?_
   refine d_3 ?_
   refine a_7 ?_
   refine a_7 ?_
   refine d_3 ?_
   refine a_7 ?_
   refine a_9 Am (.inl rfl) (e_3 Am rfl (.cellA rfl l_4 (Az.bk 3 rfl) (l := (pairs ((d_5 b l e_9 k).set (((b.macs.getD (((l.getD k (0, 0)).1).toNat) mac0).scale).toNat) ((cutR (((d_5 b l e_9 k).getD (((b.macs.getD (((l.getD k (0, 0)).1).toNat) mac0).scale).toNat) (0, 0)).1, ((d_5 b l e_9 k).getD (((b.macs.getD (((l.getD k (0, 0)).1).toNat) mac0).scale).toNat) (0, 0)).2) (((l.getD k (0, 0)).2) - ((e_5 (b.macs.getD (((l.getD k (0, 0)).1).toNat) mac0)).2), ((l.getD k (0, 0)).2) - ((e_5 (b.macs.getD (((l.getD k (0, 0)).1).toNat) mac0)).1))).1, (cutR (((d_5 b l e_9 k).getD (((b.macs.getD (((l.getD k (0, 0)).1).toNat) mac0).scale).toNat) (0, 0)).1, ((d_5 b l e_9 k).getD (((b.macs.getD (((l.getD k (0, 0)).1).toNat) mac0).scale).toNat) (0, 0)).2) (((l.getD k (0, 0)).2) - ((e_5 (b.macs.getD (((l.getD k (0, 0)).1).toNat) mac0)).2), ((l.getD k (0, 0)).2) - ((e_5 (b.macs.getD (((l.getD k (0, 0)).1).toNat) mac0)).1))).2)))) (g_3 _ _ (show (pairs ((d_5 b l e_9 k).set (((b.macs.getD (((l.getD k (0, 0)).1).toNat) mac0).scale).toNat) ((cutR (((d_5 b l e_9 k).getD (((b.macs.getD (((l.getD k (0, 0)).1).toNat) mac0).scale).toNat) (0, 0)).1, ((d_5 b l e_9 k).getD (((b.macs.getD (((l.getD k (0, 0)).1).toNat) mac0).scale).toNat) (0, 0)).2) (((l.getD k (0, 0)).2) - ((e_5 (b.macs.getD (((l.getD k (0, 0)).1).toNat) mac0)).2), ((l.getD k (0, 0)).2) - ((e_5 (b.macs.getD (((l.getD k (0, 0)).1).toNat) mac0)).1))).1, (cutR (((d_5 b l e_9 k).getD (((b.macs.getD (((l.getD k (0, 0)).1).toNat) mac0).scale).toNat) (0, 0)).1, ((d_5 b l e_9 k).getD (((b.macs.getD (((l.getD k (0, 0)).1).toNat) mac0).scale).toNat) (0, 0)).2) (((l.getD k (0, 0)).2) - ((e_5 (b.macs.getD (((l.getD k (0, 0)).1).toNat) mac0)).2), ((l.getD k (0, 0)).2) - ((e_5 (b.macs.getD (((l.getD k (0, 0)).1).toNat) mac0)).1))).2))).length = 8 from by simp only [b_1, List.length_set]; omega)) (show (pairs ((d_5 b l e_9 k).set (((b.macs.getD (((l.getD k (0, 0)).1).toNat) mac0).scale).toNat) ((cutR (((d_5 b l e_9 k).getD (((b.macs.getD (((l.getD k (0, 0)).1).toNat) mac0).scale).toNat) (0, 0)).1, ((d_5 b l e_9 k).getD (((b.macs.getD (((l.getD k (0, 0)).1).toNat) mac0).scale).toNat) (0, 0)).2) (((l.getD k (0, 0)).2) - ((e_5 (b.macs.getD (((l.getD k (0, 0)).1).toNat) mac0)).2), ((l.getD k (0, 0)).2) - ((e_5 (b.macs.getD (((l.getD k (0, 0)).1).toNat) mac0)).1))).1, (cutR (((d_5 b l e_9 k).getD (((b.macs.getD (((l.getD k (0, 0)).1).toNat) mac0).scale).toNat) (0, 0)).1, ((d_5 b l e_9 k).getD (((b.macs.getD (((l.getD k (0, 0)).1).toNat) mac0).scale).toNat) (0, 0)).2) (((l.getD k (0, 0)).2) - ((e_5 (b.macs.getD (((l.getD k (0, 0)).1).toNat) mac0)).2), ((l.getD k (0, 0)).2) - ((e_5 (b.macs.getD (((l.getD k (0, 0)).1).toNat) mac0)).1))).2))).length = 8 from by simp only [b_1, List.length_set]; omega)) (.tmp rfl)) ?_
   have hz := start_empty hb hl (k := k) (by omega) (by assumption)
   exact ⟨_, hsl1, by rw [hz]; rfl, fun t h_ => by rw [hz] at h_; (cases h_), Az.ext⟩
  skip
  rw [decide_eq_false A9] at E
  refine b_5 E rfl ?_
  refine d_1 ?_
  refine g_8 ?_
  refine b_0 ?_
  have n := E.as [(22, (Value.int .i64 (k : Int))), (21, (Value.int .i64 (l.length : Int))), (20, xl), (4, (bptr C 0)), (0, (bptr bx 0))] rfl; clear E
  refine a_5 ?_
  refine s1 n (f_6 rfl (n.ev rfl) (evc _ _) (by omega) (by omega)) fun B0 o => ?_; clear n BB
  refine s1 o (a_0 rfl (o.ev rfl)) fun Co Bh => ?_; clear o B0
  refine e_8 ?_
  have Bj := M.gkp (gpc 3 (gpc 4 (gpc 5 (gpc 6 (gpc 7 (gpc 8 gpn)))))); clear M
  exact b_0 ⟨k + 1, ⟨Bh.as _ rfl, Bj, by omega, (start_next hb hl (by omega) hfu (by assumption))⟩, by omega⟩
 skip
 rw [decide_eq_false Be] at I
 refine b_5 I rfl ?_
 refine h_1 ?_
 refine b_4 ?_
 refine b_4 ?_
 refine f_7 ?_
 refine b_0 ?_
 refine d_0 ?_
 have An := I.as [(4, (bptr C 0)), (0, (bptr bx 0))] rfl; clear I
 refine h_3 (G := Nat) (fun (g : Nat) a_ w_ => ∃ x_ : List (Int × Int), Fr 79 [] [(4, (bptr C 0)), (0, (bptr bx 0))] a_ ∧ Sep NoB w w_ [(blk C 120 (pairs x_)), (rob bx 146 [(Value.int .i64 b.scales), vt, vm, (Value.map (some bm))]), (mapX false bm es ck es.size 106 5 (bN b.tabs b.tabs.length) (bC lr lb b.tabs b.tabs.length)), (c_9 false vt lr lb b.tabs), (d_2 false vm lk b.macs), (sl xl 2 l.length (pairs l))] ∧ (Go.Hard.Loop b.scales.toNat b.tabs (s_2 b l) x_) ∧ (i_7 b l = r_2 b.scales.toNat (g_2 b.scales.toNat b.tabs) g x_) ∧ (width x_ < g)) (fun g => g) 400001 ⟨(d_5 b l e_9 k), An.as _ rfl, N, (by have hkl : k = l.length := (by omega); subst hkl; exact loop_start hb hl hfu), (by have hkl : k = l.length := (by omega); subst hkl; exact spans_go hfu), (by have hkl : k = l.length := (by omega); subst hkl; exact Nat.lt_succ_of_le (start_width hb hl))⟩ ?_
 clear An N Bm
 rintro g B1 Cy ⟨x_, q, K, hlp, hsp, hwd⟩
 have C9 : x_.length = 4 := hlp.len; have Bt : (h_6 (g_2 b.scales.toNat b.tabs) x_).1.length = 4 := (hlp.pass hb.four hb.orderV).1
 refine d_0 ?_
 refine m2 ?_
 refine s1 q (a_0 rfl (q.ev rfl)) fun B2 r => ?_; clear q B1
 refine s1 r (c_4 rfl l_4 (r.ev rfl) (K.bk 0 rfl) (l := (pairs x_)) (g_3 _ _ (show (pairs x_).length = 8 from by simp only [b_1, List.length_set]; omega)) (show (pairs x_).length = 8 from by simp only [b_1, List.length_set]; omega)) fun B3 S => ?_; clear r B2
 refine s2 S (a_6 rfl en_88 (ev2 (S.ev rfl) (S.ev rfl)) (cutb_ok b vt vm lr lb lk _ (b_6 (K.ok 3 _ rfl)) (b_8 (K.ok 4 _ rfl)) hth bx bm _ _ hMO (K.rk 1 rfl) (K.ok 2 _ rfl) hb x_ (by omega))) ?_
 rintro B4 _ Cz ⟨rfl, Av⟩ s; have A0 := K.step Av; clear Av S K B3
 refine s1 s (a_0 rfl (s.ev rfl)) fun B5 u => ?_; clear s B4
 refine s1 u (c_3 rfl (u.ev rfl) rfl) fun B6 y => ?_; clear u B5
 refine s1 y (c_3 rfl (y.ev rfl) rfl) fun B7 Ao => ?_; clear y B6
 refine s2 Ao (e_4 A0 rfl ze_120 (cs := [(Value.int .i64 0), (Value.int .i64 0), (Value.int .i64 0), (Value.int .i64 0), (Value.int .i64 0), (Value.int .i64 0), (Value.int .i64 0), (Value.int .i64 0)]) rfl) ?_
 rintro B8 _ C0 ⟨d, rfl, A1⟩ T; clear Ao A0 B7
 refine s7 T (c_5 A1 rfl l_4 (T.ev rfl) (T.ev rfl) (i := 0) rfl (vs := (pairs ((h_6 (g_2 b.scales.toNat b.tabs) x_).1))) rfl (show (pairs ((h_6 (g_2 b.scales.toNat b.tabs) x_).1)).length = 8 from by simp only [b_1, List.length_set]; omega) (l_1 _) (by decide)) ?_
 intro _ C1 A2 z; have A := A2.n_4 (i := 0) rfl (cs' := (pairs ((h_6 (g_2 b.scales.toNat b.tabs) x_).1))) (k_0 _ _ (Eq.symm (show (pairs ((h_6 (g_2 b.scales.toNat b.tabs) x_).1)).length = 8 from by simp only [b_1, List.length_set]; omega))); clear A2 T A1
 refine s1 z (a_1 rfl (z.ev rfl)) fun B9 Ap => ?_; clear z B8
 refine n2 ?_
 refine b_7 ?_
 have AA := Ap.as [(12, (Value.bool (ac_4 b.scales.toNat (h_6 (g_2 b.scales.toNat b.tabs) x_).1))), (11, (bptr d 0)), (4, (bptr C 0)), (0, (bptr bx 0))] rfl; clear Ap
 refine a_5 ?_
 refine s1 AA (a_0 rfl (AA.ev rfl)) fun CA AB => ?_; clear AA B9
 refine s1 AB (f_4 rfl (AB.ev rfl)) fun CB AC => ?_; clear AB CA
 refine s1 AC (a_0 rfl (AC.ev rfl)) fun BC J => ?_; clear AC CB
 rcases Bool.eq_false_or_eq_true ((ac_4 b.scales.toNat (h_6 (g_2 b.scales.toNat b.tabs) x_).1)) with AV | AV
 ·skip
  rw [AV] at J
  refine s5 J (c_4 rfl l_4 (J.ev rfl) (A.bk 0 rfl) (l := (pairs ((h_6 (g_2 b.scales.toNat b.tabs) x_).1))) (g_3 _ _ (show (pairs ((h_6 (g_2 b.scales.toNat b.tabs) x_).1)).length = 8 from by simp only [b_1, List.length_set]; omega)) (show (pairs ((h_6 (g_2 b.scales.toNat b.tabs) x_).1)).length = 8 from by simp only [b_1, List.length_set]; omega)) fun CC AD => ?_; clear J BC
  refine s5 AD (c_4 rfl l_4 (AD.ev rfl) (A.bk 1 rfl) (l := (pairs x_)) (g_3 _ _ (show (pairs x_).length = 8 from by simp only [b_1, List.length_set]; omega)) (show (pairs x_).length = 8 from by simp only [b_1, List.length_set]; omega)) fun CD U => ?_; clear AD CC
  refine s5 U (op_eqlAP ar_120 tw_30 g_5 gt_120 rfl (U.ev rfl) (U.ev rfl) (by omega) (by omega)) fun CE V => ?_; clear U CD
  refine s1 V (c_2 rfl (V.ev rfl) (V.ev rfl)) fun BD F => ?_; clear V CE
  refine n1 ?_
  by_cases BA : (h_6 (g_2 b.scales.toNat b.tabs) x_).1 = x_
  ·skip
   rw [decide_eq_true BA] at F
   refine c_6 F rfl ?_
   refine b_7 ?_
   have AE := F.as [(12, (Value.bool true)), (11, (bptr d 0)), (4, (bptr C 0))] rfl; clear F
   refine a_5 ?_
   refine s1 AE (c_4 rfl l_4 (AE.ev rfl) (A.bk 0 rfl) (l := (pairs ((h_6 (g_2 b.scales.toNat b.tabs) x_).1))) (g_3 _ _ (show (pairs ((h_6 (g_2 b.scales.toNat b.tabs) x_).1)).length = 8 from by simp only [b_1, List.length_set]; omega)) (show (pairs ((h_6 (g_2 b.scales.toNat b.tabs) x_).1)).length = 8 from by simp only [b_1, List.length_set]; omega)) fun CF AF => ?_; clear AE BD
   refine s1 AF (a_0 rfl (AF.ev rfl)) fun CG W => ?_; clear AF CF
   refine s7 W (c_5 A rfl l_4 (W.ev rfl) (W.ev rfl) (i := 1) rfl (vs := (pairs ((h_6 (g_2 b.scales.toNat b.tabs) x_).1))) rfl (show (pairs ((h_6 (g_2 b.scales.toNat b.tabs) x_).1)).length = 8 from by simp only [b_1, List.length_set]; omega) (l_1 _) (by simp only [b_1, List.length_set, List.length_cons, List.length_nil]; omega)) ?_
   intro _ C2 A3 AG; have A4 := A3.n_4 (i := 1) rfl (cs' := (pairs ((h_6 (g_2 b.scales.toNat b.tabs) x_).1))) (k_0 _ _ (by first | (simp only [b_1, List.length_set, List.length_cons, List.length_nil]; done) | (simp only [b_1, List.length_set, List.length_cons, List.length_nil]; omega))); clear A3 W A
   refine s1 AG (a_1 rfl (AG.ev rfl)) fun Cp Aq => ?_; clear AG CG
   refine n1 ?_
   refine c_8 ?_
   refine a_7 ?_
   refine d_3 ?_
   refine a_7 ?_
   refine d_3 ?_
   refine a_9 Aq (.inl rfl) (e_3 Aq rfl (.cellA rfl l_4 (A4.bk 1 rfl) (l := (pairs ((h_6 (g_2 b.scales.toNat b.tabs) x_).1))) (g_3 _ _ (show (pairs ((h_6 (g_2 b.scales.toNat b.tabs) x_).1)).length = 8 from by simp only [b_1, List.length_set]; omega)) (show (pairs ((h_6 (g_2 b.scales.toNat b.tabs) x_).1)).length = 8 from by simp only [b_1, List.length_set]; omega)) (.tmp rfl)) ?_
   have hz := hsp.trans (k_done (by omega) (by assumption) (by assumption))
   exact ⟨_, Bt, by rw [hz]; rfl, fun t h_ => by rw [hz] at h_; rw [← Option.some.inj h_]; congr 1, A4.ext⟩
  skip
  rw [decide_eq_false BA] at F
  refine b_5 F rfl ?_
  refine d_1 ?_
  refine b_0 ?_
  have AH := F.as [(11, (bptr d 0)), (4, (bptr C 0)), (0, (bptr bx 0))] rfl; clear F
  refine a_5 ?_
  refine s1 AH (c_4 rfl l_4 (AH.ev rfl) (A.bk 0 rfl) (l := (pairs ((h_6 (g_2 b.scales.toNat b.tabs) x_).1))) (g_3 _ _ (show (pairs ((h_6 (g_2 b.scales.toNat b.tabs) x_).1)).length = 8 from by simp only [b_1, List.length_set]; omega)) (show (pairs ((h_6 (g_2 b.scales.toNat b.tabs) x_).1)).length = 8 from by simp only [b_1, List.length_set]; omega)) fun Cq X => ?_; clear AH BD
  refine s7 X (c_5 A rfl l_4 (X.ev rfl) (X.ev rfl) (i := 1) rfl (vs := (pairs ((h_6 (g_2 b.scales.toNat b.tabs) x_).1))) rfl (show (pairs ((h_6 (g_2 b.scales.toNat b.tabs) x_).1)).length = 8 from by simp only [b_1, List.length_set]; omega) (l_1 _) (by simp only [b_1, List.length_set, List.length_cons, List.length_nil]; omega)) ?_
  intro _ C3 A5 Bi; have A6 := A5.n_4 (i := 1) rfl (cs' := (pairs ((h_6 (g_2 b.scales.toNat b.tabs) x_).1))) (k_0 _ _ (by first | (simp only [b_1, List.length_set, List.length_cons, List.length_nil]; done) | (simp only [b_1, List.length_set, List.length_cons, List.length_nil]; omega))); clear A5 X A
  refine e_8 ?_
  refine g_8 ?_
  have Bk := A6.gkp (gpc 1 (gpc 2 (gpc 3 (gpc 4 (gpc 5 (gpc 6 gpn)))))); clear A6
  exact b_0 ⟨(g - 1), ⟨(h_6 (g_2 b.scales.toNat b.tabs) x_).1, Bi.as _ rfl, Bk, (hlp.next hb.four hb.orderV (s_5.1 (by assumption)) (by assumption)).1, (hsp.trans (k_next (by omega) (by assumption) (by assumption))), (by have := (hlp.next hb.four hb.orderV (s_5.1 (by assumption)) (by assumption)).2; omega)⟩, by omega⟩
 skip
 rw [AV] at J
 refine s3 J fun CH Ar => ?_; clear J BC
 refine s3 Ar fun CI As => ?_; clear Ar CH
 refine s3 As fun CJ AI => ?_; clear As CI
 refine s1 AI (b_3 rfl (AI.ev rfl) (evc _ _)) fun CK AJ => ?_; clear AI CJ
 refine n1 ?_
 refine c_6 AJ rfl ?_
 refine b_7 ?_
 have AK := AJ.as [(12, (Value.bool false)), (11, (bptr d 0)), (4, (bptr C 0))] rfl; clear AJ
 refine a_5 ?_
 refine s1 AK (c_4 rfl l_4 (AK.ev rfl) (A.bk 0 rfl) (l := (pairs ((h_6 (g_2 b.scales.toNat b.tabs) x_).1))) (g_3 _ _ (show (pairs ((h_6 (g_2 b.scales.toNat b.tabs) x_).1)).length = 8 from by simp only [b_1, List.length_set]; omega)) (show (pairs ((h_6 (g_2 b.scales.toNat b.tabs) x_).1)).length = 8 from by simp only [b_1, List.length_set]; omega)) fun CL AL => ?_; clear AK CK
 refine s1 AL (a_0 rfl (AL.ev rfl)) fun CM Y => ?_; clear AL CL
 refine s7 Y (c_5 A rfl l_4 (Y.ev rfl) (Y.ev rfl) (i := 1) rfl (vs := (pairs ((h_6 (g_2 b.scales.toNat b.tabs) x_).1))) rfl (show (pairs ((h_6 (g_2 b.scales.toNat b.tabs) x_).1)).length = 8 from by simp only [b_1, List.length_set]; omega) (l_1 _) (by simp only [b_1, List.length_set, List.length_cons, List.length_nil]; omega)) ?_
 intro _ C4 A7 AM; have A8 := A7.n_4 (i := 1) rfl (cs' := (pairs ((h_6 (g_2 b.scales.toNat b.tabs) x_).1))) (k_0 _ _ (by first | (simp only [b_1, List.length_set, List.length_cons, List.length_nil]; done) | (simp only [b_1, List.length_set, List.length_cons, List.length_nil]; omega))); clear A7 Y A
 refine s1 AM (a_1 rfl (AM.ev rfl)) fun Cr At => ?_; clear AM CM
 refine n1 ?_
 refine c_8 ?_
 refine a_7 ?_
 refine d_3 ?_
 refine a_7 ?_
 refine d_3 ?_
 refine a_9 At (.inl rfl) (e_3 At rfl (.cellA rfl l_4 (A8.bk 1 rfl) (l := (pairs ((h_6 (g_2 b.scales.toNat b.tabs) x_).1))) (g_3 _ _ (show (pairs ((h_6 (g_2 b.scales.toNat b.tabs) x_).1)).length = 8 from by simp only [b_1, List.length_set]; omega)) (show (pairs ((h_6 (g_2 b.scales.toNat b.tabs) x_).1)).length = 8 from by simp only [b_1, List.length_set]; omega)) (.tmp rfl)) ?_
 have hz := hsp.trans (k_fail (by assumption))
 exact ⟨_, Bt, by rw [hz]; rfl, fun t h_ => by rw [hz] at h_; (cases h_), A8.ext⟩
end Go.Proofs.Ytohgladndklciaa

namespace Go.Proofs.Ytohgladndklciaa
open Go.RowKit Go.Shelf Go.Eng Go.Hard
theorem bs_30_0_  : Instr.fill (fun i => some (i * 2, 2)) ((Array.range (0 * 2)).map ((Value.agg #[(Value.int .i64 0), (Value.int .i64 0)]).cells[· % (Value.agg #[(Value.int .i64 0), (Value.int .i64 0)]).cells.size]!)) [] = some (([] : List Value).toArray) := by kernel_rfl
theorem el_30 : elK Try.prog 30 = some ((Value.agg #[(Value.int .i64 0), (Value.int .i64 0)]), 2, 16) := by kernel_rfl
theorem bs_3_0_  : Instr.fill (fun i => some (i * 1, 1)) ((Array.range (0 * 1)).map ((Value.int .i64 0).cells[· % (Value.int .i64 0).cells.size]!)) [] = some (([] : List Value).toArray) := by kernel_rfl
theorem bs_98_0_  : Instr.fill (fun i => some (i * 2, 2)) ((Array.range (0 * 2)).map ((Value.agg #[(Value.int .i64 0), (Value.int .i64 0)]).cells[· % (Value.agg #[(Value.int .i64 0), (Value.int .i64 0)]).cells.size]!)) [] = some (([] : List Value).toArray) := by kernel_rfl
theorem el_98 : elK Try.prog 98 = some ((Value.agg #[(Value.int .i64 0), (Value.int .i64 0)]), 2, 16) := by kernel_rfl
theorem clone_rng (xs : List (Int × Int)) (v : Value) (w : World) (hv : SlAt w v 2 xs.length (pairs xs)) (hlen : xs.length ≤ 1000000) :
  Calls Try.prog 58 #[v] w (Ret fun v w' => Ext NoB w w' ∧ w'.ownsRow w.heap.size 30 2 v xs.length (pairs xs)) := by
 refine a_8 Try.func58 rfl fun P F => ?_
 replace F : Fr 8 [] [(0, v)] P := F
 have G : Sep NoB w w [(sl v 2 xs.length (pairs xs))] := f_0 ⟨rfl, hv, trivial⟩
 refine m2 ?_
 refine s1 F (a_1 rfl (evc _ _)) fun V I => ?_; clear F P
 refine n2 ?_
 refine m2 ?_
 refine s1 I (a_0 rfl (I.ev rfl)) fun W K => ?_; clear I V
 refine s2 K (op_eqlNil un_50 rfl (K.ev rfl) (evc _ _) (G.sk 0 rfl) (by decide)) ?_
 rintro T _ _ ⟨bn7, rfl, rfl, U⟩ A; clear K W
 refine n1 ?_
 rcases Bool.eq_false_or_eq_true (bn7) with O | O
 ·skip
  rw [O] at A
  refine c_6 A rfl ?_
  refine m2 ?_
  refine s1 A (a_1 rfl (evc _ _)) fun X H => ?_; clear A T
  refine n1 ?_
  refine c_8 ?_
  refine a_7 ?_
  refine a_9 H (.inl rfl) (a_2 H rfl (.tmp rfl)) ?_
  exact ⟨G.ext, by have hz := (U (by assumption)); rw [hz.1, hz.2]; exact ⟨by simp, .inl ⟨rfl, rfl⟩⟩⟩
 skip
 rw [O] at A
 refine b_5 A rfl ?_
 refine d_1 ?_
 refine b_0 ?_
 refine m2 ?_
 refine s2 A (g_4 G rfl pv0 un_50 g_5 aa_2 (by decide) (cs := []) bs_30_0_) ?_
 rintro Q _ b ⟨Z, rfl, L⟩ C; clear A G T
 refine s1 C (a_0 rfl (C.ev rfl)) fun R B => ?_; clear C Q
 have E := L.t_8 (i := 0) (sz := 2) (n := 0) rfl rfl (by decide); clear L
 refine s2 B (l_0 E rfl un_50 el_30 (B.ev rfl) (B.ev rfl) (i := 0) rfl (E.sk 1 rfl) (l_1 _) (by simp [maxLen]; omega) (by omega)) ?_
 intro S a c M D
 have N := M.g_7 (i := 0) rfl (n' := xs.length) (xs' := (pairs xs)) (by simp) (by simp); clear M B E R
 refine s1 D (a_1 rfl (D.ev rfl)) fun Y J => ?_; clear D S
 refine n1 ?_
 refine c_8 ?_
 refine a_9 J (.inl rfl) (a_2 J rfl (.tmp rfl)) ?_
 exact ⟨N.ext, N.row_new (i := 0) rfl⟩
theorem clone_int (xs : List Int) (v : Value) (w : World) (hv : SlAt w v 1 xs.length (ints xs)) (hlen : xs.length ≤ 1000000) :
  Calls Try.prog 74 #[v] w (Ret fun v w' => Ext NoB w w' ∧ w'.ownsRow w.heap.size 3 1 v xs.length (ints xs)) := by
 refine a_8 Try.func74 rfl fun P F => ?_
 replace F : Fr 8 [] [(0, v)] P := F
 have G : Sep NoB w w [(sl v 1 xs.length (ints xs))] := f_0 ⟨rfl, hv, trivial⟩
 refine m2 ?_
 refine s1 F (a_1 rfl (evc _ _)) fun V I => ?_; clear F P
 refine n2 ?_
 refine m2 ?_
 refine s1 I (a_0 rfl (I.ev rfl)) fun W K => ?_; clear I V
 refine s2 K (op_eqlNil h_8 rfl (K.ev rfl) (evc _ _) (G.sk 0 rfl) (by decide)) ?_
 rintro T _ _ ⟨bn7, rfl, rfl, U⟩ A; clear K W
 refine n1 ?_
 rcases Bool.eq_false_or_eq_true (bn7) with O | O
 ·skip
  rw [O] at A
  refine c_6 A rfl ?_
  refine m2 ?_
  refine s1 A (a_1 rfl (evc _ _)) fun X H => ?_; clear A T
  refine n1 ?_
  refine c_8 ?_
  refine a_7 ?_
  refine a_9 H (.inl rfl) (a_2 H rfl (.tmp rfl)) ?_
  exact ⟨G.ext, by have hz := (U (by assumption)); rw [hz.1, hz.2]; exact ⟨by simp, .inl ⟨rfl, rfl⟩⟩⟩
 skip
 rw [O] at A
 refine b_5 A rfl ?_
 refine d_1 ?_
 refine b_0 ?_
 refine m2 ?_
 refine s2 A (g_4 G rfl pv0 h_8 ty_3 ze_3 (by decide) (cs := []) bs_3_0_) ?_
 rintro Q _ b ⟨Z, rfl, L⟩ C; clear A G T
 refine s1 C (a_0 rfl (C.ev rfl)) fun R B => ?_; clear C Q
 have E := L.t_8 (i := 0) (sz := 1) (n := 0) rfl rfl (by decide); clear L
 refine s2 B (l_0 E rfl h_8 el_3 (B.ev rfl) (B.ev rfl) (i := 0) rfl (E.sk 1 rfl) (ints_one _) (by simp [maxLen]; omega) (by omega)) ?_
 intro S a c M D
 have N := M.g_7 (i := 0) rfl (n' := xs.length) (xs' := (ints xs)) (by simp) (by simp); clear M B E R
 refine s1 D (a_1 rfl (D.ev rfl)) fun Y J => ?_; clear D S
 refine n1 ?_
 refine c_8 ?_
 refine a_9 J (.inl rfl) (a_2 J rfl (.tmp rfl)) ?_
 exact ⟨N.ext, N.row_new (i := 0) rfl⟩
theorem clone_read (xs : List (Int × Int)) (v : Value) (w : World) (hv : SlAt w v 2 xs.length (pairs xs)) (hlen : xs.length ≤ 1000000) :
  Calls Try.prog 75 #[v] w (Ret fun v w' => Ext NoB w w' ∧ w'.ownsRow w.heap.size 98 2 v xs.length (pairs xs)) := by
 refine a_8 Try.func75 rfl fun P F => ?_
 replace F : Fr 8 [] [(0, v)] P := F
 have G : Sep NoB w w [(sl v 2 xs.length (pairs xs))] := f_0 ⟨rfl, hv, trivial⟩
 refine m2 ?_
 refine s1 F (a_1 rfl (evc _ _)) fun V I => ?_; clear F P
 refine n2 ?_
 refine m2 ?_
 refine s1 I (a_0 rfl (I.ev rfl)) fun W K => ?_; clear I V
 refine s2 K (op_eqlNil p_0 rfl (K.ev rfl) (evc _ _) (G.sk 0 rfl) (by decide)) ?_
 rintro T _ _ ⟨bn7, rfl, rfl, U⟩ A; clear K W
 refine n1 ?_
 rcases Bool.eq_false_or_eq_true (bn7) with O | O
 ·skip
  rw [O] at A
  refine c_6 A rfl ?_
  refine m2 ?_
  refine s1 A (a_1 rfl (evc _ _)) fun X H => ?_; clear A T
  refine n1 ?_
  refine c_8 ?_
  refine a_7 ?_
  refine a_9 H (.inl rfl) (a_2 H rfl (.tmp rfl)) ?_
  exact ⟨G.ext, by have hz := (U (by assumption)); rw [hz.1, hz.2]; exact ⟨by simp, .inl ⟨rfl, rfl⟩⟩⟩
 skip
 rw [O] at A
 refine b_5 A rfl ?_
 refine d_1 ?_
 refine b_0 ?_
 refine m2 ?_
 refine s2 A (g_4 G rfl pv0 p_0 z_2 ze_98 (by decide) (cs := []) bs_98_0_) ?_
 rintro Q _ b ⟨Z, rfl, L⟩ C; clear A G T
 refine s1 C (a_0 rfl (C.ev rfl)) fun R B => ?_; clear C Q
 have E := L.t_8 (i := 0) (sz := 2) (n := 0) rfl rfl (by decide); clear L
 refine s2 B (l_0 E rfl p_0 el_98 (B.ev rfl) (B.ev rfl) (i := 0) rfl (E.sk 1 rfl) (l_1 _) (by simp [maxLen]; omega) (by omega)) ?_
 intro S a c M D
 have N := M.g_7 (i := 0) rfl (n' := xs.length) (xs' := (pairs xs)) (by simp) (by simp); clear M B E R
 refine s1 D (a_1 rfl (D.ev rfl)) fun Y J => ?_; clear D S
 refine n1 ?_
 refine c_8 ?_
 refine a_9 J (.inl rfl) (a_2 J rfl (.tmp rfl)) ?_
 exact ⟨N.ext, N.row_new (i := 0) rfl⟩
end Go.Proofs.Ytohgladndklciaa

namespace Go.Proofs.Ytohgladndklciaa
open Go.RowKit Go.Shelf Go.Eng Go.Hard
theorem en_56 : ∀ args w, (callFunc 56 args).run Try.prog w = .ok (.enter 56 args) w := enters_of Try.func56 (by kernel_rfl) rfl
theorem en_57 : ∀ args w, (callFunc 57 args).run Try.prog w = .ok (.enter 57 args) w := enters_of Try.func57 (by kernel_rfl) rfl
theorem en_58 : ∀ args w, (callFunc 58 args).run Try.prog w = .ok (.enter 58 args) w := enters_of Try.func58 (by kernel_rfl) rfl
def spE (b : h_0) (l : List (Int × Int)) : Int := if n_5 b l ≠ 0 then n_5 b l else if i_7 b l = none then 9 else 0
theorem spE_9 {b : h_0} {l : List (Int × Int)} (h : n_5 b l = 0) (A : i_7 b l = none) : spE b l = 9 := by unfold spE; rw [if_neg (not_not_intro h), if_pos A]
theorem Spans_none (b : h_0) (vt vm : Value) (lr lb lk : Nat → Value) (w : World) (hT : j_6 w vt lr lb b.tabs) (hM : k_4 w vm lk b.macs) (hth : o_0 b) (l : List (Int × Int)) (xl : Value) (hxl : SlAt w xl 2 l.length (pairs l)) (hlb : l.length ≤ 1000000) (hr : n_5 b l = 0) (hs : i_7 b l = none) :
  Calls Try.prog 25 #[(Value.agg #[(Value.int .i64 b.scales), vt, vm]), xl] w (Ret fun v w' => v = .tuple #[.slice none 0 0, .int .i64 (spE b l)] ∧ Ext NoB w w') := by
 refine a_8 Try.func25 rfl fun r G => ?_
 replace G : Fr 31 [] [(0, (Value.agg #[(Value.int .i64 b.scales), vt, vm])), (1, xl)] r := G
 have hc : g_0 b = 0 := o_6 hr; have hbl := z_7 hr; have hb := hbl.1; have hl := hbl.2; have hll := hl.len; have hsc := hb.scales
 have o : Sep NoB w w [(c_9 false vt lr lb b.tabs), (d_2 false vm lk b.macs), (sl xl 2 l.length (pairs l))] := f_0 ⟨rfl, hT, rfl, hM, rfl, hxl, trivial⟩
 refine m2 ?_
 refine s2 G (f_3 o rfl (G.ev rfl) (cs := [(Value.int .i64 b.scales), vt, vm]) rfl) ?_
 rintro a1 _ w3 ⟨b4, rfl, B⟩ m; clear G o r
 refine s1 m (a_1 rfl (evc _ _)) fun a6 n => ?_; clear m a1
 refine s1 n (a_1 rfl (evc _ _)) fun a8 e => ?_; clear n a6
 refine n4 ?_
 refine s1 e (c_4 rfl y_4 (e.ev rfl) (B.bk 0 rfl) (l := [(Value.int .i64 b.scales), vt, vm]) rfl rfl) fun s H => ?_; clear e a8
 refine s1 H (a_0 rfl (H.ev rfl)) fun t C => ?_; clear H s
 refine s2 C (a_6 rfl en_56 (ev2 (C.ev rfl) (C.ev rfl)) (read_yes b vt vm lr lb lk _ (b_6 (B.ok 1 _ rfl)) (b_8 (B.ok 2 _ rfl)) hth l _ (B.sk 3 rfl) (by omega) hc hr)) ?_
 rintro u _ AW ⟨bx19, bm20, es21, ck22, rfl, hMO23, k⟩ I; have A := B.l_5 k rfl; clear k C B t
 refine s1 I (a_0 rfl (I.ev rfl)) fun x J => ?_; clear I u
 refine s1 J (c_3 rfl (J.ev rfl) rfl) fun y K => ?_; clear J x
 refine s1 K (c_3 rfl (K.ev rfl) rfl) fun z L => ?_; clear K y
 refine s1 L (a_1 rfl (L.ev rfl)) fun AA M => ?_; clear L z
 refine s1 M (a_1 rfl (M.ev rfl)) fun AB Z => ?_; clear M AA
 refine n2 ?_
 refine b_7 ?_
 have N := Z.as [(7, (Value.int .i64 0)), (6, (bptr bx19 0)), (2, (bptr b4 0)), (1, xl)] rfl; clear Z
 refine a_5 ?_
 refine s1 N (a_0 rfl (N.ev rfl)) fun AC O => ?_; clear N AB
 refine s1 O (y_6 rfl (O.ev rfl) (evc _ _)) fun AD D => ?_; clear O AC
 refine n1 ?_
 refine b_5 D rfl ?_
 refine d_1 ?_
 refine b_0 ?_
 refine m2 ?_
 refine s1 D (a_0 rfl (D.ev rfl)) fun AE P => ?_; clear D AD
 refine s1 P (a_0 rfl (P.ev rfl)) fun AF E => ?_; clear P AE
 refine s2 E (a_6 rfl en_57 (ev2 (E.ev rfl) (E.ev rfl)) (spansb_ok b vt vm lr lb lk _ (b_6 (A.ok 3 _ rfl)) (b_8 (A.ok 4 _ rfl)) hth bx19 bm20 _ _ (by assumption) (A.bk 0 rfl) (mapX_ro (A.ok 1 _ rfl)) hb l _ (A.sk 5 rfl) hl)) ?_
 rintro AG _ AX ⟨Y, AU, rfl, htk48, f⟩ Q; have g := A.step f; clear f E A AF
 refine s1 Q (a_0 rfl (Q.ev rfl)) fun AH R => ?_; clear Q AG
 refine s1 R (c_3 rfl (R.ev rfl) rfl) fun AI S => ?_; clear R AH
 refine s1 S (c_3 rfl (S.ev rfl) rfl) fun AJ T => ?_; clear S AI
 have q : ((i_7 b l).isSome) = false := (by rw [hs]; rfl)
 rw [q] at T
 refine s2 T (e_4 g rfl ze_120 (cs := [(Value.int .i64 0), (Value.int .i64 0), (Value.int .i64 0), (Value.int .i64 0), (Value.int .i64 0), (Value.int .i64 0), (Value.int .i64 0), (Value.int .i64 0)]) rfl) ?_
 rintro AK _ AY ⟨AQ, rfl, h⟩ F; clear T g AJ
 refine s7 F (c_5 h rfl l_4 (F.ev rfl) (F.ev rfl) (i := 0) rfl (vs := (pairs Y)) rfl (show (pairs Y).length = 8 from by simp only [b_1, List.length_set]; omega) (l_1 _) (by decide)) ?_
 intro _ AZ j U; have p := j.n_4 (i := 0) rfl (cs' := (pairs Y)) (k_0 _ _ (Eq.symm (show (pairs Y).length = 8 from by simp only [b_1, List.length_set]; omega))); clear j F h
 refine s1 U (a_1 rfl (U.ev rfl)) fun AL a => ?_; clear U AK
 refine n2 ?_
 refine b_7 ?_
 have V := a.as [(9, (Value.bool false)), (8, (bptr AQ 0)), (2, (bptr b4 0))] rfl; clear a
 refine a_5 ?_
 refine s1 V (a_0 rfl (V.ev rfl)) fun AM W => ?_; clear V AL
 refine s1 W (f_4 rfl (W.ev rfl)) fun AN X => ?_; clear W AM
 refine n1 ?_
 refine c_6 X rfl ?_
 refine m2 ?_
 refine s1 X (a_1 rfl (evc _ _)) fun AO c => ?_; clear X AN
 refine s1 c (a_1 rfl (evc _ _)) fun AV d => ?_; clear c AO
 refine n1 ?_
 refine c_8 ?_
 refine a_7 ?_
 refine a_9 d (.inl rfl) (e_3 d rfl (.tmp rfl) (.tmp rfl)) ?_
 exact ⟨by rw [spE_9 hr hs], p.ext⟩
theorem s_3 (b : h_0) (vt vm : Value) (lr lb lk : Nat → Value) (w : World) (hT : j_6 w vt lr lb b.tabs) (hM : k_4 w vm lk b.macs) (hth : o_0 b) (l : List (Int × Int)) (xl : Value) (hxl : SlAt w xl 2 l.length (pairs l)) (hlb : l.length ≤ 1000000) (t : h_2) (hr : n_5 b l = 0) (hs : i_7 b l = some t) :
  Calls Try.prog 25 #[(Value.agg #[(Value.int .i64 b.scales), vt, vm]), xl] w (Ret fun v w' => ∃ u, v = .tuple #[u, .int .i64 0] ∧ Sep NoB w w' [row u 30 2 t.length (pairs t)]) := by
 refine a_8 Try.func25 rfl fun a0 J => ?_
 replace J : Fr 31 [] [(0, (Value.agg #[(Value.int .i64 b.scales), vt, vm])), (1, xl)] a0 := J
 have hc : g_0 b = 0 := o_6 hr; have hbl := z_7 hr; have hb := hbl.1; have hl := hbl.2; have hll := hl.len; have hsc := hb.scales
 have z : Sep NoB w w [(c_9 false vt lr lb b.tabs), (d_2 false vm lk b.macs), (sl xl 2 l.length (pairs l))] := f_0 ⟨rfl, hT, rfl, hM, rfl, hxl, trivial⟩
 refine m2 ?_
 refine s2 J (f_3 z rfl (J.ev rfl) (cs := [(Value.int .i64 b.scales), vt, vm]) rfl) ?_
 rintro a1 _ w3 ⟨b4, rfl, B⟩ x; clear J z a0
 refine s1 x (a_1 rfl (evc _ _)) fun a6 y => ?_; clear x a1
 refine s1 y (a_1 rfl (evc _ _)) fun a8 k => ?_; clear y a6
 refine n4 ?_
 refine s1 k (c_4 rfl y_4 (k.ev rfl) (B.bk 0 rfl) (l := [(Value.int .i64 b.scales), vt, vm]) rfl rfl) fun AD L => ?_; clear k a8
 refine s1 L (a_0 rfl (L.ev rfl)) fun AE C => ?_; clear L AD
 refine s2 C (a_6 rfl en_56 (ev2 (C.ev rfl) (C.ev rfl)) (read_yes b vt vm lr lb lk _ (b_6 (B.ok 1 _ rfl)) (b_8 (B.ok 2 _ rfl)) hth l _ (B.sk 3 rfl) (by omega) hc hr)) ?_
 rintro AF _ Ak ⟨bx19, bm20, es21, ck22, rfl, hMO23, s⟩ M; have A := B.l_5 s rfl; clear s C B AE
 refine s1 M (a_0 rfl (M.ev rfl)) fun AG N => ?_; clear M AF
 refine s1 N (c_3 rfl (N.ev rfl) rfl) fun AH O => ?_; clear N AG
 refine s1 O (c_3 rfl (O.ev rfl) rfl) fun AI P => ?_; clear O AH
 refine s1 P (a_1 rfl (P.ev rfl)) fun AJ Q => ?_; clear P AI
 refine s1 Q (a_1 rfl (Q.ev rfl)) fun AK f => ?_; clear Q AJ
 refine n2 ?_
 refine b_7 ?_
 have R := f.as [(7, (Value.int .i64 0)), (6, (bptr bx19 0)), (2, (bptr b4 0)), (1, xl)] rfl; clear f
 refine a_5 ?_
 refine s1 R (a_0 rfl (R.ev rfl)) fun AL S => ?_; clear R AK
 refine s1 S (y_6 rfl (S.ev rfl) (evc _ _)) fun AM D => ?_; clear S AL
 refine n1 ?_
 refine b_5 D rfl ?_
 refine d_1 ?_
 refine b_0 ?_
 refine m2 ?_
 refine s1 D (a_0 rfl (D.ev rfl)) fun AN T => ?_; clear D AM
 refine s1 T (a_0 rfl (T.ev rfl)) fun AO E => ?_; clear T AN
 refine s2 E (a_6 rfl en_57 (ev2 (E.ev rfl) (E.ev rfl)) (spansb_ok b vt vm lr lb lk _ (b_6 (A.ok 3 _ rfl)) (b_8 (A.ok 4 _ rfl)) hth bx19 bm20 _ _ (by assumption) (A.bk 0 rfl) (mapX_ro (A.ok 1 _ rfl)) hb l _ (A.sk 5 rfl) hl)) ?_
 rintro AP _ Al ⟨K, Ah, rfl, htk48, n⟩ U; have p := A.step n; clear n E A AO
 refine s1 U (a_0 rfl (U.ev rfl)) fun AQ V => ?_; clear U AP
 refine s1 V (c_3 rfl (V.ev rfl) rfl) fun AR W => ?_; clear V AQ
 refine s1 W (c_3 rfl (W.ev rfl) rfl) fun AS X => ?_; clear W AR
 have AB : ((i_7 b l).isSome) = true := (by rw [hs]; rfl)
 rw [AB] at X
 refine s2 X (e_4 p rfl ze_120 (cs := [(Value.int .i64 0), (Value.int .i64 0), (Value.int .i64 0), (Value.int .i64 0), (Value.int .i64 0), (Value.int .i64 0), (Value.int .i64 0), (Value.int .i64 0)]) rfl) ?_
 rintro AT _ Am ⟨Ad, rfl, q⟩ F; clear X p AS
 refine s7 F (c_5 q rfl l_4 (F.ev rfl) (F.ev rfl) (i := 0) rfl (vs := (pairs K)) rfl (show (pairs K).length = 8 from by simp only [b_1, List.length_set]; omega) (l_1 _) (by decide)) ?_
 intro _ An r Y; have I := r.n_4 (i := 0) rfl (cs' := (pairs K)) (k_0 _ _ (Eq.symm (show (pairs K).length = 8 from by simp only [b_1, List.length_set]; omega))); clear r F q
 refine s1 Y (a_1 rfl (Y.ev rfl)) fun AU g => ?_; clear Y AT
 refine n2 ?_
 refine b_7 ?_
 have Z := g.as [(9, (Value.bool true)), (8, (bptr Ad 0)), (2, (bptr b4 0))] rfl; clear g
 refine a_5 ?_
 refine s1 Z (a_0 rfl (Z.ev rfl)) fun AV a => ?_; clear Z AU
 refine s1 a (f_4 rfl (a.ev rfl)) fun AW G => ?_; clear a AV
 refine n1 ?_
 refine b_5 G rfl ?_
 refine d_1 ?_
 refine b_0 ?_
 refine m2 ?_
 refine s1 G (a_4 rfl fd_37_0 (G.ev rfl)) fun AX c => ?_; clear G AW
 refine s1 c (a_3 rfl ty_3 (c.ev rfl) (I.bk 3 rfl) rfl) fun AY H => ?_; clear c AX
 refine s1 H (op_sliceArr rfl y_7 g_5 (H.ev rfl) (h := b.scales.toNat) ((H.ev rfl).trans (k_3 (by omega))) (by omega)) fun AZ d => ?_; clear H AY
 refine s2 d (a_6 rfl en_58 (ev1 (d.ev rfl)) (clone_rng (K.take b.scales.toNat) _ _ ((SlAt.of_blkCut (I.bk 0 rfl) (by rw [b_1]; omega) (by omega) (by decide)).say (by rw [List.length_take]; omega) (pairs_takeH _ _)) (by rw [List.length_take]; omega))) ?_
 rintro Aa Aj Ao ⟨o, hO84⟩ e; have AA := I.h_7 o hO84; clear o hO84 d I AZ
 refine s1 e (a_1 rfl (e.ev rfl)) fun Ab j => ?_; clear e Aa
 refine s1 j (a_1 rfl (evc _ _)) fun Ai m => ?_; clear j Ab
 refine n1 ?_
 refine c_8 ?_
 refine a_9 m (.inl rfl) (e_3 m rfl (.tmp rfl) (.tmp rfl)) ?_
 have hz := AA.keep [0] (by decide) [_] rfl rfl
 rw [htk48 _ hs] at hz
 exact ⟨_, rfl, hz⟩
end Go.Proofs.Ytohgladndklciaa

namespace Go.Hard
open Go.RowKit Go.Eng
section
variable {X : Nat → Prop} {w0 w : World} {L : List Res}
theorem p_9 (h : Sep X w0 w L) (v : Nat → Value) (sz : Nat) (k : Nat → Nat) (c : Nat → List Value) : Sep X w0 w (slsR true 0 v sz k c :: L) :=
  h.push (Ext.refl _ _) (fun i hi => absurd hi (Nat.not_lt_zero _)) (fun b hb => by obtain ⟨i, hi, _⟩ := hb; exact absurd hi (Nat.not_lt_zero _))
theorem l_2 {u : Value} {e sz m n : Nat} {xs : List Value} {v : Nat → Value} {k k' : Nat → Nat} {c c' : Nat → List Value} (h : Sep X w0 w (row u e sz m xs :: slsR true n v sz k c :: L)) (hk : k' n = m) (hc : c' n = xs) (hold : ∀ i, i < n → k' i = k i ∧ c' i = c i) :
    Sep X w0 w (slsR true (n + 1) (putV n v u) sz k' c' :: L) := by
  have h0 := h.d_7 0 rfl
  have h1 := h.ok 1 _ rfl
  refine h.join (t := slsR true (n + 1) (putV n v u) sz k' c') (fun i hi => ?_) (fun b hb => ?_) (fun _ => ⟨rfl, rfl⟩) (fun _ => trivial)
  · rcases Nat.lt_succ_iff_lt_or_eq.1 hi with hi | rfl
    · rw [y_0 _ _ hi, (hold i hi).1, (hold i hi).2]; exact h1 i hi
    · rw [x_9, hk, hc]; exact SlAt.d_4 h0
  · obtain ⟨i, hi, hb⟩ := hb
    rcases Nat.lt_succ_iff_lt_or_eq.1 hi with hi | rfl
    · rw [y_0 _ _ hi, (hold i hi).2] at hb; exact .inr ⟨i, hi, hb⟩
    · rw [x_9, hc] at hb; exact .inl (t_5 hb)
theorem sep_sls_say {i : Nat} {o : Bool} {sz n n' : Nat} {v v' : Nat → Value} {k k' : Nat → Nat} {c c' : Nat → List Value} (h : Sep X w0 w L) (hi : L[i]? = some (slsR o n v sz k c)) (hn : n = n') (he : ∀ i, i < n → v' i = v i ∧ k' i = k i ∧ c' i = c i) : Sep X w0 w (L.set i (slsR o n' v' sz k' c')) := by
  subst hn
  have h1 := h.ok i _ hi
  refine h.say hi (fun q hq => ?_) (fun b hb => ?_) (fun ho => ho)
  · rw [(he q hq).1, (he q hq).2.1, (he q hq).2.2]; exact h1 q hq
  · obtain ⟨q, hq, hb⟩ := hb
    rw [(he q hq).1, (he q hq).2.2] at hb; exact ⟨q, hq, hb⟩
theorem sep_tabs_join {vt : Value} {lr lb : Nat → Value} {ts : List TabD} (h : Sep X w0 w (row vt 106 5 ts.length (n_6 lr lb ts) :: slsR true ts.length lr 2 (m_3 ts) (m_2 ts) :: slsR true ts.length lb 1 (brkN ts) (brkC ts) :: L)) : Sep X w0 w (c_9 true vt lr lb ts :: L) := by
  have h0 := h.d_7 0 rfl
  have hp := h.pw
  have ap := List.pairwise_cons.1 hp
  -- the row and both together
  refine Sep.of_pw h.ext (fun r hr => ?_) (fun r hr ho b hb => ?_) (List.pairwise_cons.2 ⟨fun r hr => ?_, (List.pairwise_cons.1 (List.pairwise_cons.1 ap.2).2).2⟩)
  · rcases List.mem_cons.1 hr with rfl | hr
    · exact ⟨SlAt.d_4 h0, h.ok 1 _ rfl, h.ok 2 _ rfl⟩
    · exact h.mem (List.mem_cons_of_mem _ (List.mem_cons_of_mem _ (List.mem_cons_of_mem _ hr)))
  · rcases List.mem_cons.1 hr with rfl | hr
    · rcases hb with hb | hb | hb
      · exact h.mine 0 _ rfl rfl b (t_5 hb)
      · exact h.mine 1 _ rfl rfl b hb
      · exact h.mine 2 _ rfl rfl b hb
    · exact h.mineM (List.mem_cons_of_mem _ (List.mem_cons_of_mem _ (List.mem_cons_of_mem _ hr))) ho b hb
  · have a0 := ap.1 r (List.mem_cons_of_mem _ (List.mem_cons_of_mem _ hr))
    have a1 := (List.pairwise_cons.1 ap.2).1 r (List.mem_cons_of_mem _ hr)
    have a2 := (List.pairwise_cons.1 (List.pairwise_cons.1 ap.2).2).1 r hr
    refine ⟨fun _ b hb => ?_, fun ho b hb hb' => ?_⟩
    · rcases hb with hb | hb | hb
      · exact a0.1 rfl b (t_5 hb)
      · exact a1.1 rfl b hb
      · exact a2.1 rfl b hb
    · rcases hb' with hb' | hb' | hb'
      · exact a0.2 ho b hb (t_5 hb')
      · exact a1.2 ho b hb hb'
      · exact a2.2 ho b hb hb'
theorem sep_macs_join {vm : Value} {lk : Nat → Value} {ms : List MacD} (h : Sep X w0 w (row vm 103 2 ms.length (o_7 lk ms) :: slsR true ms.length lk 3 (blkN ms) (blkC ms) :: L)) : Sep X w0 w (d_2 true vm lk ms :: L) := by
  have h0 := h.d_7 0 rfl
  refine h.join (t := d_2 true vm lk ms) ⟨SlAt.d_4 h0, h.ok 1 _ rfl⟩ (fun b hb => ?_) (fun _ => ⟨rfl, rfl⟩) (fun _ => trivial)
  rcases hb with hb | hb
  · exact .inl (t_5 hb)
  · exact .inr hb
theorem sep_row_sl {i : Nat} {v : Value} {e sz n : Nat} {xs : List Value} (h : Sep X w0 w L) (hi : L[i]? = some (row v e sz n xs)) : Sep X w0 w (L.set i (sl v sz n xs)) :=
  h.say hi (SlAt.d_4 (h.d_7 i hi)) (fun _ hb => t_5 hb) (fun e => by cases e)
end
theorem q_8 {α : Type} {l : List α} {d : α} {k : Nat} (h : k < l.length) : l.take k ++ [l.getD k d] = l.take (k + 1) := by
  rw [List.take_add_one, List.getElem?_eq_getElem h, List.getD, List.getElem?_eq_getElem h]; rfl
section
variable {ts : List TabD} {ms : List MacD} {k : Nat}
theorem take_at {α : Type} {l : List α} {d : α} {k i : Nat} (hk : i < k) : (l.take k).getD i d = l.getD i d := by
  simp [List.getD, List.getElem?_take, hk]
theorem rowsN_new (h : k < ts.length) : m_3 (ts.take (k + 1)) (ts.take k).length = (ts.getD k tab0).rows.length ∧ m_2 (ts.take (k + 1)) (ts.take k).length = pairs (ts.getD k tab0).rows ∧ brkN (ts.take (k + 1)) (ts.take k).length = (ts.getD k tab0).brk.length ∧ brkC (ts.take (k + 1)) (ts.take k).length = ints (ts.getD k tab0).brk := by
  rw [List.length_take, Nat.min_eq_left (by omega)]
  unfold m_3 m_2 brkN brkC
  rw [take_at (Nat.lt_succ_self k)]
  exact ⟨rfl, rfl, rfl, rfl⟩
theorem rowsN_old (i : Nat) (hi : i < (ts.take k).length) : (m_3 (ts.take (k + 1)) i = m_3 (ts.take k) i ∧ m_2 (ts.take (k + 1)) i = m_2 (ts.take k) i) ∧ brkN (ts.take (k + 1)) i = brkN (ts.take k) i ∧ brkC (ts.take (k + 1)) i = brkC (ts.take k) i := by
  have hk : i < k := by rw [List.length_take] at hi; omega
  unfold m_3 m_2 brkN brkC
  rw [take_at (show i < k + 1 by omega), take_at hk]
  exact ⟨⟨rfl, rfl⟩, rfl, rfl⟩
theorem blkN_new (h : k < ms.length) : blkN (ms.take (k + 1)) (ms.take k).length = (ms.getD k mac0).blocks.length ∧ blkC (ms.take (k + 1)) (ms.take k).length = trips (ms.getD k mac0).blocks := by
  rw [List.length_take, Nat.min_eq_left (by omega)]
  unfold blkN blkC
  rw [take_at (Nat.lt_succ_self k)]
  exact ⟨rfl, rfl⟩
theorem blkN_old (i : Nat) (hi : i < (ms.take k).length) : blkN (ms.take (k + 1)) i = blkN (ms.take k) i ∧ blkC (ms.take (k + 1)) i = blkC (ms.take k) i := by
  have hk : i < k := by rw [List.length_take] at hi; omega
  unfold blkN blkC
  rw [take_at (show i < k + 1 by omega), take_at hk]
  exact ⟨rfl, rfl⟩
theorem take_len1 {α : Type} {l : List α} (h : k < l.length) : (l.take k).length + 1 = (l.take (k + 1)).length := by simp only [List.length_take]; omega
end
end Go.Hard

namespace Go.Proofs.Ytohgladndklciaa
open Go.RowKit Go.Shelf Go.Eng Go.Hard
theorem bd_98_0i_1i (x0_0 : Int) (x1_0 : Int) (w : World) : (Instr.build 98 #[(0, (.int .i64 x0_0)), (1, (.int .i64 x1_0))]).run Try.prog w = .ok (.agg #[(.int .i64 x0_0), (.int .i64 x1_0)]) w := by kernel_rfl
theorem r_0 (x0_0 : Int) (x0_1 : Int) : Instr.fill (fun i => some (i * 2, 2)) ((Array.range (1 * 2)).map ((Value.agg #[(Value.int .i64 0), (Value.int .i64 0)]).cells[· % (Value.agg #[(Value.int .i64 0), (Value.int .i64 0)]).cells.size]!)) [(0, .agg #[(.int .i64 x0_0), (.int .i64 x0_1)])] = some (([(.int .i64 x0_0), (.int .i64 x0_1)] : List Value).toArray) := by kernel_rfl
theorem list_ok (l : List Int) (xl : Value) (w : World) (hxl : SlAt w xl 1 l.length (ints l)) (hlen : l.length ≤ 1000000) :
  Calls Try.prog 40 #[xl] w (Ret fun v w' => Ext NoB w w' ∧ w'.ownsRow w.heap.size 3 1 v l.length (ints l)) := by
 refine a_8 Try.func40 rfl fun J A => ?_
 replace A : Fr 5 [] [(0, xl)] J := A
 have I : Sep NoB w w [(sl xl 1 l.length (ints l))] := f_0 ⟨rfl, hxl, trivial⟩
 refine m2 ?_
 refine s1 A (a_1 rfl (evc _ _)) fun K C => ?_; clear A J
 refine n4 ?_
 refine s1 C (a_0 rfl (C.ev rfl)) fun L D => ?_; clear C K
 have H := I.r_9 3 1; clear I
 refine s2 D (l_0 H rfl h_8 el_3 (evc _ _) (D.ev rfl) (i := 0) rfl (H.sk 1 rfl) (ints_one _) (by simp only [maxLen]; omega) (by omega)) ?_
 intro M O P F E
 have G := F.g_7 (i := 0) rfl (n' := l.length) (xs' := (ints l)) (by simp) (by simp); clear F D H L
 refine s1 E (a_1 rfl (E.ev rfl)) fun N B => ?_; clear E M
 refine n1 ?_
 refine c_8 ?_
 refine a_9 B (.inl rfl) (a_2 B rfl (.tmp rfl)) ?_
 exact ⟨G.ext, G.row_new (i := 0) rfl⟩
theorem h_9 (l : List (Int × Int)) (xl : Value) (w : World) (hxl : SlAt w xl 2 l.length (pairs l)) (AJ : l.length ≤ 12) :
  Calls Try.prog 26 #[xl] w (Ret fun v w' => Ext NoB w w' ∧ w'.ownsRow w.heap.size 98 2 v l.length (pairs l)) := by
 refine a_8 Try.func26 rfl fun r S => ?_
 replace S : Fr 26 [] [(0, xl)] r := S
 have n : Sep NoB w w [(sl xl 2 l.length (pairs l))] := f_0 ⟨rfl, hxl, trivial⟩
 refine m2 ?_
 refine s1 S (a_1 rfl (evc _ _)) fun a1 g => ?_; clear S r
 refine n4 ?_
 refine s1 g (a_1 rfl (evc _ _)) fun a3 h => ?_; clear g a1
 have o := n.r_9 98 2; clear n
 refine n2 ?_
 refine m2 ?_
 refine s1 h (a_1 rfl (evc _ _)) fun a6 j => ?_; clear h a3
 refine n1 ?_
 refine d_0 ?_
 have m := j.as [(4, (Value.int .i64 0)), (3, (Value.slice none 0 0)), (0, xl)] rfl; clear j
 refine h_3 (G := Nat) (fun (k : Nat) a_ w_ => ∃ v3_ : Value, Fr 26 [] [(4, (Value.int .i64 (k : Int))), (3, v3_), (0, xl)] a_ ∧ Sep NoB w w_ [(row v3_ 98 2 ((l.take k).length) (pairs (l.take k))), (sl xl 2 l.length (pairs l))] ∧ (k ≤ l.length)) (fun k => l.length - k) 0 ⟨(Value.slice none 0 0), m.as _ rfl, (o.g_7 (i := 0) rfl (by rfl) (by rfl)), by omega⟩ ?_
 clear m o a6
 rintro k a9 AM ⟨v3_, H, F, hkk⟩
 have hlt_ : (l.take k).length ≤ 12 := by simp only [List.length_take]; omega
 refine b_7 ?_
 refine m2 ?_
 refine s1 H (a_0 rfl (H.ev rfl)) fun s I => ?_; clear H a9
 refine s1 I (a_0 rfl (I.ev rfl)) fun t J => ?_; clear I s
 refine s1 J (c_0 rfl m_9 (J.ev rfl) (F.sk 1 rfl)) fun u D => ?_; clear J t
 refine s1 D (f_9 rfl (D.ev rfl) (D.ev rfl)) fun x C => ?_; clear D u
 refine n1 ?_
 by_cases c : (k : Int) < (l.length : Int)
 ·skip
  rw [decide_eq_true c] at C
  refine c_6 C rfl ?_
  refine d_1 ?_
  refine b_0 ?_
  refine b_7 ?_
  refine d_0 ?_
  have V := C.as [(4, (Value.int .i64 (k : Int))), (3, v3_), (0, xl)] rfl; clear C
  refine c_drawV mixed V F 13 [[], [], [], [1, 2], [3], [4], [], [], [6, 7], [8], [9], [5, 10], [11]] [(yw v3_), (yw xl), (yw (Value.int .i64 (k : Int))), (yw (eptr xl (k * 2))), (yw (eptr xl (k * 2 + 0))), (yw (Value.int .i64 ((l.getD k (0, 0)).1))), (yw xl), (yw (Value.int .i64 (k : Int))), (yw (eptr xl (k * 2))), (yw (eptr xl (k * 2 + 1))), (yw (Value.int .i64 ((l.getD k (0, 0)).2))), (yw (Value.agg #[(Value.int .i64 ((l.getD k (0, 0)).1)), (Value.int .i64 ((l.getD k (0, 0)).2))])), (fun (A : Nat → Value) (v_ : Value) (rs_ : List Res) => True ∧ rs_ = [(row v_ 98 2 1 [(Value.int .i64 ((l.getD k (0, 0)).1)), (Value.int .i64 ((l.getD k (0, 0)).2))])])] (by decide +kernel) (by decide +kernel) rfl rfl ⟨dw, dw, dw, dw, dw, dw, dw, dw, dw, dw, dw, dw, (fun _ _ _ _ _ h_ => h_), trivial⟩ ?_ ?_
  ·skip
   refine ⟨fun a w A hA hS hd => gv1 (a_0 rfl (hA.ev rfl)), ?_⟩
   refine ⟨fun a w A hA hS hd => gv1 (a_0 rfl (hA.ev rfl)), ?_⟩
   refine ⟨fun a w A hA hS hd => gv1 (a_0 rfl (hA.ev rfl)), ?_⟩
   refine ⟨fun a w A hA hS hd => gv1 (b_2 rfl m_9 ty_67 (gu hd 1) (i := k) (gu hd 2) (hS.sk 1 rfl) (by decide) (by omega)), ?_⟩
   refine ⟨fun a w A hA hS hd => gv1 (e_6 rfl fd_67_0 (gu hd 3) (hS.sk 1 rfl) (by rw [((hS.sk 1 rfl)).1]; omega)), ?_⟩
   refine ⟨fun a w A hA hS hd => gv1 (c_7 rfl ty_3 (gu hd 4) (hS.sk 1 rfl) (i_9 (by omega))), ?_⟩
   refine ⟨fun a w A hA hS hd => gv1 (a_0 rfl (hA.ev rfl)), ?_⟩
   refine ⟨fun a w A hA hS hd => gv1 (a_0 rfl (hA.ev rfl)), ?_⟩
   refine ⟨fun a w A hA hS hd => gv1 (b_2 rfl m_9 ty_67 (gu hd 6) (i := k) (gu hd 7) (hS.sk 1 rfl) (by decide) (by omega)), ?_⟩
   refine ⟨fun a w A hA hS hd => gv1 (e_6 rfl fd_67_1 (gu hd 8) (hS.sk 1 rfl) (by rw [((hS.sk 1 rfl)).1]; omega)), ?_⟩
   refine ⟨fun a w A hA hS hd => gv1 (c_7 rfl ty_3 (gu hd 9) (hS.sk 1 rfl) (k_6 (by omega))), ?_⟩
   refine ⟨fun a w A hA hS hd => gv1 (e_7 rfl (pv2 (gu hd 5) (gu hd 10)) (bd_98_0i_1i _ _)), ?_⟩
   refine ⟨fun a w A hA hS hd => d_9 rfl (vblt rfl (pv1 (gu hd 11)) p_0 z_2 ze_98 (by decide) (cs := [(Value.int .i64 ((l.getD k (0, 0)).1)), (Value.int .i64 ((l.getD k (0, 0)).2))]) (r_0 _ _) rfl (by decide) (fun _ => And.intro trivial rfl)), ?_⟩
   trivial
  intro f AE A rsf29 W B Q; clear V F
  obtain ⟨U, e⟩ := B 12 (by decide)
  obtain ⟨d, T⟩ := e
  have R : Sep NoB w AE [(row (A 12) 98 2 1 [(Value.int .i64 ((l.getD k (0, 0)).1)), (Value.int .i64 ((l.getD k (0, 0)).2))]), (row v3_ 98 2 ((l.take k).length) (pairs (l.take k))), (sl xl 2 l.length (pairs l))] := by rw [show catR rsf29 0 13 = ([(row (A 12) 98 2 1 [(Value.int .i64 ((l.getD k (0, 0)).1)), (Value.int .i64 ((l.getD k (0, 0)).2))])] : List Res) by (try simp only [catR, gr (B 0 (by decide)), gr (B 1 (by decide)), gr (B 2 (by decide)), gr (B 3 (by decide)), gr (B 4 (by decide)), gr (B 5 (by decide)), gr (B 6 (by decide)), gr (B 7 (by decide)), gr (B 8 (by decide)), gr (B 9 (by decide)), gr (B 10 (by decide)), gr (B 11 (by decide)), T]); (try rfl)] at Q; exact Q
  have X := W.add (gs (B 0 (by decide))); clear W
  have E : Fr 26 [] [(23, (A 12)), (11, v3_), (4, (Value.int .i64 (k : Int))), (3, v3_), (0, xl)] f := X.add (i_1 U rfl); clear X
  clear B Q U
  clear T
  clear d
  refine s2 E (l_0 R rfl p_0 el_98 (E.ev rfl) (E.ev rfl) (i := 1) rfl (SlAt.d_4 (R.d_7 0 rfl)) rfl (by simp only [maxLen]; omega) (by omega)) ?_
  intro y AD AN Z K
  have b := Z.g_7 (i := 1) rfl (n' := ((l.take k) ++ [l.getD k (0, 0)]).length) (xs' := (pairs ((l.take k) ++ [l.getD k (0, 0)]))) (by simp) (by simp [pairs]); clear Z E R f
  refine s1 K (a_1 rfl (K.ev rfl)) fun z L => ?_; clear K y
  refine e_8 ?_
  refine g_8 ?_
  refine b_0 ?_
  refine a_5 ?_
  refine s1 L (a_0 rfl (L.ev rfl)) fun AA M => ?_; clear L z
  refine s1 M (f_6 rfl (M.ev rfl) (evc _ _) (by omega) (by omega)) fun AB N => ?_; clear M AA
  refine s1 N (a_1 rfl (N.ev rfl)) fun AK p => ?_; clear N AB
  refine e_8 ?_
  have q := b.gkp (gpc 1 (gpc 2 gpn)); clear b
  exact b_0 ⟨k + 1, ⟨AD, p.as _ rfl, (q.g_7 (i := 0) rfl (by rw [q_8 (by omega)]) (by rw [q_8 (by omega)])), by omega⟩, by omega⟩
 skip
 rw [decide_eq_false c] at C
 refine b_5 C rfl ?_
 refine h_1 ?_
 refine b_4 ?_
 refine b_4 ?_
 refine f_7 ?_
 refine b_0 ?_
 refine b_7 ?_
 have O := C.as [(3, v3_)] rfl; clear C
 refine a_5 ?_
 refine s1 O (a_0 rfl (O.ev rfl)) fun AC P => ?_; clear O x
 refine s1 P (a_1 rfl (P.ev rfl)) fun AL Y => ?_; clear P AC
 refine n1 ?_
 refine c_8 ?_
 refine a_9 Y (.inl rfl) (a_2 Y rfl (.tmp rfl)) ?_
 have hz := F.g_7 (i := 0) rfl (n' := l.length) (xs' := pairs l) (by rw [show k = l.length by omega, List.take_length]) (by rw [show k = l.length by omega, List.take_length])
 exact ⟨hz.ext, hz.row_new (i := 0) rfl⟩
end Go.Proofs.Ytohgladndklciaa

namespace Go.Proofs.Ytohgladndklciaa
open Go.RowKit Go.Shelf Go.Eng Go.Hard
theorem ze_37 : (Try.prog.info? 37).bind (·.zero) = some (Value.agg #[(Value.int .i64 0), (Value.slice none 0 0), (Value.slice none 0 0)]) := by kernel_rfl
theorem bd_37_0i (x0_0 : Int) (w : World) : (Instr.build 37 #[(0, (.int .i64 x0_0))]).run Try.prog w = .ok (.agg #[(.int .i64 x0_0), (Value.slice none 0 0), (Value.slice none 0 0)]) w := by kernel_rfl
theorem ze_46 : (Try.prog.info? 46).bind (·.zero) = some (Value.agg #[(Value.int .i64 0), (Value.int .i64 0), (Value.slice none 0 0), (Value.slice none 0 0), (Value.int .i64 0)]) := by kernel_rfl
theorem bd_106_0i_1i_3s_4i (x0_0 : Int) (x1_0 : Int) (x2_0 : Value) (hx2_0 : IsSl x2_0) (x3_0 : Int) (w : World) : (Instr.build 106 #[(0, (.int .i64 x0_0)), (1, (.int .i64 x1_0)), (3, x2_0), (4, (.int .i64 x3_0))]).run Try.prog w = .ok (.agg #[(.int .i64 x0_0), (.int .i64 x1_0), (Value.slice none 0 0), x2_0, (.int .i64 x3_0)]) w := by obtain ⟨Ax2_0, Bx2_0, Cx2_0, rfl⟩ := hx2_0; kernel_rfl
theorem en_40 : ∀ args w, (callFunc 40 args).run Try.prog w = .ok (.enter 40 args) w := enters_of Try.func40 (by kernel_rfl) rfl
theorem m_6 (x0_0 : Int) (x1_0 : Int) (w : World) : (Instr.build 107 #[(0, (.int .i64 x0_0)), (1, (.int .i64 x1_0))]).run Try.prog w = .ok (.agg #[(.int .i64 x0_0), (.int .i64 x1_0)]) w := by kernel_rfl
theorem bs_107_1_0iia (x0_0 : Int) (x0_1 : Int) : Instr.fill (fun i => some (i * 2, 2)) ((Array.range (1 * 2)).map ((Value.agg #[(Value.int .i64 0), (Value.int .i64 0)]).cells[· % (Value.agg #[(Value.int .i64 0), (Value.int .i64 0)]).cells.size]!)) [(0, .agg #[(.int .i64 x0_0), (.int .i64 x0_1)])] = some (([(.int .i64 x0_0), (.int .i64 x0_1)] : List Value).toArray) := by kernel_rfl
theorem el_107 : elK Try.prog 107 = some ((Value.agg #[(Value.int .i64 0), (Value.int .i64 0)]), 2, 16) := by kernel_rfl
theorem bd_103_0i (x0_0 : Int) (w : World) : (Instr.build 103 #[(0, (.int .i64 x0_0))]).run Try.prog w = .ok (.agg #[(.int .i64 x0_0), (Value.slice none 0 0)]) w := by kernel_rfl
theorem q_1 (x0_0 : Int) (x0_1 : Int) (x1_0 : Int) (w : World) : (Instr.build 100 #[(0, .agg #[(.int .i64 x0_0), (.int .i64 x0_1)]), (1, (.int .i64 x1_0))]).run Try.prog w = .ok (.agg #[(.int .i64 x0_0), (.int .i64 x0_1), (.int .i64 x1_0)]) w := by kernel_rfl
theorem en_20 : ∀ args w, (callFunc 20 args).run Try.prog w = .ok (.enter 20 args) w := enters_of Try.func20 (by kernel_rfl) rfl
theorem bs_100_1_0iiia (x0_0 : Int) (x0_1 : Int) (x0_2 : Int) : Instr.fill (fun i => some (i * 3, 3)) ((Array.range (1 * 3)).map ((Value.agg #[(Value.int .i64 0), (Value.int .i64 0), (Value.int .i64 0)]).cells[· % (Value.agg #[(Value.int .i64 0), (Value.int .i64 0), (Value.int .i64 0)]).cells.size]!)) [(0, .agg #[(.int .i64 x0_0), (.int .i64 x0_1), (.int .i64 x0_2)])] = some (([(.int .i64 x0_0), (.int .i64 x0_1), (.int .i64 x0_2)] : List Value).toArray) := by kernel_rfl
theorem el_100 : elK Try.prog 100 = some ((Value.agg #[(Value.int .i64 0), (Value.int .i64 0), (Value.int .i64 0)]), 3, 24) := by kernel_rfl
theorem bs_103_1_0iva (x0_0 : Int) (x0_1 : Value) : Instr.fill (fun i => some (i * 2, 2)) ((Array.range (1 * 2)).map ((Value.agg #[(Value.int .i64 0), (Value.slice none 0 0)]).cells[· % (Value.agg #[(Value.int .i64 0), (Value.slice none 0 0)]).cells.size]!)) [(0, .agg #[(.int .i64 x0_0), x0_1])] = some (([(.int .i64 x0_0), x0_1] : List Value).toArray) := by kernel_rfl
theorem el_103 : elK Try.prog 103 = some ((Value.agg #[(Value.int .i64 0), (Value.slice none 0 0)]), 2, 32) := by kernel_rfl
set_option maxHeartbeats 4000000 in
theorem n_3 (b : h_0) (vt vm : Value) (lr lb lk : Nat → Value) (w : World) (hT : j_6 w vt lr lb b.tabs) (hM : k_4 w vm lk b.macs) (hth : o_0 b) :
  Calls Try.prog 19 #[(Value.agg #[(Value.int .i64 b.scales), vt, vm])] w (Ret fun v w' => ∃ vt' vm' lr' lb' lk', v = .agg #[.int .i64 b.scales, vt', vm'] ∧ Sep NoB w w' [c_9 true vt' lr' lb' b.tabs, d_2 true vm' lk' b.macs]) := by
 refine a_8 Try.func19 rfl fun a0 A7 => ?_
 replace A7 : Fr 116 [] [(0, (Value.agg #[(Value.int .i64 b.scales), vt, vm]))] a0 := A7
 have htl9 := hth.tl; have hml9 := hth.ml
 have C3 : Sep NoB w w [(c_9 false vt lr lb b.tabs), (d_2 false vm lk b.macs)] := f_0 ⟨rfl, hT, rfl, hM, trivial⟩
 refine m2 ?_
 refine s2 A7 (f_3 C3 rfl (A7.ev rfl) (cs := [(Value.int .i64 b.scales), vt, vm]) rfl) ?_
 rintro a1 _ w3 ⟨I, rfl, C4⟩ C2; clear A7 C3 a0
 refine s2 C2 (e_4 C4 rfl ze_37 (cs := [(Value.int .i64 0), (Value.slice none 0 0), (Value.slice none 0 0)]) rfl) ?_
 rintro a6 _ w8 ⟨H, rfl, BL⟩ CU; clear C2 C4 a1
 refine n4 ?_
 refine s1 CU (a_4 rfl fd_25_0 (CU.ev rfl)) fun D5 A8 => ?_; clear CU a6
 refine s1 A8 (a_3 rfl ty_3 (A8.ev rfl) (BL.bk 1 rfl) rfl) fun D6 A9 => ?_; clear A8 D5
 refine s1 A9 (e_7 rfl (pv1 (A9.ev rfl)) (bd_37_0i _)) fun D7 CL => ?_; clear A9 D6
 refine s2 CL (e_4 BL rfl ze_37 (cs := [(Value.int .i64 0), (Value.slice none 0 0), (Value.slice none 0 0)]) rfl) ?_
 rintro D8 _ Et ⟨B, rfl, Ca⟩ AN; clear CL BL D7
 refine s7 AN (c_5 Ca rfl y_4 (AN.ev rfl) (AN.ev rfl) (i := 0) rfl (vs := [(Value.int .i64 b.scales), (Value.slice none 0 0), (Value.slice none 0 0)]) rfl rfl (j_3 rfl (j_3 rfl (j_3 rfl x_2))) (Nat.le_of_ble_eq_true rfl)) ?_
 intro _ EU Cb CM; clear AN
 have Cc : Sep NoB w EU [(blk B 37 [(Value.int .i64 b.scales), (Value.slice none 0 0), (Value.slice none 0 0)]), (blk H 37 [(Value.int .i64 0), (Value.slice none 0 0), (Value.slice none 0 0)]), (blk I 25 [(Value.int .i64 b.scales), vt, vm]), (c_9 false vt lr lb b.tabs), (d_2 false vm lk b.macs)] := Cb; clear Cb Ca
 refine n2 ?_
 refine m2 ?_
 refine s1 CM (a_1 rfl (evc _ _)) fun D9 CN => ?_; clear CM D8
 refine n1 ?_
 refine d_0 ?_
 have Cd := p_9 (p_9 (Cc.r_9 106 5) (fun _ => Value.slice none 0 0) 1 (brkN (b.tabs.take 0)) (brkC (b.tabs.take 0))) (fun _ => Value.slice none 0 0) 2 (m_3 (b.tabs.take 0)) (m_2 (b.tabs.take 0)); clear Cc
 have CO := CN.as [(4, (Value.int .i64 0)), (3, (bptr B 0)), (2, (bptr H 0)), (1, (bptr I 0))] rfl; clear CN
 refine h_3 (G := Nat) (fun (k : Nat) a_ w_ => ∃ vt_ : Value, ∃ lr_ : Nat → Value, ∃ lb_ : Nat → Value, Fr 116 [] [(4, (Value.int .i64 (k : Int))), (3, (bptr B 0)), (2, (bptr H 0)), (1, (bptr I 0))] a_ ∧ Sep NoB w w_ [(slsR true ((b.tabs.take k).length) lr_ 2 (m_3 (b.tabs.take k)) (m_2 (b.tabs.take k))), (slsR true ((b.tabs.take k).length) lb_ 1 (brkN (b.tabs.take k)) (brkC (b.tabs.take k))), (row vt_ 106 5 ((b.tabs.take k).length) (n_6 lr_ lb_ (b.tabs.take k))), (blk B 37 [(Value.int .i64 b.scales), vt_, (Value.slice none 0 0)]), (blk H 37 [(Value.int .i64 0), (Value.slice none 0 0), (Value.slice none 0 0)]), (blk I 25 [(Value.int .i64 b.scales), vt, vm]), (c_9 false vt lr lb b.tabs), (d_2 false vm lk b.macs)] ∧ (k ≤ b.tabs.length)) (fun k => b.tabs.length - k) 0 ⟨(Value.slice none 0 0), (fun _ => Value.slice none 0 0), (fun _ => Value.slice none 0 0), CO.as _ rfl, (Cd.g_7 (i := 2) rfl (by rfl) (by rfl)), by omega⟩ ?_
 clear CO Cd D9
 rintro k EA Eu ⟨vt_, lr_, lb_, BA, S, hk⟩
 have htk : (b.tabs.take k).length = k := by rw [List.length_take]; omega
 refine b_7 ?_
 refine m2 ?_
 refine s1 BA (a_0 rfl (BA.ev rfl)) fun EB BB => ?_; clear BA EA
 refine s1 BB (a_4 rfl u_0 (BB.ev rfl)) fun EC BC => ?_; clear BB EB
 refine s1 BC (a_3 rfl ac_6 (BC.ev rfl) (S.bk 5 rfl) rfl) fun ED BD => ?_; clear BC EC
 refine s1 BD (c_0 rfl ac_7 (BD.ev rfl) (b_6 (S.ok 6 _ rfl)).tabs) fun EE Ao => ?_; clear BD ED
 refine s1 Ao (f_9 rfl (Ao.ev rfl) (Ao.ev rfl)) fun C0 R => ?_; clear Ao EE
 refine n1 ?_
 by_cases Cj : (k : Int) < (b.tabs.length : Int)
 ·skip
  rw [decide_eq_true Cj] at R
  have htkk := hth.tab k
  refine c_6 R rfl ?_
  refine d_1 ?_
  refine b_0 ?_
  refine b_7 ?_
  refine d_0 ?_
  refine m2 ?_
  refine s1 R (a_4 rfl u_0 (R.ev rfl)) fun EF BE => ?_; clear R C0
  refine s1 BE (a_3 rfl ac_6 (BE.ev rfl) (S.bk 5 rfl) rfl) fun EG BF => ?_; clear BE EF
  refine s1 BF (a_0 rfl (BF.ev rfl)) fun EH Ap => ?_; clear BF EG
  refine s1 Ap (b_2 rfl ac_7 ty_46 (Ap.ev rfl) (i := k) (Ap.ev rfl) (b_6 (S.ok 6 _ rfl)).tabs (by decide) (by omega)) fun EI BG => ?_; clear Ap EH
  refine s1 BG (f_2 rfl ty_46 (BG.ev rfl) (b_6 (S.ok 6 _ rfl)).tabs (y_3 (by omega)) rfl (by decide)) fun EJ CP => ?_; clear BG EI
  refine s2 CP (e_4 S rfl ze_46 (cs := [(Value.int .i64 0), (Value.int .i64 0), (Value.slice none 0 0), (Value.slice none 0 0), (Value.int .i64 0)]) rfl) ?_
  rintro Eq _ Ev ⟨K, rfl, A1⟩ Aq; clear CP S EJ
  refine s7 Aq (c_5 A1 rfl ty_46 (Aq.ev rfl) (Aq.ev rfl) (i := 0) rfl (vs := [(Value.int .i64 ((b.tabs.getD k tab0).frm)), (Value.int .i64 ((b.tabs.getD k tab0).dst)), (lr k), (lb k), (Value.int .i64 ((b.tabs.getD k tab0).err))]) rfl rfl (j_3 rfl (j_3 rfl (j_3 (SlAt.one ((b_6 (A1.ok 7 _ rfl)).row (i := k) (by omega))) (j_3 (SlAt.one ((b_6 (A1.ok 7 _ rfl)).brk (i := k) (by omega))) (j_3 rfl x_2))))) (Nat.le_of_ble_eq_true rfl)) ?_
  intro _ EV Ce CQ; clear Aq
  have Cf : Sep NoB w EV [(blk K 46 [(Value.int .i64 ((b.tabs.getD k tab0).frm)), (Value.int .i64 ((b.tabs.getD k tab0).dst)), (lr k), (lb k), (Value.int .i64 ((b.tabs.getD k tab0).err))]), (slsR true ((b.tabs.take k).length) lr_ 2 (m_3 (b.tabs.take k)) (m_2 (b.tabs.take k))), (slsR true ((b.tabs.take k).length) lb_ 1 (brkN (b.tabs.take k)) (brkC (b.tabs.take k))), (row vt_ 106 5 ((b.tabs.take k).length) (n_6 lr_ lb_ (b.tabs.take k))), (blk B 37 [(Value.int .i64 b.scales), vt_, (Value.slice none 0 0)]), (blk H 37 [(Value.int .i64 0), (Value.slice none 0 0), (Value.slice none 0 0)]), (blk I 25 [(Value.int .i64 b.scales), vt, vm]), (c_9 false vt lr lb b.tabs), (d_2 false vm lk b.macs)] := Ce; clear Ce A1
  refine n2 ?_
  have CR := CQ.as [(5, (bptr K 0)), (4, (Value.int .i64 (k : Int))), (3, (bptr B 0)), (2, (bptr H 0)), (1, (bptr I 0))] rfl; clear CQ
  have CS := CR.as [(5, (bptr K 0)), (4, (Value.int .i64 (k : Int))), (3, (bptr B 0)), (2, (bptr H 0)), (1, (bptr I 0))] rfl; clear CR
  refine c_drawV mixed CS Cf 11 [[], [0], [], [2], [], [4], [5], [], [7], [1, 3, 6, 8], []] [(yw (bptr K 0)), (yw (Value.int .i64 ((b.tabs.getD k tab0).frm))), (yw (bptr K 1)), (yw (Value.int .i64 ((b.tabs.getD k tab0).dst))), (yw (bptr K 3)), (yw (lb k)), (fun (A : Nat → Value) (v_ : Value) (rs_ : List Res) => True ∧ rs_ = [(row v_ 3 1 ((b.tabs.getD k tab0).brk.length) (ints ((b.tabs.getD k tab0).brk)))]), (yw (bptr K 4)), (yw (Value.int .i64 ((b.tabs.getD k tab0).err))), (fun (A : Nat → Value) (v_ : Value) (rs_ : List Res) => v_ = (Value.agg #[(Value.int .i64 ((b.tabs.getD k tab0).frm)), (Value.int .i64 ((b.tabs.getD k tab0).dst)), (Value.slice none 0 0), (A 6), (Value.int .i64 ((b.tabs.getD k tab0).err))]) ∧ rs_ = []), (fun (A : Nat → Value) (v_ : Value) (rs_ : List Res) => ∃ (b10_ : Nat), v_ = (bptr b10_ 0) ∧ rs_ = [(blk b10_ 106 [(Value.int .i64 0), (Value.int .i64 0), (Value.slice none 0 0), (Value.slice none 0 0), (Value.int .i64 0)])])] (by decide +kernel) (by decide +kernel) rfl rfl ⟨dw, dw, dw, dw, dw, dw, (fun _ _ _ _ _ h_ => h_), dw, dw, (fun _ _ _ _ he_ h_ => by dsimp only at h_ ⊢; rw [← he_ 6 (by decide)]; exact h_), (fun _ _ _ _ _ h_ => h_), trivial⟩ ?_ ?_
  ·skip
   refine ⟨fun a w A hA hS hd => gv1 (a_4 rfl fd_46_0 (hA.ev rfl)), ?_⟩
   refine ⟨fun a w A hA hS hd => gv1 (a_3 rfl ty_3 (gu hd 0) (hS.bk 0 rfl) rfl), ?_⟩
   refine ⟨fun a w A hA hS hd => gv1 (a_4 rfl fd_46_1 (hA.ev rfl)), ?_⟩
   refine ⟨fun a w A hA hS hd => gv1 (a_3 rfl ty_3 (gu hd 2) (hS.bk 0 rfl) rfl), ?_⟩
   refine ⟨fun a w A hA hS hd => gv1 (a_4 rfl z_5 (hA.ev rfl)), ?_⟩
   refine ⟨fun a w A hA hS hd => gv1 (a_3 rfl aa_8 (gu hd 4) (hS.bk 0 rfl) rfl), ?_⟩
   refine ⟨fun a w A hA hS hd => d_9 rfl (vn (a_6 rfl en_40 (ev1 (gu hd 5)) (list_ok ((b.tabs.getD k tab0).brk) _ _ ((b_6 (hS.ok 7 _ rfl)).brk (i := k) (by omega)) (hth.bl _))) (fun v w' h => ⟨_, And.intro trivial rfl, (Sep.start NoB _).h_7 h.1 h.2, rfl⟩)), ?_⟩
   refine ⟨fun a w A hA hS hd => gv1 (a_4 rfl fd_46_4 (hA.ev rfl)), ?_⟩
   refine ⟨fun a w A hA hS hd => gv1 (a_3 rfl ty_3 (gu hd 7) (hS.bk 0 rfl) rfl), ?_⟩
   refine ⟨fun a w A hA hS hd => ?_, ?_⟩
   ·skip
    obtain ⟨e6, Es, ET, ER⟩ := hd 6 (by decide)
    obtain ⟨Er, ES⟩ := ET; subst ES
    have hp6_0 := ER _ (List.mem_of_getElem? (i := 0) rfl)
    exact gv1 (e_7 rfl (pv4 (gu hd 1) (gu hd 3) (b_9 (i_1 e6 rfl)) (gu hd 8)) (bd_106_0i_1i_3s_4i _ _ _ (SlAt.isSl (SlAt.d_4 hp6_0)) _))
   refine ⟨fun a w A hA hS hd => d_9 rfl (valloc rfl ze_106 (cs := [(Value.int .i64 0), (Value.int .i64 0), (Value.slice none 0 0), (Value.slice none 0 0), (Value.int .i64 0)]) rfl (fun b_ => ⟨b_, rfl, rfl⟩)), ?_⟩
   trivial
  intro C1 EW A rsf72 CT M BM; clear CS Cf
  obtain ⟨Ds, Du⟩ := M 6 (by decide)
  obtain ⟨Dt, Cl⟩ := Du
  obtain ⟨A2, Cx⟩ := M 10 (by decide)
  obtain ⟨b10_, CH, CC⟩ := Cx
  have BN : Sep NoB w EW [(row (A 6) 3 1 ((b.tabs.getD k tab0).brk.length) (ints ((b.tabs.getD k tab0).brk))), (blk b10_ 106 [(Value.int .i64 0), (Value.int .i64 0), (Value.slice none 0 0), (Value.slice none 0 0), (Value.int .i64 0)]), (blk K 46 [(Value.int .i64 ((b.tabs.getD k tab0).frm)), (Value.int .i64 ((b.tabs.getD k tab0).dst)), (lr k), (lb k), (Value.int .i64 ((b.tabs.getD k tab0).err))]), (slsR true ((b.tabs.take k).length) lr_ 2 (m_3 (b.tabs.take k)) (m_2 (b.tabs.take k))), (slsR true ((b.tabs.take k).length) lb_ 1 (brkN (b.tabs.take k)) (brkC (b.tabs.take k))), (row vt_ 106 5 ((b.tabs.take k).length) (n_6 lr_ lb_ (b.tabs.take k))), (blk B 37 [(Value.int .i64 b.scales), vt_, (Value.slice none 0 0)]), (blk H 37 [(Value.int .i64 0), (Value.slice none 0 0), (Value.slice none 0 0)]), (blk I 25 [(Value.int .i64 b.scales), vt, vm]), (c_9 false vt lr lb b.tabs), (d_2 false vm lk b.macs)] := by rw [show catR rsf72 0 11 = ([(row (A 6) 3 1 ((b.tabs.getD k tab0).brk.length) (ints ((b.tabs.getD k tab0).brk))), (blk b10_ 106 [(Value.int .i64 0), (Value.int .i64 0), (Value.slice none 0 0), (Value.slice none 0 0), (Value.int .i64 0)])] : List Res) by (try simp only [catR, gr (M 0 (by decide)), gr (M 1 (by decide)), gr (M 2 (by decide)), gr (M 3 (by decide)), gr (M 4 (by decide)), gr (M 5 (by decide)), Cl, gr (M 7 (by decide)), gr (M 8 (by decide)), gr (M 9 (by decide)), CC]); (try rfl)] at BM; exact BM
  have CV := CT.add (gs (M 9 (by decide))); clear CT
  rw [CH] at A2
  have Ar : Fr 116 [] [(6, (bptr b10_ 0)), (36, (Value.agg #[(Value.int .i64 ((b.tabs.getD k tab0).frm)), (Value.int .i64 ((b.tabs.getD k tab0).dst)), (Value.slice none 0 0), (A 6), (Value.int .i64 ((b.tabs.getD k tab0).err))])), (5, (bptr K 0)), (4, (Value.int .i64 (k : Int))), (3, (bptr B 0)), (2, (bptr H 0)), (1, (bptr I 0))] C1 := CV.add (i_1 A2 rfl); clear CV
  clear M BM Ds A2
  clear Cl
  clear Dt
  clear CC
  clear CH
  refine s7 Ar (c_5 BN rfl l_7 (Ar.ev rfl) (Ar.ev rfl) (i := 1) rfl (vs := [(Value.int .i64 ((b.tabs.getD k tab0).frm)), (Value.int .i64 ((b.tabs.getD k tab0).dst)), (Value.slice none 0 0), (A 6), (Value.int .i64 ((b.tabs.getD k tab0).err))]) rfl rfl (j_3 rfl (j_3 rfl (j_3 rfl (j_3 (SlAt.one (SlAt.d_4 (BN.d_7 0 rfl))) (j_3 rfl x_2))))) (Nat.le_of_ble_eq_true rfl)) ?_
  intro _ EX Cg CW; clear Ar
  have Ch : Sep NoB w EX [(row (A 6) 3 1 ((b.tabs.getD k tab0).brk.length) (ints ((b.tabs.getD k tab0).brk))), (blk b10_ 106 [(Value.int .i64 ((b.tabs.getD k tab0).frm)), (Value.int .i64 ((b.tabs.getD k tab0).dst)), (Value.slice none 0 0), (A 6), (Value.int .i64 ((b.tabs.getD k tab0).err))]), (blk K 46 [(Value.int .i64 ((b.tabs.getD k tab0).frm)), (Value.int .i64 ((b.tabs.getD k tab0).dst)), (lr k), (lb k), (Value.int .i64 ((b.tabs.getD k tab0).err))]), (slsR true ((b.tabs.take k).length) lr_ 2 (m_3 (b.tabs.take k)) (m_2 (b.tabs.take k))), (slsR true ((b.tabs.take k).length) lb_ 1 (brkN (b.tabs.take k)) (brkC (b.tabs.take k))), (row vt_ 106 5 ((b.tabs.take k).length) (n_6 lr_ lb_ (b.tabs.take k))), (blk B 37 [(Value.int .i64 b.scales), vt_, (Value.slice none 0 0)]), (blk H 37 [(Value.int .i64 0), (Value.slice none 0 0), (Value.slice none 0 0)]), (blk I 25 [(Value.int .i64 b.scales), vt, vm]), (c_9 false vt lr lb b.tabs), (d_2 false vm lk b.macs)] := Cg; clear Cg BN
  refine n2 ?_
  refine m2 ?_
  refine s1 CW (a_1 rfl (evc _ _)) fun EK CX => ?_; clear CW C1
  refine n1 ?_
  refine d_0 ?_
  have Ci := Ch.r_9 107 2; clear Ch
  have CY := CX.as [(7, (Value.int .i64 0)), (6, (bptr b10_ 0)), (5, (bptr K 0)), (4, (Value.int .i64 (k : Int))), (3, (bptr B 0)), (2, (bptr H 0)), (1, (bptr I 0))] rfl; clear CX
  refine h_3 (G := Nat) (fun (j : Nat) a_ w_ => ∃ vr_ : Value, Fr 116 [] [(7, (Value.int .i64 (j : Int))), (6, (bptr b10_ 0)), (5, (bptr K 0)), (4, (Value.int .i64 (k : Int))), (3, (bptr B 0)), (2, (bptr H 0)), (1, (bptr I 0))] a_ ∧ Sep NoB w w_ [(row vr_ 107 2 (((b.tabs.getD k tab0).rows.take j).length) (pairs ((b.tabs.getD k tab0).rows.take j))), (row (A 6) 3 1 ((b.tabs.getD k tab0).brk.length) (ints ((b.tabs.getD k tab0).brk))), (blk b10_ 106 [(Value.int .i64 ((b.tabs.getD k tab0).frm)), (Value.int .i64 ((b.tabs.getD k tab0).dst)), vr_, (A 6), (Value.int .i64 ((b.tabs.getD k tab0).err))]), (blk K 46 [(Value.int .i64 ((b.tabs.getD k tab0).frm)), (Value.int .i64 ((b.tabs.getD k tab0).dst)), (lr k), (lb k), (Value.int .i64 ((b.tabs.getD k tab0).err))]), (slsR true ((b.tabs.take k).length) lr_ 2 (m_3 (b.tabs.take k)) (m_2 (b.tabs.take k))), (slsR true ((b.tabs.take k).length) lb_ 1 (brkN (b.tabs.take k)) (brkC (b.tabs.take k))), (row vt_ 106 5 ((b.tabs.take k).length) (n_6 lr_ lb_ (b.tabs.take k))), (blk B 37 [(Value.int .i64 b.scales), vt_, (Value.slice none 0 0)]), (blk H 37 [(Value.int .i64 0), (Value.slice none 0 0), (Value.slice none 0 0)]), (blk I 25 [(Value.int .i64 b.scales), vt, vm]), (c_9 false vt lr lb b.tabs), (d_2 false vm lk b.macs)] ∧ (j ≤ (b.tabs.getD k tab0).rows.length)) (fun j => (b.tabs.getD k tab0).rows.length - j) 0 ⟨(Value.slice none 0 0), CY.as _ rfl, (Ci.g_7 (i := 0) rfl (by rfl) (by rfl)), (Nat.zero_le _)⟩ ?_
  clear CY Ci EK
  rintro j EL Ew ⟨vr_, BH, U, hkj⟩
  have hlt_j : ((b.tabs.getD k tab0).rows.take j).length ≤ 12 := by simp only [List.length_take]; omega
  refine b_7 ?_
  refine m2 ?_
  refine s1 BH (a_0 rfl (BH.ev rfl)) fun EM BI => ?_; clear BH EL
  refine s1 BI (a_4 rfl j_7 (BI.ev rfl)) fun EN BJ => ?_; clear BI EM
  refine s1 BJ (a_3 rfl r_5 (BJ.ev rfl) (U.bk 3 rfl) rfl) fun EO BK => ?_; clear BJ EN
  refine s1 BK (c_0 rfl r_6 (BK.ev rfl) ((b_6 (U.ok 10 _ rfl)).row (i := k) (by omega))) fun EP As => ?_; clear BK EO
  refine s1 As (f_9 rfl (As.ev rfl) (As.ev rfl)) fun EQ T => ?_; clear As EP
  refine n1 ?_
  by_cases Ck : (j : Int) < ((b.tabs.getD k tab0).rows.length : Int)
  ·skip
   rw [decide_eq_true Ck] at T
   refine c_6 T rfl ?_
   refine d_1 ?_
   refine b_0 ?_
   refine b_7 ?_
   refine d_0 ?_
   have CZ := T.as [(7, (Value.int .i64 (j : Int))), (6, (bptr b10_ 0)), (5, (bptr K 0)), (4, (Value.int .i64 (k : Int))), (3, (bptr B 0)), (2, (bptr H 0)), (1, (bptr I 0))] rfl; clear T
   refine c_drawV mixed CZ U 16 [[], [0], [], [2], [], [3, 4], [5], [6], [], [8], [], [9, 10], [11], [12], [7, 13], [14]] [(yw (bptr b10_ 2)), (yw vr_), (yw (bptr K 2)), (yw (lr k)), (yw (Value.int .i64 (j : Int))), (yw (eptr (lr k) (j * 2))), (yw (eptr (lr k) (j * 2 + 0))), (yw (Value.int .i64 ((((b.tabs.getD k tab0).rows).getD j (0, 0)).1))), (yw (bptr K 2)), (yw (lr k)), (yw (Value.int .i64 (j : Int))), (yw (eptr (lr k) (j * 2))), (yw (eptr (lr k) (j * 2 + 1))), (yw (Value.int .i64 ((((b.tabs.getD k tab0).rows).getD j (0, 0)).2))), (yw (Value.agg #[(Value.int .i64 ((((b.tabs.getD k tab0).rows).getD j (0, 0)).1)), (Value.int .i64 ((((b.tabs.getD k tab0).rows).getD j (0, 0)).2))])), (fun (D : Nat → Value) (v_ : Value) (rs_ : List Res) => True ∧ rs_ = [(row v_ 107 2 1 [(Value.int .i64 ((((b.tabs.getD k tab0).rows).getD j (0, 0)).1)), (Value.int .i64 ((((b.tabs.getD k tab0).rows).getD j (0, 0)).2))])])] (by decide +kernel) (by decide +kernel) rfl rfl ⟨dw, dw, dw, dw, dw, dw, dw, dw, dw, dw, dw, dw, dw, dw, dw, (fun _ _ _ _ _ h_ => h_), trivial⟩ ?_ ?_
   ·skip
    refine ⟨fun a w D hA hS hd => gv1 (a_4 rfl j_4 (hA.ev rfl)), ?_⟩
    refine ⟨fun a w D hA hS hd => gv1 (a_3 rfl n_8 (gu hd 0) (hS.bk 2 rfl) rfl), ?_⟩
    refine ⟨fun a w D hA hS hd => gv1 (a_4 rfl j_7 (hA.ev rfl)), ?_⟩
    refine ⟨fun a w D hA hS hd => gv1 (a_3 rfl r_5 (gu hd 2) (hS.bk 3 rfl) rfl), ?_⟩
    refine ⟨fun a w D hA hS hd => gv1 (a_0 rfl (hA.ev rfl)), ?_⟩
    refine ⟨fun a w D hA hS hd => gv1 (b_2 rfl r_6 z_1 (gu hd 3) (i := j) (gu hd 4) ((b_6 (hS.ok 10 _ rfl)).row (i := k) (by omega)) (by decide) (by omega)), ?_⟩
    refine ⟨fun a w D hA hS hd => gv1 (e_6 rfl z_6 (gu hd 5) ((b_6 (hS.ok 10 _ rfl)).row (i := k) (by omega)) (by rw [(((b_6 (hS.ok 10 _ rfl)).row (i := k) (by omega))).1]; omega)), ?_⟩
    refine ⟨fun a w D hA hS hd => gv1 (c_7 rfl ty_3 (gu hd 6) ((b_6 (hS.ok 10 _ rfl)).row (i := k) (by omega)) (i_9 (by omega))), ?_⟩
    refine ⟨fun a w D hA hS hd => gv1 (a_4 rfl j_7 (hA.ev rfl)), ?_⟩
    refine ⟨fun a w D hA hS hd => gv1 (a_3 rfl r_5 (gu hd 8) (hS.bk 3 rfl) rfl), ?_⟩
    refine ⟨fun a w D hA hS hd => gv1 (a_0 rfl (hA.ev rfl)), ?_⟩
    refine ⟨fun a w D hA hS hd => gv1 (b_2 rfl r_6 z_1 (gu hd 9) (i := j) (gu hd 10) ((b_6 (hS.ok 10 _ rfl)).row (i := k) (by omega)) (by decide) (by omega)), ?_⟩
    refine ⟨fun a w D hA hS hd => gv1 (e_6 rfl v_8 (gu hd 11) ((b_6 (hS.ok 10 _ rfl)).row (i := k) (by omega)) (by rw [(((b_6 (hS.ok 10 _ rfl)).row (i := k) (by omega))).1]; omega)), ?_⟩
    refine ⟨fun a w D hA hS hd => gv1 (c_7 rfl ty_3 (gu hd 12) ((b_6 (hS.ok 10 _ rfl)).row (i := k) (by omega)) (k_6 (by omega))), ?_⟩
    refine ⟨fun a w D hA hS hd => gv1 (e_7 rfl (pv2 (gu hd 7) (gu hd 13)) (m_6 _ _)), ?_⟩
    refine ⟨fun a w D hA hS hd => d_9 rfl (vblt rfl (pv1 (gu hd 14)) k_8 j_0 y_8 (by decide) (cs := [(Value.int .i64 ((((b.tabs.getD k tab0).rows).getD j (0, 0)).1)), (Value.int .i64 ((((b.tabs.getD k tab0).rows).getD j (0, 0)).2))]) (bs_107_1_0iia _ _) rfl (by decide) (fun _ => And.intro trivial rfl)), ?_⟩
    trivial
   intro CI Dv D rsf106 BO F At; clear CZ U
   obtain ⟨CF, Cy⟩ := F 15 (by decide)
   obtain ⟨Cv, CD⟩ := Cy
   have Au : Sep NoB w Dv [(row (D 15) 107 2 1 [(Value.int .i64 ((((b.tabs.getD k tab0).rows).getD j (0, 0)).1)), (Value.int .i64 ((((b.tabs.getD k tab0).rows).getD j (0, 0)).2))]), (row vr_ 107 2 (((b.tabs.getD k tab0).rows.take j).length) (pairs ((b.tabs.getD k tab0).rows.take j))), (row (A 6) 3 1 ((b.tabs.getD k tab0).brk.length) (ints ((b.tabs.getD k tab0).brk))), (blk b10_ 106 [(Value.int .i64 ((b.tabs.getD k tab0).frm)), (Value.int .i64 ((b.tabs.getD k tab0).dst)), vr_, (A 6), (Value.int .i64 ((b.tabs.getD k tab0).err))]), (blk K 46 [(Value.int .i64 ((b.tabs.getD k tab0).frm)), (Value.int .i64 ((b.tabs.getD k tab0).dst)), (lr k), (lb k), (Value.int .i64 ((b.tabs.getD k tab0).err))]), (slsR true ((b.tabs.take k).length) lr_ 2 (m_3 (b.tabs.take k)) (m_2 (b.tabs.take k))), (slsR true ((b.tabs.take k).length) lb_ 1 (brkN (b.tabs.take k)) (brkC (b.tabs.take k))), (row vt_ 106 5 ((b.tabs.take k).length) (n_6 lr_ lb_ (b.tabs.take k))), (blk B 37 [(Value.int .i64 b.scales), vt_, (Value.slice none 0 0)]), (blk H 37 [(Value.int .i64 0), (Value.slice none 0 0), (Value.slice none 0 0)]), (blk I 25 [(Value.int .i64 b.scales), vt, vm]), (c_9 false vt lr lb b.tabs), (d_2 false vm lk b.macs)] := by rw [show catR rsf106 0 16 = ([(row (D 15) 107 2 1 [(Value.int .i64 ((((b.tabs.getD k tab0).rows).getD j (0, 0)).1)), (Value.int .i64 ((((b.tabs.getD k tab0).rows).getD j (0, 0)).2))])] : List Res) by (try simp only [catR, gr (F 0 (by decide)), gr (F 1 (by decide)), gr (F 2 (by decide)), gr (F 3 (by decide)), gr (F 4 (by decide)), gr (F 5 (by decide)), gr (F 6 (by decide)), gr (F 7 (by decide)), gr (F 8 (by decide)), gr (F 9 (by decide)), gr (F 10 (by decide)), gr (F 11 (by decide)), gr (F 12 (by decide)), gr (F 13 (by decide)), gr (F 14 (by decide)), CD]); (try rfl)] at At; exact At
   have BP := BO.add (gs (F 1 (by decide))); clear BO
   have W : Fr 116 [] [(59, (D 15)), (45, vr_), (7, (Value.int .i64 (j : Int))), (6, (bptr b10_ 0)), (5, (bptr K 0)), (4, (Value.int .i64 (k : Int))), (3, (bptr B 0)), (2, (bptr H 0)), (1, (bptr I 0))] CI := BP.add (i_1 CF rfl); clear BP
   clear F At CF
   clear CD
   clear Cv
   refine s2 W (l_0 Au rfl k_8 el_107 (W.ev rfl) (W.ev rfl) (i := 1) rfl (SlAt.d_4 (Au.d_7 0 rfl)) rfl (by simp only [maxLen]; omega) (by omega)) ?_
   intro C5 A3 Eg Bf AA
   have t := Bf.g_7 (i := 1) rfl (n' := (((b.tabs.getD k tab0).rows.take j) ++ [(b.tabs.getD k tab0).rows.getD j (0, 0)]).length) (xs' := (pairs (((b.tabs.getD k tab0).rows.take j) ++ [(b.tabs.getD k tab0).rows.getD j (0, 0)]))) (by simp) (by simp [pairs]); clear Bf W Au CI
   refine s1 AA (a_4 rfl j_4 (AA.ev rfl)) fun C6 X => ?_; clear AA C5
   refine s7 X (c_5 t rfl n_8 (X.ev rfl) (X.ev rfl) (i := 3) rfl (vs := [A3]) (t_2 (SlAt.isSl (SlAt.d_4 (t.d_7 1 rfl)))) rfl (j_3 (SlAt.one (SlAt.d_4 (t.d_7 1 rfl))) x_2) (Nat.le_of_ble_eq_true rfl)) ?_
   intro _ Dw Bg AB; clear X
   have Bh : Sep NoB w Dw [(row (D 15) 107 2 1 [(Value.int .i64 ((((b.tabs.getD k tab0).rows).getD j (0, 0)).1)), (Value.int .i64 ((((b.tabs.getD k tab0).rows).getD j (0, 0)).2))]), (row A3 107 2 ((((b.tabs.getD k tab0).rows.take j) ++ [(b.tabs.getD k tab0).rows.getD j (0, 0)]).length) (pairs (((b.tabs.getD k tab0).rows.take j) ++ [(b.tabs.getD k tab0).rows.getD j (0, 0)]))), (row (A 6) 3 1 ((b.tabs.getD k tab0).brk.length) (ints ((b.tabs.getD k tab0).brk))), (blk b10_ 106 [(Value.int .i64 ((b.tabs.getD k tab0).frm)), (Value.int .i64 ((b.tabs.getD k tab0).dst)), A3, (A 6), (Value.int .i64 ((b.tabs.getD k tab0).err))]), (blk K 46 [(Value.int .i64 ((b.tabs.getD k tab0).frm)), (Value.int .i64 ((b.tabs.getD k tab0).dst)), (lr k), (lb k), (Value.int .i64 ((b.tabs.getD k tab0).err))]), (slsR true ((b.tabs.take k).length) lr_ 2 (m_3 (b.tabs.take k)) (m_2 (b.tabs.take k))), (slsR true ((b.tabs.take k).length) lb_ 1 (brkN (b.tabs.take k)) (brkC (b.tabs.take k))), (row vt_ 106 5 ((b.tabs.take k).length) (n_6 lr_ lb_ (b.tabs.take k))), (blk B 37 [(Value.int .i64 b.scales), vt_, (Value.slice none 0 0)]), (blk H 37 [(Value.int .i64 0), (Value.slice none 0 0), (Value.slice none 0 0)]), (blk I 25 [(Value.int .i64 b.scales), vt, vm]), (c_9 false vt lr lb b.tabs), (d_2 false vm lk b.macs)] := Bg; clear Bg t
   refine e_8 ?_
   refine g_8 ?_
   refine b_0 ?_
   refine a_5 ?_
   refine s1 AB (a_0 rfl (AB.ev rfl)) fun C7 AC => ?_; clear AB C6
   refine s1 AC (f_6 rfl (AC.ev rfl) (evc _ _) (by omega) (by omega)) fun C8 AD => ?_; clear AC C7
   refine s1 AD (a_1 rfl (AD.ev rfl)) fun EZ Cm => ?_; clear AD C8
   refine e_8 ?_
   have Cq := Bh.gkp (gpc 1 (gpc 2 (gpc 3 (gpc 4 (gpc 5 (gpc 6 (gpc 7 (gpc 8 (gpc 9 (gpc 10 (gpc 11 (gpc 12 gpn)))))))))))); clear Bh
   exact b_0 ⟨j + 1, ⟨A3, Cm.as _ rfl, (Cq.g_7 (i := 0) rfl (by rw [q_8 (by omega)]) (by rw [q_8 (by omega)])), by omega⟩, by omega⟩
  skip
  rw [decide_eq_false Ck] at T
  refine b_5 T rfl ?_
  refine h_1 ?_
  refine b_4 ?_
  refine b_4 ?_
  refine f_7 ?_
  refine b_0 ?_
  have AE := T.as [(6, (bptr b10_ 0)), (4, (Value.int .i64 (k : Int))), (3, (bptr B 0)), (2, (bptr H 0)), (1, (bptr I 0))] rfl; clear T
  refine a_5 ?_
  refine s1 AE (a_4 rfl x_6 (AE.ev rfl)) fun C9 AF => ?_; clear AE EQ
  refine s1 AF (a_3 rfl ty_34 (AF.ev rfl) (U.bk 7 rfl) rfl) fun DA AG => ?_; clear AF C9
  refine s1 AG (c_4 rfl l_7 (AG.ev rfl) (U.bk 2 rfl) (l := [(Value.int .i64 ((b.tabs.getD k tab0).frm)), (Value.int .i64 ((b.tabs.getD k tab0).dst)), vr_, (A 6), (Value.int .i64 ((b.tabs.getD k tab0).err))]) rfl rfl) fun DB AH => ?_; clear AG DA
  refine s2 AH (g_4 U rfl (pv1 (AH.ev rfl)) aa_9 l_7 ze_106 (by decide) (cs := [(Value.int .i64 ((b.tabs.getD k tab0).frm)), (Value.int .i64 ((b.tabs.getD k tab0).dst)), vr_, (A 6), (Value.int .i64 ((b.tabs.getD k tab0).err))]) (bs_106_1_0iivvia _ _ _ _ _)) ?_
  rintro DC _ Eh ⟨Dq, rfl, V⟩ Y; clear AH U DB
  refine s2 Y (l_0 V rfl aa_9 el_106 (Y.ev rfl) (Y.ev rfl) (i := 7) rfl (SlAt.of_blk (V.bk 0 rfl) rfl (Nat.le_of_ble_eq_true rfl)) (j_3 rfl (j_3 rfl (j_3 (SlAt.one (SlAt.d_4 (V.d_7 1 rfl))) (j_3 (SlAt.one (SlAt.d_4 (V.d_7 2 rfl))) (j_3 rfl x_2))))) (by simp only [maxLen]; omega) (by omega)) ?_
  intro DD A4 Ei Bi AI
  have u := Bi.g_7 (i := 7) rfl (n' := ((b.tabs.take k) ++ [(b.tabs.getD k tab0)]).length) (xs' := (n_6 (putV (b.tabs.take k).length lr_ vr_) (putV (b.tabs.take k).length lb_ (A 6)) ((b.tabs.take k) ++ [(b.tabs.getD k tab0)]))) (by simp) (tabs_snoc (b.tabs.getD k tab0) vr_ (A 6)); clear Bi Y V DC
  refine s1 AI (a_4 rfl x_6 (AI.ev rfl)) fun DE Z => ?_; clear AI DD
  refine s7 Z (c_5 u rfl ty_34 (Z.ev rfl) (Z.ev rfl) (i := 8) rfl (vs := [A4]) (t_2 (SlAt.isSl (SlAt.d_4 (u.d_7 7 rfl)))) rfl (j_3 (SlAt.one (SlAt.d_4 (u.d_7 7 rfl))) x_2) (Nat.le_of_ble_eq_true rfl)) ?_
  intro _ Dx Bj BQ; clear Z
  have Bk : Sep NoB w Dx [(blk Dq 106 [(Value.int .i64 ((b.tabs.getD k tab0).frm)), (Value.int .i64 ((b.tabs.getD k tab0).dst)), vr_, (A 6), (Value.int .i64 ((b.tabs.getD k tab0).err))]), (row vr_ 107 2 (((b.tabs.getD k tab0).rows.take j).length) (pairs ((b.tabs.getD k tab0).rows.take j))), (row (A 6) 3 1 ((b.tabs.getD k tab0).brk.length) (ints ((b.tabs.getD k tab0).brk))), (blk b10_ 106 [(Value.int .i64 ((b.tabs.getD k tab0).frm)), (Value.int .i64 ((b.tabs.getD k tab0).dst)), vr_, (A 6), (Value.int .i64 ((b.tabs.getD k tab0).err))]), (blk K 46 [(Value.int .i64 ((b.tabs.getD k tab0).frm)), (Value.int .i64 ((b.tabs.getD k tab0).dst)), (lr k), (lb k), (Value.int .i64 ((b.tabs.getD k tab0).err))]), (slsR true ((b.tabs.take k).length) lr_ 2 (m_3 (b.tabs.take k)) (m_2 (b.tabs.take k))), (slsR true ((b.tabs.take k).length) lb_ 1 (brkN (b.tabs.take k)) (brkC (b.tabs.take k))), (row A4 106 5 (((b.tabs.take k) ++ [(b.tabs.getD k tab0)]).length) (n_6 (putV (b.tabs.take k).length lr_ vr_) (putV (b.tabs.take k).length lb_ (A 6)) ((b.tabs.take k) ++ [(b.tabs.getD k tab0)]))), (blk B 37 [(Value.int .i64 b.scales), A4, (Value.slice none 0 0)]), (blk H 37 [(Value.int .i64 0), (Value.slice none 0 0), (Value.slice none 0 0)]), (blk I 25 [(Value.int .i64 b.scales), vt, vm]), (c_9 false vt lr lb b.tabs), (d_2 false vm lk b.macs)] := Bj; clear Bj u
  refine e_8 ?_
  refine g_8 ?_
  refine b_0 ?_
  have AJ := BQ.as [(4, (Value.int .i64 (k : Int))), (3, (bptr B 0)), (2, (bptr H 0)), (1, (bptr I 0))] rfl; clear BQ
  refine a_5 ?_
  refine s1 AJ (a_0 rfl (AJ.ev rfl)) fun DF AK => ?_; clear AJ DE
  refine s1 AK (f_6 rfl (AK.ev rfl) (evc _ _) (by omega) (by omega)) fun DG AL => ?_; clear AK DF
  refine s1 AL (a_1 rfl (AL.ev rfl)) fun Ea Cn => ?_; clear AL DG
  refine e_8 ?_
  have Bl := Bk.g_7 (i := 1) rfl (n' := (b.tabs.getD k tab0).rows.length) (xs' := pairs (b.tabs.getD k tab0).rows) (by rw [List.take_of_length_le (by omega)]) (by rw [List.take_of_length_le (by omega)]); clear Bk
  have Bm := Bl.gkp (gpc 1 (gpc 5 (gpc 0 (gpc 2 (gpc 3 (gpc 4 (gpc 6 (gpc 7 (gpc 8 (gpc 9 (gpc 10 (gpc 11 (gpc 12 gpn))))))))))))); clear Bl
  have Bn := l_2 (k' := m_3 (b.tabs.take (k + 1))) (c' := m_2 (b.tabs.take (k + 1))) Bm (rowsN_new (by omega)).1 (rowsN_new (by omega)).2.1 (fun i hi => (rowsN_old i hi).1); clear Bm
  have Bo := sep_sls_say (i := 0) (n' := (b.tabs.take (k + 1)).length) (v' := (putV (b.tabs.take k).length lr_ vr_)) (k' := m_3 (b.tabs.take (k + 1))) (c' := m_2 (b.tabs.take (k + 1))) Bn rfl (take_len1 (by omega)) (fun _ _ => ⟨rfl, rfl, rfl⟩); clear Bn
  have Bp := Bo.gkp (gpc 2 (gpc 5 (gpc 0 (gpc 1 (gpc 3 (gpc 4 (gpc 6 (gpc 7 (gpc 8 (gpc 9 (gpc 10 (gpc 11 gpn)))))))))))); clear Bo
  have Bq := l_2 (k' := brkN (b.tabs.take (k + 1))) (c' := brkC (b.tabs.take (k + 1))) Bp (rowsN_new (by omega)).2.2.1 (rowsN_new (by omega)).2.2.2 (fun i hi => (rowsN_old i hi).2); clear Bp
  have Br := sep_sls_say (i := 0) (n' := (b.tabs.take (k + 1)).length) (v' := (putV (b.tabs.take k).length lb_ (A 6))) (k' := brkN (b.tabs.take (k + 1))) (c' := brkC (b.tabs.take (k + 1))) Bq rfl (take_len1 (by omega)) (fun _ _ => ⟨rfl, rfl, rfl⟩); clear Bq
  have Cr := Br.gkp (gpc 1 (gpc 0 (gpc 5 (gpc 6 (gpc 7 (gpc 8 (gpc 9 (gpc 10 gpn)))))))); clear Br
  exact b_0 ⟨k + 1, ⟨A4, (putV (b.tabs.take k).length lr_ vr_), (putV (b.tabs.take k).length lb_ (A 6)), Cn.as _ rfl, (Cr.g_7 (i := 2) rfl (by rw [q_8 (by omega)]) (by rw [q_8 (by omega)])), by omega⟩, by omega⟩
 skip
 rw [decide_eq_false Cj] at R
 refine b_5 R rfl ?_
 refine h_1 ?_
 refine b_4 ?_
 refine b_4 ?_
 refine f_7 ?_
 refine b_0 ?_
 refine b_7 ?_
 refine b_7 ?_
 have BR := R.as [(3, (bptr B 0)), (2, (bptr H 0)), (1, (bptr I 0))] rfl; clear R
 refine a_5 ?_
 refine s1 BR (a_1 rfl (evc _ _)) fun DH BS => ?_; clear BR C0
 refine n1 ?_
 refine d_0 ?_
 have hkt : k = b.tabs.length := by omega
 have Av := S.gkp (gpc 2 (gpc 0 (gpc 1 (gpc 3 (gpc 4 (gpc 5 (gpc 6 (gpc 7 gpn)))))))); clear S
 rw [hkt, List.take_length] at Av
 have Bs := sep_tabs_join Av; clear Av
 have Bt := p_9 (Bs.r_9 103 2) (fun _ => Value.slice none 0 0) 3 (blkN (b.macs.take 0)) (blkC (b.macs.take 0)); clear Bs
 have BT := BS.as [(8, (Value.int .i64 0)), (3, (bptr B 0)), (2, (bptr H 0)), (1, (bptr I 0))] rfl; clear BS
 refine h_3 (G := Nat) (fun (m : Nat) a_ w_ => ∃ vm_ : Value, ∃ lk_ : Nat → Value, Fr 116 [] [(8, (Value.int .i64 (m : Int))), (3, (bptr B 0)), (2, (bptr H 0)), (1, (bptr I 0))] a_ ∧ Sep NoB w w_ [(slsR true ((b.macs.take m).length) lk_ 3 (blkN (b.macs.take m)) (blkC (b.macs.take m))), (row vm_ 103 2 ((b.macs.take m).length) (o_7 lk_ (b.macs.take m))), (c_9 true vt_ lr_ lb_ b.tabs), (blk B 37 [(Value.int .i64 b.scales), vt_, vm_]), (blk H 37 [(Value.int .i64 0), (Value.slice none 0 0), (Value.slice none 0 0)]), (blk I 25 [(Value.int .i64 b.scales), vt, vm]), (c_9 false vt lr lb b.tabs), (d_2 false vm lk b.macs)] ∧ (m ≤ b.macs.length)) (fun m => b.macs.length - m) 0 ⟨(Value.slice none 0 0), (fun _ => Value.slice none 0 0), BT.as _ rfl, (Bt.g_7 (i := 1) rfl (by rfl) (by rfl)), (Nat.zero_le _)⟩ ?_
 clear BT Bt DH
 rintro m DI Ej ⟨vm_, lk_, AM, J, hkm⟩
 have hmtk : (b.macs.take m).length = m := by rw [List.length_take]; omega
 refine b_7 ?_
 refine m2 ?_
 refine s1 AM (a_0 rfl (AM.ev rfl)) fun DJ AO => ?_; clear AM DI
 refine s1 AO (a_4 rfl p_5 (AO.ev rfl)) fun DK AP => ?_; clear AO DJ
 refine s1 AP (a_3 rfl ab_6 (AP.ev rfl) (J.bk 5 rfl) rfl) fun DL AQ => ?_; clear AP DK
 refine s1 AQ (c_0 rfl ab_8 (AQ.ev rfl) (b_8 (J.ok 7 _ rfl)).macs) fun DM c => ?_; clear AQ DL
 refine s1 c (f_9 rfl (c.ev rfl) (c.ev rfl)) fun CJ N => ?_; clear c DM
 refine n1 ?_
 by_cases CA : (m : Int) < (b.macs.length : Int)
 ·skip
  rw [decide_eq_true CA] at N
  have hmkk := hth.mac m
  refine c_6 N rfl ?_
  refine d_1 ?_
  refine b_0 ?_
  refine b_7 ?_
  refine d_0 ?_
  refine m2 ?_
  refine s1 N (a_4 rfl p_5 (N.ev rfl)) fun DN AR => ?_; clear N CJ
  refine s1 AR (a_3 rfl ab_6 (AR.ev rfl) (J.bk 5 rfl) rfl) fun DO AS => ?_; clear AR DN
  refine s1 AS (a_0 rfl (AS.ev rfl)) fun DP d => ?_; clear AS DO
  refine s1 d (b_2 rfl ab_8 ac_1 (d.ev rfl) (i := m) (d.ev rfl) (b_8 (J.ok 7 _ rfl)).macs (by decide) (by omega)) fun DQ AT => ?_; clear d DP
  refine s1 AT (f_2 rfl ac_1 (AT.ev rfl) (b_8 (J.ok 7 _ rfl)).macs (x_7 (by omega)) rfl (by decide)) fun DR BU => ?_; clear AT DQ
  refine s2 BU (e_4 J rfl ze_61 (cs := [(Value.int .i64 0), (Value.slice none 0 0)]) rfl) ?_
  rintro DS _ Ek ⟨L, rfl, Aw⟩ e; clear BU J DR
  refine s7 e (c_5 Aw rfl ac_1 (e.ev rfl) (e.ev rfl) (i := 0) rfl (vs := [(Value.int .i64 ((b.macs.getD m mac0).scale)), (lk m)]) rfl rfl (j_3 rfl (j_3 (SlAt.one ((b_8 (Aw.ok 8 _ rfl)).blk (i := m) (by omega))) x_2)) (Nat.le_of_ble_eq_true rfl)) ?_
  intro _ Dy Bu BV; clear e
  have Ax : Sep NoB w Dy [(blk L 61 [(Value.int .i64 ((b.macs.getD m mac0).scale)), (lk m)]), (slsR true ((b.macs.take m).length) lk_ 3 (blkN (b.macs.take m)) (blkC (b.macs.take m))), (row vm_ 103 2 ((b.macs.take m).length) (o_7 lk_ (b.macs.take m))), (c_9 true vt_ lr_ lb_ b.tabs), (blk B 37 [(Value.int .i64 b.scales), vt_, vm_]), (blk H 37 [(Value.int .i64 0), (Value.slice none 0 0), (Value.slice none 0 0)]), (blk I 25 [(Value.int .i64 b.scales), vt, vm]), (c_9 false vt lr lb b.tabs), (d_2 false vm lk b.macs)] := Bu; clear Bu Aw
  refine n2 ?_
  have AU := BV.as [(9, (bptr L 0)), (8, (Value.int .i64 (m : Int))), (3, (bptr B 0)), (2, (bptr H 0)), (1, (bptr I 0))] rfl; clear BV
  refine a_5 ?_
  refine s1 AU (a_4 rfl fd_61_0 (AU.ev rfl)) fun DT AV => ?_; clear AU DS
  refine s1 AV (a_3 rfl ty_3 (AV.ev rfl) (Ax.bk 0 rfl) rfl) fun DU AW => ?_; clear AV DT
  refine s1 AW (e_7 rfl (pv1 (AW.ev rfl)) (bd_103_0i _)) fun DV BW => ?_; clear AW DU
  refine s2 BW (e_4 Ax rfl ze_103 (cs := [(Value.int .i64 0), (Value.slice none 0 0)]) rfl) ?_
  rintro DW _ El ⟨O, rfl, Bv⟩ f; clear BW Ax DV
  refine s7 f (c_5 Bv rfl u_7 (f.ev rfl) (f.ev rfl) (i := 0) rfl (vs := [(Value.int .i64 ((b.macs.getD m mac0).scale)), (Value.slice none 0 0)]) rfl rfl (j_3 rfl (j_3 rfl x_2)) (Nat.le_of_ble_eq_true rfl)) ?_
  intro _ Dz Bw BX; clear f
  have Bx : Sep NoB w Dz [(blk O 103 [(Value.int .i64 ((b.macs.getD m mac0).scale)), (Value.slice none 0 0)]), (blk L 61 [(Value.int .i64 ((b.macs.getD m mac0).scale)), (lk m)]), (slsR true ((b.macs.take m).length) lk_ 3 (blkN (b.macs.take m)) (blkC (b.macs.take m))), (row vm_ 103 2 ((b.macs.take m).length) (o_7 lk_ (b.macs.take m))), (c_9 true vt_ lr_ lb_ b.tabs), (blk B 37 [(Value.int .i64 b.scales), vt_, vm_]), (blk H 37 [(Value.int .i64 0), (Value.slice none 0 0), (Value.slice none 0 0)]), (blk I 25 [(Value.int .i64 b.scales), vt, vm]), (c_9 false vt lr lb b.tabs), (d_2 false vm lk b.macs)] := Bw; clear Bw Bv
  refine n2 ?_
  refine m2 ?_
  refine s1 BX (a_1 rfl (evc _ _)) fun DX BY => ?_; clear BX DW
  refine n1 ?_
  refine d_0 ?_
  have By := Bx.r_9 100 3; clear Bx
  have BZ := BY.as [(11, (Value.int .i64 0)), (10, (bptr O 0)), (9, (bptr L 0)), (8, (Value.int .i64 (m : Int))), (3, (bptr B 0)), (2, (bptr H 0)), (1, (bptr I 0))] rfl; clear BY
  refine h_3 (G := Nat) (fun (q : Nat) a_ w_ => ∃ vk_ : Value, Fr 116 [] [(11, (Value.int .i64 (q : Int))), (10, (bptr O 0)), (9, (bptr L 0)), (8, (Value.int .i64 (m : Int))), (3, (bptr B 0)), (2, (bptr H 0)), (1, (bptr I 0))] a_ ∧ Sep NoB w w_ [(row vk_ 100 3 (((b.macs.getD m mac0).blocks.take q).length) (trips ((b.macs.getD m mac0).blocks.take q))), (blk O 103 [(Value.int .i64 ((b.macs.getD m mac0).scale)), vk_]), (blk L 61 [(Value.int .i64 ((b.macs.getD m mac0).scale)), (lk m)]), (slsR true ((b.macs.take m).length) lk_ 3 (blkN (b.macs.take m)) (blkC (b.macs.take m))), (row vm_ 103 2 ((b.macs.take m).length) (o_7 lk_ (b.macs.take m))), (c_9 true vt_ lr_ lb_ b.tabs), (blk B 37 [(Value.int .i64 b.scales), vt_, vm_]), (blk H 37 [(Value.int .i64 0), (Value.slice none 0 0), (Value.slice none 0 0)]), (blk I 25 [(Value.int .i64 b.scales), vt, vm]), (c_9 false vt lr lb b.tabs), (d_2 false vm lk b.macs)] ∧ (q ≤ (b.macs.getD m mac0).blocks.length)) (fun q => (b.macs.getD m mac0).blocks.length - q) 0 ⟨(Value.slice none 0 0), BZ.as _ rfl, (By.g_7 (i := 0) rfl (by rfl) (by rfl)), (Nat.zero_le _)⟩ ?_
  clear BZ By DX
  rintro q DY Em ⟨vk_, AX, Q, hkq⟩
  have hlt_q : ((b.macs.getD m mac0).blocks.take q).length ≤ 12 := by simp only [List.length_take]; omega
  refine b_7 ?_
  refine m2 ?_
  refine s1 AX (a_0 rfl (AX.ev rfl)) fun DZ AY => ?_; clear AX DY
  refine s1 AY (a_4 rfl v_7 (AY.ev rfl)) fun Da AZ => ?_; clear AY DZ
  refine s1 AZ (a_3 rfl ty_59 (AZ.ev rfl) (Q.bk 2 rfl) rfl) fun Db Aa => ?_; clear AZ Da
  refine s1 Aa (c_0 rfl un_59 (Aa.ev rfl) ((b_8 (Q.ok 10 _ rfl)).blk (i := m) (by omega))) fun Dc g => ?_; clear Aa Db
  refine s1 g (f_9 rfl (g.ev rfl) (g.ev rfl)) fun Dd P => ?_; clear g Dc
  refine n1 ?_
  by_cases CB : (q : Int) < ((b.macs.getD m mac0).blocks.length : Int)
  ·skip
   rw [decide_eq_true CB] at P
   refine c_6 P rfl ?_
   refine d_1 ?_
   refine b_0 ?_
   refine b_7 ?_
   refine d_0 ?_
   have Ba := P.as [(11, (Value.int .i64 (q : Int))), (10, (bptr O 0)), (9, (bptr L 0)), (8, (Value.int .i64 (m : Int))), (3, (bptr B 0)), (2, (bptr H 0)), (1, (bptr I 0))] rfl; clear P
   refine c_drawV mixed Ba Q 17 [[], [0], [], [2], [], [3, 4], [5], [6], [7], [], [9], [], [10, 11], [12], [13], [8, 14], [15]] [(yw (bptr O 1)), (yw vk_), (yw (bptr L 1)), (yw (lk m)), (yw (Value.int .i64 (q : Int))), (yw (eptr (lk m) (q * 3))), (yw (eptr (lk m) (q * 3 + 0))), (yw (Value.agg #[(Value.int .i64 ((((b.macs.getD m mac0).blocks).getD q (0, 0, 0)).1)), (Value.int .i64 ((((b.macs.getD m mac0).blocks).getD q (0, 0, 0)).2.1))])), (yw (Value.agg #[(Value.int .i64 ((((b.macs.getD m mac0).blocks).getD q (0, 0, 0)).1)), (Value.int .i64 ((((b.macs.getD m mac0).blocks).getD q (0, 0, 0)).2.1))])), (yw (bptr L 1)), (yw (lk m)), (yw (Value.int .i64 (q : Int))), (yw (eptr (lk m) (q * 3))), (yw (eptr (lk m) (q * 3 + 2))), (yw (Value.int .i64 ((((b.macs.getD m mac0).blocks).getD q (0, 0, 0)).2.2))), (yw (Value.agg #[(Value.int .i64 ((((b.macs.getD m mac0).blocks).getD q (0, 0, 0)).1)), (Value.int .i64 ((((b.macs.getD m mac0).blocks).getD q (0, 0, 0)).2.1)), (Value.int .i64 ((((b.macs.getD m mac0).blocks).getD q (0, 0, 0)).2.2))])), (fun (C : Nat → Value) (v_ : Value) (rs_ : List Res) => True ∧ rs_ = [(row v_ 100 3 1 [(Value.int .i64 ((((b.macs.getD m mac0).blocks).getD q (0, 0, 0)).1)), (Value.int .i64 ((((b.macs.getD m mac0).blocks).getD q (0, 0, 0)).2.1)), (Value.int .i64 ((((b.macs.getD m mac0).blocks).getD q (0, 0, 0)).2.2))])])] (by decide +kernel) (by decide +kernel) rfl rfl ⟨dw, dw, dw, dw, dw, dw, dw, dw, dw, dw, dw, dw, dw, dw, dw, dw, (fun _ _ _ _ _ h_ => h_), trivial⟩ ?_ ?_
   ·skip
    refine ⟨fun a w C hA hS hd => gv1 (a_4 rfl fd_103_1 (hA.ev rfl)), ?_⟩
    refine ⟨fun a w C hA hS hd => gv1 (a_3 rfl ty_101 (gu hd 0) (hS.bk 1 rfl) rfl), ?_⟩
    refine ⟨fun a w C hA hS hd => gv1 (a_4 rfl v_7 (hA.ev rfl)), ?_⟩
    refine ⟨fun a w C hA hS hd => gv1 (a_3 rfl ty_59 (gu hd 2) (hS.bk 2 rfl) rfl), ?_⟩
    refine ⟨fun a w C hA hS hd => gv1 (a_0 rfl (hA.ev rfl)), ?_⟩
    refine ⟨fun a w C hA hS hd => gv1 (b_2 rfl un_59 ty_63 (gu hd 3) (i := q) (gu hd 4) ((b_8 (hS.ok 10 _ rfl)).blk (i := m) (by omega)) (by decide) (by omega)), ?_⟩
    refine ⟨fun a w C hA hS hd => gv1 (e_6 rfl fd_63_0 (gu hd 5) ((b_8 (hS.ok 10 _ rfl)).blk (i := m) (by omega)) (by rw [(((b_8 (hS.ok 10 _ rfl)).blk (i := m) (by omega))).1]; omega)), ?_⟩
    refine ⟨fun a w C hA hS hd => gv1 (f_2 rfl ty_27 (gu hd 6) ((b_8 (hS.ok 10 _ rfl)).blk (i := m) (by omega)) (trips_sub0 (by omega)) rfl (by decide)), ?_⟩
    refine ⟨fun a w C hA hS hd => gx1 (a_6 rfl en_20 (ev1 (gu hd 7)) (to_ok _ _ _)), ?_⟩
    refine ⟨fun a w C hA hS hd => gv1 (a_4 rfl v_7 (hA.ev rfl)), ?_⟩
    refine ⟨fun a w C hA hS hd => gv1 (a_3 rfl ty_59 (gu hd 9) (hS.bk 2 rfl) rfl), ?_⟩
    refine ⟨fun a w C hA hS hd => gv1 (a_0 rfl (hA.ev rfl)), ?_⟩
    refine ⟨fun a w C hA hS hd => gv1 (b_2 rfl un_59 ty_63 (gu hd 10) (i := q) (gu hd 11) ((b_8 (hS.ok 10 _ rfl)).blk (i := m) (by omega)) (by decide) (by omega)), ?_⟩
    refine ⟨fun a w C hA hS hd => gv1 (e_6 rfl fd_63_1 (gu hd 12) ((b_8 (hS.ok 10 _ rfl)).blk (i := m) (by omega)) (by rw [(((b_8 (hS.ok 10 _ rfl)).blk (i := m) (by omega))).1]; omega)), ?_⟩
    refine ⟨fun a w C hA hS hd => gv1 (c_7 rfl ty_3 (gu hd 13) ((b_8 (hS.ok 10 _ rfl)).blk (i := m) (by omega)) (trips_at2 (by omega))), ?_⟩
    refine ⟨fun a w C hA hS hd => gv1 (e_7 rfl (pv2 (gu hd 8) (gu hd 14)) (q_1 _ _ _)), ?_⟩
    refine ⟨fun a w C hA hS hd => d_9 rfl (vblt rfl (pv1 (gu hd 15)) ab_4 ab_3 ze_100 (by decide) (cs := [(Value.int .i64 ((((b.macs.getD m mac0).blocks).getD q (0, 0, 0)).1)), (Value.int .i64 ((((b.macs.getD m mac0).blocks).getD q (0, 0, 0)).2.1)), (Value.int .i64 ((((b.macs.getD m mac0).blocks).getD q (0, 0, 0)).2.2))]) (bs_100_1_0iiia _ _ _) rfl (by decide) (fun _ => And.intro trivial rfl)), ?_⟩
    trivial
   intro CK D0 C rsf252 Bb E Ay; clear Ba Q
   obtain ⟨CG, Cz⟩ := E 16 (by decide)
   obtain ⟨Cw, CE⟩ := Cz
   have Az : Sep NoB w D0 [(row (C 16) 100 3 1 [(Value.int .i64 ((((b.macs.getD m mac0).blocks).getD q (0, 0, 0)).1)), (Value.int .i64 ((((b.macs.getD m mac0).blocks).getD q (0, 0, 0)).2.1)), (Value.int .i64 ((((b.macs.getD m mac0).blocks).getD q (0, 0, 0)).2.2))]), (row vk_ 100 3 (((b.macs.getD m mac0).blocks.take q).length) (trips ((b.macs.getD m mac0).blocks.take q))), (blk O 103 [(Value.int .i64 ((b.macs.getD m mac0).scale)), vk_]), (blk L 61 [(Value.int .i64 ((b.macs.getD m mac0).scale)), (lk m)]), (slsR true ((b.macs.take m).length) lk_ 3 (blkN (b.macs.take m)) (blkC (b.macs.take m))), (row vm_ 103 2 ((b.macs.take m).length) (o_7 lk_ (b.macs.take m))), (c_9 true vt_ lr_ lb_ b.tabs), (blk B 37 [(Value.int .i64 b.scales), vt_, vm_]), (blk H 37 [(Value.int .i64 0), (Value.slice none 0 0), (Value.slice none 0 0)]), (blk I 25 [(Value.int .i64 b.scales), vt, vm]), (c_9 false vt lr lb b.tabs), (d_2 false vm lk b.macs)] := by rw [show catR rsf252 0 17 = ([(row (C 16) 100 3 1 [(Value.int .i64 ((((b.macs.getD m mac0).blocks).getD q (0, 0, 0)).1)), (Value.int .i64 ((((b.macs.getD m mac0).blocks).getD q (0, 0, 0)).2.1)), (Value.int .i64 ((((b.macs.getD m mac0).blocks).getD q (0, 0, 0)).2.2))])] : List Res) by (try simp only [catR, gr (E 0 (by decide)), gr (E 1 (by decide)), gr (E 2 (by decide)), gr (E 3 (by decide)), gr (E 4 (by decide)), gr (E 5 (by decide)), gr (E 6 (by decide)), gr (E 7 (by decide)), gr (E 8 (by decide)), gr (E 9 (by decide)), gr (E 10 (by decide)), gr (E 11 (by decide)), gr (E 12 (by decide)), gr (E 13 (by decide)), gr (E 14 (by decide)), gr (E 15 (by decide)), CE]); (try rfl)] at Ay; exact Ay
   have Bc := Bb.add (gs (E 1 (by decide))); clear Bb
   have n : Fr 116 [] [(106, (C 16)), (91, vk_), (11, (Value.int .i64 (q : Int))), (10, (bptr O 0)), (9, (bptr L 0)), (8, (Value.int .i64 (m : Int))), (3, (bptr B 0)), (2, (bptr H 0)), (1, (bptr I 0))] CK := Bc.add (i_1 CG rfl); clear Bc
   clear E Ay CG
   clear CE
   clear Cw
   refine s2 n (l_0 Az rfl ab_4 el_100 (n.ev rfl) (n.ev rfl) (i := 1) rfl (SlAt.d_4 (Az.d_7 0 rfl)) rfl (by simp only [maxLen]; omega) (by omega)) ?_
   intro De A5 En Bz Ab
   have x := Bz.g_7 (i := 1) rfl (n' := (((b.macs.getD m mac0).blocks.take q) ++ [(b.macs.getD m mac0).blocks.getD q (0, 0, 0)]).length) (xs' := (trips (((b.macs.getD m mac0).blocks.take q) ++ [(b.macs.getD m mac0).blocks.getD q (0, 0, 0)]))) (by simp) (by simp [trips]); clear Bz n Az CK
   refine s1 Ab (a_4 rfl fd_103_1 (Ab.ev rfl)) fun Df o => ?_; clear Ab De
   refine s7 o (c_5 x rfl ty_101 (o.ev rfl) (o.ev rfl) (i := 2) rfl (vs := [A5]) (t_2 (SlAt.isSl (SlAt.d_4 (x.d_7 1 rfl)))) rfl (j_3 (SlAt.one (SlAt.d_4 (x.d_7 1 rfl))) x_2) (Nat.le_of_ble_eq_true rfl)) ?_
   intro _ D1 B0 Ac; clear o
   have B1 : Sep NoB w D1 [(row (C 16) 100 3 1 [(Value.int .i64 ((((b.macs.getD m mac0).blocks).getD q (0, 0, 0)).1)), (Value.int .i64 ((((b.macs.getD m mac0).blocks).getD q (0, 0, 0)).2.1)), (Value.int .i64 ((((b.macs.getD m mac0).blocks).getD q (0, 0, 0)).2.2))]), (row A5 100 3 ((((b.macs.getD m mac0).blocks.take q) ++ [(b.macs.getD m mac0).blocks.getD q (0, 0, 0)]).length) (trips (((b.macs.getD m mac0).blocks.take q) ++ [(b.macs.getD m mac0).blocks.getD q (0, 0, 0)]))), (blk O 103 [(Value.int .i64 ((b.macs.getD m mac0).scale)), A5]), (blk L 61 [(Value.int .i64 ((b.macs.getD m mac0).scale)), (lk m)]), (slsR true ((b.macs.take m).length) lk_ 3 (blkN (b.macs.take m)) (blkC (b.macs.take m))), (row vm_ 103 2 ((b.macs.take m).length) (o_7 lk_ (b.macs.take m))), (c_9 true vt_ lr_ lb_ b.tabs), (blk B 37 [(Value.int .i64 b.scales), vt_, vm_]), (blk H 37 [(Value.int .i64 0), (Value.slice none 0 0), (Value.slice none 0 0)]), (blk I 25 [(Value.int .i64 b.scales), vt, vm]), (c_9 false vt lr lb b.tabs), (d_2 false vm lk b.macs)] := B0; clear B0 x
   refine e_8 ?_
   refine g_8 ?_
   refine b_0 ?_
   refine a_5 ?_
   refine s1 Ac (a_0 rfl (Ac.ev rfl)) fun Dg Ad => ?_; clear Ac Df
   refine s1 Ad (f_6 rfl (Ad.ev rfl) (evc _ _) (by omega) (by omega)) fun Dh Ae => ?_; clear Ad Dg
   refine s1 Ae (a_1 rfl (Ae.ev rfl)) fun Eb Co => ?_; clear Ae Dh
   refine e_8 ?_
   have Cs := B1.gkp (gpc 1 (gpc 2 (gpc 3 (gpc 4 (gpc 5 (gpc 6 (gpc 7 (gpc 8 (gpc 9 (gpc 10 (gpc 11 gpn))))))))))); clear B1
   exact b_0 ⟨q + 1, ⟨A5, Co.as _ rfl, (Cs.g_7 (i := 0) rfl (by rw [q_8 (by omega)]) (by rw [q_8 (by omega)])), by omega⟩, by omega⟩
  skip
  rw [decide_eq_false CB] at P
  refine b_5 P rfl ?_
  refine h_1 ?_
  refine b_4 ?_
  refine b_4 ?_
  refine f_7 ?_
  refine b_0 ?_
  have Af := P.as [(10, (bptr O 0)), (8, (Value.int .i64 (m : Int))), (3, (bptr B 0)), (2, (bptr H 0)), (1, (bptr I 0))] rfl; clear P
  refine a_5 ?_
  refine s1 Af (a_4 rfl v_6 (Af.ev rfl)) fun Di Ag => ?_; clear Af Dd
  refine s1 Ag (a_3 rfl ty_35 (Ag.ev rfl) (Q.bk 6 rfl) rfl) fun Dj Ah => ?_; clear Ag Di
  refine s1 Ah (c_4 rfl u_7 (Ah.ev rfl) (Q.bk 1 rfl) (l := [(Value.int .i64 ((b.macs.getD m mac0).scale)), vk_]) rfl rfl) fun Dk Ai => ?_; clear Ah Dj
  refine s2 Ai (g_4 Q rfl (pv1 (Ai.ev rfl)) ac_8 u_7 ze_103 (by decide) (cs := [(Value.int .i64 ((b.macs.getD m mac0).scale)), vk_]) (bs_103_1_0iva _ _)) ?_
  rintro Dl _ Eo ⟨Dr, rfl, y⟩ p; clear Ai Q Dk
  refine s2 p (l_0 y rfl ac_8 el_103 (p.ev rfl) (p.ev rfl) (i := 5) rfl (SlAt.of_blk (y.bk 0 rfl) rfl (Nat.le_of_ble_eq_true rfl)) (j_3 rfl (j_3 (SlAt.one (SlAt.d_4 (y.d_7 1 rfl))) x_2)) (by simp only [maxLen]; omega) (by omega)) ?_
  intro Dm A6 Ep B2 Aj
  have z := B2.g_7 (i := 5) rfl (n' := ((b.macs.take m) ++ [(b.macs.getD m mac0)]).length) (xs' := (o_7 (putV (b.macs.take m).length lk_ vk_) ((b.macs.take m) ++ [(b.macs.getD m mac0)]))) (by simp) (macs_snoc (b.macs.getD m mac0) vk_); clear B2 p y Dl
  refine s1 Aj (a_4 rfl v_6 (Aj.ev rfl)) fun Dn r => ?_; clear Aj Dm
  refine s7 r (c_5 z rfl ty_35 (r.ev rfl) (r.ev rfl) (i := 7) rfl (vs := [A6]) (t_2 (SlAt.isSl (SlAt.d_4 (z.d_7 5 rfl)))) rfl (j_3 (SlAt.one (SlAt.d_4 (z.d_7 5 rfl))) x_2) (Nat.le_of_ble_eq_true rfl)) ?_
  intro _ D2 B3 Bd; clear r
  have B4 : Sep NoB w D2 [(blk Dr 103 [(Value.int .i64 ((b.macs.getD m mac0).scale)), vk_]), (row vk_ 100 3 (((b.macs.getD m mac0).blocks.take q).length) (trips ((b.macs.getD m mac0).blocks.take q))), (blk O 103 [(Value.int .i64 ((b.macs.getD m mac0).scale)), vk_]), (blk L 61 [(Value.int .i64 ((b.macs.getD m mac0).scale)), (lk m)]), (slsR true ((b.macs.take m).length) lk_ 3 (blkN (b.macs.take m)) (blkC (b.macs.take m))), (row A6 103 2 (((b.macs.take m) ++ [(b.macs.getD m mac0)]).length) (o_7 (putV (b.macs.take m).length lk_ vk_) ((b.macs.take m) ++ [(b.macs.getD m mac0)]))), (c_9 true vt_ lr_ lb_ b.tabs), (blk B 37 [(Value.int .i64 b.scales), vt_, A6]), (blk H 37 [(Value.int .i64 0), (Value.slice none 0 0), (Value.slice none 0 0)]), (blk I 25 [(Value.int .i64 b.scales), vt, vm]), (c_9 false vt lr lb b.tabs), (d_2 false vm lk b.macs)] := B3; clear B3 z
  refine e_8 ?_
  refine g_8 ?_
  refine b_0 ?_
  have Ak := Bd.as [(8, (Value.int .i64 (m : Int))), (3, (bptr B 0)), (2, (bptr H 0)), (1, (bptr I 0))] rfl; clear Bd
  refine a_5 ?_
  refine s1 Ak (a_0 rfl (Ak.ev rfl)) fun Do Al => ?_; clear Ak Dn
  refine s1 Al (f_6 rfl (Al.ev rfl) (evc _ _) (by omega) (by omega)) fun Dp Am => ?_; clear Al Do
  refine s1 Am (a_1 rfl (Am.ev rfl)) fun Ec Cp => ?_; clear Am Dp
  refine e_8 ?_
  have B5 := B4.g_7 (i := 1) rfl (n' := (b.macs.getD m mac0).blocks.length) (xs' := trips (b.macs.getD m mac0).blocks) (by rw [List.take_of_length_le (by omega)]) (by rw [List.take_of_length_le (by omega)]); clear B4
  have B6 := B5.gkp (gpc 1 (gpc 4 (gpc 0 (gpc 2 (gpc 3 (gpc 5 (gpc 6 (gpc 7 (gpc 8 (gpc 9 (gpc 10 (gpc 11 gpn)))))))))))); clear B5
  have B7 := l_2 (k' := blkN (b.macs.take (m + 1))) (c' := blkC (b.macs.take (m + 1))) B6 (blkN_new (by omega)).1 (blkN_new (by omega)).2 blkN_old; clear B6
  have B8 := sep_sls_say (i := 0) (n' := (b.macs.take (m + 1)).length) (v' := (putV (b.macs.take m).length lk_ vk_)) (k' := blkN (b.macs.take (m + 1))) (c' := blkC (b.macs.take (m + 1))) B7 rfl (take_len1 (by omega)) (fun _ _ => ⟨rfl, rfl, rfl⟩); clear B7
  have Ct := B8.gkp (gpc 0 (gpc 4 (gpc 5 (gpc 6 (gpc 7 (gpc 8 (gpc 9 (gpc 10 gpn)))))))); clear B8
  exact b_0 ⟨m + 1, ⟨A6, (putV (b.macs.take m).length lk_ vk_), Cp.as _ rfl, (Ct.g_7 (i := 1) rfl (by rw [q_8 (by omega)]) (by rw [q_8 (by omega)])), by omega⟩, by omega⟩
 skip
 rw [decide_eq_false CA] at N
 refine b_5 N rfl ?_
 refine h_1 ?_
 refine b_4 ?_
 refine b_4 ?_
 refine f_7 ?_
 refine b_0 ?_
 refine b_7 ?_
 have An := N.as [(3, (bptr B 0)), (2, (bptr H 0))] rfl; clear N
 refine a_5 ?_
 refine s1 An (c_4 rfl y_4 (An.ev rfl) (J.bk 3 rfl) (l := [(Value.int .i64 b.scales), vt_, vm_]) rfl rfl) fun Ed s => ?_; clear An CJ
 refine s7 s (c_5 J rfl y_4 (s.ev rfl) (s.ev rfl) (i := 4) rfl (vs := [(Value.int .i64 b.scales), vt_, vm_]) rfl rfl (j_3 rfl (j_3 ((b_6 (J.ok 2 _ rfl)).tabs.one) (j_3 (SlAt.one (SlAt.d_4 (J.d_7 1 rfl))) x_2))) (Nat.le_of_ble_eq_true rfl)) ?_
 intro _ D3 B9 Be; clear s
 have A0 : Sep NoB w D3 [(slsR true ((b.macs.take m).length) lk_ 3 (blkN (b.macs.take m)) (blkC (b.macs.take m))), (row vm_ 103 2 ((b.macs.take m).length) (o_7 lk_ (b.macs.take m))), (c_9 true vt_ lr_ lb_ b.tabs), (blk B 37 [(Value.int .i64 b.scales), vt_, vm_]), (blk H 37 [(Value.int .i64 b.scales), vt_, vm_]), (blk I 25 [(Value.int .i64 b.scales), vt, vm]), (c_9 false vt lr lb b.tabs), (d_2 false vm lk b.macs)] := B9; clear B9 J
 refine n1 ?_
 refine c_8 ?_
 refine a_9 Be (.inl rfl) (a_2 Be rfl (.cellA rfl y_4 (A0.bk 4 rfl) (l := [(Value.int .i64 b.scales), vt_, vm_]) rfl rfl)) ?_
 have Cu := A0.gkp (gpc 1 (gpc 0 (gpc 2 gpn))); clear A0
 have hmt : m = b.macs.length := by omega
 have hz := Cu
 rw [hmt, List.take_length] at hz
 exact ⟨_, _, _, _, _, rfl, (sep_macs_join hz).keep [1, 0] (by decide) _ rfl rfl⟩
end Go.Proofs.Ytohgladndklciaa

namespace Go.Hard
def e_1 : h_0 := ⟨3, [⟨0, 1, [(100, 200), (200, 300), (300, 500), (400, 600)], [2], 2⟩, ⟨1, 2, [(250, 90), (350, 50)], [], 0⟩], [⟨0, [(150, 154, 160), (240, 246, 249)]⟩, ⟨1, [(300, 300, 299)]⟩]⟩
open Go.RowKit Go.Eng in
theorem kept_tabsC (a b c d : Value) : n_6 (putV 1 (putV 0 (fun _ => Value.slice none 0 0) a) c) (putV 1 (putV 0 (fun _ => Value.slice none 0 0) b) d) e_1.tabs = [.int .i64 0, .int .i64 1, a, b, .int .i64 2, .int .i64 1, .int .i64 2, c, d, .int .i64 0] := rfl
open Go.RowKit Go.Eng in
theorem kept_macsC (a b : Value) : o_7 (putV 1 (putV 0 (fun _ => Value.slice none 0 0) a) b) e_1.macs = [.int .i64 0, a, .int .i64 1, b] := rfl
theorem kept_thin : o_0 e_1 := (thin_iff (n := 0)).1 (by decide) |>.1
theorem kept_read : n_5 e_1 [(0, 170)] = 0 := by decide
theorem kept_spans : i_7 e_1 [(0, 170)] = some [(161, 164), (259, 266), (83, 87)] := by
  unfold i_7
  rw [if_pos (by decide)]
  show r_2 3 _ (400000 + 1) _ = _
  rw [r_2, if_pos (by decide), if_neg (by decide)]
  show r_2 3 _ (399999 + 1) _ = _
  rw [r_2, if_pos (by decide), if_pos (by decide)]
  decide
end Go.Hard

namespace Go.Proofs.Ytohgladndklciaa
open Go.RowKit Go.Shelf Go.Eng Go.Hard
theorem bs_107_4_0iia_1iia_2iia_3iia (x0_0 : Int) (x0_1 : Int) (x1_0 : Int) (x1_1 : Int) (x2_0 : Int) (x2_1 : Int) (x3_0 : Int) (x3_1 : Int) : Instr.fill (fun i => some (i * 2, 2)) ((Array.range (4 * 2)).map ((Value.agg #[(Value.int .i64 0), (Value.int .i64 0)]).cells[· % (Value.agg #[(Value.int .i64 0), (Value.int .i64 0)]).cells.size]!)) [(0, .agg #[(.int .i64 x0_0), (.int .i64 x0_1)]), (1, .agg #[(.int .i64 x1_0), (.int .i64 x1_1)]), (2, .agg #[(.int .i64 x2_0), (.int .i64 x2_1)]), (3, .agg #[(.int .i64 x3_0), (.int .i64 x3_1)])] = some (([(.int .i64 x0_0), (.int .i64 x0_1), (.int .i64 x1_0), (.int .i64 x1_1), (.int .i64 x2_0), (.int .i64 x2_1), (.int .i64 x3_0), (.int .i64 x3_1)] : List Value).toArray) := by kernel_rfl
theorem bd_106_0i_1i_2s_3s_4i (x0_0 : Int) (x1_0 : Int) (x2_0 : Value) (hx2_0 : IsSl x2_0) (x3_0 : Value) (hx3_0 : IsSl x3_0) (x4_0 : Int) (w : World) : (Instr.build 106 #[(0, (.int .i64 x0_0)), (1, (.int .i64 x1_0)), (2, x2_0), (3, x3_0), (4, (.int .i64 x4_0))]).run Try.prog w = .ok (.agg #[(.int .i64 x0_0), (.int .i64 x1_0), x2_0, x3_0, (.int .i64 x4_0)]) w := by obtain ⟨Ax2_0, Bx2_0, Cx2_0, rfl⟩ := hx2_0; obtain ⟨Ax3_0, Bx3_0, Cx3_0, rfl⟩ := hx3_0; kernel_rfl
theorem bs_107_2_0iia_1iia (x0_0 : Int) (x0_1 : Int) (x1_0 : Int) (x1_1 : Int) : Instr.fill (fun i => some (i * 2, 2)) ((Array.range (2 * 2)).map ((Value.agg #[(Value.int .i64 0), (Value.int .i64 0)]).cells[· % (Value.agg #[(Value.int .i64 0), (Value.int .i64 0)]).cells.size]!)) [(0, .agg #[(.int .i64 x0_0), (.int .i64 x0_1)]), (1, .agg #[(.int .i64 x1_0), (.int .i64 x1_1)])] = some (([(.int .i64 x0_0), (.int .i64 x0_1), (.int .i64 x1_0), (.int .i64 x1_1)] : List Value).toArray) := by kernel_rfl
theorem bd_106_0i_1i_2s (x0_0 : Int) (x1_0 : Int) (x2_0 : Value) (hx2_0 : IsSl x2_0) (w : World) : (Instr.build 106 #[(0, (.int .i64 x0_0)), (1, (.int .i64 x1_0)), (2, x2_0)]).run Try.prog w = .ok (.agg #[(.int .i64 x0_0), (.int .i64 x1_0), x2_0, (Value.slice none 0 0), (Value.int .i64 0)]) w := by obtain ⟨Ax2_0, Bx2_0, Cx2_0, rfl⟩ := hx2_0; kernel_rfl
theorem bs_106_2_0iivvia_1iivvia (x0_0 : Int) (x0_1 : Int) (x0_2 : Value) (x0_3 : Value) (x0_4 : Int) (x1_0 : Int) (x1_1 : Int) (x1_2 : Value) (x1_3 : Value) (x1_4 : Int) : Instr.fill (fun i => some (i * 5, 5)) ((Array.range (2 * 5)).map ((Value.agg #[(Value.int .i64 0), (Value.int .i64 0), (Value.slice none 0 0), (Value.slice none 0 0), (Value.int .i64 0)]).cells[· % (Value.agg #[(Value.int .i64 0), (Value.int .i64 0), (Value.slice none 0 0), (Value.slice none 0 0), (Value.int .i64 0)]).cells.size]!)) [(0, .agg #[(.int .i64 x0_0), (.int .i64 x0_1), x0_2, x0_3, (.int .i64 x0_4)]), (1, .agg #[(.int .i64 x1_0), (.int .i64 x1_1), x1_2, x1_3, (.int .i64 x1_4)])] = some (([(.int .i64 x0_0), (.int .i64 x0_1), x0_2, x0_3, (.int .i64 x0_4), (.int .i64 x1_0), (.int .i64 x1_1), x1_2, x1_3, (.int .i64 x1_4)] : List Value).toArray) := by kernel_rfl
theorem en_31 : ∀ args w, (callFunc 31 args).run Try.prog w = .ok (.enter 31 args) w := enters_of Try.func31 (by kernel_rfl) rfl
theorem bs_100_2_0iiia_1iiia (x0_0 : Int) (x0_1 : Int) (x0_2 : Int) (x1_0 : Int) (x1_1 : Int) (x1_2 : Int) : Instr.fill (fun i => some (i * 3, 3)) ((Array.range (2 * 3)).map ((Value.agg #[(Value.int .i64 0), (Value.int .i64 0), (Value.int .i64 0)]).cells[· % (Value.agg #[(Value.int .i64 0), (Value.int .i64 0), (Value.int .i64 0)]).cells.size]!)) [(0, .agg #[(.int .i64 x0_0), (.int .i64 x0_1), (.int .i64 x0_2)]), (1, .agg #[(.int .i64 x1_0), (.int .i64 x1_1), (.int .i64 x1_2)])] = some (([(.int .i64 x0_0), (.int .i64 x0_1), (.int .i64 x0_2), (.int .i64 x1_0), (.int .i64 x1_1), (.int .i64 x1_2)] : List Value).toArray) := by kernel_rfl
theorem bd_103_0i_1s (x0_0 : Int) (x1_0 : Value) (hx1_0 : IsSl x1_0) (w : World) : (Instr.build 103 #[(0, (.int .i64 x0_0)), (1, x1_0)]).run Try.prog w = .ok (.agg #[(.int .i64 x0_0), x1_0]) w := by obtain ⟨Ax1_0, Bx1_0, Cx1_0, rfl⟩ := hx1_0; kernel_rfl
theorem bs_103_2_0iva_1iva (x0_0 : Int) (x0_1 : Value) (x1_0 : Int) (x1_1 : Value) : Instr.fill (fun i => some (i * 2, 2)) ((Array.range (2 * 2)).map ((Value.agg #[(Value.int .i64 0), (Value.slice none 0 0)]).cells[· % (Value.agg #[(Value.int .i64 0), (Value.slice none 0 0)]).cells.size]!)) [(0, .agg #[(.int .i64 x0_0), x0_1]), (1, .agg #[(.int .i64 x1_0), x1_1])] = some (([(.int .i64 x0_0), x0_1, (.int .i64 x1_0), x1_1] : List Value).toArray) := by kernel_rfl
theorem bd_37_0i_1s_2s (x0_0 : Int) (x1_0 : Value) (hx1_0 : IsSl x1_0) (x2_0 : Value) (hx2_0 : IsSl x2_0) (w : World) : (Instr.build 37 #[(0, (.int .i64 x0_0)), (1, x1_0), (2, x2_0)]).run Try.prog w = .ok (.agg #[(.int .i64 x0_0), x1_0, x2_0]) w := by obtain ⟨Ax1_0, Bx1_0, Cx1_0, rfl⟩ := hx1_0; obtain ⟨Ax2_0, Bx2_0, Cx2_0, rfl⟩ := hx2_0; kernel_rfl
set_option maxHeartbeats 1000000 in
theorem kept_ok (w : World) :
  Calls Try.prog 46 #[] w (Ret fun v w' => ∃ vt' vm' lr' lb' lk', v = .agg #[.int .i64 e_1.scales, vt', vm'] ∧ Sep NoB w w' [c_9 true vt' lr' lb' e_1.tabs, d_2 true vm' lk' e_1.macs]) := by
 refine a_8 Try.func46 rfl fun a0 X => ?_
 replace X : Fr 25 [] [] a0 := X
 have AD : Sep NoB w w [] := Sep.start _ _
 refine m2 ?_
 refine s2 X (e_4 AD rfl ze_37 (cs := [(Value.int .i64 0), (Value.slice none 0 0), (Value.slice none 0 0)]) rfl) ?_
 rintro a1 _ w3 ⟨b4, rfl, AE⟩ AA; clear X AD a0
 refine n4 ?_
 refine s1 AA (e_7 rfl (pv2 (evc _ _) (evc _ _)) (m_6 _ _)) fun a6 AB => ?_; clear AA a1
 refine s1 AB (e_7 rfl (pv2 (evc _ _) (evc _ _)) (m_6 _ _)) fun a8 AC => ?_; clear AB a6
 refine s1 AC (e_7 rfl (pv2 (evc _ _) (evc _ _)) (m_6 _ _)) fun AV Y => ?_; clear AC a8
 refine s1 Y (e_7 rfl (pv2 (evc _ _) (evc _ _)) (m_6 _ _)) fun AW I => ?_; clear Y AV
 refine s2 I (g_4 AE rfl (pv4 (I.ev rfl) (I.ev rfl) (I.ev rfl) (I.ev rfl)) k_8 j_0 y_8 (by decide) (cs := [(Value.int .i64 100), (Value.int .i64 200), (Value.int .i64 200), (Value.int .i64 300), (Value.int .i64 300), (Value.int .i64 500), (Value.int .i64 400), (Value.int .i64 600)]) (bs_107_4_0iia_1iia_2iia_3iia _ _ _ _ _ _ _ _)) ?_
 rintro AX _ BB ⟨C, rfl, k⟩ Z; clear I AE AW
 refine s2 Z (g_4 k rfl (pv1 (evc _ _)) h_8 ty_3 ze_3 (by decide) (cs := [(Value.int .i64 2)]) (bs_3_1_0i _)) ?_
 rintro AY _ BC ⟨D, rfl, m⟩ J; clear Z k AX
 refine s1 J (e_7 rfl (pv5 (evc _ _) (evc _ _) (J.ev rfl) (J.ev rfl) (evc _ _)) (bd_106_0i_1i_2s_3s_4i _ _ _ ⟨_, _, _, rfl⟩ _ ⟨_, _, _, rfl⟩ _)) fun AZ a => ?_; clear J AY
 refine s1 a (e_7 rfl (pv2 (evc _ _) (evc _ _)) (m_6 _ _)) fun Aa b => ?_; clear a AZ
 refine s1 b (e_7 rfl (pv2 (evc _ _) (evc _ _)) (m_6 _ _)) fun Ab K => ?_; clear b Aa
 refine s2 K (g_4 m rfl (pv2 (K.ev rfl) (K.ev rfl)) k_8 j_0 y_8 (by decide) (cs := [(Value.int .i64 250), (Value.int .i64 90), (Value.int .i64 350), (Value.int .i64 50)]) (bs_107_2_0iia_1iia _ _ _ _)) ?_
 rintro Ac _ BD ⟨E, rfl, o⟩ Q; clear K m Ab
 refine s1 Q (e_7 rfl (pv3 (evc _ _) (evc _ _) (Q.ev rfl)) (bd_106_0i_1i_2s _ _ _ ⟨_, _, _, rfl⟩)) fun Ad L => ?_; clear Q Ac
 refine s2 L (g_4 o rfl (pv2 (L.ev rfl) (L.ev rfl)) aa_9 l_7 ze_106 (by decide) (cs := [(Value.int .i64 0), (Value.int .i64 1), (Value.slice (some ⟨C, 0, none⟩) 4 4), (Value.slice (some ⟨D, 0, none⟩) 1 1), (Value.int .i64 2), (Value.int .i64 1), (Value.int .i64 2), (Value.slice (some ⟨E, 0, none⟩) 2 2), (Value.slice none 0 0), (Value.int .i64 0)]) (bs_106_2_0iivvia_1iivvia _ _ _ _ _ _ _ _ _ _)) ?_
 rintro Ae _ BE ⟨F, rfl, p⟩ c; clear L o Ad
 refine s2 c (a_6 rfl en_31 (ev2 (evc _ _) (evc _ _)) (n_0 _ _ _)) ?_
 rintro Af _ BF ⟨rfl, g⟩ R; have q := p.step g; clear g c p Ae
 refine s1 R (e_7 rfl (pv2 (R.ev rfl) (evc _ _)) (q_1 _ _ _)) fun Ag d => ?_; clear R Af
 refine s2 d (a_6 rfl en_31 (ev2 (evc _ _) (evc _ _)) (n_0 _ _ _)) ?_
 rintro Ah _ BG ⟨rfl, h⟩ S; have r := q.step h; clear h d q Ag
 refine s1 S (e_7 rfl (pv2 (S.ev rfl) (evc _ _)) (q_1 _ _ _)) fun Ai M => ?_; clear S Ah
 refine s2 M (g_4 r rfl (pv2 (M.ev rfl) (M.ev rfl)) ab_4 ab_3 ze_100 (by decide) (cs := [(Value.int .i64 150), (Value.int .i64 154), (Value.int .i64 160), (Value.int .i64 240), (Value.int .i64 246), (Value.int .i64 249)]) (bs_100_2_0iiia_1iiia _ _ _ _ _ _)) ?_
 rintro Aj _ BH ⟨A, rfl, s⟩ T; clear M r Ai
 refine s1 T (e_7 rfl (pv2 (evc _ _) (T.ev rfl)) (bd_103_0i_1s _ _ ⟨_, _, _, rfl⟩)) fun Ak e => ?_; clear T Aj
 refine s2 e (a_6 rfl en_31 (ev2 (evc _ _) (evc _ _)) (n_0 _ _ _)) ?_
 rintro Al _ BI ⟨rfl, j⟩ U; have t := s.step j; clear j e s Ak
 refine s1 U (e_7 rfl (pv2 (U.ev rfl) (evc _ _)) (q_1 _ _ _)) fun Am V => ?_; clear U Al
 refine s2 V (g_4 t rfl (pv1 (V.ev rfl)) ab_4 ab_3 ze_100 (by decide) (cs := [(Value.int .i64 300), (Value.int .i64 300), (Value.int .i64 299)]) (bs_100_1_0iiia _ _ _)) ?_
 rintro An _ BJ ⟨B, rfl, u⟩ W; clear V t Am
 refine s1 W (e_7 rfl (pv2 (evc _ _) (W.ev rfl)) (bd_103_0i_1s _ _ ⟨_, _, _, rfl⟩)) fun Ao N => ?_; clear W An
 refine s2 N (g_4 u rfl (pv2 (N.ev rfl) (N.ev rfl)) ac_8 u_7 ze_103 (by decide) (cs := [(Value.int .i64 0), (Value.slice (some ⟨A, 0, none⟩) 2 2), (Value.int .i64 1), (Value.slice (some ⟨B, 0, none⟩) 1 1)]) (bs_103_2_0iva_1iva _ _ _ _)) ?_
 rintro Ap _ BK ⟨G, rfl, x⟩ O; clear N u Ao
 refine s1 O (e_7 rfl (pv3 (evc _ _) (O.ev rfl) (O.ev rfl)) (bd_37_0i_1s_2s _ _ ⟨_, _, _, rfl⟩ _ ⟨_, _, _, rfl⟩)) fun BA P => ?_; clear O Ap
 refine s7 P (c_5 x rfl y_4 (P.ev rfl) (P.ev rfl) (i := 7) rfl (vs := [(Value.int .i64 3), (Value.slice (some ⟨F, 0, none⟩) 2 2), (Value.slice (some ⟨G, 0, none⟩) 2 2)]) rfl rfl (j_3 rfl (j_3 rfl (j_3 rfl x_2))) (Nat.le_of_ble_eq_true rfl)) ?_
 intro _ H y f; clear P
 have z : Sep NoB w H [(blk G 103 [(Value.int .i64 0), (Value.slice (some ⟨A, 0, none⟩) 2 2), (Value.int .i64 1), (Value.slice (some ⟨B, 0, none⟩) 1 1)]), (blk B 100 [(Value.int .i64 300), (Value.int .i64 300), (Value.int .i64 299)]), (blk A 100 [(Value.int .i64 150), (Value.int .i64 154), (Value.int .i64 160), (Value.int .i64 240), (Value.int .i64 246), (Value.int .i64 249)]), (blk F 106 [(Value.int .i64 0), (Value.int .i64 1), (Value.slice (some ⟨C, 0, none⟩) 4 4), (Value.slice (some ⟨D, 0, none⟩) 1 1), (Value.int .i64 2), (Value.int .i64 1), (Value.int .i64 2), (Value.slice (some ⟨E, 0, none⟩) 2 2), (Value.slice none 0 0), (Value.int .i64 0)]), (blk E 107 [(Value.int .i64 250), (Value.int .i64 90), (Value.int .i64 350), (Value.int .i64 50)]), (blk D 3 [(Value.int .i64 2)]), (blk C 107 [(Value.int .i64 100), (Value.int .i64 200), (Value.int .i64 200), (Value.int .i64 300), (Value.int .i64 300), (Value.int .i64 500), (Value.int .i64 400), (Value.int .i64 600)]), (blk b4 37 [(Value.int .i64 3), (Value.slice (some ⟨F, 0, none⟩) 2 2), (Value.slice (some ⟨G, 0, none⟩) 2 2)])] := y; clear y x
 refine n1 ?_
 refine c_8 ?_
 refine a_9 f (.inl rfl) (a_2 f rfl (.cellA rfl y_4 (z.bk 7 rfl) (l := [(Value.int .i64 3), (Value.slice (some ⟨F, 0, none⟩) 2 2), (Value.slice (some ⟨G, 0, none⟩) 2 2)]) rfl rfl)) ?_
 have Aq := z.t_8 (i := 6) (sz := 2) (n := 4) rfl rfl (by decide)
 have Ar := Aq.t_8 (i := 5) (sz := 1) (n := 1) rfl rfl (by decide)
 have As := Ar.t_8 (i := 4) (sz := 2) (n := 2) rfl rfl (by decide)
 have At := As.t_8 (i := 3) (sz := 5) (n := 2) rfl rfl (by decide)
 have Au := At.t_8 (i := 2) (sz := 3) (n := 2) rfl rfl (by decide)
 have Av := Au.t_8 (i := 1) (sz := 3) (n := 1) rfl rfl (by decide)
 have Aw := Av.t_8 (i := 0) (sz := 2) (n := 2) rfl rfl (by decide)
 have Ax : Sep NoB w H [(row (Value.slice (some ⟨C, 0, none⟩) 4 4) 107 2 4 [(Value.int .i64 100), (Value.int .i64 200), (Value.int .i64 200), (Value.int .i64 300), (Value.int .i64 300), (Value.int .i64 500), (Value.int .i64 400), (Value.int .i64 600)]), (row (Value.slice (some ⟨E, 0, none⟩) 2 2) 107 2 2 [(Value.int .i64 250), (Value.int .i64 90), (Value.int .i64 350), (Value.int .i64 50)]), (row (Value.slice (some ⟨D, 0, none⟩) 1 1) 3 1 1 [(Value.int .i64 2)]), (row (Value.slice (some ⟨F, 0, none⟩) 2 2) 106 5 2 [(Value.int .i64 0), (Value.int .i64 1), (Value.slice (some ⟨C, 0, none⟩) 4 4), (Value.slice (some ⟨D, 0, none⟩) 1 1), (Value.int .i64 2), (Value.int .i64 1), (Value.int .i64 2), (Value.slice (some ⟨E, 0, none⟩) 2 2), (Value.slice none 0 0), (Value.int .i64 0)]), (row (Value.slice (some ⟨A, 0, none⟩) 2 2) 100 3 2 [(Value.int .i64 150), (Value.int .i64 154), (Value.int .i64 160), (Value.int .i64 240), (Value.int .i64 246), (Value.int .i64 249)]), (row (Value.slice (some ⟨B, 0, none⟩) 1 1) 100 3 1 [(Value.int .i64 300), (Value.int .i64 300), (Value.int .i64 299)]), (row (Value.slice (some ⟨G, 0, none⟩) 2 2) 103 2 2 [(Value.int .i64 0), (Value.slice (some ⟨A, 0, none⟩) 2 2), (Value.int .i64 1), (Value.slice (some ⟨B, 0, none⟩) 1 1)])] := Aw.keep [6, 4, 5, 3, 2, 1, 0] (by decide) _ rfl rfl
 have Ay : Sep NoB w H [(slsR true 0 (fun _ => Value.slice none 0 0) 2 (m_3 e_1.tabs) (m_2 e_1.tabs)), (row (Value.slice (some ⟨C, 0, none⟩) 4 4) 107 2 4 [(Value.int .i64 100), (Value.int .i64 200), (Value.int .i64 200), (Value.int .i64 300), (Value.int .i64 300), (Value.int .i64 500), (Value.int .i64 400), (Value.int .i64 600)]), (row (Value.slice (some ⟨E, 0, none⟩) 2 2) 107 2 2 [(Value.int .i64 250), (Value.int .i64 90), (Value.int .i64 350), (Value.int .i64 50)]), (row (Value.slice (some ⟨D, 0, none⟩) 1 1) 3 1 1 [(Value.int .i64 2)]), (row (Value.slice (some ⟨F, 0, none⟩) 2 2) 106 5 2 [(Value.int .i64 0), (Value.int .i64 1), (Value.slice (some ⟨C, 0, none⟩) 4 4), (Value.slice (some ⟨D, 0, none⟩) 1 1), (Value.int .i64 2), (Value.int .i64 1), (Value.int .i64 2), (Value.slice (some ⟨E, 0, none⟩) 2 2), (Value.slice none 0 0), (Value.int .i64 0)]), (row (Value.slice (some ⟨A, 0, none⟩) 2 2) 100 3 2 [(Value.int .i64 150), (Value.int .i64 154), (Value.int .i64 160), (Value.int .i64 240), (Value.int .i64 246), (Value.int .i64 249)]), (row (Value.slice (some ⟨B, 0, none⟩) 1 1) 100 3 1 [(Value.int .i64 300), (Value.int .i64 300), (Value.int .i64 299)]), (row (Value.slice (some ⟨G, 0, none⟩) 2 2) 103 2 2 [(Value.int .i64 0), (Value.slice (some ⟨A, 0, none⟩) 2 2), (Value.int .i64 1), (Value.slice (some ⟨B, 0, none⟩) 1 1)])] := p_9 Ax (fun _ => Value.slice none 0 0) 2 (m_3 e_1.tabs) (m_2 e_1.tabs)
 have Az : Sep NoB w H [(row (Value.slice (some ⟨C, 0, none⟩) 4 4) 107 2 4 [(Value.int .i64 100), (Value.int .i64 200), (Value.int .i64 200), (Value.int .i64 300), (Value.int .i64 300), (Value.int .i64 500), (Value.int .i64 400), (Value.int .i64 600)]), (slsR true 0 (fun _ => Value.slice none 0 0) 2 (m_3 e_1.tabs) (m_2 e_1.tabs)), (row (Value.slice (some ⟨E, 0, none⟩) 2 2) 107 2 2 [(Value.int .i64 250), (Value.int .i64 90), (Value.int .i64 350), (Value.int .i64 50)]), (row (Value.slice (some ⟨D, 0, none⟩) 1 1) 3 1 1 [(Value.int .i64 2)]), (row (Value.slice (some ⟨F, 0, none⟩) 2 2) 106 5 2 [(Value.int .i64 0), (Value.int .i64 1), (Value.slice (some ⟨C, 0, none⟩) 4 4), (Value.slice (some ⟨D, 0, none⟩) 1 1), (Value.int .i64 2), (Value.int .i64 1), (Value.int .i64 2), (Value.slice (some ⟨E, 0, none⟩) 2 2), (Value.slice none 0 0), (Value.int .i64 0)]), (row (Value.slice (some ⟨A, 0, none⟩) 2 2) 100 3 2 [(Value.int .i64 150), (Value.int .i64 154), (Value.int .i64 160), (Value.int .i64 240), (Value.int .i64 246), (Value.int .i64 249)]), (row (Value.slice (some ⟨B, 0, none⟩) 1 1) 100 3 1 [(Value.int .i64 300), (Value.int .i64 300), (Value.int .i64 299)]), (row (Value.slice (some ⟨G, 0, none⟩) 2 2) 103 2 2 [(Value.int .i64 0), (Value.slice (some ⟨A, 0, none⟩) 2 2), (Value.int .i64 1), (Value.slice (some ⟨B, 0, none⟩) 1 1)])] := Ay.keep [1, 0, 2, 3, 4, 5, 6, 7] (by decide) _ rfl rfl
 have A0 : Sep NoB w H [(slsR true 1 (putV 0 (fun _ => Value.slice none 0 0) (Value.slice (some ⟨C, 0, none⟩) 4 4)) 2 (m_3 e_1.tabs) (m_2 e_1.tabs)), (row (Value.slice (some ⟨E, 0, none⟩) 2 2) 107 2 2 [(Value.int .i64 250), (Value.int .i64 90), (Value.int .i64 350), (Value.int .i64 50)]), (row (Value.slice (some ⟨D, 0, none⟩) 1 1) 3 1 1 [(Value.int .i64 2)]), (row (Value.slice (some ⟨F, 0, none⟩) 2 2) 106 5 2 [(Value.int .i64 0), (Value.int .i64 1), (Value.slice (some ⟨C, 0, none⟩) 4 4), (Value.slice (some ⟨D, 0, none⟩) 1 1), (Value.int .i64 2), (Value.int .i64 1), (Value.int .i64 2), (Value.slice (some ⟨E, 0, none⟩) 2 2), (Value.slice none 0 0), (Value.int .i64 0)]), (row (Value.slice (some ⟨A, 0, none⟩) 2 2) 100 3 2 [(Value.int .i64 150), (Value.int .i64 154), (Value.int .i64 160), (Value.int .i64 240), (Value.int .i64 246), (Value.int .i64 249)]), (row (Value.slice (some ⟨B, 0, none⟩) 1 1) 100 3 1 [(Value.int .i64 300), (Value.int .i64 300), (Value.int .i64 299)]), (row (Value.slice (some ⟨G, 0, none⟩) 2 2) 103 2 2 [(Value.int .i64 0), (Value.slice (some ⟨A, 0, none⟩) 2 2), (Value.int .i64 1), (Value.slice (some ⟨B, 0, none⟩) 1 1)])] := l_2 (k' := m_3 e_1.tabs) (c' := m_2 e_1.tabs) Az rfl rfl (fun i hi => absurd hi (Nat.not_lt_zero _))
 have A1 : Sep NoB w H [(row (Value.slice (some ⟨E, 0, none⟩) 2 2) 107 2 2 [(Value.int .i64 250), (Value.int .i64 90), (Value.int .i64 350), (Value.int .i64 50)]), (slsR true 1 (putV 0 (fun _ => Value.slice none 0 0) (Value.slice (some ⟨C, 0, none⟩) 4 4)) 2 (m_3 e_1.tabs) (m_2 e_1.tabs)), (row (Value.slice (some ⟨D, 0, none⟩) 1 1) 3 1 1 [(Value.int .i64 2)]), (row (Value.slice (some ⟨F, 0, none⟩) 2 2) 106 5 2 [(Value.int .i64 0), (Value.int .i64 1), (Value.slice (some ⟨C, 0, none⟩) 4 4), (Value.slice (some ⟨D, 0, none⟩) 1 1), (Value.int .i64 2), (Value.int .i64 1), (Value.int .i64 2), (Value.slice (some ⟨E, 0, none⟩) 2 2), (Value.slice none 0 0), (Value.int .i64 0)]), (row (Value.slice (some ⟨A, 0, none⟩) 2 2) 100 3 2 [(Value.int .i64 150), (Value.int .i64 154), (Value.int .i64 160), (Value.int .i64 240), (Value.int .i64 246), (Value.int .i64 249)]), (row (Value.slice (some ⟨B, 0, none⟩) 1 1) 100 3 1 [(Value.int .i64 300), (Value.int .i64 300), (Value.int .i64 299)]), (row (Value.slice (some ⟨G, 0, none⟩) 2 2) 103 2 2 [(Value.int .i64 0), (Value.slice (some ⟨A, 0, none⟩) 2 2), (Value.int .i64 1), (Value.slice (some ⟨B, 0, none⟩) 1 1)])] := A0.keep [1, 0, 2, 3, 4, 5, 6] (by decide) _ rfl rfl
 have A2 : Sep NoB w H [(slsR true 2 (putV 1 (putV 0 (fun _ => Value.slice none 0 0) (Value.slice (some ⟨C, 0, none⟩) 4 4)) (Value.slice (some ⟨E, 0, none⟩) 2 2)) 2 (m_3 e_1.tabs) (m_2 e_1.tabs)), (row (Value.slice (some ⟨D, 0, none⟩) 1 1) 3 1 1 [(Value.int .i64 2)]), (row (Value.slice (some ⟨F, 0, none⟩) 2 2) 106 5 2 [(Value.int .i64 0), (Value.int .i64 1), (Value.slice (some ⟨C, 0, none⟩) 4 4), (Value.slice (some ⟨D, 0, none⟩) 1 1), (Value.int .i64 2), (Value.int .i64 1), (Value.int .i64 2), (Value.slice (some ⟨E, 0, none⟩) 2 2), (Value.slice none 0 0), (Value.int .i64 0)]), (row (Value.slice (some ⟨A, 0, none⟩) 2 2) 100 3 2 [(Value.int .i64 150), (Value.int .i64 154), (Value.int .i64 160), (Value.int .i64 240), (Value.int .i64 246), (Value.int .i64 249)]), (row (Value.slice (some ⟨B, 0, none⟩) 1 1) 100 3 1 [(Value.int .i64 300), (Value.int .i64 300), (Value.int .i64 299)]), (row (Value.slice (some ⟨G, 0, none⟩) 2 2) 103 2 2 [(Value.int .i64 0), (Value.slice (some ⟨A, 0, none⟩) 2 2), (Value.int .i64 1), (Value.slice (some ⟨B, 0, none⟩) 1 1)])] := l_2 (k' := m_3 e_1.tabs) (c' := m_2 e_1.tabs) A1 rfl rfl (fun _ _ => ⟨rfl, rfl⟩)
 have A3 : Sep NoB w H [(row (Value.slice none 0 0) 3 1 0 []), (slsR true 2 (putV 1 (putV 0 (fun _ => Value.slice none 0 0) (Value.slice (some ⟨C, 0, none⟩) 4 4)) (Value.slice (some ⟨E, 0, none⟩) 2 2)) 2 (m_3 e_1.tabs) (m_2 e_1.tabs)), (row (Value.slice (some ⟨D, 0, none⟩) 1 1) 3 1 1 [(Value.int .i64 2)]), (row (Value.slice (some ⟨F, 0, none⟩) 2 2) 106 5 2 [(Value.int .i64 0), (Value.int .i64 1), (Value.slice (some ⟨C, 0, none⟩) 4 4), (Value.slice (some ⟨D, 0, none⟩) 1 1), (Value.int .i64 2), (Value.int .i64 1), (Value.int .i64 2), (Value.slice (some ⟨E, 0, none⟩) 2 2), (Value.slice none 0 0), (Value.int .i64 0)]), (row (Value.slice (some ⟨A, 0, none⟩) 2 2) 100 3 2 [(Value.int .i64 150), (Value.int .i64 154), (Value.int .i64 160), (Value.int .i64 240), (Value.int .i64 246), (Value.int .i64 249)]), (row (Value.slice (some ⟨B, 0, none⟩) 1 1) 100 3 1 [(Value.int .i64 300), (Value.int .i64 300), (Value.int .i64 299)]), (row (Value.slice (some ⟨G, 0, none⟩) 2 2) 103 2 2 [(Value.int .i64 0), (Value.slice (some ⟨A, 0, none⟩) 2 2), (Value.int .i64 1), (Value.slice (some ⟨B, 0, none⟩) 1 1)])] := A2.r_9 3 1
 have A4 : Sep NoB w H [(slsR true 0 (fun _ => Value.slice none 0 0) 1 (brkN e_1.tabs) (brkC e_1.tabs)), (row (Value.slice none 0 0) 3 1 0 []), (slsR true 2 (putV 1 (putV 0 (fun _ => Value.slice none 0 0) (Value.slice (some ⟨C, 0, none⟩) 4 4)) (Value.slice (some ⟨E, 0, none⟩) 2 2)) 2 (m_3 e_1.tabs) (m_2 e_1.tabs)), (row (Value.slice (some ⟨D, 0, none⟩) 1 1) 3 1 1 [(Value.int .i64 2)]), (row (Value.slice (some ⟨F, 0, none⟩) 2 2) 106 5 2 [(Value.int .i64 0), (Value.int .i64 1), (Value.slice (some ⟨C, 0, none⟩) 4 4), (Value.slice (some ⟨D, 0, none⟩) 1 1), (Value.int .i64 2), (Value.int .i64 1), (Value.int .i64 2), (Value.slice (some ⟨E, 0, none⟩) 2 2), (Value.slice none 0 0), (Value.int .i64 0)]), (row (Value.slice (some ⟨A, 0, none⟩) 2 2) 100 3 2 [(Value.int .i64 150), (Value.int .i64 154), (Value.int .i64 160), (Value.int .i64 240), (Value.int .i64 246), (Value.int .i64 249)]), (row (Value.slice (some ⟨B, 0, none⟩) 1 1) 100 3 1 [(Value.int .i64 300), (Value.int .i64 300), (Value.int .i64 299)]), (row (Value.slice (some ⟨G, 0, none⟩) 2 2) 103 2 2 [(Value.int .i64 0), (Value.slice (some ⟨A, 0, none⟩) 2 2), (Value.int .i64 1), (Value.slice (some ⟨B, 0, none⟩) 1 1)])] := p_9 A3 (fun _ => Value.slice none 0 0) 1 (brkN e_1.tabs) (brkC e_1.tabs)
 have A5 : Sep NoB w H [(row (Value.slice (some ⟨D, 0, none⟩) 1 1) 3 1 1 [(Value.int .i64 2)]), (slsR true 0 (fun _ => Value.slice none 0 0) 1 (brkN e_1.tabs) (brkC e_1.tabs)), (row (Value.slice none 0 0) 3 1 0 []), (slsR true 2 (putV 1 (putV 0 (fun _ => Value.slice none 0 0) (Value.slice (some ⟨C, 0, none⟩) 4 4)) (Value.slice (some ⟨E, 0, none⟩) 2 2)) 2 (m_3 e_1.tabs) (m_2 e_1.tabs)), (row (Value.slice (some ⟨F, 0, none⟩) 2 2) 106 5 2 [(Value.int .i64 0), (Value.int .i64 1), (Value.slice (some ⟨C, 0, none⟩) 4 4), (Value.slice (some ⟨D, 0, none⟩) 1 1), (Value.int .i64 2), (Value.int .i64 1), (Value.int .i64 2), (Value.slice (some ⟨E, 0, none⟩) 2 2), (Value.slice none 0 0), (Value.int .i64 0)]), (row (Value.slice (some ⟨A, 0, none⟩) 2 2) 100 3 2 [(Value.int .i64 150), (Value.int .i64 154), (Value.int .i64 160), (Value.int .i64 240), (Value.int .i64 246), (Value.int .i64 249)]), (row (Value.slice (some ⟨B, 0, none⟩) 1 1) 100 3 1 [(Value.int .i64 300), (Value.int .i64 300), (Value.int .i64 299)]), (row (Value.slice (some ⟨G, 0, none⟩) 2 2) 103 2 2 [(Value.int .i64 0), (Value.slice (some ⟨A, 0, none⟩) 2 2), (Value.int .i64 1), (Value.slice (some ⟨B, 0, none⟩) 1 1)])] := A4.keep [3, 0, 1, 2, 4, 5, 6, 7] (by decide) _ rfl rfl
 have AF : Sep NoB w H [(slsR true 1 (putV 0 (fun _ => Value.slice none 0 0) (Value.slice (some ⟨D, 0, none⟩) 1 1)) 1 (brkN e_1.tabs) (brkC e_1.tabs)), (row (Value.slice none 0 0) 3 1 0 []), (slsR true 2 (putV 1 (putV 0 (fun _ => Value.slice none 0 0) (Value.slice (some ⟨C, 0, none⟩) 4 4)) (Value.slice (some ⟨E, 0, none⟩) 2 2)) 2 (m_3 e_1.tabs) (m_2 e_1.tabs)), (row (Value.slice (some ⟨F, 0, none⟩) 2 2) 106 5 2 [(Value.int .i64 0), (Value.int .i64 1), (Value.slice (some ⟨C, 0, none⟩) 4 4), (Value.slice (some ⟨D, 0, none⟩) 1 1), (Value.int .i64 2), (Value.int .i64 1), (Value.int .i64 2), (Value.slice (some ⟨E, 0, none⟩) 2 2), (Value.slice none 0 0), (Value.int .i64 0)]), (row (Value.slice (some ⟨A, 0, none⟩) 2 2) 100 3 2 [(Value.int .i64 150), (Value.int .i64 154), (Value.int .i64 160), (Value.int .i64 240), (Value.int .i64 246), (Value.int .i64 249)]), (row (Value.slice (some ⟨B, 0, none⟩) 1 1) 100 3 1 [(Value.int .i64 300), (Value.int .i64 300), (Value.int .i64 299)]), (row (Value.slice (some ⟨G, 0, none⟩) 2 2) 103 2 2 [(Value.int .i64 0), (Value.slice (some ⟨A, 0, none⟩) 2 2), (Value.int .i64 1), (Value.slice (some ⟨B, 0, none⟩) 1 1)])] := l_2 (k' := brkN e_1.tabs) (c' := brkC e_1.tabs) A5 rfl rfl (fun i hi => absurd hi (Nat.not_lt_zero _))
 have AG : Sep NoB w H [(row (Value.slice none 0 0) 3 1 0 []), (slsR true 1 (putV 0 (fun _ => Value.slice none 0 0) (Value.slice (some ⟨D, 0, none⟩) 1 1)) 1 (brkN e_1.tabs) (brkC e_1.tabs)), (slsR true 2 (putV 1 (putV 0 (fun _ => Value.slice none 0 0) (Value.slice (some ⟨C, 0, none⟩) 4 4)) (Value.slice (some ⟨E, 0, none⟩) 2 2)) 2 (m_3 e_1.tabs) (m_2 e_1.tabs)), (row (Value.slice (some ⟨F, 0, none⟩) 2 2) 106 5 2 [(Value.int .i64 0), (Value.int .i64 1), (Value.slice (some ⟨C, 0, none⟩) 4 4), (Value.slice (some ⟨D, 0, none⟩) 1 1), (Value.int .i64 2), (Value.int .i64 1), (Value.int .i64 2), (Value.slice (some ⟨E, 0, none⟩) 2 2), (Value.slice none 0 0), (Value.int .i64 0)]), (row (Value.slice (some ⟨A, 0, none⟩) 2 2) 100 3 2 [(Value.int .i64 150), (Value.int .i64 154), (Value.int .i64 160), (Value.int .i64 240), (Value.int .i64 246), (Value.int .i64 249)]), (row (Value.slice (some ⟨B, 0, none⟩) 1 1) 100 3 1 [(Value.int .i64 300), (Value.int .i64 300), (Value.int .i64 299)]), (row (Value.slice (some ⟨G, 0, none⟩) 2 2) 103 2 2 [(Value.int .i64 0), (Value.slice (some ⟨A, 0, none⟩) 2 2), (Value.int .i64 1), (Value.slice (some ⟨B, 0, none⟩) 1 1)])] := AF.keep [1, 0, 2, 3, 4, 5, 6] (by decide) _ rfl rfl
 have AH : Sep NoB w H [(slsR true 2 (putV 1 (putV 0 (fun _ => Value.slice none 0 0) (Value.slice (some ⟨D, 0, none⟩) 1 1)) (Value.slice none 0 0)) 1 (brkN e_1.tabs) (brkC e_1.tabs)), (slsR true 2 (putV 1 (putV 0 (fun _ => Value.slice none 0 0) (Value.slice (some ⟨C, 0, none⟩) 4 4)) (Value.slice (some ⟨E, 0, none⟩) 2 2)) 2 (m_3 e_1.tabs) (m_2 e_1.tabs)), (row (Value.slice (some ⟨F, 0, none⟩) 2 2) 106 5 2 [(Value.int .i64 0), (Value.int .i64 1), (Value.slice (some ⟨C, 0, none⟩) 4 4), (Value.slice (some ⟨D, 0, none⟩) 1 1), (Value.int .i64 2), (Value.int .i64 1), (Value.int .i64 2), (Value.slice (some ⟨E, 0, none⟩) 2 2), (Value.slice none 0 0), (Value.int .i64 0)]), (row (Value.slice (some ⟨A, 0, none⟩) 2 2) 100 3 2 [(Value.int .i64 150), (Value.int .i64 154), (Value.int .i64 160), (Value.int .i64 240), (Value.int .i64 246), (Value.int .i64 249)]), (row (Value.slice (some ⟨B, 0, none⟩) 1 1) 100 3 1 [(Value.int .i64 300), (Value.int .i64 300), (Value.int .i64 299)]), (row (Value.slice (some ⟨G, 0, none⟩) 2 2) 103 2 2 [(Value.int .i64 0), (Value.slice (some ⟨A, 0, none⟩) 2 2), (Value.int .i64 1), (Value.slice (some ⟨B, 0, none⟩) 1 1)])] := l_2 (k' := brkN e_1.tabs) (c' := brkC e_1.tabs) AG rfl rfl (fun _ _ => ⟨rfl, rfl⟩)
 have AI : Sep NoB w H [(row (Value.slice (some ⟨F, 0, none⟩) 2 2) 106 5 2 [(Value.int .i64 0), (Value.int .i64 1), (Value.slice (some ⟨C, 0, none⟩) 4 4), (Value.slice (some ⟨D, 0, none⟩) 1 1), (Value.int .i64 2), (Value.int .i64 1), (Value.int .i64 2), (Value.slice (some ⟨E, 0, none⟩) 2 2), (Value.slice none 0 0), (Value.int .i64 0)]), (slsR true 2 (putV 1 (putV 0 (fun _ => Value.slice none 0 0) (Value.slice (some ⟨C, 0, none⟩) 4 4)) (Value.slice (some ⟨E, 0, none⟩) 2 2)) 2 (m_3 e_1.tabs) (m_2 e_1.tabs)), (slsR true 2 (putV 1 (putV 0 (fun _ => Value.slice none 0 0) (Value.slice (some ⟨D, 0, none⟩) 1 1)) (Value.slice none 0 0)) 1 (brkN e_1.tabs) (brkC e_1.tabs)), (row (Value.slice (some ⟨A, 0, none⟩) 2 2) 100 3 2 [(Value.int .i64 150), (Value.int .i64 154), (Value.int .i64 160), (Value.int .i64 240), (Value.int .i64 246), (Value.int .i64 249)]), (row (Value.slice (some ⟨B, 0, none⟩) 1 1) 100 3 1 [(Value.int .i64 300), (Value.int .i64 300), (Value.int .i64 299)]), (row (Value.slice (some ⟨G, 0, none⟩) 2 2) 103 2 2 [(Value.int .i64 0), (Value.slice (some ⟨A, 0, none⟩) 2 2), (Value.int .i64 1), (Value.slice (some ⟨B, 0, none⟩) 1 1)])] := AH.keep [2, 1, 0, 3, 4, 5] (by decide) _ rfl rfl
 have AJ : Sep NoB w H [(row (Value.slice (some ⟨F, 0, none⟩) 2 2) 106 5 e_1.tabs.length (n_6 (putV 1 (putV 0 (fun _ => Value.slice none 0 0) (Value.slice (some ⟨C, 0, none⟩) 4 4)) (Value.slice (some ⟨E, 0, none⟩) 2 2)) (putV 1 (putV 0 (fun _ => Value.slice none 0 0) (Value.slice (some ⟨D, 0, none⟩) 1 1)) (Value.slice none 0 0)) e_1.tabs)), (slsR true 2 (putV 1 (putV 0 (fun _ => Value.slice none 0 0) (Value.slice (some ⟨C, 0, none⟩) 4 4)) (Value.slice (some ⟨E, 0, none⟩) 2 2)) 2 (m_3 e_1.tabs) (m_2 e_1.tabs)), (slsR true 2 (putV 1 (putV 0 (fun _ => Value.slice none 0 0) (Value.slice (some ⟨D, 0, none⟩) 1 1)) (Value.slice none 0 0)) 1 (brkN e_1.tabs) (brkC e_1.tabs)), (row (Value.slice (some ⟨A, 0, none⟩) 2 2) 100 3 2 [(Value.int .i64 150), (Value.int .i64 154), (Value.int .i64 160), (Value.int .i64 240), (Value.int .i64 246), (Value.int .i64 249)]), (row (Value.slice (some ⟨B, 0, none⟩) 1 1) 100 3 1 [(Value.int .i64 300), (Value.int .i64 300), (Value.int .i64 299)]), (row (Value.slice (some ⟨G, 0, none⟩) 2 2) 103 2 2 [(Value.int .i64 0), (Value.slice (some ⟨A, 0, none⟩) 2 2), (Value.int .i64 1), (Value.slice (some ⟨B, 0, none⟩) 1 1)])] := AI.g_7 (i := 0) rfl rfl (kept_tabsC _ _ _ _).symm
 have AK : Sep NoB w H [(c_9 true (Value.slice (some ⟨F, 0, none⟩) 2 2) (putV 1 (putV 0 (fun _ => Value.slice none 0 0) (Value.slice (some ⟨C, 0, none⟩) 4 4)) (Value.slice (some ⟨E, 0, none⟩) 2 2)) (putV 1 (putV 0 (fun _ => Value.slice none 0 0) (Value.slice (some ⟨D, 0, none⟩) 1 1)) (Value.slice none 0 0)) e_1.tabs), (row (Value.slice (some ⟨A, 0, none⟩) 2 2) 100 3 2 [(Value.int .i64 150), (Value.int .i64 154), (Value.int .i64 160), (Value.int .i64 240), (Value.int .i64 246), (Value.int .i64 249)]), (row (Value.slice (some ⟨B, 0, none⟩) 1 1) 100 3 1 [(Value.int .i64 300), (Value.int .i64 300), (Value.int .i64 299)]), (row (Value.slice (some ⟨G, 0, none⟩) 2 2) 103 2 2 [(Value.int .i64 0), (Value.slice (some ⟨A, 0, none⟩) 2 2), (Value.int .i64 1), (Value.slice (some ⟨B, 0, none⟩) 1 1)])] := sep_tabs_join AJ
 have AL : Sep NoB w H [(slsR true 0 (fun _ => Value.slice none 0 0) 3 (blkN e_1.macs) (blkC e_1.macs)), (c_9 true (Value.slice (some ⟨F, 0, none⟩) 2 2) (putV 1 (putV 0 (fun _ => Value.slice none 0 0) (Value.slice (some ⟨C, 0, none⟩) 4 4)) (Value.slice (some ⟨E, 0, none⟩) 2 2)) (putV 1 (putV 0 (fun _ => Value.slice none 0 0) (Value.slice (some ⟨D, 0, none⟩) 1 1)) (Value.slice none 0 0)) e_1.tabs), (row (Value.slice (some ⟨A, 0, none⟩) 2 2) 100 3 2 [(Value.int .i64 150), (Value.int .i64 154), (Value.int .i64 160), (Value.int .i64 240), (Value.int .i64 246), (Value.int .i64 249)]), (row (Value.slice (some ⟨B, 0, none⟩) 1 1) 100 3 1 [(Value.int .i64 300), (Value.int .i64 300), (Value.int .i64 299)]), (row (Value.slice (some ⟨G, 0, none⟩) 2 2) 103 2 2 [(Value.int .i64 0), (Value.slice (some ⟨A, 0, none⟩) 2 2), (Value.int .i64 1), (Value.slice (some ⟨B, 0, none⟩) 1 1)])] := p_9 AK (fun _ => Value.slice none 0 0) 3 (blkN e_1.macs) (blkC e_1.macs)
 have AM : Sep NoB w H [(row (Value.slice (some ⟨A, 0, none⟩) 2 2) 100 3 2 [(Value.int .i64 150), (Value.int .i64 154), (Value.int .i64 160), (Value.int .i64 240), (Value.int .i64 246), (Value.int .i64 249)]), (slsR true 0 (fun _ => Value.slice none 0 0) 3 (blkN e_1.macs) (blkC e_1.macs)), (c_9 true (Value.slice (some ⟨F, 0, none⟩) 2 2) (putV 1 (putV 0 (fun _ => Value.slice none 0 0) (Value.slice (some ⟨C, 0, none⟩) 4 4)) (Value.slice (some ⟨E, 0, none⟩) 2 2)) (putV 1 (putV 0 (fun _ => Value.slice none 0 0) (Value.slice (some ⟨D, 0, none⟩) 1 1)) (Value.slice none 0 0)) e_1.tabs), (row (Value.slice (some ⟨B, 0, none⟩) 1 1) 100 3 1 [(Value.int .i64 300), (Value.int .i64 300), (Value.int .i64 299)]), (row (Value.slice (some ⟨G, 0, none⟩) 2 2) 103 2 2 [(Value.int .i64 0), (Value.slice (some ⟨A, 0, none⟩) 2 2), (Value.int .i64 1), (Value.slice (some ⟨B, 0, none⟩) 1 1)])] := AL.keep [2, 0, 1, 3, 4] (by decide) _ rfl rfl
 have AN : Sep NoB w H [(slsR true 1 (putV 0 (fun _ => Value.slice none 0 0) (Value.slice (some ⟨A, 0, none⟩) 2 2)) 3 (blkN e_1.macs) (blkC e_1.macs)), (c_9 true (Value.slice (some ⟨F, 0, none⟩) 2 2) (putV 1 (putV 0 (fun _ => Value.slice none 0 0) (Value.slice (some ⟨C, 0, none⟩) 4 4)) (Value.slice (some ⟨E, 0, none⟩) 2 2)) (putV 1 (putV 0 (fun _ => Value.slice none 0 0) (Value.slice (some ⟨D, 0, none⟩) 1 1)) (Value.slice none 0 0)) e_1.tabs), (row (Value.slice (some ⟨B, 0, none⟩) 1 1) 100 3 1 [(Value.int .i64 300), (Value.int .i64 300), (Value.int .i64 299)]), (row (Value.slice (some ⟨G, 0, none⟩) 2 2) 103 2 2 [(Value.int .i64 0), (Value.slice (some ⟨A, 0, none⟩) 2 2), (Value.int .i64 1), (Value.slice (some ⟨B, 0, none⟩) 1 1)])] := l_2 (k' := blkN e_1.macs) (c' := blkC e_1.macs) AM rfl rfl (fun i hi => absurd hi (Nat.not_lt_zero _))
 have AO : Sep NoB w H [(row (Value.slice (some ⟨B, 0, none⟩) 1 1) 100 3 1 [(Value.int .i64 300), (Value.int .i64 300), (Value.int .i64 299)]), (slsR true 1 (putV 0 (fun _ => Value.slice none 0 0) (Value.slice (some ⟨A, 0, none⟩) 2 2)) 3 (blkN e_1.macs) (blkC e_1.macs)), (c_9 true (Value.slice (some ⟨F, 0, none⟩) 2 2) (putV 1 (putV 0 (fun _ => Value.slice none 0 0) (Value.slice (some ⟨C, 0, none⟩) 4 4)) (Value.slice (some ⟨E, 0, none⟩) 2 2)) (putV 1 (putV 0 (fun _ => Value.slice none 0 0) (Value.slice (some ⟨D, 0, none⟩) 1 1)) (Value.slice none 0 0)) e_1.tabs), (row (Value.slice (some ⟨G, 0, none⟩) 2 2) 103 2 2 [(Value.int .i64 0), (Value.slice (some ⟨A, 0, none⟩) 2 2), (Value.int .i64 1), (Value.slice (some ⟨B, 0, none⟩) 1 1)])] := AN.keep [2, 0, 1, 3] (by decide) _ rfl rfl
 have AP : Sep NoB w H [(slsR true 2 (putV 1 (putV 0 (fun _ => Value.slice none 0 0) (Value.slice (some ⟨A, 0, none⟩) 2 2)) (Value.slice (some ⟨B, 0, none⟩) 1 1)) 3 (blkN e_1.macs) (blkC e_1.macs)), (c_9 true (Value.slice (some ⟨F, 0, none⟩) 2 2) (putV 1 (putV 0 (fun _ => Value.slice none 0 0) (Value.slice (some ⟨C, 0, none⟩) 4 4)) (Value.slice (some ⟨E, 0, none⟩) 2 2)) (putV 1 (putV 0 (fun _ => Value.slice none 0 0) (Value.slice (some ⟨D, 0, none⟩) 1 1)) (Value.slice none 0 0)) e_1.tabs), (row (Value.slice (some ⟨G, 0, none⟩) 2 2) 103 2 2 [(Value.int .i64 0), (Value.slice (some ⟨A, 0, none⟩) 2 2), (Value.int .i64 1), (Value.slice (some ⟨B, 0, none⟩) 1 1)])] := l_2 (k' := blkN e_1.macs) (c' := blkC e_1.macs) AO rfl rfl (fun _ _ => ⟨rfl, rfl⟩)
 have AQ : Sep NoB w H [(row (Value.slice (some ⟨G, 0, none⟩) 2 2) 103 2 2 [(Value.int .i64 0), (Value.slice (some ⟨A, 0, none⟩) 2 2), (Value.int .i64 1), (Value.slice (some ⟨B, 0, none⟩) 1 1)]), (slsR true 2 (putV 1 (putV 0 (fun _ => Value.slice none 0 0) (Value.slice (some ⟨A, 0, none⟩) 2 2)) (Value.slice (some ⟨B, 0, none⟩) 1 1)) 3 (blkN e_1.macs) (blkC e_1.macs)), (c_9 true (Value.slice (some ⟨F, 0, none⟩) 2 2) (putV 1 (putV 0 (fun _ => Value.slice none 0 0) (Value.slice (some ⟨C, 0, none⟩) 4 4)) (Value.slice (some ⟨E, 0, none⟩) 2 2)) (putV 1 (putV 0 (fun _ => Value.slice none 0 0) (Value.slice (some ⟨D, 0, none⟩) 1 1)) (Value.slice none 0 0)) e_1.tabs)] := AP.keep [2, 0, 1] (by decide) _ rfl rfl
 have AR : Sep NoB w H [(row (Value.slice (some ⟨G, 0, none⟩) 2 2) 103 2 e_1.macs.length (o_7 (putV 1 (putV 0 (fun _ => Value.slice none 0 0) (Value.slice (some ⟨A, 0, none⟩) 2 2)) (Value.slice (some ⟨B, 0, none⟩) 1 1)) e_1.macs)), (slsR true 2 (putV 1 (putV 0 (fun _ => Value.slice none 0 0) (Value.slice (some ⟨A, 0, none⟩) 2 2)) (Value.slice (some ⟨B, 0, none⟩) 1 1)) 3 (blkN e_1.macs) (blkC e_1.macs)), (c_9 true (Value.slice (some ⟨F, 0, none⟩) 2 2) (putV 1 (putV 0 (fun _ => Value.slice none 0 0) (Value.slice (some ⟨C, 0, none⟩) 4 4)) (Value.slice (some ⟨E, 0, none⟩) 2 2)) (putV 1 (putV 0 (fun _ => Value.slice none 0 0) (Value.slice (some ⟨D, 0, none⟩) 1 1)) (Value.slice none 0 0)) e_1.tabs)] := AQ.g_7 (i := 0) rfl rfl (kept_macsC _ _).symm
 have AS : Sep NoB w H [(d_2 true (Value.slice (some ⟨G, 0, none⟩) 2 2) (putV 1 (putV 0 (fun _ => Value.slice none 0 0) (Value.slice (some ⟨A, 0, none⟩) 2 2)) (Value.slice (some ⟨B, 0, none⟩) 1 1)) e_1.macs), (c_9 true (Value.slice (some ⟨F, 0, none⟩) 2 2) (putV 1 (putV 0 (fun _ => Value.slice none 0 0) (Value.slice (some ⟨C, 0, none⟩) 4 4)) (Value.slice (some ⟨E, 0, none⟩) 2 2)) (putV 1 (putV 0 (fun _ => Value.slice none 0 0) (Value.slice (some ⟨D, 0, none⟩) 1 1)) (Value.slice none 0 0)) e_1.tabs)] := sep_macs_join AR
 have AT : Sep NoB w H [(c_9 true (Value.slice (some ⟨F, 0, none⟩) 2 2) (putV 1 (putV 0 (fun _ => Value.slice none 0 0) (Value.slice (some ⟨C, 0, none⟩) 4 4)) (Value.slice (some ⟨E, 0, none⟩) 2 2)) (putV 1 (putV 0 (fun _ => Value.slice none 0 0) (Value.slice (some ⟨D, 0, none⟩) 1 1)) (Value.slice none 0 0)) e_1.tabs), (d_2 true (Value.slice (some ⟨G, 0, none⟩) 2 2) (putV 1 (putV 0 (fun _ => Value.slice none 0 0) (Value.slice (some ⟨A, 0, none⟩) 2 2)) (Value.slice (some ⟨B, 0, none⟩) 1 1)) e_1.macs)] := AS.keep [1, 0] (by decide) _ rfl rfl
 exact ⟨_, _, _, _, _, rfl, AT⟩
end Go.Proofs.Ytohgladndklciaa

namespace Go.Proofs.Ytohgladndklciaa
open Go.RowKit Go.Shelf Go.Eng Go.Hard
theorem en_46 : ∀ args w, (callFunc 46 args).run Try.prog w = .ok (.enter 46 args) w := enters_of Try.func46 (by kernel_rfl) rfl
theorem en_33 : ∀ args w, (callFunc 33 args).run Try.prog w = .ok (.enter 33 args) w := enters_of Try.func33 (by kernel_rfl) rfl
theorem en_18 : ∀ args w, (callFunc 18 args).run Try.prog w = .ok (.enter 18 args) w := enters_of Try.func18 (by kernel_rfl) rfl
theorem ab_5 : ∀ args w, (callFunc 25 args).run Try.prog w = .ok (.enter 25 args) w := enters_of Try.func25 (by kernel_rfl) rfl
theorem awake_ok (w : World) :
  Calls Try.prog 17 #[] w (Ret fun v w' => v = .bool true ∧ Ext NoB w w') := by
 refine a_8 Try.func17 rfl fun a0 Z => ?_
 replace Z : Fr 71 [] [] a0 := Z
 have AS : Sep NoB w w [] := Sep.start _ _
 refine m2 ?_
 refine s1 Z (a_1 rfl (evc _ _)) fun a1 AR => ?_; clear Z a0
 refine n4 ?_
 refine s2 AR (a_6 rfl en_46 ev0 (kept_ok _)) ?_
 rintro a3 _ w5 ⟨vt6, vm7, lr8, lb9, lk10, rfl, AM⟩ r; have L := AS.l_5 AM rfl; clear AM AR AS a1
 refine s2 r (a_6 rfl en_33 (ev2 (r.ev rfl) (evc _ _)) (Bias_ok e_1 vt6 vm7 lr8 lb9 lk10 _ (b_6 (L.ok 0 _ rfl)) (b_8 (L.ok 1 _ rfl)) kept_thin 0)) ?_
 rintro AY _ BG ⟨rfl, y⟩ O; have AB := L.step y; clear y r L a3
 refine s1 O (a_0 rfl (O.ev rfl)) fun AZ P => ?_; clear O AY
 refine s1 P (c_3 rfl (P.ev rfl) rfl) fun Aa Q => ?_; clear P AZ
 refine s1 Q (c_3 rfl (Q.ev rfl) rfl) fun Ab n => ?_; clear Q Aa
 refine s2 n (e_4 AB rfl aa_2 (cs := [(Value.int .i64 0), (Value.int .i64 0)]) rfl) ?_
 rintro Ac _ BH ⟨B, rfl, AC⟩ H; clear n AB Ab
 refine s7 H (c_5 AC rfl g_5 (H.ev rfl) (H.ev rfl) (i := 0) rfl (vs := [(Value.int .i64 ((z_0 e_1 0).1)), (Value.int .i64 ((z_0 e_1 0).2))]) rfl rfl rfl (Nat.le_of_ble_eq_true rfl)) ?_
 intro _ A3 AD R; clear H
 have AE : Sep NoB w A3 [(blk B 30 [(Value.int .i64 ((z_0 e_1 0).1)), (Value.int .i64 ((z_0 e_1 0).2))]), (c_9 true vt6 lr8 lb9 e_1.tabs), (d_2 true vm7 lk10 e_1.macs)] := AD; clear AD AC
 refine s1 R (a_1 rfl (R.ev rfl)) fun Ad o => ?_; clear R Ac
 refine n2 ?_
 have p := o.as [(2, (Value.int .i64 (y_9 e_1 0))), (1, (bptr B 0))] rfl; clear o
 refine a_5 ?_
 refine s2 p (a_6 rfl en_46 ev0 (kept_ok _)) ?_
 rintro Ae _ BI ⟨vt39, vm40, lr41, lb42, lk43, rfl, AN⟩ q; have AF := AE.l_5 AN rfl; clear AN p AE Ad
 refine s2 q (a_6 rfl en_31 (ev2 (evc _ _) (evc _ _)) (n_0 _ _ _)) ?_
 rintro Af _ BJ ⟨rfl, z⟩ I; have M := AF.step z; clear z q AF Ae
 refine s2 I (a_6 rfl en_18 (ev3 (I.ev rfl) (evc _ _) (I.ev rfl)) (Convert_ok e_1 vt39 vm40 lr41 lb42 lk43 _ (b_6 (M.ok 0 _ rfl)) (b_8 (M.ok 1 _ rfl)) kept_thin 0 150 180)) ?_
 rintro Ag _ BK ⟨rfl, AA⟩ S; have AG := M.step AA; clear AA I M Af
 refine s1 S (a_0 rfl (S.ev rfl)) fun Ah T => ?_; clear S Ag
 refine s1 T (c_3 rfl (T.ev rfl) rfl) fun Ai U => ?_; clear T Ah
 refine s1 U (c_3 rfl (U.ev rfl) rfl) fun Aj s => ?_; clear U Ai
 refine s2 s (e_4 AG rfl aa_2 (cs := [(Value.int .i64 0), (Value.int .i64 0)]) rfl) ?_
 rintro Ak _ BL ⟨N, rfl, AH⟩ J; clear s AG Aj
 refine s7 J (c_5 AH rfl g_5 (J.ev rfl) (J.ev rfl) (i := 0) rfl (vs := [(Value.int .i64 ((z_9 e_1 0 (150, 180)).1)), (Value.int .i64 ((z_9 e_1 0 (150, 180)).2))]) rfl rfl rfl (Nat.le_of_ble_eq_true rfl)) ?_
 intro _ A4 AI V; clear J
 have AJ : Sep NoB w A4 [(blk N 30 [(Value.int .i64 ((z_9 e_1 0 (150, 180)).1)), (Value.int .i64 ((z_9 e_1 0 (150, 180)).2))]), (c_9 true vt39 lr41 lb42 e_1.tabs), (d_2 true vm40 lk43 e_1.macs), (blk B 30 [(Value.int .i64 ((z_0 e_1 0).1)), (Value.int .i64 ((z_0 e_1 0).2))]), (c_9 true vt6 lr8 lb9 e_1.tabs), (d_2 true vm7 lk10 e_1.macs)] := AI; clear AI AH
 refine s1 V (a_1 rfl (V.ev rfl)) fun Al t => ?_; clear V Ak
 refine n2 ?_
 have u := t.as [(4, (Value.int .i64 (z_4 e_1 0 (150, 180)))), (3, (bptr N 0)), (2, (Value.int .i64 (y_9 e_1 0))), (1, (bptr B 0))] rfl; clear t
 refine a_5 ?_
 refine s2 u (a_6 rfl en_46 ev0 (kept_ok _)) ?_
 rintro Am _ BM ⟨vt77, vm78, lr79, lb80, lk81, rfl, AO⟩ x; have AK := AJ.l_5 AO rfl; clear AO u AJ Al
 refine s1 x (e_7 rfl (pv2 (evc _ _) (evc _ _)) (bd_98_0i_1i _ _)) fun An W => ?_; clear x Am
 refine s2 W (g_4 AK rfl (pv1 (W.ev rfl)) p_0 z_2 ze_98 (by decide) (cs := [(Value.int .i64 0), (Value.int .i64 170)]) (r_0 _ _)) ?_
 rintro Ao _ BN ⟨As, rfl, C⟩ K; clear W AK An
 refine s2 K (a_6 rfl ab_5 (ev2 (K.ev rfl) (K.ev rfl)) (s_3 e_1 vt77 vm78 lr79 lb80 lk81 _ (b_6 (C.ok 1 _ rfl)) (b_8 (C.ok 2 _ rfl)) kept_thin ([(0, 170)]) _ (SlAt.of_blk (C.bk 0 rfl) rfl (Nat.le_of_ble_eq_true rfl)) (by decide) ([(161, 164), (259, 266), (83, 87)]) kept_read kept_spans)) ?_
 rintro Ap _ A5 ⟨A, rfl, AP⟩ X
 have AL : Sep NoB w A5 [(row A 30 2 ([(161, 164), (259, 266), (83, 87)].length) (pairs ([(161, 164), (259, 266), (83, 87)]))), (blk As 98 [(Value.int .i64 0), (Value.int .i64 170)]), (c_9 true vt77 lr79 lb80 e_1.tabs), (d_2 true vm78 lk81 e_1.macs), (blk N 30 [(Value.int .i64 ((z_9 e_1 0 (150, 180)).1)), (Value.int .i64 ((z_9 e_1 0 (150, 180)).2))]), (c_9 true vt39 lr41 lb42 e_1.tabs), (d_2 true vm40 lk43 e_1.macs), (blk B 30 [(Value.int .i64 ((z_0 e_1 0).1)), (Value.int .i64 ((z_0 e_1 0).2))]), (c_9 true vt6 lr8 lb9 e_1.tabs), (d_2 true vm7 lk10 e_1.macs)] := C.l_5 AP rfl; clear AP K C Ao
 refine s1 X (a_0 rfl (X.ev rfl)) fun Aq Y => ?_; clear X Ap
 refine s1 Y (c_3 rfl (Y.ev rfl) rfl) fun Ar D => ?_; clear Y Aq
 refine s1 D (c_3 rfl (D.ev rfl) rfl) fun AT E => ?_; clear D Ar
 refine s1 E (a_1 rfl (E.ev rfl)) fun AU F => ?_; clear E AT
 refine s1 F (a_1 rfl (F.ev rfl)) fun A7 b => ?_; clear F AU
 refine n2 ?_
 have c := b.as [(6, (Value.int .i64 0)), (5, A), (4, (Value.int .i64 (z_4 e_1 0 (150, 180)))), (3, (bptr N 0)), (2, (Value.int .i64 (y_9 e_1 0))), (1, (bptr B 0))] rfl; clear b
 have d := c.as [(6, (Value.int .i64 0)), (5, A), (4, (Value.int .i64 (z_4 e_1 0 (150, 180)))), (3, (bptr N 0)), (2, (Value.int .i64 (y_9 e_1 0))), (1, (bptr B 0))] rfl; clear c
 refine g_6 mixed d AL 46 [[], [0], [1], [2], [2], [2, 3, 4], [2, 5], [6], [7], [7, 8], [7, 9], [10], [11], [11], [11, 12, 13], [11, 14], [15], [16], [16, 17], [16, 18], [19], [20], [20, 21], [20, 22], [20, 23], [24], [25], [25, 26], [25, 27], [25], [25, 28, 29], [25, 30], [31], [32], [32, 33], [32, 34], [32], [32, 35, 36], [32, 37], [38], [39], [39, 40], [39, 41], [39], [39, 42, 43], [39, 44]] [(Yd.val (Value.int .i64 (y_9 e_1 0))), (Yd.val (Value.bool true)), (Yd.val (Value.bool true)), (Yd.val (Value.agg #[(Value.int .i64 ((z_0 e_1 0).1)), (Value.int .i64 ((z_0 e_1 0).2))])), (Yd.val (Value.agg #[(Value.int .i64 6), (Value.int .i64 9)])), (Yd.val (Value.bool true)), (Yd.val (Value.bool true)), (Yd.val (Value.bool true)), (Yd.val (Value.int .i64 (z_4 e_1 0 (150, 180)))), (Yd.val (Value.bool true)), (Yd.val (Value.bool true)), (Yd.val (Value.bool true)), (Yd.val (Value.agg #[(Value.int .i64 ((z_9 e_1 0 (150, 180)).1)), (Value.int .i64 ((z_9 e_1 0 (150, 180)).2))])), (Yd.val (Value.agg #[(Value.int .i64 248), (Value.int .i64 282)])), (Yd.val (Value.bool true)), (Yd.val (Value.bool true)), (Yd.val (Value.bool true)), (Yd.val (Value.int .i64 0)), (Yd.val (Value.bool true)), (Yd.val (Value.bool true)), (Yd.val (Value.bool true)), (Yd.val A), (Yd.val (Value.int .i64 ([(161, 164), (259, 266), (83, 87)].length : Int))), (Yd.val (Value.bool true)), (Yd.val (Value.bool true)), (Yd.val (Value.bool true)), (Yd.val A), (Yd.val (eptr A (0 * 2))), (Yd.val (Value.agg #[(Value.int .i64 ((([(161, 164), (259, 266), (83, 87)]).getD 0 (0, 0)).1)), (Value.int .i64 ((([(161, 164), (259, 266), (83, 87)]).getD 0 (0, 0)).2))])), (Yd.val (Value.agg #[(Value.int .i64 161), (Value.int .i64 164)])), (Yd.val (Value.bool true)), (Yd.val (Value.bool true)), (Yd.val (Value.bool true)), (Yd.val A), (Yd.val (eptr A (1 * 2))), (Yd.val (Value.agg #[(Value.int .i64 ((([(161, 164), (259, 266), (83, 87)]).getD 1 (0, 0)).1)), (Value.int .i64 ((([(161, 164), (259, 266), (83, 87)]).getD 1 (0, 0)).2))])), (Yd.val (Value.agg #[(Value.int .i64 259), (Value.int .i64 266)])), (Yd.val (Value.bool true)), (Yd.val (Value.bool true)), (Yd.val (Value.bool true)), (Yd.val A), (Yd.val (eptr A (2 * 2))), (Yd.val (Value.agg #[(Value.int .i64 ((([(161, 164), (259, 266), (83, 87)]).getD 2 (0, 0)).1)), (Value.int .i64 ((([(161, 164), (259, 266), (83, 87)]).getD 2 (0, 0)).2))])), (Yd.val (Value.agg #[(Value.int .i64 83), (Value.int .i64 87)])), (Yd.val (Value.bool true)), (Yd.val (Value.bool true))] (by decide +kernel) rfl rfl ?_ ?_
 ·skip
  refine dq (fun a w hA hS hd => a_0 rfl (hA.ev rfl)) ?_
  refine ⟨fun a w hA hS hd => by have e0 := hx hd 0; exact d_9 rfl (dv (j_8 rfl (b_9 e0) (evc _ _)) hS (by show Value.bool _ = _; simp only [decide_eq_true (show (y_9 e_1 0) = 0 from (by decide)), decide_true, decide_false, Bool.not_true, Bool.not_false])), ?_⟩
  refine dq (fun a w hA hS hd => a_0 rfl (hq hd 1)) ?_
  refine dy 2 (fun a w hA hS hd => c_4 rfl g_5 (hA.ev rfl) (hS.bk 7 rfl) (l := [(Value.int .i64 ((z_0 e_1 0).1)), (Value.int .i64 ((z_0 e_1 0).2))]) rfl rfl) ?_
  refine ⟨fun a w hA hS hd => by have e2 := hx hd 2; exact f_1 rfl rfl e2 (dx (a_6 rfl en_31 (ev2 (evc _ _) (evc _ _)) (n_0 _ _ _)) hS (fun _ => rfl)), ?_⟩
  refine ⟨fun a w hA hS hd => by have e2 := hx hd 2; have e3 := hx hd 3; have e4 := hx hd 4; exact f_1 rfl rfl e2 (dv (op_eqlP tw_30 rfl (b_9 e3) (b_9 e4)) hS (by show Value.bool _ = _; simp only [(show (decide ((((z_0 e_1 0).1) : Int) = 6) && decide ((((z_0 e_1 0).2) : Int) = 9)) = true from (by decide)), decide_true, decide_false, Bool.not_true, Bool.not_false])), ?_⟩
  refine dq (fun a w hA hS hd => b_3 rfl (hq hd 2) (hq hd 5)) ?_
  refine dq (fun a w hA hS hd => a_0 rfl (hq hd 6)) ?_
  refine dy 7 (fun a w hA hS hd => a_0 rfl (hA.ev rfl)) ?_
  refine ⟨fun a w hA hS hd => by have e7 := hx hd 7; have e8 := hx hd 8; exact f_1 rfl rfl e7 (dv (j_8 rfl (b_9 e8) (evc _ _)) hS (by show Value.bool _ = _; simp only [decide_eq_true (show (z_4 e_1 0 (150, 180)) = 0 from (by decide)), decide_true, decide_false, Bool.not_true, Bool.not_false])), ?_⟩
  refine dq (fun a w hA hS hd => b_3 rfl (hq hd 7) (hq hd 9)) ?_
  refine dq (fun a w hA hS hd => a_0 rfl (hq hd 10)) ?_
  refine dy 11 (fun a w hA hS hd => c_4 rfl g_5 (hA.ev rfl) (hS.bk 4 rfl) (l := [(Value.int .i64 ((z_9 e_1 0 (150, 180)).1)), (Value.int .i64 ((z_9 e_1 0 (150, 180)).2))]) rfl rfl) ?_
  refine ⟨fun a w hA hS hd => by have h := hx hd 11; exact f_1 rfl rfl h (dx (a_6 rfl en_31 (ev2 (evc _ _) (evc _ _)) (n_0 _ _ _)) hS (fun _ => rfl)), ?_⟩
  refine ⟨fun a w hA hS hd => by have h := hx hd 11; have At := hx hd 12; have Au := hx hd 13; exact f_1 rfl rfl h (dv (op_eqlP tw_30 rfl (b_9 At) (b_9 Au)) hS (by show Value.bool _ = _; simp only [(show (decide ((((z_9 e_1 0 (150, 180)).1) : Int) = 248) && decide ((((z_9 e_1 0 (150, 180)).2) : Int) = 282)) = true from (by decide)), decide_true, decide_false, Bool.not_true, Bool.not_false])), ?_⟩
  refine dq (fun a w hA hS hd => b_3 rfl (hq hd 11) (hq hd 14)) ?_
  refine dq (fun a w hA hS hd => a_0 rfl (hq hd 15)) ?_
  refine dy 16 (fun a w hA hS hd => a_0 rfl (hA.ev rfl)) ?_
  refine dy 16 (fun a w hA hS hd => j_8 rfl (hq hd 17) (evc _ _)) ?_
  refine dq (fun a w hA hS hd => b_3 rfl (hq hd 16) (hq hd 18)) ?_
  refine dq (fun a w hA hS hd => a_0 rfl (hq hd 19)) ?_
  refine dy 20 (fun a w hA hS hd => a_0 rfl (hA.ev rfl)) ?_
  refine dy 20 (fun a w hA hS hd => c_0 rfl un_50 (hq hd 21) (SlAt.d_4 (hS.d_7 0 rfl))) ?_
  refine ⟨fun a w hA hS hd => by have Av := hx hd 20; have Aw := hx hd 22; exact f_1 rfl rfl Av (dv (j_8 rfl (b_9 Aw) (evc _ _)) hS (by show Value.bool _ = _; simp only [decide_eq_true (show ([(161, 164), (259, 266), (83, 87)].length : Int) = 3 from (by decide)), decide_true, decide_false, Bool.not_true, Bool.not_false])), ?_⟩
  refine dq (fun a w hA hS hd => b_3 rfl (hq hd 20) (hq hd 23)) ?_
  refine dq (fun a w hA hS hd => a_0 rfl (hq hd 24)) ?_
  refine dy 25 (fun a w hA hS hd => a_0 rfl (hA.ev rfl)) ?_
  refine dy 25 (fun a w hA hS hd => b_2 rfl un_50 g_5 (hq hd 26) (i := 0) (show _ = Value.int .i64 ((0 : Nat) : Int) from (evc _ _)) (SlAt.d_4 (hS.d_7 0 rfl)) (by decide) (by decide)) ?_
  refine dy 25 (fun a w hA hS hd => f_2 rfl g_5 (hq hd 27) (SlAt.d_4 (hS.d_7 0 rfl)) (i_3 (by decide)) rfl (by decide)) ?_
  refine ⟨fun a w hA hS hd => by have j := hx hd 25; exact f_1 rfl rfl j (dx (a_6 rfl en_31 (ev2 (evc _ _) (evc _ _)) (n_0 _ _ _)) hS (fun _ => rfl)), ?_⟩
  refine ⟨fun a w hA hS hd => by have j := hx hd 25; have Ax := hx hd 28; have Ay := hx hd 29; exact f_1 rfl rfl j (dv (op_eqlP tw_30 rfl (b_9 Ax) (b_9 Ay)) hS (by show Value.bool _ = _; simp only [(show (decide ((((([(161, 164), (259, 266), (83, 87)]).getD 0 (0, 0)).1) : Int) = 161) && decide ((((([(161, 164), (259, 266), (83, 87)]).getD 0 (0, 0)).2) : Int) = 164)) = true from (by decide)), decide_true, decide_false, Bool.not_true, Bool.not_false])), ?_⟩
  refine dq (fun a w hA hS hd => b_3 rfl (hq hd 25) (hq hd 30)) ?_
  refine dq (fun a w hA hS hd => a_0 rfl (hq hd 31)) ?_
  refine dy 32 (fun a w hA hS hd => a_0 rfl (hA.ev rfl)) ?_
  refine dy 32 (fun a w hA hS hd => b_2 rfl un_50 g_5 (hq hd 33) (i := 1) (show _ = Value.int .i64 ((1 : Nat) : Int) from (evc _ _)) (SlAt.d_4 (hS.d_7 0 rfl)) (by decide) (by decide)) ?_
  refine dy 32 (fun a w hA hS hd => f_2 rfl g_5 (hq hd 34) (SlAt.d_4 (hS.d_7 0 rfl)) (i_3 (by decide)) rfl (by decide)) ?_
  refine ⟨fun a w hA hS hd => by have k := hx hd 32; exact f_1 rfl rfl k (dx (a_6 rfl en_31 (ev2 (evc _ _) (evc _ _)) (n_0 _ _ _)) hS (fun _ => rfl)), ?_⟩
  refine ⟨fun a w hA hS hd => by have k := hx hd 32; have Az := hx hd 35; have A0 := hx hd 36; exact f_1 rfl rfl k (dv (op_eqlP tw_30 rfl (b_9 Az) (b_9 A0)) hS (by show Value.bool _ = _; simp only [(show (decide ((((([(161, 164), (259, 266), (83, 87)]).getD 1 (0, 0)).1) : Int) = 259) && decide ((((([(161, 164), (259, 266), (83, 87)]).getD 1 (0, 0)).2) : Int) = 266)) = true from (by decide)), decide_true, decide_false, Bool.not_true, Bool.not_false])), ?_⟩
  refine dq (fun a w hA hS hd => b_3 rfl (hq hd 32) (hq hd 37)) ?_
  refine dq (fun a w hA hS hd => a_0 rfl (hq hd 38)) ?_
  refine dy 39 (fun a w hA hS hd => a_0 rfl (hA.ev rfl)) ?_
  refine dy 39 (fun a w hA hS hd => b_2 rfl un_50 g_5 (hq hd 40) (i := 2) (show _ = Value.int .i64 ((2 : Nat) : Int) from (evc _ _)) (SlAt.d_4 (hS.d_7 0 rfl)) (by decide) (by decide)) ?_
  refine dy 39 (fun a w hA hS hd => f_2 rfl g_5 (hq hd 41) (SlAt.d_4 (hS.d_7 0 rfl)) (i_3 (by decide)) rfl (by decide)) ?_
  refine ⟨fun a w hA hS hd => by have m := hx hd 39; exact f_1 rfl rfl m (dx (a_6 rfl en_31 (ev2 (evc _ _) (evc _ _)) (n_0 _ _ _)) hS (fun _ => rfl)), ?_⟩
  refine ⟨fun a w hA hS hd => by have m := hx hd 39; have A1 := hx hd 42; have A2 := hx hd 43; exact f_1 rfl rfl m (dv (op_eqlP tw_30 rfl (b_9 A1) (b_9 A2)) hS (by show Value.bool _ = _; simp only [(show (decide ((((([(161, 164), (259, 266), (83, 87)]).getD 2 (0, 0)).1) : Int) = 83) && decide ((((([(161, 164), (259, 266), (83, 87)]).getD 2 (0, 0)).2) : Int) = 87)) = true from (by decide)), decide_true, decide_false, Bool.not_true, Bool.not_false])), ?_⟩
  refine dq (fun a w hA hS hd => b_3 rfl (hq hd 39) (hq hd 44)) ?_
  trivial
 intro AV BF e AQ g; clear d AL
 have G := e.add (hz g 45); clear e
 clear g
 refine s1 G (a_1 rfl (G.ev rfl)) fun A8 f => ?_; clear G AV
 refine n1 ?_
 refine c_8 ?_
 refine a_9 f (.inl rfl) (a_2 f rfl (.tmp rfl)) ?_
 exact ⟨rfl, AQ.ext⟩
end Go.Proofs.Ytohgladndklciaa

namespace Go.Proofs.Ytohgladndklciaa
open Go.RowKit Go.Shelf Go.Eng Go.Hard
theorem en_16 : ∀ args w, (callFunc 16 args).run Try.prog w = .ok (.enter 16 args) w := enters_of Try.func16 (by kernel_rfl) rfl
theorem en_17 : ∀ args w, (callFunc 17 args).run Try.prog w = .ok (.enter 17 args) w := enters_of Try.func17 (by kernel_rfl) rfl
theorem aa_0 : ∀ args w, (callFunc 19 args).run Try.prog w = .ok (.enter 19 args) w := enters_of Try.func19 (by kernel_rfl) rfl
theorem aa_1 : ∀ args w, (callFunc 26 args).run Try.prog w = .ok (.enter 26 args) w := enters_of Try.func26 (by kernel_rfl) rfl
theorem en_27 : ∀ args w, (callFunc 27 args).run Try.prog w = .ok (.enter 27 args) w := enters_of Try.func27 (by kernel_rfl) rfl
theorem en_29 : ∀ args w, (callFunc 29 args).run Try.prog w = .ok (.enter 29 args) w := enters_of Try.func29 (by kernel_rfl) rfl
theorem ab_7 : tyK Try.prog 53 = some (false, 1) := by kernel_rfl
theorem en_74 : ∀ args w, (callFunc 74 args).run Try.prog w = .ok (.enter 74 args) w := enters_of Try.func74 (by kernel_rfl) rfl
theorem ty_116 : tyK Try.prog 116 = some (false, 1) := by kernel_rfl
theorem ty_134 : tyK Try.prog 134 = some (false, 1) := by kernel_rfl
theorem en_75 : ∀ args w, (callFunc 75 args).run Try.prog w = .ok (.enter 75 args) w := enters_of Try.func75 (by kernel_rfl) rfl
theorem en_73 : ∀ args w, (callFunc 73 args).run Try.prog w = .ok (.enter 73 args) w := enters_of Try.func73 (by kernel_rfl) rfl
theorem ze_116 : (Try.prog.info? 116).bind (·.zero) = some (Value.pointer none) := by kernel_rfl
theorem ze_44 : (Try.prog.info? 44).bind (·.zero) = some (Value.slice none 0 0) := by kernel_rfl
theorem ze_134 : (Try.prog.info? 134).bind (·.zero) = some Value.nilFunc := by kernel_rfl
theorem ze_67 : (Try.prog.info? 67).bind (·.zero) = some (Value.agg #[(Value.int .i64 0), (Value.int .i64 0)]) := by kernel_rfl
theorem bs_67_1_0iia (x0_0 : Int) (x0_1 : Int) : Instr.fill (fun i => some (i * 2, 2)) ((Array.range (1 * 2)).map ((Value.agg #[(Value.int .i64 0), (Value.int .i64 0)]).cells[· % (Value.agg #[(Value.int .i64 0), (Value.int .i64 0)]).cells.size]!)) [(0, .agg #[(.int .i64 x0_0), (.int .i64 x0_1)])] = some (([(.int .i64 x0_0), (.int .i64 x0_1)] : List Value).toArray) := by kernel_rfl
theorem el_67 : elK Try.prog 67 = some ((Value.agg #[(Value.int .i64 0), (Value.int .i64 0)]), 2, 16) := by kernel_rfl
theorem en_41 : ∀ args w, (callFunc 41 args).run Try.prog w = .ok (.enter 41 args) w := enters_of Try.func41 (by kernel_rfl) rfl
theorem ab_9 : ∀ args w, (callFunc 43 args).run Try.prog w = .ok (.enter 43 args) w := enters_of Try.func43 (by kernel_rfl) rfl
end Go.Proofs.Ytohgladndklciaa

namespace Go.Hard
def p_2 (b : h_0) (l : List (Int × Int)) : Bool := ac_0 b l.length && decide (n_5 b l = 0)
theorem ready_is {b : h_0} {l : List (Int × Int)} (h : p_2 b l = true) : o_0 b ∧ l.length ≤ 12 ∧ n_5 b l = 0 := by
  unfold p_2 at h
  rw [Bool.and_eq_true, decide_eq_true_eq, thin_iff] at h
  exact ⟨h.1.1, h.1.2, h.2⟩
section
variable {s t : h_2} {e f : Int} {k : Nat}
end
section
variable {b : h_0} {l : List (Int × Int)} {k j : Nat}
theorem start_free (hb : l_3 b) (hl : t_6 b l) (hk : k < b.scales.toNat) (h : ∀ i, i < l.length → (b.macs.getD (l.getD i (0, 0)).1.toNat mac0).scale ≠ (k : Int)) : ∀ j, j ≤ l.length → at' (d_5 b l e_9 j) k = rng0
  | 0, _ => by
    have := hb.four
    have : k < 4 := by omega
    match k, this with
    | 0, _ => rfl
    | 1, _ => rfl
    | 2, _ => rfl
    | 3, _ => rfl
  | j + 1, hj => by
    have ih := start_free hb hl hk h j (by omega)
    have hs := u_6 b l e_9 j
    have h4 : e_9.length = 4 := rfl
    have hsc := (hl.macV hb (k := j) (by omega)).scale
    have hne := h j (by omega)
    have hn := hb.four
    have hlt := scale_lt hb hl (k := j) (by omega)
    rw [startU_succ, at_set (by omega), if_neg]
    · exact ih
    · unfold o_4; omega
variable {i : Nat}
end
end Go.Hard

namespace Go.Proofs.Ytohgladndklciaa
open Go.RowKit Go.Shelf Go.Eng Go.Hard
theorem ready_ok (b : h_0) (vt vm : Value) (lr lb lk : Nat → Value) (w : World) (hT : j_6 w vt lr lb b.tabs) (hM : k_4 w vm lk b.macs) (l : List (Int × Int)) (xl : Value) (hxl : SlAt w xl 2 l.length (pairs l)) :
  Calls Try.prog 29 #[(Value.agg #[(Value.int .i64 b.scales), vt, vm]), xl] w (Ret fun v w' => v = .bool (p_2 b l) ∧ Ext NoB w w') := by
 refine a_8 Try.func29 rfl fun c H => ?_
 replace H : Fr 14 [] [(0, (Value.agg #[(Value.int .i64 b.scales), vt, vm])), (1, xl)] c := H
 have Z : Sep NoB w w [(c_9 false vt lr lb b.tabs), (d_2 false vm lk b.macs), (sl xl 2 l.length (pairs l))] := f_0 ⟨rfl, hT, rfl, hM, rfl, hxl, trivial⟩
 refine m2 ?_
 refine s2 H (f_3 Z rfl (H.ev rfl) (cs := [(Value.int .i64 b.scales), vt, vm]) rfl) ?_
 rintro q _ w3 ⟨z, rfl, C⟩ Y; clear H Z c
 refine s1 Y (a_1 rfl (evc _ _)) fun r T => ?_; clear Y q
 refine n4 ?_
 refine s1 T (c_4 rfl r_4 (T.ev rfl) (C.bk 0 rfl) (l := [(Value.int .i64 b.scales), vt, vm]) rfl rfl) fun s U => ?_; clear T r
 refine s1 U (a_0 rfl (U.ev rfl)) fun d D => ?_; clear U s
 refine s2 D (a_6 rfl en_16 (ev2 (D.ev rfl) (D.ev rfl)) (thin_ok b vt vm lr lb lk _ (b_6 (C.ok 1 _ rfl)) (b_8 (C.ok 2 _ rfl)) l _ (C.sk 3 rfl))) ?_
 rintro e _ x ⟨rfl, V⟩ I; have B := C.step V; clear V D C d
 refine s1 I (a_0 rfl (I.ev rfl)) fun X A => ?_; clear I e
 rcases Bool.eq_false_or_eq_true ((ac_0 b l.length)) with G | G
 ·skip
  rw [G] at A
  have hthl := thin_iff.1 G; have hth := hthl.1
  refine s5 A (c_4 rfl r_4 (A.ev rfl) (B.bk 0 rfl) (l := [(Value.int .i64 b.scales), vt, vm]) rfl rfl) fun f J => ?_; clear A X
  refine s5 J (a_0 rfl (J.ev rfl)) fun g E => ?_; clear J f
  refine s6 E (a_6 rfl en_27 (ev2 (E.ev rfl) (E.ev rfl)) (fault_ok b vt vm lr lb lk _ (b_6 (B.ok 1 _ rfl)) (b_8 (B.ok 2 _ rfl)) hth l _ (B.sk 3 rfl) (by omega))) ?_
  rintro h _ y ⟨rfl, W⟩ K; have a := B.step W; clear W E B g
  refine s5 K (j_8 rfl (K.ev rfl) (evc _ _)) fun i F => ?_; clear K h
  refine s1 F (b_3 rfl (F.ev rfl) (F.ev rfl)) fun j L => ?_; clear F i
  refine s1 L (a_1 rfl (L.ev rfl)) fun t O => ?_; clear L j
  refine n1 ?_
  refine c_8 ?_
  refine a_9 O (.inl rfl) (a_2 O rfl (.tmp rfl)) ?_
  exact ⟨congrArg Value.bool (by unfold p_2; simp [*]), a.ext⟩
 skip
 rw [G] at A
 refine s3 A fun k P => ?_; clear A X
 refine s3 P fun m Q => ?_; clear P k
 refine s3 Q fun n R => ?_; clear Q m
 refine s3 R fun o M => ?_; clear R n
 refine s1 M (c_2 rfl (M.ev rfl) (evc _ _)) fun p N => ?_; clear M o
 refine s1 N (a_1 rfl (N.ev rfl)) fun u S => ?_; clear N p
 refine n1 ?_
 refine c_8 ?_
 refine a_9 S (.inl rfl) (a_2 S rfl (.tmp rfl)) ?_
 exact ⟨congrArg Value.bool (by unfold p_2; simp [*]), B.ext⟩
end Go.Proofs.Ytohgladndklciaa

namespace Go.Hard
section
variable {b : h_0} {l : List (Int × Int)} {z : List Int} {t : TabD} {k : Nat}
end
end Go.Hard

namespace Go.Hard
def m_8 (nb : Nat) : Nat → List Int → Nat → List (List Int)
  | 0, l, _ => [l]
  | m + 1, l, next => (List.range' next (nb - next)).flatMap fun (k : Nat) => m_8 nb m (l ++ [(k : Int)]) (k + 1)
theorem setsF_each (nb : Nat) : ∀ (m : Nat) (l : List Int) (next : Nat) (z : List Int), z ∈ m_8 nb m l next → ∃ ys, z = l ++ ys ∧ ys.length = m ∧ (∀ y ∈ ys, (next : Int) ≤ y ∧ y ≤ (nb : Int) - 1) ∧ ys.Pairwise (· < ·)
  | 0, l, next, z, h => by
    rw [m_8, List.mem_singleton] at h
    exact ⟨[], by rw [h, List.append_nil], rfl, by simp, List.Pairwise.nil⟩
  | m + 1, l, next, z, h => by
    rw [m_8, List.mem_flatMap] at h
    obtain ⟨k, hk, hz⟩ := h
    rw [List.mem_range'_1] at hk
    obtain ⟨ys, e, hl, hb, hp⟩ := setsF_each nb m (l ++ [(k : Int)]) (k + 1) z hz
    refine ⟨(k : Int) :: ys, by rw [e, List.append_assoc]; rfl, by simp [hl], fun y hy => ?_, List.pairwise_cons.2 ⟨fun y hy => by have := hb y hy; omega, hp⟩⟩
    rcases List.mem_cons.1 hy with rfl | hy
    · omega
    · have := hb y hy; omega
theorem setsF_mem (nb : Nat) : ∀ (ys l : List Int) (next : Nat), (∀ y ∈ ys, (next : Int) ≤ y ∧ y ≤ (nb : Int) - 1) → ys.Pairwise (· < ·) → l ++ ys ∈ m_8 nb ys.length l next
  | [], l, next, _, _ => by simp [m_8]
  | y :: ys, l, next, hb, hp => by
    have hy := hb y (List.mem_cons_self ..)
    rw [List.length_cons, m_8, List.mem_flatMap]
    refine ⟨y.toNat, List.mem_range'_1.2 ⟨by omega, by omega⟩, ?_⟩
    have e : ((y.toNat : Nat) : Int) = y := by omega
    rw [e]
    have := setsF_mem nb ys (l ++ [y]) (y.toNat + 1) (fun z hz => by
      have h1 := (List.pairwise_cons.1 hp).1 z hz
      have h2 := hb z (List.mem_cons_of_mem _ hz)
      omega) (List.pairwise_cons.1 hp).2
    rwa [List.append_assoc] at this
def hasB (l : List Int) (k : Int) : Bool := (List.range l.length).any fun i => decide (k = l.getD i 0)
theorem s_6 {l : List Int} {k : Int} : hasB l k = true ↔ k ∈ l := by
  unfold hasB
  rw [List.any_eq_true]
  constructor
  · rintro ⟨i, hi, h⟩
    rw [List.mem_range] at hi
    rw [of_decide_eq_true h]
    simp only [List.getD, List.getElem?_eq_getElem hi, Option.getD_some]
    exact List.getElem_mem hi
  · intro h
    obtain ⟨i, hi, e⟩ := List.getElem_of_mem h
    exact ⟨i, List.mem_range.2 hi, decide_eq_true (by simp [List.getD, hi, e])⟩
theorem find_app {p : List Int → Bool} : ∀ {x y : List (List Int)}, x.any p = false → (x ++ y).find? p = y.find? p
  | [], _, _ => rfl
  | a :: x, y, h => by
    simp only [List.any_cons, Bool.or_eq_false_iff] at h
    rw [List.cons_append, List.find?_cons, h.1]
    exact find_app h.2
theorem find_app2 {p : List Int → Bool} {z : List Int} : ∀ {x y : List (List Int)}, x.find? p = some z → (x ++ y).find? p = some z
  | [], _, h => by cases h
  | a :: x, y, h => by
    rw [List.cons_append, List.find?_cons]
    rw [List.find?_cons] at h
    split <;> rename_i hp
    · rw [hp] at h; exact h
    · rw [hp] at h; exact find_app2 h
def o_1 (nb k : Nat) : List (List Int) := (List.range k).flatMap fun m => m_8 nb m [] 0
theorem v_0 (nb k : Nat) : o_1 nb (k + 1) = o_1 nb k ++ m_8 nb k [] 0 := by
  unfold o_1; rw [List.range_succ, List.flatMap_append]; simp
theorem allUpto_pre (nb k : Nat) : ∀ n, ∃ rest, o_1 nb (k + n) = o_1 nb k ++ rest
  | 0 => ⟨[], by simp⟩
  | n + 1 => by
    obtain ⟨rest, e⟩ := allUpto_pre nb k n
    exact ⟨rest ++ m_8 nb (k + n) [] 0, by rw [← Nat.add_assoc, v_0, e, List.append_assoc]⟩
def numsF (n : Nat) : List Int := (List.range n).map fun (i : Nat) => (i : Int)
theorem nums_sets (n : Nat) : numsF n ∈ m_8 n n [] 0 := by
  have h := setsF_mem n (numsF n) [] 0 (fun y hy => by
    obtain ⟨i, hi, rfl⟩ := List.mem_map.1 hy
    rw [List.mem_range] at hi; omega) (by
    unfold numsF; rw [List.pairwise_map]
    exact List.pairwise_lt_range.imp (fun h => by omega))
  have e : (numsF n).length = n := by simp [numsF]
  rwa [e, List.nil_append] at h
def ab_0 (l : List Int) (k : Nat) : List Nat := (List.range k).filter fun (i : Nat) => !hasB l (i : Int)
def woU (l : List Int) (k j : Nat) : Bool := !((List.range j).any fun q => decide ((k : Int) = l.getD q 0))
theorem woU_succ (l : List Int) (k j : Nat) : woU l k (j + 1) = (woU l k j && !decide ((k : Int) = l.getD j 0)) := by
  unfold woU; rw [List.range_succ, List.any_append]; simp
theorem woU_f1 {l : List Int} {k j : Nat} (h : woU l k j = false) : woU l k (j + 1) = false := by rw [woU_succ, h]; rfl
theorem woU_t2 {l : List Int} {k j : Nat} (h : woU l k j = true) : woU l k (j + 1) = !decide (l.getD j 0 = (k : Int)) := by
  rw [woU_succ, h, Bool.true_and]
  congr 1
  exact decide_eq_decide.2 ⟨Eq.symm, Eq.symm⟩
theorem woU_all {l : List Int} {k j : Nat} (h : j = l.length) : woU l k j = !hasB l (k : Int) := by subst h; rfl
theorem woSel_y {l : List Int} {k j : Nat} (hj : j = l.length) (h : woU l k j = true) : ab_0 l (k + 1) = ab_0 l k ++ [k] := by
  rw [woU_all hj] at h
  unfold ab_0; rw [List.range_succ, List.filter_append, List.filter_cons, if_pos h]; rfl
theorem woSel_n {l : List Int} {k j : Nat} (hj : j = l.length) (h : woU l k j = false) : ab_0 l (k + 1) = ab_0 l k := by
  rw [woU_all hj] at h
  unfold ab_0; rw [List.range_succ, List.filter_append, List.filter_cons, if_neg (by rw [h]; decide)]; simp
theorem woSel_lt {l : List Int} {k i : Nat} (h : i ∈ ab_0 l k) : i < k := List.mem_range.1 (List.mem_filter.1 h).1
theorem woSel_len (l : List Int) (k : Nat) : (ab_0 l k).length ≤ k := by unfold ab_0; exact Nat.le_trans (List.length_filter_le ..) (by simp)
theorem getD_memN {sel : List Nat} {i : Nat} (h : i < sel.length) : sel.getD i 0 ∈ sel := by
  simp only [List.getD, List.getElem?_eq_getElem h, Option.getD_some]; exact List.getElem_mem h
def inSel (l : List Int) (n : Nat) : List Int := ((List.range n).filter fun (i : Nat) => hasB l (i : Int)).map fun (i : Nat) => (i : Int)
theorem filter_both (p : Nat → Bool) (n : Nat) : ((List.range n).filter p).length + ((List.range n).filter fun i => !p i).length = n := by
  induction n with
  | zero => rfl
  | succ n ih =>
    rw [List.range_succ, List.filter_append, List.filter_append, List.length_append, List.length_append]
    cases hb : p n <;> simp [hb] <;> omega
def d_6 (l : List (Int × Int)) (s : List Int) (k : Nat) : List (Int × Int) := (ab_0 s k).map fun i => l.getD i (0, 0)
def woF (l : List (Int × Int)) (s : List Int) : List (Int × Int) := d_6 l s l.length
def okS (b : h_0) (l : List (Int × Int)) (s : List Int) : Bool := (i_7 b (woF l s)).isSome
def i_2 (n : Nat) (p : List Int → Bool) (m : Nat) (s : List Int) (next : Nat) : Bool := (m_8 n m s next).any p
def c_1 (b : h_0) (l : List (Int × Int)) : List Int := ((o_1 l.length (l.length + 1)).find? (okS b l)).getD []
section
variable {n m next k : Nat} {p : List Int → Bool} {s : List Int} {l : List (Int × Int)} {b : h_0}
theorem sets_step (n m : Nat) (s : List Int) (next : Nat) (h : next < n) : m_8 n (m + 1) s next = m_8 n m (s ++ [(next : Int)]) (next + 1) ++ m_8 n (m + 1) s (next + 1) := by
  rw [m_8, m_8, show n - next = (n - (next + 1)) + 1 by omega, List.range'_succ, List.flatMap_cons]
theorem sets_none : ∀ (m : Nat) (s : List Int) (next : Nat), n < next + (m + 1) → m_8 n (m + 1) s next = []
  | 0, s, next, h => by rw [m_8, show n - next = 0 by omega]; rfl
  | m + 1, s, next, h => by
    rw [m_8, List.flatMap_eq_nil_iff]
    intro k hk
    rw [List.mem_range'_1] at hk
    exact sets_none m _ _ (by omega)
theorem lv_0 : i_2 n p 0 s next = p s := by simp [i_2, m_8]
theorem lv_f0 (h : p s = true) : (m_8 n 0 s next).find? p = some s := by simp [m_8, h]
theorem lv_hit {z : List Int} (h : next < n) (hy : i_2 n p m (s ++ [(next : Int)]) (next + 1) = true) (hf : (m_8 n m (s ++ [(next : Int)]) (next + 1)).find? p = some z) : i_2 n p (m + 1) s next = true ∧ (m_8 n (m + 1) s next).find? p = some z := by
  unfold i_2 at hy ⊢
  rw [sets_step n m s next h]
  exact ⟨by rw [List.any_append, hy]; rfl, find_app2 hf⟩
theorem lv_go (h : next < n) (hn : i_2 n p m (s ++ [(next : Int)]) (next + 1) = false) : i_2 n p (m + 1) s next = i_2 n p (m + 1) s (next + 1) := by
  unfold i_2 at hn ⊢
  rw [sets_step n m s next h, List.any_append, hn, Bool.false_or]
theorem lv_gof {z : List Int} (h : next < n) (hn : i_2 n p m (s ++ [(next : Int)]) (next + 1) = false) (hf : (m_8 n (m + 1) s (next + 1)).find? p = some z) : (m_8 n (m + 1) s next).find? p = some z := by
  rw [sets_step n m s next h, find_app hn]; exact hf
theorem lv_no (h : next < n) (hn : i_2 n p m (s ++ [(next : Int)]) (next + 1) = false) (hm : n ≤ next + (m + 1)) : i_2 n p (m + 1) s next = false := by
  rw [lv_go h hn]; unfold i_2; rw [sets_none _ _ _ (by omega)]; rfl
theorem all_go (hn : (o_1 n k).any p = false) (hy : i_2 n p k [] 0 = false) : (o_1 n (k + 1)).any p = false := by
  rw [v_0, List.any_append, hn]
  unfold i_2 at hy; rw [hy]; rfl
theorem kep_len (l : List (Int × Int)) (s : List Int) (k : Nat) : (d_6 l s k).length ≤ k := by unfold d_6; rw [List.length_map]; exact woSel_len ..
theorem wo_len (l : List (Int × Int)) (s : List Int) : (woF l s).length ≤ l.length := kep_len ..
theorem kep_at {i : Nat} (hi : i < (d_6 l s k).length) : ∃ j, j < k ∧ (d_6 l s k).getD i (0, 0) = l.getD j (0, 0) := by
  unfold d_6 at hi ⊢
  rw [List.length_map] at hi
  exact ⟨_, woSel_lt (getD_memN hi), by simp [List.getD, hi]⟩
theorem kep_read (hl : t_6 b l) (hk : k ≤ l.length) : t_6 b (d_6 l s k) := by
  have hlen := hl.len
  have := kep_len l s k
  refine ⟨by omega, fun i hi => ?_, fun i hi => ?_, fun i hi => ?_⟩ <;> obtain ⟨j, hj, e⟩ := kep_at hi <;> rw [e]
  · exact hl.mac j (by omega)
  · exact hl.read j (by omega)
  · exact hl.off j (by omega)
theorem read_V (hc : g_0 b = 0) (hl : t_6 b l) : n_5 b l = 0 := by
  have hlen := hl.len
  refine read_0 hc (by omega) (fun i hi => readB_y (h_4.2 ?_) (h_4.2 (hl.read i hi))) hl.off
  have := hl.mac i hi
  omega
theorem z_8 (hr : n_5 b l = 0) (s : List Int) : n_5 b (woF l s) = 0 := read_V (o_6 hr) (kep_read (z_7 hr).2 (Nat.le_refl _))
theorem kep_y {j : Nat} (hj : j = s.length) (h : woU s k j = true) : d_6 l s (k + 1) = d_6 l s k ++ [l.getD k (0, 0)] := by
  unfold d_6; rw [woSel_y hj h, List.map_append]; rfl
theorem kep_n {j : Nat} (hj : j = s.length) (h : woU s k j = false) : d_6 l s (k + 1) = d_6 l s k := by
  unfold d_6; rw [woSel_n hj h]
def s_1 (s : List Int) (k : Nat) : Prop := ∀ y ∈ s, (0 : Int) ≤ y ∧ y < (k : Int)
theorem s_1.nil : s_1 [] k := fun _ h => by cases h
theorem s_1.more (h : s_1 s k) : s_1 s (k + 1) := fun y hy => by have := h y hy; omega
theorem s_1.snoc (h : s_1 s k) : s_1 (s ++ [(k : Int)]) (k + 1) := fun y hy => by
  rcases List.mem_append.1 hy with hy | hy
  · have := h y hy; omega
  · rw [List.mem_singleton] at hy; omega
theorem kep_out (h : s_1 s k) : d_6 l (s ++ [(k : Int)]) (k + 1) = d_6 l s k := by
  unfold d_6 ab_0
  congr 1
  rw [List.range_succ, List.filter_append, List.filter_cons, if_neg (by rw [s_6.2 (List.mem_append_right _ (List.mem_singleton.2 rfl))]; decide)]
  rw [List.filter_nil, List.append_nil]
  refine List.filter_congr fun i hi => ?_
  rw [List.mem_range] at hi
  congr 1
  rw [Bool.eq_iff_iff, s_6, s_6, List.mem_append, List.mem_singleton]
  exact ⟨fun h => h.resolve_right (by omega), .inl⟩
theorem kep_in (h : s_1 s k) : d_6 l s (k + 1) = d_6 l s k ++ [l.getD k (0, 0)] := by
  unfold d_6 ab_0
  rw [List.range_succ, List.filter_append, List.filter_cons, if_pos, List.filter_nil, List.map_append]; rfl
  cases hb : hasB s (k : Int) with
  | false => rfl
  | true => have := h _ (s_6.1 hb); omega
theorem spans_free (hb : l_3 b) : (i_7 b []).isSome = true := by
  have hl : t_6 b [] := ⟨Nat.zero_le _, fun _ h => absurd h (Nat.not_lt_zero _), fun _ h => absurd h (Nat.not_lt_zero _), fun _ h => absurd h (Nat.not_lt_zero _)⟩
  have hw := spans_is hb hl
  have hn := hb.four
  have hat : ∀ i, i < b.scales.toNat → at' (s_2 b []) i = rng0 := fun i hi => start_free hb hl hi (fun _ h => absurd h (Nat.not_lt_zero _)) 0 (Nat.zero_le _)
  cases hs : i_7 b [] with
  | some t => rfl
  | none =>
    rw [hs] at hw
    refine absurd ⟨Sub.refl _ _, fun i hi => ?_, fun t ht => ?_⟩ (hw (s_2 b []))
    · rw [hat i hi]; decide
    · have hv := hb.natV t ht
      have h1 := hv.frm
      have h3 := hv.len
      intro hc
      rw [hat _ (by omega)] at hc
      have h4 := (w_3.1 hc).1
      have := (hv.bnd 0 (by omega)).1.1
      have h5 : (1 : Int) ≤ (rng0).1 := by omega
      exact absurd h5 (by decide)
theorem wo_nil (l : List (Int × Int)) : woF l [] = l := by
  have e : ab_0 [] l.length = List.range l.length := List.filter_eq_self.2 (fun _ _ => rfl)
  unfold woF d_6
  rw [e]
  apply List.ext_getElem (by simp)
  intro i h1 h2
  simp [List.getD, h2]
theorem ok_all (hb : l_3 b) : okS b l (numsF l.length) = true := by
  have e : woF l (numsF l.length) = [] := by
    unfold woF d_6
    rw [List.map_eq_nil_iff]
    unfold ab_0
    rw [List.filter_eq_nil_iff]
    intro i hi
    rw [List.mem_range] at hi
    rw [show hasB (numsF l.length) (i : Int) = true from s_6.2 (List.mem_map.2 ⟨i, List.mem_range.2 hi, rfl⟩)]; decide
  unfold okS; rw [e]; exact spans_free hb
theorem lv_all (hb : l_3 b) : i_2 l.length (okS b l) l.length [] 0 = true := List.any_eq_true.2 ⟨_, nums_sets _, ok_all hb⟩
theorem doubt_found {z : List Int} (hk : k ≤ l.length) (hn : (o_1 l.length k).any (okS b l) = false) (hf : (m_8 l.length k [] 0).find? (okS b l) = some z) : c_1 b l = z := by
  unfold c_1
  obtain ⟨rest, e⟩ := allUpto_pre l.length (k + 1) (l.length - k)
  rw [show l.length + 1 = k + 1 + (l.length - k) by omega, e, v_0, List.append_assoc, find_app hn, find_app2 hf]; rfl
theorem all_not (hb : l_3 b) (hk : l.length < k) (hn : (o_1 l.length k).any (okS b l) = false) : False := by
  obtain ⟨rest, e⟩ := allUpto_pre l.length (l.length + 1) (k - (l.length + 1))
  rw [show l.length + 1 + (k - (l.length + 1)) = k by omega] at e
  rw [e, v_0] at hn
  simp only [List.any_append, Bool.or_eq_false_iff] at hn
  have := lv_all (l := l) hb
  unfold i_2 at this
  rw [hn.1.2] at this; cases this
theorem doubt_is (hb : l_3 b) (l : List (Int × Int)) : okS b l (c_1 b l) = true ∧ (∀ y ∈ c_1 b l, (0 : Int) ≤ y ∧ y ≤ (l.length : Int) - 1) ∧ (c_1 b l).Pairwise (· < ·) ∧ (c_1 b l).length ≤ l.length ∧
    (∀ z : List Int, (∀ y ∈ z, (0 : Int) ≤ y ∧ y ≤ (l.length : Int) - 1) → z.Pairwise (· < ·) → z.length < (c_1 b l).length → okS b l z = false) := by
  have hex : ∃ k, k ≤ l.length ∧ i_2 l.length (okS b l) k [] 0 = true ∧ (o_1 l.length k).any (okS b l) = false := by
    have key : ∀ k, (o_1 l.length k).any (okS b l) = false ∨ ∃ j, j < k ∧ i_2 l.length (okS b l) j [] 0 = true ∧ (o_1 l.length j).any (okS b l) = false := by
      intro k
      induction k with
      | zero => exact .inl rfl
      | succ k ih =>
        rcases ih with h | ⟨j, hj, h⟩
        · cases hc : i_2 l.length (okS b l) k [] 0 with
          | true => exact .inr ⟨k, by omega, hc, h⟩
          | false => exact .inl (all_go h hc)
        · exact .inr ⟨j, by omega, h⟩
    rcases key (l.length + 1) with h | ⟨j, hj, h⟩
    · exact (all_not hb (Nat.lt_succ_self _) h).elim
    · exact ⟨j, by omega, h⟩
  obtain ⟨k, hk, hy, hn⟩ := hex
  unfold i_2 at hy
  obtain ⟨z0, hz0⟩ : ∃ z, (m_8 l.length k [] 0).find? (okS b l) = some z := by
    exact Option.isSome_iff_exists.1 (by rw [List.find?_isSome]; obtain ⟨x, h1, h2⟩ := List.any_eq_true.1 hy; exact ⟨x, h1, h2⟩)
  have e := doubt_found hk hn hz0
  have h1 := List.find?_some hz0
  obtain ⟨ys, e2, hl, hbd, hp⟩ := setsF_each _ _ _ _ _ (List.mem_of_find?_eq_some hz0)
  rw [List.nil_append] at e2
  subst e2
  rw [e]
  refine ⟨h1, fun y hy => by have := hbd y hy; omega, hp, by omega, fun z hzb hzp hzl => ?_⟩
  have hm := setsF_mem l.length z [] 0 (fun y hy => by have := hzb y hy; omega) hzp
  rw [List.nil_append] at hm
  cases hc : okS b l z with
  | false => rfl
  | true =>
    have : (o_1 l.length k).any (okS b l) = true := List.any_eq_true.2 ⟨z, List.mem_flatMap.2 ⟨z.length, List.mem_range.2 (by omega), hm⟩, hc⟩
    rw [hn] at this; cases this
theorem doubt_zero (hb : l_3 b) : (i_7 b l).isSome = true ↔ (c_1 b l).length = 0 := by
  obtain ⟨h1, h2, h3, h4, h5⟩ := doubt_is hb l
  have e0 : okS b l [] = (i_7 b l).isSome := by unfold okS; rw [wo_nil]
  rw [← e0]
  constructor
  · intro h
    rcases Nat.eq_zero_or_pos (c_1 b l).length with h0 | h0
    · exact h0
    · have := h5 [] (by simp) List.Pairwise.nil (by simpa using h0)
      rw [h] at this; cases this
  · intro h
    have e : c_1 b l = [] := List.eq_nil_of_length_eq_zero h
    rw [e] at h1; exact h1
theorem in_len (s : List Int) (l : List (Int × Int)) : (inSel s l.length).length + (woF l s).length = l.length := by
  unfold inSel woF d_6
  rw [List.length_map, List.length_map]
  exact filter_both (fun (i : Nat) => hasB s (i : Int)) l.length
theorem wo_in (s : List Int) (l : List (Int × Int)) : woF l (inSel s l.length) = woF l s := by
  unfold woF d_6 ab_0
  congr 1
  refine List.filter_congr fun i hi => ?_
  rw [List.mem_range] at hi
  congr 1
  rw [Bool.eq_iff_iff, s_6, s_6]
  constructor
  · intro h
    obtain ⟨j, hj, e⟩ := List.mem_map.1 h
    have e2 : j = i := by omega
    subst e2
    exact s_6.1 (List.mem_filter.1 hj).2
  · exact fun h => List.mem_map.2 ⟨i, List.mem_filter.2 ⟨List.mem_range.2 hi, s_6.2 h⟩, rfl⟩
theorem doubt_least (hb : l_3 b) (h : (i_7 b (woF l s)).isSome = true) : (c_1 b l).length ≤ l.length - (woF l s).length := by
  obtain ⟨h1, h2, h3, h4, h5⟩ := doubt_is hb l
  have hl := in_len s l
  have hz : okS b l (inSel s l.length) = true := by unfold okS; rw [wo_in]; exact h
  rcases Nat.lt_or_ge (inSel s l.length).length (c_1 b l).length with hlt | hge
  · have := h5 (inSel s l.length) (fun y hy => by
      obtain ⟨i, hi, rfl⟩ := List.mem_map.1 hy
      have := List.mem_range.1 (List.mem_filter.1 hi).1
      omega) (by
      unfold inSel; rw [List.pairwise_map]
      exact (List.Pairwise.sublist List.filter_sublist List.pairwise_lt_range).imp (fun h => by omega)) hlt
    rw [hz] at this; cases this
  · omega
theorem doubt_bd (hb : l_3 b) (l : List (Int × Int)) : (c_1 b l).length ≤ l.length ∧ (∀ i, i < (c_1 b l).length → 0 ≤ (c_1 b l).getD i 0 ∧ (c_1 b l).getD i 0 ≤ (l.length : Int) - 1) ∧ (∀ i, 0 < i → i < (c_1 b l).length → (c_1 b l).getD (i - 1) 0 < (c_1 b l).getD i 0) := by
  obtain ⟨h1, h2, h3, h4, h5⟩ := doubt_is hb l
  refine ⟨h4, fun i hi => h2 _ (getD_mem' hi), fun i h0 hi => ?_⟩
  have := List.pairwise_iff_getElem.1 h3 (i - 1) i (by omega) hi (by omega)
  simpa [List.getD, hi, show i - 1 < (c_1 b l).length by omega] using this
theorem doubt_some (hb : l_3 b) (l : List (Int × Int)) : ∃ t, i_7 b (woF l (c_1 b l)) = some t := Option.isSome_iff_exists.1 (doubt_is hb l).1
theorem doubt_pos (hb : l_3 b) (h : i_7 b l = none) : (c_1 b l).length ≠ 0 := fun e => by
  have := (doubt_zero hb).2 e
  rw [h] at this; cases this
theorem doubt_nil (hb : l_3 b) {t : h_2} (h : i_7 b l = some t) : (c_1 b l).length = 0 := (doubt_zero hb).1 (by rw [h]; rfl)
theorem doubt_few (hb : l_3 b) {t : h_2} (h : i_7 b (woF l s) = some t) : (c_1 b l).length ≤ l.length - (woF l s).length := doubt_least hb (by rw [h]; rfl)
end
end Go.Hard
