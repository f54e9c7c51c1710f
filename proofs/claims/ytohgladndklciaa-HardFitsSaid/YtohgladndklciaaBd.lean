/-
  Books built in memory: slices of slices, one more; tables and machines as one thing.
  The chapter's book and what it shows; decided by the kernel.
  What the laws ask first: may a book be played; narrower spans. What HardAllows says.
  Values that fit a book: told by all their tests at once.
-/
import Derived.Test.YtohgladndklciaaBc
import Derived.Test.YtohgladndklciaaEnga
set_option linter.unusedSimpArgs false
set_option linter.unusedVariables false
namespace Go.Proofs.Ytohgladndklciaa
open Go.RowKit Go.Shelf Go.Eng Go.Hard
theorem ze_98 : (Try.prog.info? 98).bind (·.zero) = some (Value.agg #[(Value.int .i64 0), (Value.int .i64 0)]) := by kernel_rfl
theorem en_88 : ∀ args w, (callFunc 88 args).run Try.prog w = .ok (.enter 88 args) w := enters_of Try.func88 (by kernel_rfl) rfl
theorem ar_120 : Try.prog.underlying 120 = some (.array 4 30) := by kernel_rfl
theorem tw_30 : j_0 Try.prog 30 = true := by kernel_rfl
theorem gt_120 : Try.prog.eqGuardType Try.prog.depth 120 = false := by kernel_rfl
set_option maxHeartbeats 4000000 in
theorem spansb_ok (b : g_9) (vt vm : Value) (lr lb lk : Nat → Value) (w : World) (hT : i_6 w vt lr lb b.tabs) (hM : j_2 w vm lk b.macs) (hth : n_6 b) (bx bm : Nat) (es : Array MapEntry) (ck : Nat) (hMO : r_8 bm es ck (bN b.tabs b.tabs.length)) (hbx : (blk bx 146 [.int .i64 b.scales, vt, vm, .map (some bm)]).p w) (hmx : (mapX false bm es ck es.size 106 5 (bN b.tabs b.tabs.length) (bC lr lb b.tabs b.tabs.length)).p w) (hb : p_9 b) (l : List (Int × Int)) (xl : Value) (hxl : SlAt w xl 2 l.length (pairs l)) (hl : aa_0 b l) :
  Calls Try.prog 57 #[(bptr bx 0), xl] w (Ret fun v w' => ∃ x, x.length = 4 ∧ v = .tuple #[.agg (pairs x).toArray, .bool (w_9 b l).isSome] ∧ (∀ t, w_9 b l = some t → x.take b.scales.toNat = t) ∧ Ext NoB w w') := by
 refine a_8 Try.func57 rfl fun a0 Aj => ?_
 replace Aj : Fr 79 [] [(0, (bptr bx 0)), (1, xl)] a0 := Aj
 have hsc := hb.scales; have htl9 := hth.tl; have hml9 := hth.ml; have hll := hl.len
 have Br : Sep NoB w w [(rob bx 146 [(Value.int .i64 b.scales), vt, vm, (Value.map (some bm))]), (mapX false bm es ck es.size 106 5 (bN b.tabs b.tabs.length) (bC lr lb b.tabs b.tabs.length)), (e_1 false vt lr lb b.tabs), (f_0 false vm lk b.macs), (sl xl 2 l.length (pairs l))] := e_3 ⟨rfl, hbx, rfl, hmx, rfl, hT, rfl, hM, rfl, hxl, trivial⟩
 refine m2 ?_
 refine s2 Aj (d_9 Br rfl ze_120 (cs := (pairs zero4)) rfl) ?_
 rintro a1 _ w3 ⟨C, rfl, Bs⟩ Bo; clear Aj Br a0
 refine s1 Bo (a_0 rfl (evc _ _)) fun a6 Bp => ?_; clear Bo a1
 refine n2 ?_
 refine m2 ?_
 refine s1 Bp (a_1 rfl (evc _ _)) fun a8 Bq => ?_; clear Bp a6
 refine n1 ?_
 refine c_3 ?_
 have BE := Bq.as [(13, (Value.int .i64 0)), (4, (bptr C 0)), (0, (bptr bx 0)), (1, xl)] rfl; clear Bq
 refine g_4 (G := Nat) (fun (k : Nat) a_ w_ => Fr 79 [] [(13, (Value.int .i64 (k : Int))), (4, (bptr C 0)), (0, (bptr bx 0)), (1, xl)] a_ ∧ Sep NoB w w_ [(blk C 120 (pairs (fillU k))), (rob bx 146 [(Value.int .i64 b.scales), vt, vm, (Value.map (some bm))]), (mapX false bm es ck es.size 106 5 (bN b.tabs b.tabs.length) (bC lr lb b.tabs b.tabs.length)), (e_1 false vt lr lb b.tabs), (f_0 false vm lk b.macs), (sl xl 2 l.length (pairs l))] ∧ (k ≤ 4)) (fun k => 4 - k) 0 ⟨BE.as _ rfl, Bs, by omega⟩ ?_
 clear BE Bs a8
 rintro k CR DA ⟨AW, c, hk⟩
 have hfl := fillU_len k
 refine m2 ?_
 refine s1 AW (f_5 rfl (AW.ev rfl) (evc _ _)) fun Bl H => ?_; clear AW CR
 refine n2 ?_
 by_cases Bd : (k : Int) < 4
 ·skip
  rw [decide_eq_true Bd] at H
  refine c_0 H rfl ?_
  refine c_6 ?_
  refine a_9 ?_
  refine b_6 ?_
  refine c_3 ?_
  refine m2 ?_
  refine s1 H (a_1 rfl (H.ev rfl)) fun CS AX => ?_; clear H Bl
  refine s1 AX (a_0 rfl (AX.ev rfl)) fun CT AY => ?_; clear AX CS
  refine n3 ?_
  refine s1 AY (a_1 rfl (AY.ev rfl)) fun CU BF => ?_; clear AY CT
  refine s1 BF (e_0 rfl (pv2 (evc _ _) (evc _ _)) (k_9 _ _)) fun CV AN => ?_; clear BF CU
  refine s1 AN (o_1 rfl x_0 f_7 (AN.ev rfl) (i := k) (AN.ev rfl) (by omega)) fun CW AO => ?_; clear AN CV
  refine s7 AO (b_8 c rfl f_7 (AO.ev rfl) (AO.ev rfl) (i := 0) rfl (vs := [(Value.int .i64 0), (Value.int .i64 100000)]) rfl rfl rfl (by simp only [b_0, List.length_set, List.length_cons, List.length_nil]; omega)) ?_
  intro _ DB BU BG; have CO := BU.n_7 (i := 0) rfl (cs' := (pairs ((fillU k).set k (0, 100000)))) (pairs_setZ _ _ _ _); clear BU AO c
  refine e_8 ?_
  refine g_0 ?_
  refine a_9 ?_
  have AZ := BG.as [(13, (Value.int .i64 (k : Int))), (4, (bptr C 0)), (0, (bptr bx 0)), (1, xl)] rfl; clear BG
  refine a_5 ?_
  refine s1 AZ (f_1 rfl (AZ.ev rfl) (evc _ _) (by omega) (by omega)) fun CX Aa => ?_; clear AZ CW
  refine s1 Aa (a_1 rfl (Aa.ev rfl)) fun C5 CN => ?_; clear Aa CX
  refine e_8 ?_
  exact a_9 ⟨k + 1, ⟨CN.as _ rfl, CO, by omega⟩, by omega⟩
 skip
 rw [decide_eq_false Bd] at H
 refine b_5 H rfl ?_
 refine g_3 ?_
 refine b_3 ?_
 refine b_3 ?_
 refine f_2 ?_
 refine a_9 ?_
 refine b_6 ?_
 refine m2 ?_
 refine s1 H (a_1 rfl (H.ev rfl)) fun CY Ab => ?_; clear H Bl
 refine s1 Ab (d_2 rfl ab_9 (Ab.ev rfl) (c.sk 5 rfl)) fun CZ BH => ?_; clear Ab CY
 refine s1 BH (a_1 rfl (evc _ _)) fun Ca BI => ?_; clear BH CZ
 refine n1 ?_
 refine c_3 ?_
 have BJ := BI.as [(22, (Value.int .i64 0)), (21, (Value.int .i64 (l.length : Int))), (20, xl), (4, (bptr C 0)), (0, (bptr bx 0))] rfl; clear BI
 refine g_4 (G := Nat) (fun (k : Nat) a_ w_ => Fr 79 [] [(22, (Value.int .i64 (k : Int))), (21, (Value.int .i64 (l.length : Int))), (20, xl), (4, (bptr C 0)), (0, (bptr bx 0))] a_ ∧ Sep NoB w w_ [(blk C 120 (pairs (c_9 b l e_6 k))), (rob bx 146 [(Value.int .i64 b.scales), vt, vm, (Value.map (some bm))]), (mapX false bm es ck es.size 106 5 (bN b.tabs b.tabs.length) (bC lr lb b.tabs b.tabs.length)), (e_1 false vt lr lb b.tabs), (f_0 false vm lk b.macs), (sl xl 2 l.length (pairs l))] ∧ (k ≤ l.length) ∧ (Full b.scales.toNat (c_9 b l e_6 k))) (fun k => l.length - k) 0 ⟨BJ.as _ rfl, (c.n_7 (i := 0) rfl (by rw [show k = 4 by omega, fill4]; rfl)), Nat.zero_le _, full_free hb.four⟩ ?_
 clear BJ c Ca
 rintro k Cb DC ⟨AP, N, hk, hfu⟩
 have hsl := v_0 b l e_6 k; have C8 : e_6.length = 4 := rfl
 refine m2 ?_
 refine s1 AP (f_5 rfl (AP.ev rfl) (AP.ev rfl)) fun Bm I => ?_; clear AP Cb
 refine n2 ?_
 by_cases Be : (k : Int) < (l.length : Int)
 ·skip
  rw [decide_eq_true Be] at I
  have hscl := scale_lt hb hl (k := k) (by omega); unfold m_7 at hscl; have hmv := hl.macV hb (k := k) (by omega); have hsv := hmv.scale; have hbb := biasF_bd hmv; have hlm := hl.mac k (by omega); have hlr := hl.read k (by omega); have hsl1 := v_0 b l e_6 (k + 1); have hb4_ := hb.four
  refine c_0 I rfl ?_
  refine c_6 ?_
  refine a_9 ?_
  refine b_6 ?_
  refine c_3 ?_
  refine m2 ?_
  refine s1 I (b_2 rfl ab_9 ab_8 (I.ev rfl) (i := k) (I.ev rfl) (N.sk 5 rfl) (by decide) (by omega)) fun Cc Ac => ?_; clear I Bm
  refine s1 Ac (e_2 rfl ab_8 (Ac.ev rfl) (N.sk 5 rfl) (h_5 (by omega)) rfl (by decide)) fun Cd BK => ?_; clear Ac Cc
  refine s2 BK (d_9 N rfl ze_98 (cs := [(Value.int .i64 0), (Value.int .i64 0)]) rfl) ?_
  rintro C6 _ DD ⟨L, rfl, BV⟩ AQ; clear BK N Cd
  refine s7 AQ (b_8 BV rfl ab_8 (AQ.ev rfl) (AQ.ev rfl) (i := 0) rfl (vs := [(Value.int .i64 ((l.getD k (0, 0)).1)), (Value.int .i64 ((l.getD k (0, 0)).2))]) rfl rfl rfl (Nat.le_of_ble_eq_true rfl)) ?_
  intro _ Ci BW BL; clear AQ
  have BX : Sep NoB w Ci [(blk L 98 [(Value.int .i64 ((l.getD k (0, 0)).1)), (Value.int .i64 ((l.getD k (0, 0)).2))]), (blk C 120 (pairs (c_9 b l e_6 k))), (rob bx 146 [(Value.int .i64 b.scales), vt, vm, (Value.map (some bm))]), (mapX false bm es ck es.size 106 5 (bN b.tabs b.tabs.length) (bC lr lb b.tabs b.tabs.length)), (e_1 false vt lr lb b.tabs), (f_0 false vm lk b.macs), (sl xl 2 l.length (pairs l))] := BW; clear BW BV
  refine n2 ?_
  have BM := BL.as [(8, (bptr L 0)), (22, (Value.int .i64 (k : Int))), (21, (Value.int .i64 (l.length : Int))), (20, xl), (4, (bptr C 0)), (0, (bptr bx 0))] rfl; clear BL
  refine x_6 mixed BM BX 10 [[], [0], [1], [2], [3], [], [5], [4, 6], [7], []] [(yw (bptr bx 0)), (yw (bptr bx 0)), (yw (bptr bx 0)), (yw (bptr bx 2)), (yw vm), (yw (bptr L 0)), (yw (Value.int .i64 ((l.getD k (0, 0)).1))), (yw (eptr vm (((l.getD k (0, 0)).1).toNat * 2))), (yw (Value.agg #[(Value.int .i64 ((b.macs.getD (((l.getD k (0, 0)).1).toNat) mac0).scale)), (lk (((l.getD k (0, 0)).1).toNat))])), (fun (D : Nat → Value) (v_ : Value) (rs_ : List Res) => ∃ (b9_ : Nat), v_ = (bptr b9_ 0) ∧ rs_ = [(blk b9_ 103 [(Value.int .i64 0), (Value.slice none 0 0)])])] (by decide +kernel) (by decide +kernel) rfl rfl ⟨dw, dw, dw, dw, dw, dw, dw, dw, dw, (fun _ _ _ _ _ h_ => h_), trivial⟩ ?_ ?_
  ·skip
   refine ⟨fun a w D hA hS hd => gv1 (a_1 rfl (hA.ev rfl)), ?_⟩
   refine ⟨fun a w D hA hS hd => gv1 (n_3 rfl (gu hd 0)), ?_⟩
   refine ⟨fun a w D hA hS hd => gv1 (a_4 rfl fd_146_0 (gu hd 1)), ?_⟩
   refine ⟨fun a w D hA hS hd => gv1 (a_4 rfl s_1 (gu hd 2)), ?_⟩
   refine ⟨fun a w D hA hS hd => gv1 (a_3 rfl ab_7 (gu hd 3) (hS.rk 2 rfl) rfl), ?_⟩
   refine ⟨fun a w D hA hS hd => gv1 (a_4 rfl fd_98_0 (hA.ev rfl)), ?_⟩
   refine ⟨fun a w D hA hS hd => gv1 (a_3 rfl ty_3 (gu hd 5) (hS.bk 0 rfl) rfl), ?_⟩
   refine ⟨fun a w D hA hS hd => gv1 (b_2 rfl ab_2 o_3 (gu hd 4) (i := ((l.getD k (0, 0)).1).toNat) ((gu hd 6).trans (h_6 (by omega))) (c_2 (hS.ok 5 _ rfl)).macs (by decide) (by omega)), ?_⟩
   refine ⟨fun a w D hA hS hd => gv1 (e_2 rfl o_3 (gu hd 7) (c_2 (hS.ok 5 _ rfl)).macs (r_1 (by omega)) rfl (by decide)), ?_⟩
   refine ⟨fun a w D hA hS hd => d_7 rfl (valloc rfl ze_103 (cs := [(Value.int .i64 0), (Value.slice none 0 0)]) rfl (fun b_ => ⟨b_, rfl, rfl⟩)), ?_⟩
   trivial
  intro Bn Cj D rsf71 BN B Af; clear BM BX
  obtain ⟨Ah, CP⟩ := B 9 (by decide)
  obtain ⟨b9_, Bg, Bf⟩ := CP
  have Ag : Sep NoB w Cj [(blk b9_ 103 [(Value.int .i64 0), (Value.slice none 0 0)]), (blk L 98 [(Value.int .i64 ((l.getD k (0, 0)).1)), (Value.int .i64 ((l.getD k (0, 0)).2))]), (blk C 120 (pairs (c_9 b l e_6 k))), (rob bx 146 [(Value.int .i64 b.scales), vt, vm, (Value.map (some bm))]), (mapX false bm es ck es.size 106 5 (bN b.tabs b.tabs.length) (bC lr lb b.tabs b.tabs.length)), (e_1 false vt lr lb b.tabs), (f_0 false vm lk b.macs), (sl xl 2 l.length (pairs l))] := by rw [show catR rsf71 0 10 = ([(blk b9_ 103 [(Value.int .i64 0), (Value.slice none 0 0)])] : List Res) by (try simp only [catR, gr (B 0 (by decide)), gr (B 1 (by decide)), gr (B 2 (by decide)), gr (B 3 (by decide)), gr (B 4 (by decide)), gr (B 5 (by decide)), gr (B 6 (by decide)), gr (B 7 (by decide)), gr (B 8 (by decide)), Bf]); (try rfl)] at Af; exact Af
  have BO := BN.add (gs (B 8 (by decide))); clear BN
  rw [Bg] at Ah
  have AR : Fr 79 [] [(9, (bptr b9_ 0)), (34, (Value.agg #[(Value.int .i64 ((b.macs.getD (((l.getD k (0, 0)).1).toNat) mac0).scale)), (lk (((l.getD k (0, 0)).1).toNat))])), (8, (bptr L 0)), (22, (Value.int .i64 (k : Int))), (21, (Value.int .i64 (l.length : Int))), (20, xl), (4, (bptr C 0)), (0, (bptr bx 0))] Bn := BO.add (h_8 Ah rfl); clear BO
  clear B Af Ah
  clear Bf
  clear Bg
  refine s7 AR (b_8 Ag rfl o_3 (AR.ev rfl) (AR.ev rfl) (i := 0) rfl (vs := [(Value.int .i64 ((b.macs.getD (((l.getD k (0, 0)).1).toNat) mac0).scale)), (lk (((l.getD k (0, 0)).1).toNat))]) rfl rfl (h_4 rfl (h_4 (SlAt.one ((c_2 (Ag.ok 6 _ rfl)).blk (i := ((l.getD k (0, 0)).1).toNat) (by omega))) t_4)) (Nat.le_of_ble_eq_true rfl)) ?_
  intro _ Ck BY Ad; clear AR
  have AU : Sep NoB w Ck [(blk b9_ 103 [(Value.int .i64 ((b.macs.getD (((l.getD k (0, 0)).1).toNat) mac0).scale)), (lk (((l.getD k (0, 0)).1).toNat))]), (blk L 98 [(Value.int .i64 ((l.getD k (0, 0)).1)), (Value.int .i64 ((l.getD k (0, 0)).2))]), (blk C 120 (pairs (c_9 b l e_6 k))), (rob bx 146 [(Value.int .i64 b.scales), vt, vm, (Value.map (some bm))]), (mapX false bm es ck es.size 106 5 (bN b.tabs b.tabs.length) (bC lr lb b.tabs b.tabs.length)), (e_1 false vt lr lb b.tabs), (f_0 false vm lk b.macs), (sl xl 2 l.length (pairs l))] := BY; clear BY Ag
  refine n4 ?_
  refine s1 Ad (c_4 rfl o_3 (Ad.ev rfl) (AU.bk 0 rfl) (l := [(Value.int .i64 ((b.macs.getD (((l.getD k (0, 0)).1).toNat) mac0).scale)), (lk (((l.getD k (0, 0)).1).toNat))]) rfl rfl) fun Ce Ae => ?_; clear Ad Bn
  refine s2 Ae (b_1 rfl en_67 (ev1 (Ae.ev rfl)) (bias_ok _ (b.macs.getD (((l.getD k (0, 0)).1).toNat) mac0) _ _ ((c_2 (AU.ok 6 _ rfl)).blk (i := ((l.getD k (0, 0)).1).toNat) (by omega)) (hl.macV hb (by omega)) (hth.kl _))) ?_
  rintro Cf _ DE ⟨rfl, BT⟩ BP; have BZ := AU.step BT; clear BT Ae AU Ce
  refine s2 BP (d_9 BZ rfl x_5 (cs := [(Value.int .i64 0), (Value.int .i64 0)]) rfl) ?_
  rintro C7 _ DF ⟨Ai, rfl, Ba⟩ AS; clear BP BZ Cf
  refine s7 AS (b_8 Ba rfl f_7 (AS.ev rfl) (AS.ev rfl) (i := 0) rfl (vs := [(Value.int .i64 ((d_5 (b.macs.getD (((l.getD k (0, 0)).1).toNat) mac0)).1)), (Value.int .i64 ((d_5 (b.macs.getD (((l.getD k (0, 0)).1).toNat) mac0)).2))]) rfl rfl rfl (Nat.le_of_ble_eq_true rfl)) ?_
  intro _ Cl Bb BQ; clear AS
  have Bc : Sep NoB w Cl [(blk Ai 30 [(Value.int .i64 ((d_5 (b.macs.getD (((l.getD k (0, 0)).1).toNat) mac0)).1)), (Value.int .i64 ((d_5 (b.macs.getD (((l.getD k (0, 0)).1).toNat) mac0)).2))]), (blk b9_ 103 [(Value.int .i64 ((b.macs.getD (((l.getD k (0, 0)).1).toNat) mac0).scale)), (lk (((l.getD k (0, 0)).1).toNat))]), (blk L 98 [(Value.int .i64 ((l.getD k (0, 0)).1)), (Value.int .i64 ((l.getD k (0, 0)).2))]), (blk C 120 (pairs (c_9 b l e_6 k))), (rob bx 146 [(Value.int .i64 b.scales), vt, vm, (Value.map (some bm))]), (mapX false bm es ck es.size 106 5 (bN b.tabs b.tabs.length) (bC lr lb b.tabs b.tabs.length)), (e_1 false vt lr lb b.tabs), (f_0 false vm lk b.macs), (sl xl 2 l.length (pairs l))] := Bb; clear Bb Ba
  refine n2 ?_
  have BR := BQ.as [(10, (bptr Ai 0)), (9, (bptr b9_ 0)), (8, (bptr L 0)), (22, (Value.int .i64 (k : Int))), (21, (Value.int .i64 (l.length : Int))), (20, xl), (4, (bptr C 0)), (0, (bptr bx 0))] rfl; clear BQ
  refine f_9 mixed BR Bc 18 [[], [0], [], [2], [3], [4], [], [6], [], [8], [7, 9], [], [11], [], [13], [12, 14], [10, 15], [5, 16]] [(Yd.val (bptr b9_ 0)), (Yd.val (Value.int .i64 ((b.macs.getD (((l.getD k (0, 0)).1).toNat) mac0).scale))), (Yd.val (bptr b9_ 0)), (Yd.val (Value.int .i64 ((b.macs.getD (((l.getD k (0, 0)).1).toNat) mac0).scale))), (Yd.val (bptr C (0 + ((b.macs.getD (((l.getD k (0, 0)).1).toNat) mac0).scale).toNat * 2))), (Yd.val (Value.agg #[(Value.int .i64 (((c_9 b l e_6 k).getD (((b.macs.getD (((l.getD k (0, 0)).1).toNat) mac0).scale).toNat) (0, 0)).1)), (Value.int .i64 (((c_9 b l e_6 k).getD (((b.macs.getD (((l.getD k (0, 0)).1).toNat) mac0).scale).toNat) (0, 0)).2))])), (Yd.val (bptr L 1)), (Yd.val (Value.int .i64 ((l.getD k (0, 0)).2))), (Yd.val (bptr Ai 1)), (Yd.val (Value.int .i64 ((d_5 (b.macs.getD (((l.getD k (0, 0)).1).toNat) mac0)).2))), (Yd.val (Value.int .i64 (((l.getD k (0, 0)).2) - ((d_5 (b.macs.getD (((l.getD k (0, 0)).1).toNat) mac0)).2)))), (Yd.val (bptr L 1)), (Yd.val (Value.int .i64 ((l.getD k (0, 0)).2))), (Yd.val (bptr Ai 0)), (Yd.val (Value.int .i64 ((d_5 (b.macs.getD (((l.getD k (0, 0)).1).toNat) mac0)).1))), (Yd.val (Value.int .i64 (((l.getD k (0, 0)).2) - ((d_5 (b.macs.getD (((l.getD k (0, 0)).1).toNat) mac0)).1)))), (Yd.val (Value.agg #[(Value.int .i64 (((l.getD k (0, 0)).2) - ((d_5 (b.macs.getD (((l.getD k (0, 0)).1).toNat) mac0)).2))), (Value.int .i64 (((l.getD k (0, 0)).2) - ((d_5 (b.macs.getD (((l.getD k (0, 0)).1).toNat) mac0)).1)))])), (Yd.val (Value.agg #[(Value.int .i64 ((cutR (((c_9 b l e_6 k).getD (((b.macs.getD (((l.getD k (0, 0)).1).toNat) mac0).scale).toNat) (0, 0)).1, ((c_9 b l e_6 k).getD (((b.macs.getD (((l.getD k (0, 0)).1).toNat) mac0).scale).toNat) (0, 0)).2) (((l.getD k (0, 0)).2) - ((d_5 (b.macs.getD (((l.getD k (0, 0)).1).toNat) mac0)).2), ((l.getD k (0, 0)).2) - ((d_5 (b.macs.getD (((l.getD k (0, 0)).1).toNat) mac0)).1))).1)), (Value.int .i64 ((cutR (((c_9 b l e_6 k).getD (((b.macs.getD (((l.getD k (0, 0)).1).toNat) mac0).scale).toNat) (0, 0)).1, ((c_9 b l e_6 k).getD (((b.macs.getD (((l.getD k (0, 0)).1).toNat) mac0).scale).toNat) (0, 0)).2) (((l.getD k (0, 0)).2) - ((d_5 (b.macs.getD (((l.getD k (0, 0)).1).toNat) mac0)).2), ((l.getD k (0, 0)).2) - ((d_5 (b.macs.getD (((l.getD k (0, 0)).1).toNat) mac0)).1))).2))]))] (by decide +kernel) rfl rfl ?_ ?_
  ·skip
   refine dq (fun a w hA hS hd => a_4 rfl fd_103_0 (hA.ev rfl)) ?_
   refine dq (fun a w hA hS hd => a_3 rfl ty_3 (hq hd 0) (hS.bk 1 rfl) rfl) ?_
   refine dq (fun a w hA hS hd => a_4 rfl fd_103_0 (hA.ev rfl)) ?_
   refine dq (fun a w hA hS hd => a_3 rfl ty_3 (hq hd 2) (hS.bk 1 rfl) rfl) ?_
   refine dq (fun a w hA hS hd => o_1 rfl x_0 f_7 (hA.ev rfl) (i := ((b.macs.getD (((l.getD k (0, 0)).1).toNat) mac0).scale).toNat) ((hq hd 3).trans (h_6 (by omega))) (by omega)) ?_
   refine dq (fun a w hA hS hd => c_4 rfl f_7 (hq hd 4) (hS.bk 3 rfl) (l := [(Value.int .i64 (((c_9 b l e_6 k).getD (((b.macs.getD (((l.getD k (0, 0)).1).toNat) mac0).scale).toNat) (0, 0)).1)), (Value.int .i64 (((c_9 b l e_6 k).getD (((b.macs.getD (((l.getD k (0, 0)).1).toNat) mac0).scale).toNat) (0, 0)).2))]) (r_7 (xs := (c_9 b l e_6 k)) (i := ((b.macs.getD (((l.getD k (0, 0)).1).toNat) mac0).scale).toNat) (by omega)) rfl) ?_
   refine dq (fun a w hA hS hd => a_4 rfl fd_98_1 (hA.ev rfl)) ?_
   refine dq (fun a w hA hS hd => a_3 rfl ty_3 (hq hd 6) (hS.bk 2 rfl) rfl) ?_
   refine dq (fun a w hA hS hd => a_4 rfl m_5 (hA.ev rfl)) ?_
   refine dq (fun a w hA hS hd => a_3 rfl ty_3 (hq hd 8) (hS.bk 0 rfl) rfl) ?_
   refine dq (fun a w hA hS hd => g_6 rfl (hq hd 7) (hq hd 9) (by omega) (by omega)) ?_
   refine dq (fun a w hA hS hd => a_4 rfl fd_98_1 (hA.ev rfl)) ?_
   refine dq (fun a w hA hS hd => a_3 rfl ty_3 (hq hd 11) (hS.bk 2 rfl) rfl) ?_
   refine dq (fun a w hA hS hd => a_4 rfl m_4 (hA.ev rfl)) ?_
   refine dq (fun a w hA hS hd => a_3 rfl ty_3 (hq hd 13) (hS.bk 0 rfl) rfl) ?_
   refine dq (fun a w hA hS hd => g_6 rfl (hq hd 12) (hq hd 14) (by omega) (by omega)) ?_
   refine dq (fun a w hA hS hd => e_0 rfl (pv2 (hq hd 10) (hq hd 15)) (k_9 _ _)) ?_
   refine ⟨fun a w hA hS hd => by have e5 := hx hd 5; have Ch := hx hd 16; exact d_7 rfl (dx (b_1 rfl en_87 (ev2 (c_7 e5) (c_7 Ch)) (cut_ok _ _ _ _ _)) hS (fun _ => rfl)), ?_⟩
   trivial
  intro Cg DG BS Aw AT; clear BR Bc
  have Ak := BS.add (hz AT 1); clear BS
  have O := Ak.add (hz AT 17); clear Ak
  clear AT
  refine s1 O (o_1 rfl x_0 f_7 (O.ev rfl) (i := ((b.macs.getD (((l.getD k (0, 0)).1).toNat) mac0).scale).toNat) ((O.ev rfl).trans (h_6 (by omega))) (by omega)) fun Bu P => ?_; clear O Cg
  refine s7 P (b_8 Aw rfl f_7 (P.ev rfl) (P.ev rfl) (i := 3) rfl (vs := [(Value.int .i64 ((cutR (((c_9 b l e_6 k).getD (((b.macs.getD (((l.getD k (0, 0)).1).toNat) mac0).scale).toNat) (0, 0)).1, ((c_9 b l e_6 k).getD (((b.macs.getD (((l.getD k (0, 0)).1).toNat) mac0).scale).toNat) (0, 0)).2) (((l.getD k (0, 0)).2) - ((d_5 (b.macs.getD (((l.getD k (0, 0)).1).toNat) mac0)).2), ((l.getD k (0, 0)).2) - ((d_5 (b.macs.getD (((l.getD k (0, 0)).1).toNat) mac0)).1))).1)), (Value.int .i64 ((cutR (((c_9 b l e_6 k).getD (((b.macs.getD (((l.getD k (0, 0)).1).toNat) mac0).scale).toNat) (0, 0)).1, ((c_9 b l e_6 k).getD (((b.macs.getD (((l.getD k (0, 0)).1).toNat) mac0).scale).toNat) (0, 0)).2) (((l.getD k (0, 0)).2) - ((d_5 (b.macs.getD (((l.getD k (0, 0)).1).toNat) mac0)).2), ((l.getD k (0, 0)).2) - ((d_5 (b.macs.getD (((l.getD k (0, 0)).1).toNat) mac0)).1))).2))]) rfl rfl rfl (by simp only [b_0, List.length_set, List.length_cons, List.length_nil]; omega)) ?_
  intro _ Cv Ax e; have Z := Ax.n_7 (i := 3) rfl (cs' := (pairs ((c_9 b l e_6 k).set (((b.macs.getD (((l.getD k (0, 0)).1).toNat) mac0).scale).toNat) ((cutR (((c_9 b l e_6 k).getD (((b.macs.getD (((l.getD k (0, 0)).1).toNat) mac0).scale).toNat) (0, 0)).1, ((c_9 b l e_6 k).getD (((b.macs.getD (((l.getD k (0, 0)).1).toNat) mac0).scale).toNat) (0, 0)).2) (((l.getD k (0, 0)).2) - ((d_5 (b.macs.getD (((l.getD k (0, 0)).1).toNat) mac0)).2), ((l.getD k (0, 0)).2) - ((d_5 (b.macs.getD (((l.getD k (0, 0)).1).toNat) mac0)).1))).1, (cutR (((c_9 b l e_6 k).getD (((b.macs.getD (((l.getD k (0, 0)).1).toNat) mac0).scale).toNat) (0, 0)).1, ((c_9 b l e_6 k).getD (((b.macs.getD (((l.getD k (0, 0)).1).toNat) mac0).scale).toNat) (0, 0)).2) (((l.getD k (0, 0)).2) - ((d_5 (b.macs.getD (((l.getD k (0, 0)).1).toNat) mac0)).2), ((l.getD k (0, 0)).2) - ((d_5 (b.macs.getD (((l.getD k (0, 0)).1).toNat) mac0)).1))).2)))) (pairs_setZ _ _ _ _); clear Ax P Aw
  refine n4 ?_
  refine s1 e (a_4 rfl fd_103_0 (e.ev rfl)) fun Bv f => ?_; clear e Bu
  refine s1 f (a_3 rfl ty_3 (f.ev rfl) (Z.bk 1 rfl) rfl) fun Bw Q => ?_; clear f Bv
  refine s1 Q (o_1 rfl x_0 f_7 (Q.ev rfl) (i := ((b.macs.getD (((l.getD k (0, 0)).1).toNat) mac0).scale).toNat) ((Q.ev rfl).trans (h_6 (by omega))) (by omega)) fun Bx h => ?_; clear Q Bw
  refine s1 h (c_4 rfl f_7 (h.ev rfl) (Z.bk 3 rfl) (l := [(Value.int .i64 ((((c_9 b l e_6 k).set (((b.macs.getD (((l.getD k (0, 0)).1).toNat) mac0).scale).toNat) ((cutR (((c_9 b l e_6 k).getD (((b.macs.getD (((l.getD k (0, 0)).1).toNat) mac0).scale).toNat) (0, 0)).1, ((c_9 b l e_6 k).getD (((b.macs.getD (((l.getD k (0, 0)).1).toNat) mac0).scale).toNat) (0, 0)).2) (((l.getD k (0, 0)).2) - ((d_5 (b.macs.getD (((l.getD k (0, 0)).1).toNat) mac0)).2), ((l.getD k (0, 0)).2) - ((d_5 (b.macs.getD (((l.getD k (0, 0)).1).toNat) mac0)).1))).1, (cutR (((c_9 b l e_6 k).getD (((b.macs.getD (((l.getD k (0, 0)).1).toNat) mac0).scale).toNat) (0, 0)).1, ((c_9 b l e_6 k).getD (((b.macs.getD (((l.getD k (0, 0)).1).toNat) mac0).scale).toNat) (0, 0)).2) (((l.getD k (0, 0)).2) - ((d_5 (b.macs.getD (((l.getD k (0, 0)).1).toNat) mac0)).2), ((l.getD k (0, 0)).2) - ((d_5 (b.macs.getD (((l.getD k (0, 0)).1).toNat) mac0)).1))).2)).getD (((b.macs.getD (((l.getD k (0, 0)).1).toNat) mac0).scale).toNat) (0, 0)).1)), (Value.int .i64 ((((c_9 b l e_6 k).set (((b.macs.getD (((l.getD k (0, 0)).1).toNat) mac0).scale).toNat) ((cutR (((c_9 b l e_6 k).getD (((b.macs.getD (((l.getD k (0, 0)).1).toNat) mac0).scale).toNat) (0, 0)).1, ((c_9 b l e_6 k).getD (((b.macs.getD (((l.getD k (0, 0)).1).toNat) mac0).scale).toNat) (0, 0)).2) (((l.getD k (0, 0)).2) - ((d_5 (b.macs.getD (((l.getD k (0, 0)).1).toNat) mac0)).2), ((l.getD k (0, 0)).2) - ((d_5 (b.macs.getD (((l.getD k (0, 0)).1).toNat) mac0)).1))).1, (cutR (((c_9 b l e_6 k).getD (((b.macs.getD (((l.getD k (0, 0)).1).toNat) mac0).scale).toNat) (0, 0)).1, ((c_9 b l e_6 k).getD (((b.macs.getD (((l.getD k (0, 0)).1).toNat) mac0).scale).toNat) (0, 0)).2) (((l.getD k (0, 0)).2) - ((d_5 (b.macs.getD (((l.getD k (0, 0)).1).toNat) mac0)).2), ((l.getD k (0, 0)).2) - ((d_5 (b.macs.getD (((l.getD k (0, 0)).1).toNat) mac0)).1))).2)).getD (((b.macs.getD (((l.getD k (0, 0)).1).toNat) mac0).scale).toNat) (0, 0)).2))]) (r_7 (xs := ((c_9 b l e_6 k).set (((b.macs.getD (((l.getD k (0, 0)).1).toNat) mac0).scale).toNat) ((cutR (((c_9 b l e_6 k).getD (((b.macs.getD (((l.getD k (0, 0)).1).toNat) mac0).scale).toNat) (0, 0)).1, ((c_9 b l e_6 k).getD (((b.macs.getD (((l.getD k (0, 0)).1).toNat) mac0).scale).toNat) (0, 0)).2) (((l.getD k (0, 0)).2) - ((d_5 (b.macs.getD (((l.getD k (0, 0)).1).toNat) mac0)).2), ((l.getD k (0, 0)).2) - ((d_5 (b.macs.getD (((l.getD k (0, 0)).1).toNat) mac0)).1))).1, (cutR (((c_9 b l e_6 k).getD (((b.macs.getD (((l.getD k (0, 0)).1).toNat) mac0).scale).toNat) (0, 0)).1, ((c_9 b l e_6 k).getD (((b.macs.getD (((l.getD k (0, 0)).1).toNat) mac0).scale).toNat) (0, 0)).2) (((l.getD k (0, 0)).2) - ((d_5 (b.macs.getD (((l.getD k (0, 0)).1).toNat) mac0)).2), ((l.getD k (0, 0)).2) - ((d_5 (b.macs.getD (((l.getD k (0, 0)).1).toNat) mac0)).1))).2))) (i := ((b.macs.getD (((l.getD k (0, 0)).1).toNat) mac0).scale).toNat) (by simp only [List.length_set]; omega)) rfl) fun By j => ?_; clear h Bx
  refine s2 j (b_1 rfl en_68 (ev1 (j.ev rfl)) (empty_ok _ _ _)) ?_
  rintro BB _ Cw ⟨rfl, Au⟩ E; have M := Z.step Au; clear Au j Z By
  refine n1 ?_
  by_cases A9 : ((((c_9 b l e_6 k).set (((b.macs.getD (((l.getD k (0, 0)).1).toNat) mac0).scale).toNat) ((cutR (((c_9 b l e_6 k).getD (((b.macs.getD (((l.getD k (0, 0)).1).toNat) mac0).scale).toNat) (0, 0)).1, ((c_9 b l e_6 k).getD (((b.macs.getD (((l.getD k (0, 0)).1).toNat) mac0).scale).toNat) (0, 0)).2) (((l.getD k (0, 0)).2) - ((d_5 (b.macs.getD (((l.getD k (0, 0)).1).toNat) mac0)).2), ((l.getD k (0, 0)).2) - ((d_5 (b.macs.getD (((l.getD k (0, 0)).1).toNat) mac0)).1))).1, (cutR (((c_9 b l e_6 k).getD (((b.macs.getD (((l.getD k (0, 0)).1).toNat) mac0).scale).toNat) (0, 0)).1, ((c_9 b l e_6 k).getD (((b.macs.getD (((l.getD k (0, 0)).1).toNat) mac0).scale).toNat) (0, 0)).2) (((l.getD k (0, 0)).2) - ((d_5 (b.macs.getD (((l.getD k (0, 0)).1).toNat) mac0)).2), ((l.getD k (0, 0)).2) - ((d_5 (b.macs.getD (((l.getD k (0, 0)).1).toNat) mac0)).1))).2)).getD (((b.macs.getD (((l.getD k (0, 0)).1).toNat) mac0).scale).toNat) (0, 0)).2) < ((((c_9 b l e_6 k).set (((b.macs.getD (((l.getD k (0, 0)).1).toNat) mac0).scale).toNat) ((cutR (((c_9 b l e_6 k).getD (((b.macs.getD (((l.getD k (0, 0)).1).toNat) mac0).scale).toNat) (0, 0)).1, ((c_9 b l e_6 k).getD (((b.macs.getD (((l.getD k (0, 0)).1).toNat) mac0).scale).toNat) (0, 0)).2) (((l.getD k (0, 0)).2) - ((d_5 (b.macs.getD (((l.getD k (0, 0)).1).toNat) mac0)).2), ((l.getD k (0, 0)).2) - ((d_5 (b.macs.getD (((l.getD k (0, 0)).1).toNat) mac0)).1))).1, (cutR (((c_9 b l e_6 k).getD (((b.macs.getD (((l.getD k (0, 0)).1).toNat) mac0).scale).toNat) (0, 0)).1, ((c_9 b l e_6 k).getD (((b.macs.getD (((l.getD k (0, 0)).1).toNat) mac0).scale).toNat) (0, 0)).2) (((l.getD k (0, 0)).2) - ((d_5 (b.macs.getD (((l.getD k (0, 0)).1).toNat) mac0)).2), ((l.getD k (0, 0)).2) - ((d_5 (b.macs.getD (((l.getD k (0, 0)).1).toNat) mac0)).1))).2)).getD (((b.macs.getD (((l.getD k (0, 0)).1).toNat) mac0).scale).toNat) (0, 0)).1)
  ·skip
   rw [decide_eq_true A9] at E
   refine c_0 E rfl ?_
   refine b_6 ?_
   have m := E.as [(4, (bptr C 0))] rfl; clear E
   refine a_5 ?_
   refine s1 m (c_4 rfl k_8 (m.ev rfl) (M.bk 3 rfl) (l := (pairs ((c_9 b l e_6 k).set (((b.macs.getD (((l.getD k (0, 0)).1).toNat) mac0).scale).toNat) ((cutR (((c_9 b l e_6 k).getD (((b.macs.getD (((l.getD k (0, 0)).1).toNat) mac0).scale).toNat) (0, 0)).1, ((c_9 b l e_6 k).getD (((b.macs.getD (((l.getD k (0, 0)).1).toNat) mac0).scale).toNat) (0, 0)).2) (((l.getD k (0, 0)).2) - ((d_5 (b.macs.getD (((l.getD k (0, 0)).1).toNat) mac0)).2), ((l.getD k (0, 0)).2) - ((d_5 (b.macs.getD (((l.getD k (0, 0)).1).toNat) mac0)).1))).1, (cutR (((c_9 b l e_6 k).getD (((b.macs.getD (((l.getD k (0, 0)).1).toNat) mac0).scale).toNat) (0, 0)).1, ((c_9 b l e_6 k).getD (((b.macs.getD (((l.getD k (0, 0)).1).toNat) mac0).scale).toNat) (0, 0)).2) (((l.getD k (0, 0)).2) - ((d_5 (b.macs.getD (((l.getD k (0, 0)).1).toNat) mac0)).2), ((l.getD k (0, 0)).2) - ((d_5 (b.macs.getD (((l.getD k (0, 0)).1).toNat) mac0)).1))).2)))) (f_6 _ _ (show (pairs ((c_9 b l e_6 k).set (((b.macs.getD (((l.getD k (0, 0)).1).toNat) mac0).scale).toNat) ((cutR (((c_9 b l e_6 k).getD (((b.macs.getD (((l.getD k (0, 0)).1).toNat) mac0).scale).toNat) (0, 0)).1, ((c_9 b l e_6 k).getD (((b.macs.getD (((l.getD k (0, 0)).1).toNat) mac0).scale).toNat) (0, 0)).2) (((l.getD k (0, 0)).2) - ((d_5 (b.macs.getD (((l.getD k (0, 0)).1).toNat) mac0)).2), ((l.getD k (0, 0)).2) - ((d_5 (b.macs.getD (((l.getD k (0, 0)).1).toNat) mac0)).1))).1, (cutR (((c_9 b l e_6 k).getD (((b.macs.getD (((l.getD k (0, 0)).1).toNat) mac0).scale).toNat) (0, 0)).1, ((c_9 b l e_6 k).getD (((b.macs.getD (((l.getD k (0, 0)).1).toNat) mac0).scale).toNat) (0, 0)).2) (((l.getD k (0, 0)).2) - ((d_5 (b.macs.getD (((l.getD k (0, 0)).1).toNat) mac0)).2), ((l.getD k (0, 0)).2) - ((d_5 (b.macs.getD (((l.getD k (0, 0)).1).toNat) mac0)).1))).2))).length = 8 from by simp only [b_0, List.length_set]; omega)) (show (pairs ((c_9 b l e_6 k).set (((b.macs.getD (((l.getD k (0, 0)).1).toNat) mac0).scale).toNat) ((cutR (((c_9 b l e_6 k).getD (((b.macs.getD (((l.getD k (0, 0)).1).toNat) mac0).scale).toNat) (0, 0)).1, ((c_9 b l e_6 k).getD (((b.macs.getD (((l.getD k (0, 0)).1).toNat) mac0).scale).toNat) (0, 0)).2) (((l.getD k (0, 0)).2) - ((d_5 (b.macs.getD (((l.getD k (0, 0)).1).toNat) mac0)).2), ((l.getD k (0, 0)).2) - ((d_5 (b.macs.getD (((l.getD k (0, 0)).1).toNat) mac0)).1))).1, (cutR (((c_9 b l e_6 k).getD (((b.macs.getD (((l.getD k (0, 0)).1).toNat) mac0).scale).toNat) (0, 0)).1, ((c_9 b l e_6 k).getD (((b.macs.getD (((l.getD k (0, 0)).1).toNat) mac0).scale).toNat) (0, 0)).2) (((l.getD k (0, 0)).2) - ((d_5 (b.macs.getD (((l.getD k (0, 0)).1).toNat) mac0)).2), ((l.getD k (0, 0)).2) - ((d_5 (b.macs.getD (((l.getD k (0, 0)).1).toNat) mac0)).1))).2))).length = 8 from by simp only [b_0, List.length_set]; omega)) fun Bz R => ?_; clear m BB
   refine s7 R (b_8 M rfl k_8 (R.ev rfl) (R.ev rfl) (i := 3) rfl (vs := (pairs ((c_9 b l e_6 k).set (((b.macs.getD (((l.getD k (0, 0)).1).toNat) mac0).scale).toNat) ((cutR (((c_9 b l e_6 k).getD (((b.macs.getD (((l.getD k (0, 0)).1).toNat) mac0).scale).toNat) (0, 0)).1, ((c_9 b l e_6 k).getD (((b.macs.getD (((l.getD k (0, 0)).1).toNat) mac0).scale).toNat) (0, 0)).2) (((l.getD k (0, 0)).2) - ((d_5 (b.macs.getD (((l.getD k (0, 0)).1).toNat) mac0)).2), ((l.getD k (0, 0)).2) - ((d_5 (b.macs.getD (((l.getD k (0, 0)).1).toNat) mac0)).1))).1, (cutR (((c_9 b l e_6 k).getD (((b.macs.getD (((l.getD k (0, 0)).1).toNat) mac0).scale).toNat) (0, 0)).1, ((c_9 b l e_6 k).getD (((b.macs.getD (((l.getD k (0, 0)).1).toNat) mac0).scale).toNat) (0, 0)).2) (((l.getD k (0, 0)).2) - ((d_5 (b.macs.getD (((l.getD k (0, 0)).1).toNat) mac0)).2), ((l.getD k (0, 0)).2) - ((d_5 (b.macs.getD (((l.getD k (0, 0)).1).toNat) mac0)).1))).2)))) rfl (show (pairs ((c_9 b l e_6 k).set (((b.macs.getD (((l.getD k (0, 0)).1).toNat) mac0).scale).toNat) ((cutR (((c_9 b l e_6 k).getD (((b.macs.getD (((l.getD k (0, 0)).1).toNat) mac0).scale).toNat) (0, 0)).1, ((c_9 b l e_6 k).getD (((b.macs.getD (((l.getD k (0, 0)).1).toNat) mac0).scale).toNat) (0, 0)).2) (((l.getD k (0, 0)).2) - ((d_5 (b.macs.getD (((l.getD k (0, 0)).1).toNat) mac0)).2), ((l.getD k (0, 0)).2) - ((d_5 (b.macs.getD (((l.getD k (0, 0)).1).toNat) mac0)).1))).1, (cutR (((c_9 b l e_6 k).getD (((b.macs.getD (((l.getD k (0, 0)).1).toNat) mac0).scale).toNat) (0, 0)).1, ((c_9 b l e_6 k).getD (((b.macs.getD (((l.getD k (0, 0)).1).toNat) mac0).scale).toNat) (0, 0)).2) (((l.getD k (0, 0)).2) - ((d_5 (b.macs.getD (((l.getD k (0, 0)).1).toNat) mac0)).2), ((l.getD k (0, 0)).2) - ((d_5 (b.macs.getD (((l.getD k (0, 0)).1).toNat) mac0)).1))).2))).length = 8 from by simp only [b_0, List.length_set]; omega) (m_1 _) (by simp only [b_0, List.length_set, List.length_cons, List.length_nil]; omega)) ?_
   intro _ Cx Ay Al; have Az := Ay.n_7 (i := 3) rfl (cs' := (pairs ((c_9 b l e_6 k).set (((b.macs.getD (((l.getD k (0, 0)).1).toNat) mac0).scale).toNat) ((cutR (((c_9 b l e_6 k).getD (((b.macs.getD (((l.getD k (0, 0)).1).toNat) mac0).scale).toNat) (0, 0)).1, ((c_9 b l e_6 k).getD (((b.macs.getD (((l.getD k (0, 0)).1).toNat) mac0).scale).toNat) (0, 0)).2) (((l.getD k (0, 0)).2) - ((d_5 (b.macs.getD (((l.getD k (0, 0)).1).toNat) mac0)).2), ((l.getD k (0, 0)).2) - ((d_5 (b.macs.getD (((l.getD k (0, 0)).1).toNat) mac0)).1))).1, (cutR (((c_9 b l e_6 k).getD (((b.macs.getD (((l.getD k (0, 0)).1).toNat) mac0).scale).toNat) (0, 0)).1, ((c_9 b l e_6 k).getD (((b.macs.getD (((l.getD k (0, 0)).1).toNat) mac0).scale).toNat) (0, 0)).2) (((l.getD k (0, 0)).2) - ((d_5 (b.macs.getD (((l.getD k (0, 0)).1).toNat) mac0)).2), ((l.getD k (0, 0)).2) - ((d_5 (b.macs.getD (((l.getD k (0, 0)).1).toNat) mac0)).1))).2)))) (k_3 _ _ (by first | (simp only [b_0, List.length_set, List.length_cons, List.length_nil]; done) | (simp only [b_0, List.length_set, List.length_cons, List.length_nil]; omega))); clear Ay R M
   refine s1 Al (a_0 rfl (evc _ _)) fun Cn Am => ?_; clear Al Bz
   refine n1 ?_
   refine c_1 ?_
   refine b_9 ?_
   refine a_6 ?_
   refine a_6 ?_
   refine b_9 ?_
   refine a_6 ?_
   refine a_7 Am (.inl rfl) (d_1 Am rfl (.cellA rfl k_8 (Az.bk 3 rfl) (l := (pairs ((c_9 b l e_6 k).set (((b.macs.getD (((l.getD k (0, 0)).1).toNat) mac0).scale).toNat) ((cutR (((c_9 b l e_6 k).getD (((b.macs.getD (((l.getD k (0, 0)).1).toNat) mac0).scale).toNat) (0, 0)).1, ((c_9 b l e_6 k).getD (((b.macs.getD (((l.getD k (0, 0)).1).toNat) mac0).scale).toNat) (0, 0)).2) (((l.getD k (0, 0)).2) - ((d_5 (b.macs.getD (((l.getD k (0, 0)).1).toNat) mac0)).2), ((l.getD k (0, 0)).2) - ((d_5 (b.macs.getD (((l.getD k (0, 0)).1).toNat) mac0)).1))).1, (cutR (((c_9 b l e_6 k).getD (((b.macs.getD (((l.getD k (0, 0)).1).toNat) mac0).scale).toNat) (0, 0)).1, ((c_9 b l e_6 k).getD (((b.macs.getD (((l.getD k (0, 0)).1).toNat) mac0).scale).toNat) (0, 0)).2) (((l.getD k (0, 0)).2) - ((d_5 (b.macs.getD (((l.getD k (0, 0)).1).toNat) mac0)).2), ((l.getD k (0, 0)).2) - ((d_5 (b.macs.getD (((l.getD k (0, 0)).1).toNat) mac0)).1))).2)))) (f_6 _ _ (show (pairs ((c_9 b l e_6 k).set (((b.macs.getD (((l.getD k (0, 0)).1).toNat) mac0).scale).toNat) ((cutR (((c_9 b l e_6 k).getD (((b.macs.getD (((l.getD k (0, 0)).1).toNat) mac0).scale).toNat) (0, 0)).1, ((c_9 b l e_6 k).getD (((b.macs.getD (((l.getD k (0, 0)).1).toNat) mac0).scale).toNat) (0, 0)).2) (((l.getD k (0, 0)).2) - ((d_5 (b.macs.getD (((l.getD k (0, 0)).1).toNat) mac0)).2), ((l.getD k (0, 0)).2) - ((d_5 (b.macs.getD (((l.getD k (0, 0)).1).toNat) mac0)).1))).1, (cutR (((c_9 b l e_6 k).getD (((b.macs.getD (((l.getD k (0, 0)).1).toNat) mac0).scale).toNat) (0, 0)).1, ((c_9 b l e_6 k).getD (((b.macs.getD (((l.getD k (0, 0)).1).toNat) mac0).scale).toNat) (0, 0)).2) (((l.getD k (0, 0)).2) - ((d_5 (b.macs.getD (((l.getD k (0, 0)).1).toNat) mac0)).2), ((l.getD k (0, 0)).2) - ((d_5 (b.macs.getD (((l.getD k (0, 0)).1).toNat) mac0)).1))).2))).length = 8 from by simp only [b_0, List.length_set]; omega)) (show (pairs ((c_9 b l e_6 k).set (((b.macs.getD (((l.getD k (0, 0)).1).toNat) mac0).scale).toNat) ((cutR (((c_9 b l e_6 k).getD (((b.macs.getD (((l.getD k (0, 0)).1).toNat) mac0).scale).toNat) (0, 0)).1, ((c_9 b l e_6 k).getD (((b.macs.getD (((l.getD k (0, 0)).1).toNat) mac0).scale).toNat) (0, 0)).2) (((l.getD k (0, 0)).2) - ((d_5 (b.macs.getD (((l.getD k (0, 0)).1).toNat) mac0)).2), ((l.getD k (0, 0)).2) - ((d_5 (b.macs.getD (((l.getD k (0, 0)).1).toNat) mac0)).1))).1, (cutR (((c_9 b l e_6 k).getD (((b.macs.getD (((l.getD k (0, 0)).1).toNat) mac0).scale).toNat) (0, 0)).1, ((c_9 b l e_6 k).getD (((b.macs.getD (((l.getD k (0, 0)).1).toNat) mac0).scale).toNat) (0, 0)).2) (((l.getD k (0, 0)).2) - ((d_5 (b.macs.getD (((l.getD k (0, 0)).1).toNat) mac0)).2), ((l.getD k (0, 0)).2) - ((d_5 (b.macs.getD (((l.getD k (0, 0)).1).toNat) mac0)).1))).2))).length = 8 from by simp only [b_0, List.length_set]; omega)) (.tmp rfl)) ?_
   have hz := start_empty hb hl (k := k) (by omega) (by assumption)
   exact ⟨_, hsl1, by rw [hz]; rfl, fun t h_ => by rw [hz] at h_; (cases h_), Az.ext⟩
  skip
  rw [decide_eq_false A9] at E
  refine b_5 E rfl ?_
  refine c_6 ?_
  refine g_0 ?_
  refine a_9 ?_
  have n := E.as [(22, (Value.int .i64 (k : Int))), (21, (Value.int .i64 (l.length : Int))), (20, xl), (4, (bptr C 0)), (0, (bptr bx 0))] rfl; clear E
  refine a_5 ?_
  refine s1 n (f_1 rfl (n.ev rfl) (evc _ _) (by omega) (by omega)) fun B0 o => ?_; clear n BB
  refine s1 o (a_1 rfl (o.ev rfl)) fun Co Bh => ?_; clear o B0
  refine e_8 ?_
  have Bj := M.gkp (gpc 3 (gpc 4 (gpc 5 (gpc 6 (gpc 7 (gpc 8 gpn)))))); clear M
  exact a_9 ⟨k + 1, ⟨Bh.as _ rfl, Bj, by omega, (start_next hb hl (by omega) hfu (by assumption))⟩, by omega⟩
 skip
 rw [decide_eq_false Be] at I
 refine b_5 I rfl ?_
 refine g_3 ?_
 refine b_3 ?_
 refine b_3 ?_
 refine f_2 ?_
 refine a_9 ?_
 refine c_3 ?_
 have An := I.as [(4, (bptr C 0)), (0, (bptr bx 0))] rfl; clear I
 refine g_4 (G := Nat) (fun (g : Nat) a_ w_ => ∃ x_ : List (Int × Int), Fr 79 [] [(4, (bptr C 0)), (0, (bptr bx 0))] a_ ∧ Sep NoB w w_ [(blk C 120 (pairs x_)), (rob bx 146 [(Value.int .i64 b.scales), vt, vm, (Value.map (some bm))]), (mapX false bm es ck es.size 106 5 (bN b.tabs b.tabs.length) (bC lr lb b.tabs b.tabs.length)), (e_1 false vt lr lb b.tabs), (f_0 false vm lk b.macs), (sl xl 2 l.length (pairs l))] ∧ (Go.Hard.Loop b.scales.toNat b.tabs (y_6 b l) x_) ∧ (w_9 b l = s_6 b.scales.toNat (f_8 b.scales.toNat b.tabs) g x_) ∧ (width x_ < g)) (fun g => g) 400001 ⟨(c_9 b l e_6 k), An.as _ rfl, N, (by have hkl : k = l.length := (by omega); subst hkl; exact loop_start hb hl hfu), (by have hkl : k = l.length := (by omega); subst hkl; exact spans_go hfu), (by have hkl : k = l.length := (by omega); subst hkl; exact Nat.lt_succ_of_le (start_width hb hl))⟩ ?_
 clear An N Bm
 rintro g B1 Cy ⟨x_, q, K, hlp, hsp, hwd⟩
 have C9 : x_.length = 4 := hlp.len; have Bt : (g_7 (f_8 b.scales.toNat b.tabs) x_).1.length = 4 := (hlp.pass hb.four hb.orderV).1
 refine c_3 ?_
 refine m2 ?_
 refine s1 q (a_1 rfl (q.ev rfl)) fun B2 r => ?_; clear q B1
 refine s1 r (c_4 rfl k_8 (r.ev rfl) (K.bk 0 rfl) (l := (pairs x_)) (f_6 _ _ (show (pairs x_).length = 8 from by simp only [b_0, List.length_set]; omega)) (show (pairs x_).length = 8 from by simp only [b_0, List.length_set]; omega)) fun B3 S => ?_; clear r B2
 refine s2 S (b_1 rfl en_88 (ev2 (S.ev rfl) (S.ev rfl)) (cutb_ok b vt vm lr lb lk _ (b_7 (K.ok 3 _ rfl)) (c_2 (K.ok 4 _ rfl)) hth bx bm _ _ hMO (K.rk 1 rfl) (K.ok 2 _ rfl) hb x_ (by omega))) ?_
 rintro B4 _ Cz ⟨rfl, Av⟩ s; have A0 := K.step Av; clear Av S K B3
 refine s1 s (a_1 rfl (s.ev rfl)) fun B5 u => ?_; clear s B4
 refine s1 u (e_5 rfl (u.ev rfl) rfl) fun B6 y => ?_; clear u B5
 refine s1 y (e_5 rfl (y.ev rfl) rfl) fun B7 Ao => ?_; clear y B6
 refine s2 Ao (d_9 A0 rfl ze_120 (cs := [(Value.int .i64 0), (Value.int .i64 0), (Value.int .i64 0), (Value.int .i64 0), (Value.int .i64 0), (Value.int .i64 0), (Value.int .i64 0), (Value.int .i64 0)]) rfl) ?_
 rintro B8 _ C0 ⟨d, rfl, A1⟩ T; clear Ao A0 B7
 refine s7 T (b_8 A1 rfl k_8 (T.ev rfl) (T.ev rfl) (i := 0) rfl (vs := (pairs ((g_7 (f_8 b.scales.toNat b.tabs) x_).1))) rfl (show (pairs ((g_7 (f_8 b.scales.toNat b.tabs) x_).1)).length = 8 from by simp only [b_0, List.length_set]; omega) (m_1 _) (by decide)) ?_
 intro _ C1 A2 z; have A := A2.n_7 (i := 0) rfl (cs' := (pairs ((g_7 (f_8 b.scales.toNat b.tabs) x_).1))) (k_3 _ _ (Eq.symm (show (pairs ((g_7 (f_8 b.scales.toNat b.tabs) x_).1)).length = 8 from by simp only [b_0, List.length_set]; omega))); clear A2 T A1
 refine s1 z (a_0 rfl (z.ev rfl)) fun B9 Ap => ?_; clear z B8
 refine n2 ?_
 refine b_6 ?_
 have AA := Ap.as [(12, (Value.bool (ab_4 b.scales.toNat (g_7 (f_8 b.scales.toNat b.tabs) x_).1))), (11, (bptr d 0)), (4, (bptr C 0)), (0, (bptr bx 0))] rfl; clear Ap
 refine a_5 ?_
 refine s1 AA (a_1 rfl (AA.ev rfl)) fun CA AB => ?_; clear AA B9
 refine s1 AB (e_9 rfl (AB.ev rfl)) fun CB AC => ?_; clear AB CA
 refine s1 AC (a_1 rfl (AC.ev rfl)) fun BC J => ?_; clear AC CB
 rcases Bool.eq_false_or_eq_true ((ab_4 b.scales.toNat (g_7 (f_8 b.scales.toNat b.tabs) x_).1)) with AV | AV
 ·skip
  rw [AV] at J
  refine s5 J (c_4 rfl k_8 (J.ev rfl) (A.bk 0 rfl) (l := (pairs ((g_7 (f_8 b.scales.toNat b.tabs) x_).1))) (f_6 _ _ (show (pairs ((g_7 (f_8 b.scales.toNat b.tabs) x_).1)).length = 8 from by simp only [b_0, List.length_set]; omega)) (show (pairs ((g_7 (f_8 b.scales.toNat b.tabs) x_).1)).length = 8 from by simp only [b_0, List.length_set]; omega)) fun CC AD => ?_; clear J BC
  refine s5 AD (c_4 rfl k_8 (AD.ev rfl) (A.bk 1 rfl) (l := (pairs x_)) (f_6 _ _ (show (pairs x_).length = 8 from by simp only [b_0, List.length_set]; omega)) (show (pairs x_).length = 8 from by simp only [b_0, List.length_set]; omega)) fun CD U => ?_; clear AD CC
  refine s5 U (op_eqlAP ar_120 tw_30 f_7 gt_120 rfl (U.ev rfl) (U.ev rfl) (by omega) (by omega)) fun CE V => ?_; clear U CD
  refine s1 V (c_8 rfl (V.ev rfl) (V.ev rfl)) fun BD F => ?_; clear V CE
  refine n1 ?_
  by_cases BA : (g_7 (f_8 b.scales.toNat b.tabs) x_).1 = x_
  ·skip
   rw [decide_eq_true BA] at F
   refine c_0 F rfl ?_
   refine b_6 ?_
   have AE := F.as [(12, (Value.bool true)), (11, (bptr d 0)), (4, (bptr C 0))] rfl; clear F
   refine a_5 ?_
   refine s1 AE (c_4 rfl k_8 (AE.ev rfl) (A.bk 0 rfl) (l := (pairs ((g_7 (f_8 b.scales.toNat b.tabs) x_).1))) (f_6 _ _ (show (pairs ((g_7 (f_8 b.scales.toNat b.tabs) x_).1)).length = 8 from by simp only [b_0, List.length_set]; omega)) (show (pairs ((g_7 (f_8 b.scales.toNat b.tabs) x_).1)).length = 8 from by simp only [b_0, List.length_set]; omega)) fun CF AF => ?_; clear AE BD
   refine s1 AF (a_1 rfl (AF.ev rfl)) fun CG W => ?_; clear AF CF
   refine s7 W (b_8 A rfl k_8 (W.ev rfl) (W.ev rfl) (i := 1) rfl (vs := (pairs ((g_7 (f_8 b.scales.toNat b.tabs) x_).1))) rfl (show (pairs ((g_7 (f_8 b.scales.toNat b.tabs) x_).1)).length = 8 from by simp only [b_0, List.length_set]; omega) (m_1 _) (by simp only [b_0, List.length_set, List.length_cons, List.length_nil]; omega)) ?_
   intro _ C2 A3 AG; have A4 := A3.n_7 (i := 1) rfl (cs' := (pairs ((g_7 (f_8 b.scales.toNat b.tabs) x_).1))) (k_3 _ _ (by first | (simp only [b_0, List.length_set, List.length_cons, List.length_nil]; done) | (simp only [b_0, List.length_set, List.length_cons, List.length_nil]; omega))); clear A3 W A
   refine s1 AG (a_0 rfl (AG.ev rfl)) fun Cp Aq => ?_; clear AG CG
   refine n1 ?_
   refine c_1 ?_
   refine a_6 ?_
   refine b_9 ?_
   refine a_6 ?_
   refine b_9 ?_
   refine a_7 Aq (.inl rfl) (d_1 Aq rfl (.cellA rfl k_8 (A4.bk 1 rfl) (l := (pairs ((g_7 (f_8 b.scales.toNat b.tabs) x_).1))) (f_6 _ _ (show (pairs ((g_7 (f_8 b.scales.toNat b.tabs) x_).1)).length = 8 from by simp only [b_0, List.length_set]; omega)) (show (pairs ((g_7 (f_8 b.scales.toNat b.tabs) x_).1)).length = 8 from by simp only [b_0, List.length_set]; omega)) (.tmp rfl)) ?_
   have hz := hsp.trans (k_done (by omega) (by assumption) (by assumption))
   exact ⟨_, Bt, by rw [hz]; rfl, fun t h_ => by rw [hz] at h_; rw [← Option.some.inj h_]; congr 1, A4.ext⟩
  skip
  rw [decide_eq_false BA] at F
  refine b_5 F rfl ?_
  refine c_6 ?_
  refine a_9 ?_
  have AH := F.as [(11, (bptr d 0)), (4, (bptr C 0)), (0, (bptr bx 0))] rfl; clear F
  refine a_5 ?_
  refine s1 AH (c_4 rfl k_8 (AH.ev rfl) (A.bk 0 rfl) (l := (pairs ((g_7 (f_8 b.scales.toNat b.tabs) x_).1))) (f_6 _ _ (show (pairs ((g_7 (f_8 b.scales.toNat b.tabs) x_).1)).length = 8 from by simp only [b_0, List.length_set]; omega)) (show (pairs ((g_7 (f_8 b.scales.toNat b.tabs) x_).1)).length = 8 from by simp only [b_0, List.length_set]; omega)) fun Cq X => ?_; clear AH BD
  refine s7 X (b_8 A rfl k_8 (X.ev rfl) (X.ev rfl) (i := 1) rfl (vs := (pairs ((g_7 (f_8 b.scales.toNat b.tabs) x_).1))) rfl (show (pairs ((g_7 (f_8 b.scales.toNat b.tabs) x_).1)).length = 8 from by simp only [b_0, List.length_set]; omega) (m_1 _) (by simp only [b_0, List.length_set, List.length_cons, List.length_nil]; omega)) ?_
  intro _ C3 A5 Bi; have A6 := A5.n_7 (i := 1) rfl (cs' := (pairs ((g_7 (f_8 b.scales.toNat b.tabs) x_).1))) (k_3 _ _ (by first | (simp only [b_0, List.length_set, List.length_cons, List.length_nil]; done) | (simp only [b_0, List.length_set, List.length_cons, List.length_nil]; omega))); clear A5 X A
  refine e_8 ?_
  refine g_0 ?_
  have Bk := A6.gkp (gpc 1 (gpc 2 (gpc 3 (gpc 4 (gpc 5 (gpc 6 gpn)))))); clear A6
  exact a_9 ⟨(g - 1), ⟨(g_7 (f_8 b.scales.toNat b.tabs) x_).1, Bi.as _ rfl, Bk, (hlp.next hb.four hb.orderV (full_iff.1 (by assumption)) (by assumption)).1, (hsp.trans (k_next (by omega) (by assumption) (by assumption))), (by have := (hlp.next hb.four hb.orderV (full_iff.1 (by assumption)) (by assumption)).2; omega)⟩, by omega⟩
 skip
 rw [AV] at J
 refine s3 J fun CH Ar => ?_; clear J BC
 refine s3 Ar fun CI As => ?_; clear Ar CH
 refine s3 As fun CJ AI => ?_; clear As CI
 refine s1 AI (b_4 rfl (AI.ev rfl) (evc _ _)) fun CK AJ => ?_; clear AI CJ
 refine n1 ?_
 refine c_0 AJ rfl ?_
 refine b_6 ?_
 have AK := AJ.as [(12, (Value.bool false)), (11, (bptr d 0)), (4, (bptr C 0))] rfl; clear AJ
 refine a_5 ?_
 refine s1 AK (c_4 rfl k_8 (AK.ev rfl) (A.bk 0 rfl) (l := (pairs ((g_7 (f_8 b.scales.toNat b.tabs) x_).1))) (f_6 _ _ (show (pairs ((g_7 (f_8 b.scales.toNat b.tabs) x_).1)).length = 8 from by simp only [b_0, List.length_set]; omega)) (show (pairs ((g_7 (f_8 b.scales.toNat b.tabs) x_).1)).length = 8 from by simp only [b_0, List.length_set]; omega)) fun CL AL => ?_; clear AK CK
 refine s1 AL (a_1 rfl (AL.ev rfl)) fun CM Y => ?_; clear AL CL
 refine s7 Y (b_8 A rfl k_8 (Y.ev rfl) (Y.ev rfl) (i := 1) rfl (vs := (pairs ((g_7 (f_8 b.scales.toNat b.tabs) x_).1))) rfl (show (pairs ((g_7 (f_8 b.scales.toNat b.tabs) x_).1)).length = 8 from by simp only [b_0, List.length_set]; omega) (m_1 _) (by simp only [b_0, List.length_set, List.length_cons, List.length_nil]; omega)) ?_
 intro _ C4 A7 AM; have A8 := A7.n_7 (i := 1) rfl (cs' := (pairs ((g_7 (f_8 b.scales.toNat b.tabs) x_).1))) (k_3 _ _ (by first | (simp only [b_0, List.length_set, List.length_cons, List.length_nil]; done) | (simp only [b_0, List.length_set, List.length_cons, List.length_nil]; omega))); clear A7 Y A
 refine s1 AM (a_0 rfl (AM.ev rfl)) fun Cr At => ?_; clear AM CM
 refine n1 ?_
 refine c_1 ?_
 refine a_6 ?_
 refine b_9 ?_
 refine a_6 ?_
 refine b_9 ?_
 refine a_7 At (.inl rfl) (d_1 At rfl (.cellA rfl k_8 (A8.bk 1 rfl) (l := (pairs ((g_7 (f_8 b.scales.toNat b.tabs) x_).1))) (f_6 _ _ (show (pairs ((g_7 (f_8 b.scales.toNat b.tabs) x_).1)).length = 8 from by simp only [b_0, List.length_set]; omega)) (show (pairs ((g_7 (f_8 b.scales.toNat b.tabs) x_).1)).length = 8 from by simp only [b_0, List.length_set]; omega)) (.tmp rfl)) ?_
 have hz := hsp.trans (k_fail (by assumption))
 exact ⟨_, Bt, by rw [hz]; rfl, fun t h_ => by rw [hz] at h_; (cases h_), A8.ext⟩
end Go.Proofs.Ytohgladndklciaa

namespace Go.Proofs.Ytohgladndklciaa
open Go.RowKit Go.Shelf Go.Eng Go.Hard
theorem bs_30_0_  : Instr.fill (fun i => some (i * 2, 2)) ((Array.range (0 * 2)).map ((Value.agg #[(Value.int .i64 0), (Value.int .i64 0)]).cells[· % (Value.agg #[(Value.int .i64 0), (Value.int .i64 0)]).cells.size]!)) [] = some (([] : List Value).toArray) := by kernel_rfl
theorem el_30 : elK Try.prog 30 = some ((Value.agg #[(Value.int .i64 0), (Value.int .i64 0)]), 2, 16) := by kernel_rfl
theorem el_98 : elK Try.prog 98 = some ((Value.agg #[(Value.int .i64 0), (Value.int .i64 0)]), 2, 16) := by kernel_rfl
theorem clone_rng (xs : List (Int × Int)) (v : Value) (w : World) (hv : SlAt w v 2 xs.length (pairs xs)) (hlen : xs.length ≤ 1000000) :
  Calls Try.prog 58 #[v] w (Ret fun v w' => Ext NoB w w' ∧ w'.ownsRow w.heap.size 30 2 v xs.length (pairs xs)) := by
 refine a_8 Try.func58 rfl fun P F => ?_
 replace F : Fr 8 [] [(0, v)] P := F
 have G : Sep NoB w w [(sl v 2 xs.length (pairs xs))] := e_3 ⟨rfl, hv, trivial⟩
 refine m2 ?_
 refine s1 F (a_0 rfl (evc _ _)) fun V I => ?_; clear F P
 refine n2 ?_
 refine m2 ?_
 refine s1 I (a_1 rfl (I.ev rfl)) fun W K => ?_; clear I V
 refine s2 K (op_eqlNil un_50 rfl (K.ev rfl) (evc _ _) (G.sk 0 rfl) (by decide)) ?_
 rintro T _ _ ⟨bn7, rfl, rfl, U⟩ A; clear K W
 refine n1 ?_
 rcases Bool.eq_false_or_eq_true (bn7) with O | O
 ·skip
  rw [O] at A
  refine c_0 A rfl ?_
  refine m2 ?_
  refine s1 A (a_0 rfl (evc _ _)) fun X H => ?_; clear A T
  refine n1 ?_
  refine c_1 ?_
  refine a_6 ?_
  refine a_7 H (.inl rfl) (a_2 H rfl (.tmp rfl)) ?_
  exact ⟨G.ext, by have hz := (U (by assumption)); rw [hz.1, hz.2]; exact ⟨by simp, .inl ⟨rfl, rfl⟩⟩⟩
 skip
 rw [O] at A
 refine b_5 A rfl ?_
 refine c_6 ?_
 refine a_9 ?_
 refine m2 ?_
 refine s2 A (h_2 G rfl pv0 un_50 f_7 x_5 (by decide) (cs := []) bs_30_0_) ?_
 rintro Q _ b ⟨Z, rfl, L⟩ C; clear A G T
 refine s1 C (a_1 rfl (C.ev rfl)) fun R B => ?_; clear C Q
 have E := L.v_5 (i := 0) (sz := 2) (n := 0) rfl rfl (by decide); clear L
 refine s2 B (q_1 E rfl un_50 el_30 (B.ev rfl) (B.ev rfl) (i := 0) rfl (E.sk 1 rfl) (m_1 _) (by simp [maxLen]; omega) (by omega)) ?_
 intro S a c M D
 have N := M.k_0 (i := 0) rfl (n' := xs.length) (xs' := (pairs xs)) (by simp) (by simp); clear M B E R
 refine s1 D (a_0 rfl (D.ev rfl)) fun Y J => ?_; clear D S
 refine n1 ?_
 refine c_1 ?_
 refine a_7 J (.inl rfl) (a_2 J rfl (.tmp rfl)) ?_
 exact ⟨N.ext, N.row_new (i := 0) rfl⟩
end Go.Proofs.Ytohgladndklciaa

namespace Go.Proofs.Ytohgladndklciaa
open Go.RowKit Go.Shelf Go.Eng Go.Hard
theorem en_56 : ∀ args w, (callFunc 56 args).run Try.prog w = .ok (.enter 56 args) w := enters_of Try.func56 (by kernel_rfl) rfl
theorem en_57 : ∀ args w, (callFunc 57 args).run Try.prog w = .ok (.enter 57 args) w := enters_of Try.func57 (by kernel_rfl) rfl
theorem en_58 : ∀ args w, (callFunc 58 args).run Try.prog w = .ok (.enter 58 args) w := enters_of Try.func58 (by kernel_rfl) rfl
theorem Spans_ok (b : g_9) (vt vm : Value) (lr lb lk : Nat → Value) (w : World) (hT : i_6 w vt lr lb b.tabs) (hM : j_2 w vm lk b.macs) (hth : n_6 b) (l : List (Int × Int)) (xl : Value) (hxl : SlAt w xl 2 l.length (pairs l)) (hlb : l.length ≤ 1000000) (t : h_0) (hr : l_6 b l = 0) (hs : w_9 b l = some t) :
  Calls Try.prog 25 #[(Value.agg #[(Value.int .i64 b.scales), vt, vm]), xl] w (Ret fun v w' => ∃ u, v = .tuple #[u, .int .i64 0] ∧ Sep NoB w w' [row u 30 2 t.length (pairs t)]) := by
 refine a_8 Try.func25 rfl fun a0 J => ?_
 replace J : Fr 31 [] [(0, (Value.agg #[(Value.int .i64 b.scales), vt, vm])), (1, xl)] a0 := J
 have hc : f_3 b = 0 := read_check hr; have hbl := read_ok hr; have hb := hbl.1; have hl := hbl.2; have hll := hl.len; have hsc := hb.scales
 have z : Sep NoB w w [(e_1 false vt lr lb b.tabs), (f_0 false vm lk b.macs), (sl xl 2 l.length (pairs l))] := e_3 ⟨rfl, hT, rfl, hM, rfl, hxl, trivial⟩
 refine m2 ?_
 refine s2 J (e_7 z rfl (J.ev rfl) (cs := [(Value.int .i64 b.scales), vt, vm]) rfl) ?_
 rintro a1 _ w3 ⟨b4, rfl, B⟩ x; clear J z a0
 refine s1 x (a_0 rfl (evc _ _)) fun a6 y => ?_; clear x a1
 refine s1 y (a_0 rfl (evc _ _)) fun a8 k => ?_; clear y a6
 refine n4 ?_
 refine s1 k (c_4 rfl s_7 (k.ev rfl) (B.bk 0 rfl) (l := [(Value.int .i64 b.scales), vt, vm]) rfl rfl) fun AD L => ?_; clear k a8
 refine s1 L (a_1 rfl (L.ev rfl)) fun AE C => ?_; clear L AD
 refine s2 C (b_1 rfl en_56 (ev2 (C.ev rfl) (C.ev rfl)) (read_yes b vt vm lr lb lk _ (b_7 (B.ok 1 _ rfl)) (c_2 (B.ok 2 _ rfl)) hth l _ (B.sk 3 rfl) (by omega) hc hr)) ?_
 rintro AF _ Ak ⟨bx19, bm20, es21, ck22, rfl, hMO23, s⟩ M; have A := B.y_8 s rfl; clear s C B AE
 refine s1 M (a_1 rfl (M.ev rfl)) fun AG N => ?_; clear M AF
 refine s1 N (e_5 rfl (N.ev rfl) rfl) fun AH O => ?_; clear N AG
 refine s1 O (e_5 rfl (O.ev rfl) rfl) fun AI P => ?_; clear O AH
 refine s1 P (a_0 rfl (P.ev rfl)) fun AJ Q => ?_; clear P AI
 refine s1 Q (a_0 rfl (Q.ev rfl)) fun AK f => ?_; clear Q AJ
 refine n2 ?_
 refine b_6 ?_
 have R := f.as [(7, (Value.int .i64 0)), (6, (bptr bx19 0)), (2, (bptr b4 0)), (1, xl)] rfl; clear f
 refine a_5 ?_
 refine s1 R (a_1 rfl (R.ev rfl)) fun AL S => ?_; clear R AK
 refine s1 S (w_8 rfl (S.ev rfl) (evc _ _)) fun AM D => ?_; clear S AL
 refine n1 ?_
 refine b_5 D rfl ?_
 refine c_6 ?_
 refine a_9 ?_
 refine m2 ?_
 refine s1 D (a_1 rfl (D.ev rfl)) fun AN T => ?_; clear D AM
 refine s1 T (a_1 rfl (T.ev rfl)) fun AO E => ?_; clear T AN
 refine s2 E (b_1 rfl en_57 (ev2 (E.ev rfl) (E.ev rfl)) (spansb_ok b vt vm lr lb lk _ (b_7 (A.ok 3 _ rfl)) (c_2 (A.ok 4 _ rfl)) hth bx19 bm20 _ _ (by assumption) (A.bk 0 rfl) (mapX_ro (A.ok 1 _ rfl)) hb l _ (A.sk 5 rfl) hl)) ?_
 rintro AP _ Al ⟨K, Ah, rfl, htk48, n⟩ U; have p := A.step n; clear n E A AO
 refine s1 U (a_1 rfl (U.ev rfl)) fun AQ V => ?_; clear U AP
 refine s1 V (e_5 rfl (V.ev rfl) rfl) fun AR W => ?_; clear V AQ
 refine s1 W (e_5 rfl (W.ev rfl) rfl) fun AS X => ?_; clear W AR
 have AB : ((w_9 b l).isSome) = true := (by rw [hs]; rfl)
 rw [AB] at X
 refine s2 X (d_9 p rfl ze_120 (cs := [(Value.int .i64 0), (Value.int .i64 0), (Value.int .i64 0), (Value.int .i64 0), (Value.int .i64 0), (Value.int .i64 0), (Value.int .i64 0), (Value.int .i64 0)]) rfl) ?_
 rintro AT _ Am ⟨Ad, rfl, q⟩ F; clear X p AS
 refine s7 F (b_8 q rfl k_8 (F.ev rfl) (F.ev rfl) (i := 0) rfl (vs := (pairs K)) rfl (show (pairs K).length = 8 from by simp only [b_0, List.length_set]; omega) (m_1 _) (by decide)) ?_
 intro _ An r Y; have I := r.n_7 (i := 0) rfl (cs' := (pairs K)) (k_3 _ _ (Eq.symm (show (pairs K).length = 8 from by simp only [b_0, List.length_set]; omega))); clear r F q
 refine s1 Y (a_0 rfl (Y.ev rfl)) fun AU g => ?_; clear Y AT
 refine n2 ?_
 refine b_6 ?_
 have Z := g.as [(9, (Value.bool true)), (8, (bptr Ad 0)), (2, (bptr b4 0))] rfl; clear g
 refine a_5 ?_
 refine s1 Z (a_1 rfl (Z.ev rfl)) fun AV a => ?_; clear Z AU
 refine s1 a (e_9 rfl (a.ev rfl)) fun AW G => ?_; clear a AV
 refine n1 ?_
 refine b_5 G rfl ?_
 refine c_6 ?_
 refine a_9 ?_
 refine m2 ?_
 refine s1 G (a_4 rfl y_0 (G.ev rfl)) fun AX c => ?_; clear G AW
 refine s1 c (a_3 rfl ty_3 (c.ev rfl) (I.bk 3 rfl) rfl) fun AY H => ?_; clear c AX
 refine s1 H (op_sliceArr rfl x_0 f_7 (H.ev rfl) (h := b.scales.toNat) ((H.ev rfl).trans (h_6 (by omega))) (by omega)) fun AZ d => ?_; clear H AY
 refine s2 d (b_1 rfl en_58 (ev1 (d.ev rfl)) (clone_rng (K.take b.scales.toNat) _ _ ((SlAt.of_blkCut (I.bk 0 rfl) (by rw [b_0]; omega) (by omega) (by decide)).say (by rw [List.length_take]; omega) (pairs_takeH _ _)) (by rw [List.length_take]; omega))) ?_
 rintro Aa Aj Ao ⟨o, hO84⟩ e; have AA := I.new_row o hO84; clear o hO84 d I AZ
 refine s1 e (a_0 rfl (e.ev rfl)) fun Ab j => ?_; clear e Aa
 refine s1 j (a_0 rfl (evc _ _)) fun Ai m => ?_; clear j Ab
 refine n1 ?_
 refine c_1 ?_
 refine a_7 m (.inl rfl) (d_1 m rfl (.tmp rfl) (.tmp rfl)) ?_
 have hz := AA.keep [0] (by decide) [_] rfl rfl
 rw [htk48 _ hs] at hz
 exact ⟨_, rfl, hz⟩
end Go.Proofs.Ytohgladndklciaa

namespace Go.Hard
open Go.RowKit Go.Eng
section
variable {X : Nat → Prop} {w0 w : World} {L : List Res}
theorem o_7 (h : Sep X w0 w L) (v : Nat → Value) (sz : Nat) (k : Nat → Nat) (c : Nat → List Value) : Sep X w0 w (slsR true 0 v sz k c :: L) :=
  h.push (Ext.refl _ _) (fun i hi => absurd hi (Nat.not_lt_zero _)) (fun b hb => by obtain ⟨i, hi, _⟩ := hb; exact absurd hi (Nat.not_lt_zero _))
theorem k_1 {u : Value} {e sz m n : Nat} {xs : List Value} {v : Nat → Value} {k k' : Nat → Nat} {c c' : Nat → List Value} (h : Sep X w0 w (row u e sz m xs :: slsR true n v sz k c :: L)) (hk : k' n = m) (hc : c' n = xs) (hold : ∀ i, i < n → k' i = k i ∧ c' i = c i) :
    Sep X w0 w (slsR true (n + 1) (putV n v u) sz k' c' :: L) := by
  have h0 := h.j_5 0 rfl
  have h1 := h.ok 1 _ rfl
  refine h.join (t := slsR true (n + 1) (putV n v u) sz k' c') (fun i hi => ?_) (fun b hb => ?_) (fun _ => ⟨rfl, rfl⟩) (fun _ => trivial)
  · rcases Nat.lt_succ_iff_lt_or_eq.1 hi with hi | rfl
    · rw [w_1 _ _ hi, (hold i hi).1, (hold i hi).2]; exact h1 i hi
    · rw [w_0, hk, hc]; exact SlAt.i_1 h0
  · obtain ⟨i, hi, hb⟩ := hb
    rcases Nat.lt_succ_iff_lt_or_eq.1 hi with hi | rfl
    · rw [w_1 _ _ hi, (hold i hi).2] at hb; exact .inr ⟨i, hi, hb⟩
    · rw [w_0, hc] at hb; exact .inl (u_9 hb)
theorem sep_sls_say {i : Nat} {o : Bool} {sz n n' : Nat} {v v' : Nat → Value} {k k' : Nat → Nat} {c c' : Nat → List Value} (h : Sep X w0 w L) (hi : L[i]? = some (slsR o n v sz k c)) (hn : n = n') (he : ∀ i, i < n → v' i = v i ∧ k' i = k i ∧ c' i = c i) : Sep X w0 w (L.set i (slsR o n' v' sz k' c')) := by
  subst hn
  have h1 := h.ok i _ hi
  refine h.say hi (fun q hq => ?_) (fun b hb => ?_) (fun ho => ho)
  · rw [(he q hq).1, (he q hq).2.1, (he q hq).2.2]; exact h1 q hq
  · obtain ⟨q, hq, hb⟩ := hb
    rw [(he q hq).1, (he q hq).2.2] at hb; exact ⟨q, hq, hb⟩
theorem sep_tabs_join {vt : Value} {lr lb : Nat → Value} {ts : List TabD} (h : Sep X w0 w (row vt 106 5 ts.length (m_8 lr lb ts) :: slsR true ts.length lr 2 (l_5 ts) (l_4 ts) :: slsR true ts.length lb 1 (brkN ts) (brkC ts) :: L)) : Sep X w0 w (e_1 true vt lr lb ts :: L) := by
  have h0 := h.j_5 0 rfl
  have hp := h.pw
  have ap := List.pairwise_cons.1 hp
  -- the row and both together
  refine Sep.of_pw h.ext (fun r hr => ?_) (fun r hr ho b hb => ?_) (List.pairwise_cons.2 ⟨fun r hr => ?_, (List.pairwise_cons.1 (List.pairwise_cons.1 ap.2).2).2⟩)
  · rcases List.mem_cons.1 hr with rfl | hr
    · exact ⟨SlAt.i_1 h0, h.ok 1 _ rfl, h.ok 2 _ rfl⟩
    · exact h.mem (List.mem_cons_of_mem _ (List.mem_cons_of_mem _ (List.mem_cons_of_mem _ hr)))
  · rcases List.mem_cons.1 hr with rfl | hr
    · rcases hb with hb | hb | hb
      · exact h.mine 0 _ rfl rfl b (u_9 hb)
      · exact h.mine 1 _ rfl rfl b hb
      · exact h.mine 2 _ rfl rfl b hb
    · exact h.mineM (List.mem_cons_of_mem _ (List.mem_cons_of_mem _ (List.mem_cons_of_mem _ hr))) ho b hb
  · have a0 := ap.1 r (List.mem_cons_of_mem _ (List.mem_cons_of_mem _ hr))
    have a1 := (List.pairwise_cons.1 ap.2).1 r (List.mem_cons_of_mem _ hr)
    have a2 := (List.pairwise_cons.1 (List.pairwise_cons.1 ap.2).2).1 r hr
    refine ⟨fun _ b hb => ?_, fun ho b hb hb' => ?_⟩
    · rcases hb with hb | hb | hb
      · exact a0.1 rfl b (u_9 hb)
      · exact a1.1 rfl b hb
      · exact a2.1 rfl b hb
    · rcases hb' with hb' | hb' | hb'
      · exact a0.2 ho b hb (u_9 hb')
      · exact a1.2 ho b hb hb'
      · exact a2.2 ho b hb hb'
theorem sep_macs_join {vm : Value} {lk : Nat → Value} {ms : List MacD} (h : Sep X w0 w (row vm 103 2 ms.length (o_0 lk ms) :: slsR true ms.length lk 3 (blkN ms) (blkC ms) :: L)) : Sep X w0 w (f_0 true vm lk ms :: L) := by
  have h0 := h.j_5 0 rfl
  refine h.join (t := f_0 true vm lk ms) ⟨SlAt.i_1 h0, h.ok 1 _ rfl⟩ (fun b hb => ?_) (fun _ => ⟨rfl, rfl⟩) (fun _ => trivial)
  rcases hb with hb | hb
  · exact .inl (u_9 hb)
  · exact .inr hb
end
theorem p_8 {α : Type} {l : List α} {d : α} {k : Nat} (h : k < l.length) : l.take k ++ [l.getD k d] = l.take (k + 1) := by
  rw [List.take_add_one, List.getElem?_eq_getElem h, List.getD, List.getElem?_eq_getElem h]; rfl
section
variable {ts : List TabD} {ms : List MacD} {k : Nat}
theorem take_at {α : Type} {l : List α} {d : α} {k i : Nat} (hk : i < k) : (l.take k).getD i d = l.getD i d := by
  simp [List.getD, List.getElem?_take, hk]
theorem rowsN_new (h : k < ts.length) : l_5 (ts.take (k + 1)) (ts.take k).length = (ts.getD k tab0).rows.length ∧ l_4 (ts.take (k + 1)) (ts.take k).length = pairs (ts.getD k tab0).rows ∧ brkN (ts.take (k + 1)) (ts.take k).length = (ts.getD k tab0).brk.length ∧ brkC (ts.take (k + 1)) (ts.take k).length = ints (ts.getD k tab0).brk := by
  rw [List.length_take, Nat.min_eq_left (by omega)]
  unfold l_5 l_4 brkN brkC
  rw [take_at (Nat.lt_succ_self k)]
  exact ⟨rfl, rfl, rfl, rfl⟩
theorem rowsN_old (i : Nat) (hi : i < (ts.take k).length) : (l_5 (ts.take (k + 1)) i = l_5 (ts.take k) i ∧ l_4 (ts.take (k + 1)) i = l_4 (ts.take k) i) ∧ brkN (ts.take (k + 1)) i = brkN (ts.take k) i ∧ brkC (ts.take (k + 1)) i = brkC (ts.take k) i := by
  have hk : i < k := by rw [List.length_take] at hi; omega
  unfold l_5 l_4 brkN brkC
  rw [take_at (show i < k + 1 by omega), take_at hk]
  exact ⟨⟨rfl, rfl⟩, rfl, rfl⟩
theorem blkN_new (h : k < ms.length) : blkN (ms.take (k + 1)) (ms.take k).length = (ms.getD k mac0).blocks.length ∧ blkC (ms.take (k + 1)) (ms.take k).length = trips (ms.getD k mac0).blocks := by
  rw [List.length_take, Nat.min_eq_left (by omega)]
  unfold blkN blkC
  rw [take_at (Nat.lt_succ_self k)]
  exact ⟨rfl, rfl⟩
theorem blkN_old (i : Nat) (hi : i < (ms.take k).length) : blkN (ms.take (k + 1)) i = blkN (ms.take k) i ∧ blkC (ms.take (k + 1)) i = blkC (ms.take k) i := by
  have hk : i < k := by rw [List.length_take] at hi; omega
  unfold blkN blkC
  rw [take_at (show i < k + 1 by omega), take_at hk]
  exact ⟨rfl, rfl⟩
theorem take_len1 {α : Type} {l : List α} (h : k < l.length) : (l.take k).length + 1 = (l.take (k + 1)).length := by simp only [List.length_take]; omega
end
end Go.Hard

namespace Go.Proofs.Ytohgladndklciaa
open Go.RowKit Go.Shelf Go.Eng Go.Hard
theorem bd_98_0i_1i (x0_0 : Int) (x1_0 : Int) (w : World) : (Instr.build 98 #[(0, (.int .i64 x0_0)), (1, (.int .i64 x1_0))]).run Try.prog w = .ok (.agg #[(.int .i64 x0_0), (.int .i64 x1_0)]) w := by kernel_rfl
theorem bs_98_1_0iia (x0_0 : Int) (x0_1 : Int) : Instr.fill (fun i => some (i * 2, 2)) ((Array.range (1 * 2)).map ((Value.agg #[(Value.int .i64 0), (Value.int .i64 0)]).cells[· % (Value.agg #[(Value.int .i64 0), (Value.int .i64 0)]).cells.size]!)) [(0, .agg #[(.int .i64 x0_0), (.int .i64 x0_1)])] = some (([(.int .i64 x0_0), (.int .i64 x0_1)] : List Value).toArray) := by kernel_rfl
theorem list_ok (l : List Int) (xl : Value) (w : World) (hxl : SlAt w xl 1 l.length (ints l)) (hlen : l.length ≤ 1000000) :
  Calls Try.prog 40 #[xl] w (Ret fun v w' => Ext NoB w w' ∧ w'.ownsRow w.heap.size 3 1 v l.length (ints l)) := by
 refine a_8 Try.func40 rfl fun J A => ?_
 replace A : Fr 5 [] [(0, xl)] J := A
 have I : Sep NoB w w [(sl xl 1 l.length (ints l))] := e_3 ⟨rfl, hxl, trivial⟩
 refine m2 ?_
 refine s1 A (a_0 rfl (evc _ _)) fun K C => ?_; clear A J
 refine n4 ?_
 refine s1 C (a_1 rfl (C.ev rfl)) fun L D => ?_; clear C K
 have H := I.y_4 3 1; clear I
 refine s2 D (q_1 H rfl k_2 el_3 (evc _ _) (D.ev rfl) (i := 0) rfl (H.sk 1 rfl) (ints_one _) (by simp only [maxLen]; omega) (by omega)) ?_
 intro M O P F E
 have G := F.k_0 (i := 0) rfl (n' := l.length) (xs' := (ints l)) (by simp) (by simp); clear F D H L
 refine s1 E (a_0 rfl (E.ev rfl)) fun N B => ?_; clear E M
 refine n1 ?_
 refine c_1 ?_
 refine a_7 B (.inl rfl) (a_2 B rfl (.tmp rfl)) ?_
 exact ⟨G.ext, G.row_new (i := 0) rfl⟩
theorem Readings_ok (l : List (Int × Int)) (xl : Value) (w : World) (hxl : SlAt w xl 2 l.length (pairs l)) (AJ : l.length ≤ 12) :
  Calls Try.prog 26 #[xl] w (Ret fun v w' => Ext NoB w w' ∧ w'.ownsRow w.heap.size 98 2 v l.length (pairs l)) := by
 refine a_8 Try.func26 rfl fun r S => ?_
 replace S : Fr 26 [] [(0, xl)] r := S
 have n : Sep NoB w w [(sl xl 2 l.length (pairs l))] := e_3 ⟨rfl, hxl, trivial⟩
 refine m2 ?_
 refine s1 S (a_0 rfl (evc _ _)) fun a1 g => ?_; clear S r
 refine n4 ?_
 refine s1 g (a_0 rfl (evc _ _)) fun a3 h => ?_; clear g a1
 have o := n.y_4 98 2; clear n
 refine n2 ?_
 refine m2 ?_
 refine s1 h (a_0 rfl (evc _ _)) fun a6 j => ?_; clear h a3
 refine n1 ?_
 refine c_3 ?_
 have m := j.as [(4, (Value.int .i64 0)), (3, (Value.slice none 0 0)), (0, xl)] rfl; clear j
 refine g_4 (G := Nat) (fun (k : Nat) a_ w_ => ∃ v3_ : Value, Fr 26 [] [(4, (Value.int .i64 (k : Int))), (3, v3_), (0, xl)] a_ ∧ Sep NoB w w_ [(row v3_ 98 2 ((l.take k).length) (pairs (l.take k))), (sl xl 2 l.length (pairs l))] ∧ (k ≤ l.length)) (fun k => l.length - k) 0 ⟨(Value.slice none 0 0), m.as _ rfl, (o.k_0 (i := 0) rfl (by rfl) (by rfl)), by omega⟩ ?_
 clear m o a6
 rintro k a9 AM ⟨v3_, H, F, hkk⟩
 have hlt_ : (l.take k).length ≤ 12 := by simp only [List.length_take]; omega
 refine b_6 ?_
 refine m2 ?_
 refine s1 H (a_1 rfl (H.ev rfl)) fun s I => ?_; clear H a9
 refine s1 I (a_1 rfl (I.ev rfl)) fun t J => ?_; clear I s
 refine s1 J (d_2 rfl aa_7 (J.ev rfl) (F.sk 1 rfl)) fun u D => ?_; clear J t
 refine s1 D (f_5 rfl (D.ev rfl) (D.ev rfl)) fun x C => ?_; clear D u
 refine n1 ?_
 by_cases c : (k : Int) < (l.length : Int)
 ·skip
  rw [decide_eq_true c] at C
  refine c_0 C rfl ?_
  refine c_6 ?_
  refine a_9 ?_
  refine b_6 ?_
  refine c_3 ?_
  have V := C.as [(4, (Value.int .i64 (k : Int))), (3, v3_), (0, xl)] rfl; clear C
  refine x_6 mixed V F 13 [[], [], [], [1, 2], [3], [4], [], [], [6, 7], [8], [9], [5, 10], [11]] [(yw v3_), (yw xl), (yw (Value.int .i64 (k : Int))), (yw (eptr xl (k * 2))), (yw (eptr xl (k * 2 + 0))), (yw (Value.int .i64 ((l.getD k (0, 0)).1))), (yw xl), (yw (Value.int .i64 (k : Int))), (yw (eptr xl (k * 2))), (yw (eptr xl (k * 2 + 1))), (yw (Value.int .i64 ((l.getD k (0, 0)).2))), (yw (Value.agg #[(Value.int .i64 ((l.getD k (0, 0)).1)), (Value.int .i64 ((l.getD k (0, 0)).2))])), (fun (A : Nat → Value) (v_ : Value) (rs_ : List Res) => True ∧ rs_ = [(row v_ 98 2 1 [(Value.int .i64 ((l.getD k (0, 0)).1)), (Value.int .i64 ((l.getD k (0, 0)).2))])])] (by decide +kernel) (by decide +kernel) rfl rfl ⟨dw, dw, dw, dw, dw, dw, dw, dw, dw, dw, dw, dw, (fun _ _ _ _ _ h_ => h_), trivial⟩ ?_ ?_
  ·skip
   refine ⟨fun a w A hA hS hd => gv1 (a_1 rfl (hA.ev rfl)), ?_⟩
   refine ⟨fun a w A hA hS hd => gv1 (a_1 rfl (hA.ev rfl)), ?_⟩
   refine ⟨fun a w A hA hS hd => gv1 (a_1 rfl (hA.ev rfl)), ?_⟩
   refine ⟨fun a w A hA hS hd => gv1 (b_2 rfl aa_7 ty_67 (gu hd 1) (i := k) (gu hd 2) (hS.sk 1 rfl) (by decide) (by omega)), ?_⟩
   refine ⟨fun a w A hA hS hd => gv1 (d_8 rfl fd_67_0 (gu hd 3) (hS.sk 1 rfl) (by rw [((hS.sk 1 rfl)).1]; omega)), ?_⟩
   refine ⟨fun a w A hA hS hd => gv1 (c_5 rfl ty_3 (gu hd 4) (hS.sk 1 rfl) (h_1 (by omega))), ?_⟩
   refine ⟨fun a w A hA hS hd => gv1 (a_1 rfl (hA.ev rfl)), ?_⟩
   refine ⟨fun a w A hA hS hd => gv1 (a_1 rfl (hA.ev rfl)), ?_⟩
   refine ⟨fun a w A hA hS hd => gv1 (b_2 rfl aa_7 ty_67 (gu hd 6) (i := k) (gu hd 7) (hS.sk 1 rfl) (by decide) (by omega)), ?_⟩
   refine ⟨fun a w A hA hS hd => gv1 (d_8 rfl fd_67_1 (gu hd 8) (hS.sk 1 rfl) (by rw [((hS.sk 1 rfl)).1]; omega)), ?_⟩
   refine ⟨fun a w A hA hS hd => gv1 (c_5 rfl ty_3 (gu hd 9) (hS.sk 1 rfl) (i_2 (by omega))), ?_⟩
   refine ⟨fun a w A hA hS hd => gv1 (e_0 rfl (pv2 (gu hd 5) (gu hd 10)) (bd_98_0i_1i _ _)), ?_⟩
   refine ⟨fun a w A hA hS hd => d_7 rfl (vblt rfl (pv1 (gu hd 11)) ab_9 ab_8 ze_98 (by decide) (cs := [(Value.int .i64 ((l.getD k (0, 0)).1)), (Value.int .i64 ((l.getD k (0, 0)).2))]) (bs_98_1_0iia _ _) rfl (by decide) (fun _ => And.intro trivial rfl)), ?_⟩
   trivial
  intro f AE A rsf29 W B Q; clear V F
  obtain ⟨U, e⟩ := B 12 (by decide)
  obtain ⟨d, T⟩ := e
  have R : Sep NoB w AE [(row (A 12) 98 2 1 [(Value.int .i64 ((l.getD k (0, 0)).1)), (Value.int .i64 ((l.getD k (0, 0)).2))]), (row v3_ 98 2 ((l.take k).length) (pairs (l.take k))), (sl xl 2 l.length (pairs l))] := by rw [show catR rsf29 0 13 = ([(row (A 12) 98 2 1 [(Value.int .i64 ((l.getD k (0, 0)).1)), (Value.int .i64 ((l.getD k (0, 0)).2))])] : List Res) by (try simp only [catR, gr (B 0 (by decide)), gr (B 1 (by decide)), gr (B 2 (by decide)), gr (B 3 (by decide)), gr (B 4 (by decide)), gr (B 5 (by decide)), gr (B 6 (by decide)), gr (B 7 (by decide)), gr (B 8 (by decide)), gr (B 9 (by decide)), gr (B 10 (by decide)), gr (B 11 (by decide)), T]); (try rfl)] at Q; exact Q
  have X := W.add (gs (B 0 (by decide))); clear W
  have E : Fr 26 [] [(23, (A 12)), (11, v3_), (4, (Value.int .i64 (k : Int))), (3, v3_), (0, xl)] f := X.add (h_8 U rfl); clear X
  clear B Q U
  clear T
  clear d
  refine s2 E (q_1 R rfl ab_9 el_98 (E.ev rfl) (E.ev rfl) (i := 1) rfl (SlAt.i_1 (R.j_5 0 rfl)) rfl (by simp only [maxLen]; omega) (by omega)) ?_
  intro y AD AN Z K
  have b := Z.k_0 (i := 1) rfl (n' := ((l.take k) ++ [l.getD k (0, 0)]).length) (xs' := (pairs ((l.take k) ++ [l.getD k (0, 0)]))) (by simp) (by simp [pairs]); clear Z E R f
  refine s1 K (a_0 rfl (K.ev rfl)) fun z L => ?_; clear K y
  refine e_8 ?_
  refine g_0 ?_
  refine a_9 ?_
  refine a_5 ?_
  refine s1 L (a_1 rfl (L.ev rfl)) fun AA M => ?_; clear L z
  refine s1 M (f_1 rfl (M.ev rfl) (evc _ _) (by omega) (by omega)) fun AB N => ?_; clear M AA
  refine s1 N (a_0 rfl (N.ev rfl)) fun AK p => ?_; clear N AB
  refine e_8 ?_
  have q := b.gkp (gpc 1 (gpc 2 gpn)); clear b
  exact a_9 ⟨k + 1, ⟨AD, p.as _ rfl, (q.k_0 (i := 0) rfl (by rw [p_8 (by omega)]) (by rw [p_8 (by omega)])), by omega⟩, by omega⟩
 skip
 rw [decide_eq_false c] at C
 refine b_5 C rfl ?_
 refine g_3 ?_
 refine b_3 ?_
 refine b_3 ?_
 refine f_2 ?_
 refine a_9 ?_
 refine b_6 ?_
 have O := C.as [(3, v3_)] rfl; clear C
 refine a_5 ?_
 refine s1 O (a_1 rfl (O.ev rfl)) fun AC P => ?_; clear O x
 refine s1 P (a_0 rfl (P.ev rfl)) fun AL Y => ?_; clear P AC
 refine n1 ?_
 refine c_1 ?_
 refine a_7 Y (.inl rfl) (a_2 Y rfl (.tmp rfl)) ?_
 have hz := F.k_0 (i := 0) rfl (n' := l.length) (xs' := pairs l) (by rw [show k = l.length by omega, List.take_length]) (by rw [show k = l.length by omega, List.take_length])
 exact ⟨hz.ext, hz.row_new (i := 0) rfl⟩
end Go.Proofs.Ytohgladndklciaa

namespace Go.Proofs.Ytohgladndklciaa
open Go.RowKit Go.Shelf Go.Eng Go.Hard
theorem ze_37 : (Try.prog.info? 37).bind (·.zero) = some (Value.agg #[(Value.int .i64 0), (Value.slice none 0 0), (Value.slice none 0 0)]) := by kernel_rfl
theorem bd_37_0i (x0_0 : Int) (w : World) : (Instr.build 37 #[(0, (.int .i64 x0_0))]).run Try.prog w = .ok (.agg #[(.int .i64 x0_0), (Value.slice none 0 0), (Value.slice none 0 0)]) w := by kernel_rfl
theorem ze_46 : (Try.prog.info? 46).bind (·.zero) = some (Value.agg #[(Value.int .i64 0), (Value.int .i64 0), (Value.slice none 0 0), (Value.slice none 0 0), (Value.int .i64 0)]) := by kernel_rfl
theorem bd_106_0i_1i_3s_4i (x0_0 : Int) (x1_0 : Int) (x2_0 : Value) (hx2_0 : IsSl x2_0) (x3_0 : Int) (w : World) : (Instr.build 106 #[(0, (.int .i64 x0_0)), (1, (.int .i64 x1_0)), (3, x2_0), (4, (.int .i64 x3_0))]).run Try.prog w = .ok (.agg #[(.int .i64 x0_0), (.int .i64 x1_0), (Value.slice none 0 0), x2_0, (.int .i64 x3_0)]) w := by obtain ⟨Ax2_0, Bx2_0, Cx2_0, rfl⟩ := hx2_0; kernel_rfl
theorem en_40 : ∀ args w, (callFunc 40 args).run Try.prog w = .ok (.enter 40 args) w := enters_of Try.func40 (by kernel_rfl) rfl
theorem l_8 (x0_0 : Int) (x1_0 : Int) (w : World) : (Instr.build 107 #[(0, (.int .i64 x0_0)), (1, (.int .i64 x1_0))]).run Try.prog w = .ok (.agg #[(.int .i64 x0_0), (.int .i64 x1_0)]) w := by kernel_rfl
theorem bs_107_1_0iia (x0_0 : Int) (x0_1 : Int) : Instr.fill (fun i => some (i * 2, 2)) ((Array.range (1 * 2)).map ((Value.agg #[(Value.int .i64 0), (Value.int .i64 0)]).cells[· % (Value.agg #[(Value.int .i64 0), (Value.int .i64 0)]).cells.size]!)) [(0, .agg #[(.int .i64 x0_0), (.int .i64 x0_1)])] = some (([(.int .i64 x0_0), (.int .i64 x0_1)] : List Value).toArray) := by kernel_rfl
theorem el_107 : elK Try.prog 107 = some ((Value.agg #[(Value.int .i64 0), (Value.int .i64 0)]), 2, 16) := by kernel_rfl
theorem bd_103_0i (x0_0 : Int) (w : World) : (Instr.build 103 #[(0, (.int .i64 x0_0))]).run Try.prog w = .ok (.agg #[(.int .i64 x0_0), (Value.slice none 0 0)]) w := by kernel_rfl
theorem p_0 (x0_0 : Int) (x0_1 : Int) (x1_0 : Int) (w : World) : (Instr.build 100 #[(0, .agg #[(.int .i64 x0_0), (.int .i64 x0_1)]), (1, (.int .i64 x1_0))]).run Try.prog w = .ok (.agg #[(.int .i64 x0_0), (.int .i64 x0_1), (.int .i64 x1_0)]) w := by kernel_rfl
theorem en_20 : ∀ args w, (callFunc 20 args).run Try.prog w = .ok (.enter 20 args) w := enters_of Try.func20 (by kernel_rfl) rfl
theorem bs_100_1_0iiia (x0_0 : Int) (x0_1 : Int) (x0_2 : Int) : Instr.fill (fun i => some (i * 3, 3)) ((Array.range (1 * 3)).map ((Value.agg #[(Value.int .i64 0), (Value.int .i64 0), (Value.int .i64 0)]).cells[· % (Value.agg #[(Value.int .i64 0), (Value.int .i64 0), (Value.int .i64 0)]).cells.size]!)) [(0, .agg #[(.int .i64 x0_0), (.int .i64 x0_1), (.int .i64 x0_2)])] = some (([(.int .i64 x0_0), (.int .i64 x0_1), (.int .i64 x0_2)] : List Value).toArray) := by kernel_rfl
theorem el_100 : elK Try.prog 100 = some ((Value.agg #[(Value.int .i64 0), (Value.int .i64 0), (Value.int .i64 0)]), 3, 24) := by kernel_rfl
theorem bs_103_1_0iva (x0_0 : Int) (x0_1 : Value) : Instr.fill (fun i => some (i * 2, 2)) ((Array.range (1 * 2)).map ((Value.agg #[(Value.int .i64 0), (Value.slice none 0 0)]).cells[· % (Value.agg #[(Value.int .i64 0), (Value.slice none 0 0)]).cells.size]!)) [(0, .agg #[(.int .i64 x0_0), x0_1])] = some (([(.int .i64 x0_0), x0_1] : List Value).toArray) := by kernel_rfl
theorem el_103 : elK Try.prog 103 = some ((Value.agg #[(Value.int .i64 0), (Value.slice none 0 0)]), 2, 32) := by kernel_rfl
set_option maxHeartbeats 4000000 in
theorem Book_ok (b : g_9) (vt vm : Value) (lr lb lk : Nat → Value) (w : World) (hT : i_6 w vt lr lb b.tabs) (hM : j_2 w vm lk b.macs) (hth : n_6 b) :
  Calls Try.prog 19 #[(Value.agg #[(Value.int .i64 b.scales), vt, vm])] w (Ret fun v w' => ∃ vt' vm' lr' lb' lk', v = .agg #[.int .i64 b.scales, vt', vm'] ∧ Sep NoB w w' [e_1 true vt' lr' lb' b.tabs, f_0 true vm' lk' b.macs]) := by
 refine a_8 Try.func19 rfl fun a0 A7 => ?_
 replace A7 : Fr 116 [] [(0, (Value.agg #[(Value.int .i64 b.scales), vt, vm]))] a0 := A7
 have htl9 := hth.tl; have hml9 := hth.ml
 have C3 : Sep NoB w w [(e_1 false vt lr lb b.tabs), (f_0 false vm lk b.macs)] := e_3 ⟨rfl, hT, rfl, hM, trivial⟩
 refine m2 ?_
 refine s2 A7 (e_7 C3 rfl (A7.ev rfl) (cs := [(Value.int .i64 b.scales), vt, vm]) rfl) ?_
 rintro a1 _ w3 ⟨I, rfl, C4⟩ C2; clear A7 C3 a0
 refine s2 C2 (d_9 C4 rfl ze_37 (cs := [(Value.int .i64 0), (Value.slice none 0 0), (Value.slice none 0 0)]) rfl) ?_
 rintro a6 _ w8 ⟨H, rfl, BL⟩ CU; clear C2 C4 a1
 refine n4 ?_
 refine s1 CU (a_4 rfl fd_25_0 (CU.ev rfl)) fun D5 A8 => ?_; clear CU a6
 refine s1 A8 (a_3 rfl ty_3 (A8.ev rfl) (BL.bk 1 rfl) rfl) fun D6 A9 => ?_; clear A8 D5
 refine s1 A9 (e_0 rfl (pv1 (A9.ev rfl)) (bd_37_0i _)) fun D7 CL => ?_; clear A9 D6
 refine s2 CL (d_9 BL rfl ze_37 (cs := [(Value.int .i64 0), (Value.slice none 0 0), (Value.slice none 0 0)]) rfl) ?_
 rintro D8 _ Et ⟨B, rfl, Ca⟩ AN; clear CL BL D7
 refine s7 AN (b_8 Ca rfl s_7 (AN.ev rfl) (AN.ev rfl) (i := 0) rfl (vs := [(Value.int .i64 b.scales), (Value.slice none 0 0), (Value.slice none 0 0)]) rfl rfl (h_4 rfl (h_4 rfl (h_4 rfl t_4))) (Nat.le_of_ble_eq_true rfl)) ?_
 intro _ EU Cb CM; clear AN
 have Cc : Sep NoB w EU [(blk B 37 [(Value.int .i64 b.scales), (Value.slice none 0 0), (Value.slice none 0 0)]), (blk H 37 [(Value.int .i64 0), (Value.slice none 0 0), (Value.slice none 0 0)]), (blk I 25 [(Value.int .i64 b.scales), vt, vm]), (e_1 false vt lr lb b.tabs), (f_0 false vm lk b.macs)] := Cb; clear Cb Ca
 refine n2 ?_
 refine m2 ?_
 refine s1 CM (a_0 rfl (evc _ _)) fun D9 CN => ?_; clear CM D8
 refine n1 ?_
 refine c_3 ?_
 have Cd := o_7 (o_7 (Cc.y_4 106 5) (fun _ => Value.slice none 0 0) 1 (brkN (b.tabs.take 0)) (brkC (b.tabs.take 0))) (fun _ => Value.slice none 0 0) 2 (l_5 (b.tabs.take 0)) (l_4 (b.tabs.take 0)); clear Cc
 have CO := CN.as [(4, (Value.int .i64 0)), (3, (bptr B 0)), (2, (bptr H 0)), (1, (bptr I 0))] rfl; clear CN
 refine g_4 (G := Nat) (fun (k : Nat) a_ w_ => ∃ vt_ : Value, ∃ lr_ : Nat → Value, ∃ lb_ : Nat → Value, Fr 116 [] [(4, (Value.int .i64 (k : Int))), (3, (bptr B 0)), (2, (bptr H 0)), (1, (bptr I 0))] a_ ∧ Sep NoB w w_ [(slsR true ((b.tabs.take k).length) lr_ 2 (l_5 (b.tabs.take k)) (l_4 (b.tabs.take k))), (slsR true ((b.tabs.take k).length) lb_ 1 (brkN (b.tabs.take k)) (brkC (b.tabs.take k))), (row vt_ 106 5 ((b.tabs.take k).length) (m_8 lr_ lb_ (b.tabs.take k))), (blk B 37 [(Value.int .i64 b.scales), vt_, (Value.slice none 0 0)]), (blk H 37 [(Value.int .i64 0), (Value.slice none 0 0), (Value.slice none 0 0)]), (blk I 25 [(Value.int .i64 b.scales), vt, vm]), (e_1 false vt lr lb b.tabs), (f_0 false vm lk b.macs)] ∧ (k ≤ b.tabs.length)) (fun k => b.tabs.length - k) 0 ⟨(Value.slice none 0 0), (fun _ => Value.slice none 0 0), (fun _ => Value.slice none 0 0), CO.as _ rfl, (Cd.k_0 (i := 2) rfl (by rfl) (by rfl)), by omega⟩ ?_
 clear CO Cd D9
 rintro k EA Eu ⟨vt_, lr_, lb_, BA, S, hk⟩
 have htk : (b.tabs.take k).length = k := by rw [List.length_take]; omega
 refine b_6 ?_
 refine m2 ?_
 refine s1 BA (a_1 rfl (BA.ev rfl)) fun EB BB => ?_; clear BA EA
 refine s1 BB (a_4 rfl o_5 (BB.ev rfl)) fun EC BC => ?_; clear BB EB
 refine s1 BC (a_3 rfl aa_9 (BC.ev rfl) (S.bk 5 rfl) rfl) fun ED BD => ?_; clear BC EC
 refine s1 BD (d_2 rfl ab_1 (BD.ev rfl) (b_7 (S.ok 6 _ rfl)).tabs) fun EE Ao => ?_; clear BD ED
 refine s1 Ao (f_5 rfl (Ao.ev rfl) (Ao.ev rfl)) fun C0 R => ?_; clear Ao EE
 refine n1 ?_
 by_cases Cj : (k : Int) < (b.tabs.length : Int)
 ·skip
  rw [decide_eq_true Cj] at R
  have htkk := hth.tab k
  refine c_0 R rfl ?_
  refine c_6 ?_
  refine a_9 ?_
  refine b_6 ?_
  refine c_3 ?_
  refine m2 ?_
  refine s1 R (a_4 rfl o_5 (R.ev rfl)) fun EF BE => ?_; clear R C0
  refine s1 BE (a_3 rfl aa_9 (BE.ev rfl) (S.bk 5 rfl) rfl) fun EG BF => ?_; clear BE EF
  refine s1 BF (a_1 rfl (BF.ev rfl)) fun EH Ap => ?_; clear BF EG
  refine s1 Ap (b_2 rfl ab_1 ab_0 (Ap.ev rfl) (i := k) (Ap.ev rfl) (b_7 (S.ok 6 _ rfl)).tabs (by decide) (by omega)) fun EI BG => ?_; clear Ap EH
  refine s1 BG (e_2 rfl ab_0 (BG.ev rfl) (b_7 (S.ok 6 _ rfl)).tabs (t_3 (by omega)) rfl (by decide)) fun EJ CP => ?_; clear BG EI
  refine s2 CP (d_9 S rfl ze_46 (cs := [(Value.int .i64 0), (Value.int .i64 0), (Value.slice none 0 0), (Value.slice none 0 0), (Value.int .i64 0)]) rfl) ?_
  rintro Eq _ Ev ⟨K, rfl, A1⟩ Aq; clear CP S EJ
  refine s7 Aq (b_8 A1 rfl ab_0 (Aq.ev rfl) (Aq.ev rfl) (i := 0) rfl (vs := [(Value.int .i64 ((b.tabs.getD k tab0).frm)), (Value.int .i64 ((b.tabs.getD k tab0).dst)), (lr k), (lb k), (Value.int .i64 ((b.tabs.getD k tab0).err))]) rfl rfl (h_4 rfl (h_4 rfl (h_4 (SlAt.one ((b_7 (A1.ok 7 _ rfl)).row (i := k) (by omega))) (h_4 (SlAt.one ((b_7 (A1.ok 7 _ rfl)).brk (i := k) (by omega))) (h_4 rfl t_4))))) (Nat.le_of_ble_eq_true rfl)) ?_
  intro _ EV Ce CQ; clear Aq
  have Cf : Sep NoB w EV [(blk K 46 [(Value.int .i64 ((b.tabs.getD k tab0).frm)), (Value.int .i64 ((b.tabs.getD k tab0).dst)), (lr k), (lb k), (Value.int .i64 ((b.tabs.getD k tab0).err))]), (slsR true ((b.tabs.take k).length) lr_ 2 (l_5 (b.tabs.take k)) (l_4 (b.tabs.take k))), (slsR true ((b.tabs.take k).length) lb_ 1 (brkN (b.tabs.take k)) (brkC (b.tabs.take k))), (row vt_ 106 5 ((b.tabs.take k).length) (m_8 lr_ lb_ (b.tabs.take k))), (blk B 37 [(Value.int .i64 b.scales), vt_, (Value.slice none 0 0)]), (blk H 37 [(Value.int .i64 0), (Value.slice none 0 0), (Value.slice none 0 0)]), (blk I 25 [(Value.int .i64 b.scales), vt, vm]), (e_1 false vt lr lb b.tabs), (f_0 false vm lk b.macs)] := Ce; clear Ce A1
  refine n2 ?_
  have CR := CQ.as [(5, (bptr K 0)), (4, (Value.int .i64 (k : Int))), (3, (bptr B 0)), (2, (bptr H 0)), (1, (bptr I 0))] rfl; clear CQ
  have CS := CR.as [(5, (bptr K 0)), (4, (Value.int .i64 (k : Int))), (3, (bptr B 0)), (2, (bptr H 0)), (1, (bptr I 0))] rfl; clear CR
  refine x_6 mixed CS Cf 11 [[], [0], [], [2], [], [4], [5], [], [7], [1, 3, 6, 8], []] [(yw (bptr K 0)), (yw (Value.int .i64 ((b.tabs.getD k tab0).frm))), (yw (bptr K 1)), (yw (Value.int .i64 ((b.tabs.getD k tab0).dst))), (yw (bptr K 3)), (yw (lb k)), (fun (A : Nat → Value) (v_ : Value) (rs_ : List Res) => True ∧ rs_ = [(row v_ 3 1 ((b.tabs.getD k tab0).brk.length) (ints ((b.tabs.getD k tab0).brk)))]), (yw (bptr K 4)), (yw (Value.int .i64 ((b.tabs.getD k tab0).err))), (fun (A : Nat → Value) (v_ : Value) (rs_ : List Res) => v_ = (Value.agg #[(Value.int .i64 ((b.tabs.getD k tab0).frm)), (Value.int .i64 ((b.tabs.getD k tab0).dst)), (Value.slice none 0 0), (A 6), (Value.int .i64 ((b.tabs.getD k tab0).err))]) ∧ rs_ = []), (fun (A : Nat → Value) (v_ : Value) (rs_ : List Res) => ∃ (b10_ : Nat), v_ = (bptr b10_ 0) ∧ rs_ = [(blk b10_ 106 [(Value.int .i64 0), (Value.int .i64 0), (Value.slice none 0 0), (Value.slice none 0 0), (Value.int .i64 0)])])] (by decide +kernel) (by decide +kernel) rfl rfl ⟨dw, dw, dw, dw, dw, dw, (fun _ _ _ _ _ h_ => h_), dw, dw, (fun _ _ _ _ he_ h_ => by dsimp only at h_ ⊢; rw [← he_ 6 (by decide)]; exact h_), (fun _ _ _ _ _ h_ => h_), trivial⟩ ?_ ?_
  ·skip
   refine ⟨fun a w A hA hS hd => gv1 (a_4 rfl fd_46_0 (hA.ev rfl)), ?_⟩
   refine ⟨fun a w A hA hS hd => gv1 (a_3 rfl ty_3 (gu hd 0) (hS.bk 0 rfl) rfl), ?_⟩
   refine ⟨fun a w A hA hS hd => gv1 (a_4 rfl fd_46_1 (hA.ev rfl)), ?_⟩
   refine ⟨fun a w A hA hS hd => gv1 (a_3 rfl ty_3 (gu hd 2) (hS.bk 0 rfl) rfl), ?_⟩
   refine ⟨fun a w A hA hS hd => gv1 (a_4 rfl t_6 (hA.ev rfl)), ?_⟩
   refine ⟨fun a w A hA hS hd => gv1 (a_3 rfl v_2 (gu hd 4) (hS.bk 0 rfl) rfl), ?_⟩
   refine ⟨fun a w A hA hS hd => d_7 rfl (vn (b_1 rfl en_40 (ev1 (gu hd 5)) (list_ok ((b.tabs.getD k tab0).brk) _ _ ((b_7 (hS.ok 7 _ rfl)).brk (i := k) (by omega)) (hth.bl _))) (fun v w' h => ⟨_, And.intro trivial rfl, (Sep.start NoB _).new_row h.1 h.2, rfl⟩)), ?_⟩
   refine ⟨fun a w A hA hS hd => gv1 (a_4 rfl fd_46_4 (hA.ev rfl)), ?_⟩
   refine ⟨fun a w A hA hS hd => gv1 (a_3 rfl ty_3 (gu hd 7) (hS.bk 0 rfl) rfl), ?_⟩
   refine ⟨fun a w A hA hS hd => ?_, ?_⟩
   ·skip
    obtain ⟨e6, Es, ET, ER⟩ := hd 6 (by decide)
    obtain ⟨Er, ES⟩ := ET; subst ES
    have hp6_0 := ER _ (List.mem_of_getElem? (i := 0) rfl)
    exact gv1 (e_0 rfl (pv4 (gu hd 1) (gu hd 3) (c_7 (h_8 e6 rfl)) (gu hd 8)) (bd_106_0i_1i_3s_4i _ _ _ (SlAt.isSl (SlAt.i_1 hp6_0)) _))
   refine ⟨fun a w A hA hS hd => d_7 rfl (valloc rfl ze_106 (cs := [(Value.int .i64 0), (Value.int .i64 0), (Value.slice none 0 0), (Value.slice none 0 0), (Value.int .i64 0)]) rfl (fun b_ => ⟨b_, rfl, rfl⟩)), ?_⟩
   trivial
  intro C1 EW A rsf72 CT M BM; clear CS Cf
  obtain ⟨Ds, Du⟩ := M 6 (by decide)
  obtain ⟨Dt, Cl⟩ := Du
  obtain ⟨A2, Cx⟩ := M 10 (by decide)
  obtain ⟨b10_, CH, CC⟩ := Cx
  have BN : Sep NoB w EW [(row (A 6) 3 1 ((b.tabs.getD k tab0).brk.length) (ints ((b.tabs.getD k tab0).brk))), (blk b10_ 106 [(Value.int .i64 0), (Value.int .i64 0), (Value.slice none 0 0), (Value.slice none 0 0), (Value.int .i64 0)]), (blk K 46 [(Value.int .i64 ((b.tabs.getD k tab0).frm)), (Value.int .i64 ((b.tabs.getD k tab0).dst)), (lr k), (lb k), (Value.int .i64 ((b.tabs.getD k tab0).err))]), (slsR true ((b.tabs.take k).length) lr_ 2 (l_5 (b.tabs.take k)) (l_4 (b.tabs.take k))), (slsR true ((b.tabs.take k).length) lb_ 1 (brkN (b.tabs.take k)) (brkC (b.tabs.take k))), (row vt_ 106 5 ((b.tabs.take k).length) (m_8 lr_ lb_ (b.tabs.take k))), (blk B 37 [(Value.int .i64 b.scales), vt_, (Value.slice none 0 0)]), (blk H 37 [(Value.int .i64 0), (Value.slice none 0 0), (Value.slice none 0 0)]), (blk I 25 [(Value.int .i64 b.scales), vt, vm]), (e_1 false vt lr lb b.tabs), (f_0 false vm lk b.macs)] := by rw [show catR rsf72 0 11 = ([(row (A 6) 3 1 ((b.tabs.getD k tab0).brk.length) (ints ((b.tabs.getD k tab0).brk))), (blk b10_ 106 [(Value.int .i64 0), (Value.int .i64 0), (Value.slice none 0 0), (Value.slice none 0 0), (Value.int .i64 0)])] : List Res) by (try simp only [catR, gr (M 0 (by decide)), gr (M 1 (by decide)), gr (M 2 (by decide)), gr (M 3 (by decide)), gr (M 4 (by decide)), gr (M 5 (by decide)), Cl, gr (M 7 (by decide)), gr (M 8 (by decide)), gr (M 9 (by decide)), CC]); (try rfl)] at BM; exact BM
  have CV := CT.add (gs (M 9 (by decide))); clear CT
  rw [CH] at A2
  have Ar : Fr 116 [] [(6, (bptr b10_ 0)), (36, (Value.agg #[(Value.int .i64 ((b.tabs.getD k tab0).frm)), (Value.int .i64 ((b.tabs.getD k tab0).dst)), (Value.slice none 0 0), (A 6), (Value.int .i64 ((b.tabs.getD k tab0).err))])), (5, (bptr K 0)), (4, (Value.int .i64 (k : Int))), (3, (bptr B 0)), (2, (bptr H 0)), (1, (bptr I 0))] C1 := CV.add (h_8 A2 rfl); clear CV
  clear M BM Ds A2
  clear Cl
  clear Dt
  clear CC
  clear CH
  refine s7 Ar (b_8 BN rfl k_4 (Ar.ev rfl) (Ar.ev rfl) (i := 1) rfl (vs := [(Value.int .i64 ((b.tabs.getD k tab0).frm)), (Value.int .i64 ((b.tabs.getD k tab0).dst)), (Value.slice none 0 0), (A 6), (Value.int .i64 ((b.tabs.getD k tab0).err))]) rfl rfl (h_4 rfl (h_4 rfl (h_4 rfl (h_4 (SlAt.one (SlAt.i_1 (BN.j_5 0 rfl))) (h_4 rfl t_4))))) (Nat.le_of_ble_eq_true rfl)) ?_
  intro _ EX Cg CW; clear Ar
  have Ch : Sep NoB w EX [(row (A 6) 3 1 ((b.tabs.getD k tab0).brk.length) (ints ((b.tabs.getD k tab0).brk))), (blk b10_ 106 [(Value.int .i64 ((b.tabs.getD k tab0).frm)), (Value.int .i64 ((b.tabs.getD k tab0).dst)), (Value.slice none 0 0), (A 6), (Value.int .i64 ((b.tabs.getD k tab0).err))]), (blk K 46 [(Value.int .i64 ((b.tabs.getD k tab0).frm)), (Value.int .i64 ((b.tabs.getD k tab0).dst)), (lr k), (lb k), (Value.int .i64 ((b.tabs.getD k tab0).err))]), (slsR true ((b.tabs.take k).length) lr_ 2 (l_5 (b.tabs.take k)) (l_4 (b.tabs.take k))), (slsR true ((b.tabs.take k).length) lb_ 1 (brkN (b.tabs.take k)) (brkC (b.tabs.take k))), (row vt_ 106 5 ((b.tabs.take k).length) (m_8 lr_ lb_ (b.tabs.take k))), (blk B 37 [(Value.int .i64 b.scales), vt_, (Value.slice none 0 0)]), (blk H 37 [(Value.int .i64 0), (Value.slice none 0 0), (Value.slice none 0 0)]), (blk I 25 [(Value.int .i64 b.scales), vt, vm]), (e_1 false vt lr lb b.tabs), (f_0 false vm lk b.macs)] := Cg; clear Cg BN
  refine n2 ?_
  refine m2 ?_
  refine s1 CW (a_0 rfl (evc _ _)) fun EK CX => ?_; clear CW C1
  refine n1 ?_
  refine c_3 ?_
  have Ci := Ch.y_4 107 2; clear Ch
  have CY := CX.as [(7, (Value.int .i64 0)), (6, (bptr b10_ 0)), (5, (bptr K 0)), (4, (Value.int .i64 (k : Int))), (3, (bptr B 0)), (2, (bptr H 0)), (1, (bptr I 0))] rfl; clear CX
  refine g_4 (G := Nat) (fun (j : Nat) a_ w_ => ∃ vr_ : Value, Fr 116 [] [(7, (Value.int .i64 (j : Int))), (6, (bptr b10_ 0)), (5, (bptr K 0)), (4, (Value.int .i64 (k : Int))), (3, (bptr B 0)), (2, (bptr H 0)), (1, (bptr I 0))] a_ ∧ Sep NoB w w_ [(row vr_ 107 2 (((b.tabs.getD k tab0).rows.take j).length) (pairs ((b.tabs.getD k tab0).rows.take j))), (row (A 6) 3 1 ((b.tabs.getD k tab0).brk.length) (ints ((b.tabs.getD k tab0).brk))), (blk b10_ 106 [(Value.int .i64 ((b.tabs.getD k tab0).frm)), (Value.int .i64 ((b.tabs.getD k tab0).dst)), vr_, (A 6), (Value.int .i64 ((b.tabs.getD k tab0).err))]), (blk K 46 [(Value.int .i64 ((b.tabs.getD k tab0).frm)), (Value.int .i64 ((b.tabs.getD k tab0).dst)), (lr k), (lb k), (Value.int .i64 ((b.tabs.getD k tab0).err))]), (slsR true ((b.tabs.take k).length) lr_ 2 (l_5 (b.tabs.take k)) (l_4 (b.tabs.take k))), (slsR true ((b.tabs.take k).length) lb_ 1 (brkN (b.tabs.take k)) (brkC (b.tabs.take k))), (row vt_ 106 5 ((b.tabs.take k).length) (m_8 lr_ lb_ (b.tabs.take k))), (blk B 37 [(Value.int .i64 b.scales), vt_, (Value.slice none 0 0)]), (blk H 37 [(Value.int .i64 0), (Value.slice none 0 0), (Value.slice none 0 0)]), (blk I 25 [(Value.int .i64 b.scales), vt, vm]), (e_1 false vt lr lb b.tabs), (f_0 false vm lk b.macs)] ∧ (j ≤ (b.tabs.getD k tab0).rows.length)) (fun j => (b.tabs.getD k tab0).rows.length - j) 0 ⟨(Value.slice none 0 0), CY.as _ rfl, (Ci.k_0 (i := 0) rfl (by rfl) (by rfl)), (Nat.zero_le _)⟩ ?_
  clear CY Ci EK
  rintro j EL Ew ⟨vr_, BH, U, hkj⟩
  have hlt_j : ((b.tabs.getD k tab0).rows.take j).length ≤ 12 := by simp only [List.length_take]; omega
  refine b_6 ?_
  refine m2 ?_
  refine s1 BH (a_1 rfl (BH.ev rfl)) fun EM BI => ?_; clear BH EL
  refine s1 BI (a_4 rfl g_8 (BI.ev rfl)) fun EN BJ => ?_; clear BI EM
  refine s1 BJ (a_3 rfl m_9 (BJ.ev rfl) (U.bk 3 rfl) rfl) fun EO BK => ?_; clear BJ EN
  refine s1 BK (d_2 rfl n_0 (BK.ev rfl) ((b_7 (U.ok 10 _ rfl)).row (i := k) (by omega))) fun EP As => ?_; clear BK EO
  refine s1 As (f_5 rfl (As.ev rfl) (As.ev rfl)) fun EQ T => ?_; clear As EP
  refine n1 ?_
  by_cases Ck : (j : Int) < ((b.tabs.getD k tab0).rows.length : Int)
  ·skip
   rw [decide_eq_true Ck] at T
   refine c_0 T rfl ?_
   refine c_6 ?_
   refine a_9 ?_
   refine b_6 ?_
   refine c_3 ?_
   have CZ := T.as [(7, (Value.int .i64 (j : Int))), (6, (bptr b10_ 0)), (5, (bptr K 0)), (4, (Value.int .i64 (k : Int))), (3, (bptr B 0)), (2, (bptr H 0)), (1, (bptr I 0))] rfl; clear T
   refine x_6 mixed CZ U 16 [[], [0], [], [2], [], [3, 4], [5], [6], [], [8], [], [9, 10], [11], [12], [7, 13], [14]] [(yw (bptr b10_ 2)), (yw vr_), (yw (bptr K 2)), (yw (lr k)), (yw (Value.int .i64 (j : Int))), (yw (eptr (lr k) (j * 2))), (yw (eptr (lr k) (j * 2 + 0))), (yw (Value.int .i64 ((((b.tabs.getD k tab0).rows).getD j (0, 0)).1))), (yw (bptr K 2)), (yw (lr k)), (yw (Value.int .i64 (j : Int))), (yw (eptr (lr k) (j * 2))), (yw (eptr (lr k) (j * 2 + 1))), (yw (Value.int .i64 ((((b.tabs.getD k tab0).rows).getD j (0, 0)).2))), (yw (Value.agg #[(Value.int .i64 ((((b.tabs.getD k tab0).rows).getD j (0, 0)).1)), (Value.int .i64 ((((b.tabs.getD k tab0).rows).getD j (0, 0)).2))])), (fun (D : Nat → Value) (v_ : Value) (rs_ : List Res) => True ∧ rs_ = [(row v_ 107 2 1 [(Value.int .i64 ((((b.tabs.getD k tab0).rows).getD j (0, 0)).1)), (Value.int .i64 ((((b.tabs.getD k tab0).rows).getD j (0, 0)).2))])])] (by decide +kernel) (by decide +kernel) rfl rfl ⟨dw, dw, dw, dw, dw, dw, dw, dw, dw, dw, dw, dw, dw, dw, dw, (fun _ _ _ _ _ h_ => h_), trivial⟩ ?_ ?_
   ·skip
    refine ⟨fun a w D hA hS hd => gv1 (a_4 rfl i_7 (hA.ev rfl)), ?_⟩
    refine ⟨fun a w D hA hS hd => gv1 (a_3 rfl n_2 (gu hd 0) (hS.bk 2 rfl) rfl), ?_⟩
    refine ⟨fun a w D hA hS hd => gv1 (a_4 rfl g_8 (hA.ev rfl)), ?_⟩
    refine ⟨fun a w D hA hS hd => gv1 (a_3 rfl m_9 (gu hd 2) (hS.bk 3 rfl) rfl), ?_⟩
    refine ⟨fun a w D hA hS hd => gv1 (a_1 rfl (hA.ev rfl)), ?_⟩
    refine ⟨fun a w D hA hS hd => gv1 (b_2 rfl n_0 o_9 (gu hd 3) (i := j) (gu hd 4) ((b_7 (hS.ok 10 _ rfl)).row (i := k) (by omega)) (by decide) (by omega)), ?_⟩
    refine ⟨fun a w D hA hS hd => gv1 (d_8 rfl n_9 (gu hd 5) ((b_7 (hS.ok 10 _ rfl)).row (i := k) (by omega)) (by rw [(((b_7 (hS.ok 10 _ rfl)).row (i := k) (by omega))).1]; omega)), ?_⟩
    refine ⟨fun a w D hA hS hd => gv1 (c_5 rfl ty_3 (gu hd 6) ((b_7 (hS.ok 10 _ rfl)).row (i := k) (by omega)) (h_1 (by omega))), ?_⟩
    refine ⟨fun a w D hA hS hd => gv1 (a_4 rfl g_8 (hA.ev rfl)), ?_⟩
    refine ⟨fun a w D hA hS hd => gv1 (a_3 rfl m_9 (gu hd 8) (hS.bk 3 rfl) rfl), ?_⟩
    refine ⟨fun a w D hA hS hd => gv1 (a_1 rfl (hA.ev rfl)), ?_⟩
    refine ⟨fun a w D hA hS hd => gv1 (b_2 rfl n_0 o_9 (gu hd 9) (i := j) (gu hd 10) ((b_7 (hS.ok 10 _ rfl)).row (i := k) (by omega)) (by decide) (by omega)), ?_⟩
    refine ⟨fun a w D hA hS hd => gv1 (d_8 rfl m_6 (gu hd 11) ((b_7 (hS.ok 10 _ rfl)).row (i := k) (by omega)) (by rw [(((b_7 (hS.ok 10 _ rfl)).row (i := k) (by omega))).1]; omega)), ?_⟩
    refine ⟨fun a w D hA hS hd => gv1 (c_5 rfl ty_3 (gu hd 12) ((b_7 (hS.ok 10 _ rfl)).row (i := k) (by omega)) (i_2 (by omega))), ?_⟩
    refine ⟨fun a w D hA hS hd => gv1 (e_0 rfl (pv2 (gu hd 7) (gu hd 13)) (l_8 _ _)), ?_⟩
    refine ⟨fun a w D hA hS hd => d_7 rfl (vblt rfl (pv1 (gu hd 14)) j_9 h_9 x_2 (by decide) (cs := [(Value.int .i64 ((((b.tabs.getD k tab0).rows).getD j (0, 0)).1)), (Value.int .i64 ((((b.tabs.getD k tab0).rows).getD j (0, 0)).2))]) (bs_107_1_0iia _ _) rfl (by decide) (fun _ => And.intro trivial rfl)), ?_⟩
    trivial
   intro CI Dv D rsf106 BO F At; clear CZ U
   obtain ⟨CF, Cy⟩ := F 15 (by decide)
   obtain ⟨Cv, CD⟩ := Cy
   have Au : Sep NoB w Dv [(row (D 15) 107 2 1 [(Value.int .i64 ((((b.tabs.getD k tab0).rows).getD j (0, 0)).1)), (Value.int .i64 ((((b.tabs.getD k tab0).rows).getD j (0, 0)).2))]), (row vr_ 107 2 (((b.tabs.getD k tab0).rows.take j).length) (pairs ((b.tabs.getD k tab0).rows.take j))), (row (A 6) 3 1 ((b.tabs.getD k tab0).brk.length) (ints ((b.tabs.getD k tab0).brk))), (blk b10_ 106 [(Value.int .i64 ((b.tabs.getD k tab0).frm)), (Value.int .i64 ((b.tabs.getD k tab0).dst)), vr_, (A 6), (Value.int .i64 ((b.tabs.getD k tab0).err))]), (blk K 46 [(Value.int .i64 ((b.tabs.getD k tab0).frm)), (Value.int .i64 ((b.tabs.getD k tab0).dst)), (lr k), (lb k), (Value.int .i64 ((b.tabs.getD k tab0).err))]), (slsR true ((b.tabs.take k).length) lr_ 2 (l_5 (b.tabs.take k)) (l_4 (b.tabs.take k))), (slsR true ((b.tabs.take k).length) lb_ 1 (brkN (b.tabs.take k)) (brkC (b.tabs.take k))), (row vt_ 106 5 ((b.tabs.take k).length) (m_8 lr_ lb_ (b.tabs.take k))), (blk B 37 [(Value.int .i64 b.scales), vt_, (Value.slice none 0 0)]), (blk H 37 [(Value.int .i64 0), (Value.slice none 0 0), (Value.slice none 0 0)]), (blk I 25 [(Value.int .i64 b.scales), vt, vm]), (e_1 false vt lr lb b.tabs), (f_0 false vm lk b.macs)] := by rw [show catR rsf106 0 16 = ([(row (D 15) 107 2 1 [(Value.int .i64 ((((b.tabs.getD k tab0).rows).getD j (0, 0)).1)), (Value.int .i64 ((((b.tabs.getD k tab0).rows).getD j (0, 0)).2))])] : List Res) by (try simp only [catR, gr (F 0 (by decide)), gr (F 1 (by decide)), gr (F 2 (by decide)), gr (F 3 (by decide)), gr (F 4 (by decide)), gr (F 5 (by decide)), gr (F 6 (by decide)), gr (F 7 (by decide)), gr (F 8 (by decide)), gr (F 9 (by decide)), gr (F 10 (by decide)), gr (F 11 (by decide)), gr (F 12 (by decide)), gr (F 13 (by decide)), gr (F 14 (by decide)), CD]); (try rfl)] at At; exact At
   have BP := BO.add (gs (F 1 (by decide))); clear BO
   have W : Fr 116 [] [(59, (D 15)), (45, vr_), (7, (Value.int .i64 (j : Int))), (6, (bptr b10_ 0)), (5, (bptr K 0)), (4, (Value.int .i64 (k : Int))), (3, (bptr B 0)), (2, (bptr H 0)), (1, (bptr I 0))] CI := BP.add (h_8 CF rfl); clear BP
   clear F At CF
   clear CD
   clear Cv
   refine s2 W (q_1 Au rfl j_9 el_107 (W.ev rfl) (W.ev rfl) (i := 1) rfl (SlAt.i_1 (Au.j_5 0 rfl)) rfl (by simp only [maxLen]; omega) (by omega)) ?_
   intro C5 A3 Eg Bf AA
   have t := Bf.k_0 (i := 1) rfl (n' := (((b.tabs.getD k tab0).rows.take j) ++ [(b.tabs.getD k tab0).rows.getD j (0, 0)]).length) (xs' := (pairs (((b.tabs.getD k tab0).rows.take j) ++ [(b.tabs.getD k tab0).rows.getD j (0, 0)]))) (by simp) (by simp [pairs]); clear Bf W Au CI
   refine s1 AA (a_4 rfl i_7 (AA.ev rfl)) fun C6 X => ?_; clear AA C5
   refine s7 X (b_8 t rfl n_2 (X.ev rfl) (X.ev rfl) (i := 3) rfl (vs := [A3]) (r_5 (SlAt.isSl (SlAt.i_1 (t.j_5 1 rfl)))) rfl (h_4 (SlAt.one (SlAt.i_1 (t.j_5 1 rfl))) t_4) (Nat.le_of_ble_eq_true rfl)) ?_
   intro _ Dw Bg AB; clear X
   have Bh : Sep NoB w Dw [(row (D 15) 107 2 1 [(Value.int .i64 ((((b.tabs.getD k tab0).rows).getD j (0, 0)).1)), (Value.int .i64 ((((b.tabs.getD k tab0).rows).getD j (0, 0)).2))]), (row A3 107 2 ((((b.tabs.getD k tab0).rows.take j) ++ [(b.tabs.getD k tab0).rows.getD j (0, 0)]).length) (pairs (((b.tabs.getD k tab0).rows.take j) ++ [(b.tabs.getD k tab0).rows.getD j (0, 0)]))), (row (A 6) 3 1 ((b.tabs.getD k tab0).brk.length) (ints ((b.tabs.getD k tab0).brk))), (blk b10_ 106 [(Value.int .i64 ((b.tabs.getD k tab0).frm)), (Value.int .i64 ((b.tabs.getD k tab0).dst)), A3, (A 6), (Value.int .i64 ((b.tabs.getD k tab0).err))]), (blk K 46 [(Value.int .i64 ((b.tabs.getD k tab0).frm)), (Value.int .i64 ((b.tabs.getD k tab0).dst)), (lr k), (lb k), (Value.int .i64 ((b.tabs.getD k tab0).err))]), (slsR true ((b.tabs.take k).length) lr_ 2 (l_5 (b.tabs.take k)) (l_4 (b.tabs.take k))), (slsR true ((b.tabs.take k).length) lb_ 1 (brkN (b.tabs.take k)) (brkC (b.tabs.take k))), (row vt_ 106 5 ((b.tabs.take k).length) (m_8 lr_ lb_ (b.tabs.take k))), (blk B 37 [(Value.int .i64 b.scales), vt_, (Value.slice none 0 0)]), (blk H 37 [(Value.int .i64 0), (Value.slice none 0 0), (Value.slice none 0 0)]), (blk I 25 [(Value.int .i64 b.scales), vt, vm]), (e_1 false vt lr lb b.tabs), (f_0 false vm lk b.macs)] := Bg; clear Bg t
   refine e_8 ?_
   refine g_0 ?_
   refine a_9 ?_
   refine a_5 ?_
   refine s1 AB (a_1 rfl (AB.ev rfl)) fun C7 AC => ?_; clear AB C6
   refine s1 AC (f_1 rfl (AC.ev rfl) (evc _ _) (by omega) (by omega)) fun C8 AD => ?_; clear AC C7
   refine s1 AD (a_0 rfl (AD.ev rfl)) fun EZ Cm => ?_; clear AD C8
   refine e_8 ?_
   have Cq := Bh.gkp (gpc 1 (gpc 2 (gpc 3 (gpc 4 (gpc 5 (gpc 6 (gpc 7 (gpc 8 (gpc 9 (gpc 10 (gpc 11 (gpc 12 gpn)))))))))))); clear Bh
   exact a_9 ⟨j + 1, ⟨A3, Cm.as _ rfl, (Cq.k_0 (i := 0) rfl (by rw [p_8 (by omega)]) (by rw [p_8 (by omega)])), by omega⟩, by omega⟩
  skip
  rw [decide_eq_false Ck] at T
  refine b_5 T rfl ?_
  refine g_3 ?_
  refine b_3 ?_
  refine b_3 ?_
  refine f_2 ?_
  refine a_9 ?_
  have AE := T.as [(6, (bptr b10_ 0)), (4, (Value.int .i64 (k : Int))), (3, (bptr B 0)), (2, (bptr H 0)), (1, (bptr I 0))] rfl; clear T
  refine a_5 ?_
  refine s1 AE (a_4 rfl t_5 (AE.ev rfl)) fun C9 AF => ?_; clear AE EQ
  refine s1 AF (a_3 rfl ty_34 (AF.ev rfl) (U.bk 7 rfl) rfl) fun DA AG => ?_; clear AF C9
  refine s1 AG (c_4 rfl k_4 (AG.ev rfl) (U.bk 2 rfl) (l := [(Value.int .i64 ((b.tabs.getD k tab0).frm)), (Value.int .i64 ((b.tabs.getD k tab0).dst)), vr_, (A 6), (Value.int .i64 ((b.tabs.getD k tab0).err))]) rfl rfl) fun DB AH => ?_; clear AG DA
  refine s2 AH (h_2 U rfl (pv1 (AH.ev rfl)) z_8 k_4 ze_106 (by decide) (cs := [(Value.int .i64 ((b.tabs.getD k tab0).frm)), (Value.int .i64 ((b.tabs.getD k tab0).dst)), vr_, (A 6), (Value.int .i64 ((b.tabs.getD k tab0).err))]) (bs_106_1_0iivvia _ _ _ _ _)) ?_
  rintro DC _ Eh ⟨Dq, rfl, V⟩ Y; clear AH U DB
  refine s2 Y (q_1 V rfl z_8 el_106 (Y.ev rfl) (Y.ev rfl) (i := 7) rfl (SlAt.of_blk (V.bk 0 rfl) rfl (Nat.le_of_ble_eq_true rfl)) (h_4 rfl (h_4 rfl (h_4 (SlAt.one (SlAt.i_1 (V.j_5 1 rfl))) (h_4 (SlAt.one (SlAt.i_1 (V.j_5 2 rfl))) (h_4 rfl t_4))))) (by simp only [maxLen]; omega) (by omega)) ?_
  intro DD A4 Ei Bi AI
  have u := Bi.k_0 (i := 7) rfl (n' := ((b.tabs.take k) ++ [(b.tabs.getD k tab0)]).length) (xs' := (m_8 (putV (b.tabs.take k).length lr_ vr_) (putV (b.tabs.take k).length lb_ (A 6)) ((b.tabs.take k) ++ [(b.tabs.getD k tab0)]))) (by simp) (tabs_snoc (b.tabs.getD k tab0) vr_ (A 6)); clear Bi Y V DC
  refine s1 AI (a_4 rfl t_5 (AI.ev rfl)) fun DE Z => ?_; clear AI DD
  refine s7 Z (b_8 u rfl ty_34 (Z.ev rfl) (Z.ev rfl) (i := 8) rfl (vs := [A4]) (r_5 (SlAt.isSl (SlAt.i_1 (u.j_5 7 rfl)))) rfl (h_4 (SlAt.one (SlAt.i_1 (u.j_5 7 rfl))) t_4) (Nat.le_of_ble_eq_true rfl)) ?_
  intro _ Dx Bj BQ; clear Z
  have Bk : Sep NoB w Dx [(blk Dq 106 [(Value.int .i64 ((b.tabs.getD k tab0).frm)), (Value.int .i64 ((b.tabs.getD k tab0).dst)), vr_, (A 6), (Value.int .i64 ((b.tabs.getD k tab0).err))]), (row vr_ 107 2 (((b.tabs.getD k tab0).rows.take j).length) (pairs ((b.tabs.getD k tab0).rows.take j))), (row (A 6) 3 1 ((b.tabs.getD k tab0).brk.length) (ints ((b.tabs.getD k tab0).brk))), (blk b10_ 106 [(Value.int .i64 ((b.tabs.getD k tab0).frm)), (Value.int .i64 ((b.tabs.getD k tab0).dst)), vr_, (A 6), (Value.int .i64 ((b.tabs.getD k tab0).err))]), (blk K 46 [(Value.int .i64 ((b.tabs.getD k tab0).frm)), (Value.int .i64 ((b.tabs.getD k tab0).dst)), (lr k), (lb k), (Value.int .i64 ((b.tabs.getD k tab0).err))]), (slsR true ((b.tabs.take k).length) lr_ 2 (l_5 (b.tabs.take k)) (l_4 (b.tabs.take k))), (slsR true ((b.tabs.take k).length) lb_ 1 (brkN (b.tabs.take k)) (brkC (b.tabs.take k))), (row A4 106 5 (((b.tabs.take k) ++ [(b.tabs.getD k tab0)]).length) (m_8 (putV (b.tabs.take k).length lr_ vr_) (putV (b.tabs.take k).length lb_ (A 6)) ((b.tabs.take k) ++ [(b.tabs.getD k tab0)]))), (blk B 37 [(Value.int .i64 b.scales), A4, (Value.slice none 0 0)]), (blk H 37 [(Value.int .i64 0), (Value.slice none 0 0), (Value.slice none 0 0)]), (blk I 25 [(Value.int .i64 b.scales), vt, vm]), (e_1 false vt lr lb b.tabs), (f_0 false vm lk b.macs)] := Bj; clear Bj u
  refine e_8 ?_
  refine g_0 ?_
  refine a_9 ?_
  have AJ := BQ.as [(4, (Value.int .i64 (k : Int))), (3, (bptr B 0)), (2, (bptr H 0)), (1, (bptr I 0))] rfl; clear BQ
  refine a_5 ?_
  refine s1 AJ (a_1 rfl (AJ.ev rfl)) fun DF AK => ?_; clear AJ DE
  refine s1 AK (f_1 rfl (AK.ev rfl) (evc _ _) (by omega) (by omega)) fun DG AL => ?_; clear AK DF
  refine s1 AL (a_0 rfl (AL.ev rfl)) fun Ea Cn => ?_; clear AL DG
  refine e_8 ?_
  have Bl := Bk.k_0 (i := 1) rfl (n' := (b.tabs.getD k tab0).rows.length) (xs' := pairs (b.tabs.getD k tab0).rows) (by rw [List.take_of_length_le (by omega)]) (by rw [List.take_of_length_le (by omega)]); clear Bk
  have Bm := Bl.gkp (gpc 1 (gpc 5 (gpc 0 (gpc 2 (gpc 3 (gpc 4 (gpc 6 (gpc 7 (gpc 8 (gpc 9 (gpc 10 (gpc 11 (gpc 12 gpn))))))))))))); clear Bl
  have Bn := k_1 (k' := l_5 (b.tabs.take (k + 1))) (c' := l_4 (b.tabs.take (k + 1))) Bm (rowsN_new (by omega)).1 (rowsN_new (by omega)).2.1 (fun i hi => (rowsN_old i hi).1); clear Bm
  have Bo := sep_sls_say (i := 0) (n' := (b.tabs.take (k + 1)).length) (v' := (putV (b.tabs.take k).length lr_ vr_)) (k' := l_5 (b.tabs.take (k + 1))) (c' := l_4 (b.tabs.take (k + 1))) Bn rfl (take_len1 (by omega)) (fun _ _ => ⟨rfl, rfl, rfl⟩); clear Bn
  have Bp := Bo.gkp (gpc 2 (gpc 5 (gpc 0 (gpc 1 (gpc 3 (gpc 4 (gpc 6 (gpc 7 (gpc 8 (gpc 9 (gpc 10 (gpc 11 gpn)))))))))))); clear Bo
  have Bq := k_1 (k' := brkN (b.tabs.take (k + 1))) (c' := brkC (b.tabs.take (k + 1))) Bp (rowsN_new (by omega)).2.2.1 (rowsN_new (by omega)).2.2.2 (fun i hi => (rowsN_old i hi).2); clear Bp
  have Br := sep_sls_say (i := 0) (n' := (b.tabs.take (k + 1)).length) (v' := (putV (b.tabs.take k).length lb_ (A 6))) (k' := brkN (b.tabs.take (k + 1))) (c' := brkC (b.tabs.take (k + 1))) Bq rfl (take_len1 (by omega)) (fun _ _ => ⟨rfl, rfl, rfl⟩); clear Bq
  have Cr := Br.gkp (gpc 1 (gpc 0 (gpc 5 (gpc 6 (gpc 7 (gpc 8 (gpc 9 (gpc 10 gpn)))))))); clear Br
  exact a_9 ⟨k + 1, ⟨A4, (putV (b.tabs.take k).length lr_ vr_), (putV (b.tabs.take k).length lb_ (A 6)), Cn.as _ rfl, (Cr.k_0 (i := 2) rfl (by rw [p_8 (by omega)]) (by rw [p_8 (by omega)])), by omega⟩, by omega⟩
 skip
 rw [decide_eq_false Cj] at R
 refine b_5 R rfl ?_
 refine g_3 ?_
 refine b_3 ?_
 refine b_3 ?_
 refine f_2 ?_
 refine a_9 ?_
 refine b_6 ?_
 refine b_6 ?_
 have BR := R.as [(3, (bptr B 0)), (2, (bptr H 0)), (1, (bptr I 0))] rfl; clear R
 refine a_5 ?_
 refine s1 BR (a_0 rfl (evc _ _)) fun DH BS => ?_; clear BR C0
 refine n1 ?_
 refine c_3 ?_
 have hkt : k = b.tabs.length := by omega
 have Av := S.gkp (gpc 2 (gpc 0 (gpc 1 (gpc 3 (gpc 4 (gpc 5 (gpc 6 (gpc 7 gpn)))))))); clear S
 rw [hkt, List.take_length] at Av
 have Bs := sep_tabs_join Av; clear Av
 have Bt := o_7 (Bs.y_4 103 2) (fun _ => Value.slice none 0 0) 3 (blkN (b.macs.take 0)) (blkC (b.macs.take 0)); clear Bs
 have BT := BS.as [(8, (Value.int .i64 0)), (3, (bptr B 0)), (2, (bptr H 0)), (1, (bptr I 0))] rfl; clear BS
 refine g_4 (G := Nat) (fun (m : Nat) a_ w_ => ∃ vm_ : Value, ∃ lk_ : Nat → Value, Fr 116 [] [(8, (Value.int .i64 (m : Int))), (3, (bptr B 0)), (2, (bptr H 0)), (1, (bptr I 0))] a_ ∧ Sep NoB w w_ [(slsR true ((b.macs.take m).length) lk_ 3 (blkN (b.macs.take m)) (blkC (b.macs.take m))), (row vm_ 103 2 ((b.macs.take m).length) (o_0 lk_ (b.macs.take m))), (e_1 true vt_ lr_ lb_ b.tabs), (blk B 37 [(Value.int .i64 b.scales), vt_, vm_]), (blk H 37 [(Value.int .i64 0), (Value.slice none 0 0), (Value.slice none 0 0)]), (blk I 25 [(Value.int .i64 b.scales), vt, vm]), (e_1 false vt lr lb b.tabs), (f_0 false vm lk b.macs)] ∧ (m ≤ b.macs.length)) (fun m => b.macs.length - m) 0 ⟨(Value.slice none 0 0), (fun _ => Value.slice none 0 0), BT.as _ rfl, (Bt.k_0 (i := 1) rfl (by rfl) (by rfl)), (Nat.zero_le _)⟩ ?_
 clear BT Bt DH
 rintro m DI Ej ⟨vm_, lk_, AM, J, hkm⟩
 have hmtk : (b.macs.take m).length = m := by rw [List.length_take]; omega
 refine b_6 ?_
 refine m2 ?_
 refine s1 AM (a_1 rfl (AM.ev rfl)) fun DJ AO => ?_; clear AM DI
 refine s1 AO (a_4 rfl n_8 (AO.ev rfl)) fun DK AP => ?_; clear AO DJ
 refine s1 AP (a_3 rfl aa_4 (AP.ev rfl) (J.bk 5 rfl) rfl) fun DL AQ => ?_; clear AP DK
 refine s1 AQ (d_2 rfl aa_6 (AQ.ev rfl) (c_2 (J.ok 7 _ rfl)).macs) fun DM c => ?_; clear AQ DL
 refine s1 c (f_5 rfl (c.ev rfl) (c.ev rfl)) fun CJ N => ?_; clear c DM
 refine n1 ?_
 by_cases CA : (m : Int) < (b.macs.length : Int)
 ·skip
  rw [decide_eq_true CA] at N
  have hmkk := hth.mac m
  refine c_0 N rfl ?_
  refine c_6 ?_
  refine a_9 ?_
  refine b_6 ?_
  refine c_3 ?_
  refine m2 ?_
  refine s1 N (a_4 rfl n_8 (N.ev rfl)) fun DN AR => ?_; clear N CJ
  refine s1 AR (a_3 rfl aa_4 (AR.ev rfl) (J.bk 5 rfl) rfl) fun DO AS => ?_; clear AR DN
  refine s1 AS (a_1 rfl (AS.ev rfl)) fun DP d => ?_; clear AS DO
  refine s1 d (b_2 rfl aa_6 z_2 (d.ev rfl) (i := m) (d.ev rfl) (c_2 (J.ok 7 _ rfl)).macs (by decide) (by omega)) fun DQ AT => ?_; clear d DP
  refine s1 AT (e_2 rfl z_2 (AT.ev rfl) (c_2 (J.ok 7 _ rfl)).macs (r_1 (by omega)) rfl (by decide)) fun DR BU => ?_; clear AT DQ
  refine s2 BU (d_9 J rfl ze_61 (cs := [(Value.int .i64 0), (Value.slice none 0 0)]) rfl) ?_
  rintro DS _ Ek ⟨L, rfl, Aw⟩ e; clear BU J DR
  refine s7 e (b_8 Aw rfl z_2 (e.ev rfl) (e.ev rfl) (i := 0) rfl (vs := [(Value.int .i64 ((b.macs.getD m mac0).scale)), (lk m)]) rfl rfl (h_4 rfl (h_4 (SlAt.one ((c_2 (Aw.ok 8 _ rfl)).blk (i := m) (by omega))) t_4)) (Nat.le_of_ble_eq_true rfl)) ?_
  intro _ Dy Bu BV; clear e
  have Ax : Sep NoB w Dy [(blk L 61 [(Value.int .i64 ((b.macs.getD m mac0).scale)), (lk m)]), (slsR true ((b.macs.take m).length) lk_ 3 (blkN (b.macs.take m)) (blkC (b.macs.take m))), (row vm_ 103 2 ((b.macs.take m).length) (o_0 lk_ (b.macs.take m))), (e_1 true vt_ lr_ lb_ b.tabs), (blk B 37 [(Value.int .i64 b.scales), vt_, vm_]), (blk H 37 [(Value.int .i64 0), (Value.slice none 0 0), (Value.slice none 0 0)]), (blk I 25 [(Value.int .i64 b.scales), vt, vm]), (e_1 false vt lr lb b.tabs), (f_0 false vm lk b.macs)] := Bu; clear Bu Aw
  refine n2 ?_
  have AU := BV.as [(9, (bptr L 0)), (8, (Value.int .i64 (m : Int))), (3, (bptr B 0)), (2, (bptr H 0)), (1, (bptr I 0))] rfl; clear BV
  refine a_5 ?_
  refine s1 AU (a_4 rfl fd_61_0 (AU.ev rfl)) fun DT AV => ?_; clear AU DS
  refine s1 AV (a_3 rfl ty_3 (AV.ev rfl) (Ax.bk 0 rfl) rfl) fun DU AW => ?_; clear AV DT
  refine s1 AW (e_0 rfl (pv1 (AW.ev rfl)) (bd_103_0i _)) fun DV BW => ?_; clear AW DU
  refine s2 BW (d_9 Ax rfl ze_103 (cs := [(Value.int .i64 0), (Value.slice none 0 0)]) rfl) ?_
  rintro DW _ El ⟨O, rfl, Bv⟩ f; clear BW Ax DV
  refine s7 f (b_8 Bv rfl o_3 (f.ev rfl) (f.ev rfl) (i := 0) rfl (vs := [(Value.int .i64 ((b.macs.getD m mac0).scale)), (Value.slice none 0 0)]) rfl rfl (h_4 rfl (h_4 rfl t_4)) (Nat.le_of_ble_eq_true rfl)) ?_
  intro _ Dz Bw BX; clear f
  have Bx : Sep NoB w Dz [(blk O 103 [(Value.int .i64 ((b.macs.getD m mac0).scale)), (Value.slice none 0 0)]), (blk L 61 [(Value.int .i64 ((b.macs.getD m mac0).scale)), (lk m)]), (slsR true ((b.macs.take m).length) lk_ 3 (blkN (b.macs.take m)) (blkC (b.macs.take m))), (row vm_ 103 2 ((b.macs.take m).length) (o_0 lk_ (b.macs.take m))), (e_1 true vt_ lr_ lb_ b.tabs), (blk B 37 [(Value.int .i64 b.scales), vt_, vm_]), (blk H 37 [(Value.int .i64 0), (Value.slice none 0 0), (Value.slice none 0 0)]), (blk I 25 [(Value.int .i64 b.scales), vt, vm]), (e_1 false vt lr lb b.tabs), (f_0 false vm lk b.macs)] := Bw; clear Bw Bv
  refine n2 ?_
  refine m2 ?_
  refine s1 BX (a_0 rfl (evc _ _)) fun DX BY => ?_; clear BX DW
  refine n1 ?_
  refine c_3 ?_
  have By := Bx.y_4 100 3; clear Bx
  have BZ := BY.as [(11, (Value.int .i64 0)), (10, (bptr O 0)), (9, (bptr L 0)), (8, (Value.int .i64 (m : Int))), (3, (bptr B 0)), (2, (bptr H 0)), (1, (bptr I 0))] rfl; clear BY
  refine g_4 (G := Nat) (fun (q : Nat) a_ w_ => ∃ vk_ : Value, Fr 116 [] [(11, (Value.int .i64 (q : Int))), (10, (bptr O 0)), (9, (bptr L 0)), (8, (Value.int .i64 (m : Int))), (3, (bptr B 0)), (2, (bptr H 0)), (1, (bptr I 0))] a_ ∧ Sep NoB w w_ [(row vk_ 100 3 (((b.macs.getD m mac0).blocks.take q).length) (trips ((b.macs.getD m mac0).blocks.take q))), (blk O 103 [(Value.int .i64 ((b.macs.getD m mac0).scale)), vk_]), (blk L 61 [(Value.int .i64 ((b.macs.getD m mac0).scale)), (lk m)]), (slsR true ((b.macs.take m).length) lk_ 3 (blkN (b.macs.take m)) (blkC (b.macs.take m))), (row vm_ 103 2 ((b.macs.take m).length) (o_0 lk_ (b.macs.take m))), (e_1 true vt_ lr_ lb_ b.tabs), (blk B 37 [(Value.int .i64 b.scales), vt_, vm_]), (blk H 37 [(Value.int .i64 0), (Value.slice none 0 0), (Value.slice none 0 0)]), (blk I 25 [(Value.int .i64 b.scales), vt, vm]), (e_1 false vt lr lb b.tabs), (f_0 false vm lk b.macs)] ∧ (q ≤ (b.macs.getD m mac0).blocks.length)) (fun q => (b.macs.getD m mac0).blocks.length - q) 0 ⟨(Value.slice none 0 0), BZ.as _ rfl, (By.k_0 (i := 0) rfl (by rfl) (by rfl)), (Nat.zero_le _)⟩ ?_
  clear BZ By DX
  rintro q DY Em ⟨vk_, AX, Q, hkq⟩
  have hlt_q : ((b.macs.getD m mac0).blocks.take q).length ≤ 12 := by simp only [List.length_take]; omega
  refine b_6 ?_
  refine m2 ?_
  refine s1 AX (a_1 rfl (AX.ev rfl)) fun DZ AY => ?_; clear AX DY
  refine s1 AY (a_4 rfl t_7 (AY.ev rfl)) fun Da AZ => ?_; clear AY DZ
  refine s1 AZ (a_3 rfl ty_59 (AZ.ev rfl) (Q.bk 2 rfl) rfl) fun Db Aa => ?_; clear AZ Da
  refine s1 Aa (d_2 rfl un_59 (Aa.ev rfl) ((c_2 (Q.ok 10 _ rfl)).blk (i := m) (by omega))) fun Dc g => ?_; clear Aa Db
  refine s1 g (f_5 rfl (g.ev rfl) (g.ev rfl)) fun Dd P => ?_; clear g Dc
  refine n1 ?_
  by_cases CB : (q : Int) < ((b.macs.getD m mac0).blocks.length : Int)
  ·skip
   rw [decide_eq_true CB] at P
   refine c_0 P rfl ?_
   refine c_6 ?_
   refine a_9 ?_
   refine b_6 ?_
   refine c_3 ?_
   have Ba := P.as [(11, (Value.int .i64 (q : Int))), (10, (bptr O 0)), (9, (bptr L 0)), (8, (Value.int .i64 (m : Int))), (3, (bptr B 0)), (2, (bptr H 0)), (1, (bptr I 0))] rfl; clear P
   refine x_6 mixed Ba Q 17 [[], [0], [], [2], [], [3, 4], [5], [6], [7], [], [9], [], [10, 11], [12], [13], [8, 14], [15]] [(yw (bptr O 1)), (yw vk_), (yw (bptr L 1)), (yw (lk m)), (yw (Value.int .i64 (q : Int))), (yw (eptr (lk m) (q * 3))), (yw (eptr (lk m) (q * 3 + 0))), (yw (Value.agg #[(Value.int .i64 ((((b.macs.getD m mac0).blocks).getD q (0, 0, 0)).1)), (Value.int .i64 ((((b.macs.getD m mac0).blocks).getD q (0, 0, 0)).2.1))])), (yw (Value.agg #[(Value.int .i64 ((((b.macs.getD m mac0).blocks).getD q (0, 0, 0)).1)), (Value.int .i64 ((((b.macs.getD m mac0).blocks).getD q (0, 0, 0)).2.1))])), (yw (bptr L 1)), (yw (lk m)), (yw (Value.int .i64 (q : Int))), (yw (eptr (lk m) (q * 3))), (yw (eptr (lk m) (q * 3 + 2))), (yw (Value.int .i64 ((((b.macs.getD m mac0).blocks).getD q (0, 0, 0)).2.2))), (yw (Value.agg #[(Value.int .i64 ((((b.macs.getD m mac0).blocks).getD q (0, 0, 0)).1)), (Value.int .i64 ((((b.macs.getD m mac0).blocks).getD q (0, 0, 0)).2.1)), (Value.int .i64 ((((b.macs.getD m mac0).blocks).getD q (0, 0, 0)).2.2))])), (fun (C : Nat → Value) (v_ : Value) (rs_ : List Res) => True ∧ rs_ = [(row v_ 100 3 1 [(Value.int .i64 ((((b.macs.getD m mac0).blocks).getD q (0, 0, 0)).1)), (Value.int .i64 ((((b.macs.getD m mac0).blocks).getD q (0, 0, 0)).2.1)), (Value.int .i64 ((((b.macs.getD m mac0).blocks).getD q (0, 0, 0)).2.2))])])] (by decide +kernel) (by decide +kernel) rfl rfl ⟨dw, dw, dw, dw, dw, dw, dw, dw, dw, dw, dw, dw, dw, dw, dw, dw, (fun _ _ _ _ _ h_ => h_), trivial⟩ ?_ ?_
   ·skip
    refine ⟨fun a w C hA hS hd => gv1 (a_4 rfl fd_103_1 (hA.ev rfl)), ?_⟩
    refine ⟨fun a w C hA hS hd => gv1 (a_3 rfl ty_101 (gu hd 0) (hS.bk 1 rfl) rfl), ?_⟩
    refine ⟨fun a w C hA hS hd => gv1 (a_4 rfl t_7 (hA.ev rfl)), ?_⟩
    refine ⟨fun a w C hA hS hd => gv1 (a_3 rfl ty_59 (gu hd 2) (hS.bk 2 rfl) rfl), ?_⟩
    refine ⟨fun a w C hA hS hd => gv1 (a_1 rfl (hA.ev rfl)), ?_⟩
    refine ⟨fun a w C hA hS hd => gv1 (b_2 rfl un_59 ty_63 (gu hd 3) (i := q) (gu hd 4) ((c_2 (hS.ok 10 _ rfl)).blk (i := m) (by omega)) (by decide) (by omega)), ?_⟩
    refine ⟨fun a w C hA hS hd => gv1 (d_8 rfl fd_63_0 (gu hd 5) ((c_2 (hS.ok 10 _ rfl)).blk (i := m) (by omega)) (by rw [(((c_2 (hS.ok 10 _ rfl)).blk (i := m) (by omega))).1]; omega)), ?_⟩
    refine ⟨fun a w C hA hS hd => gv1 (e_2 rfl z_1 (gu hd 6) ((c_2 (hS.ok 10 _ rfl)).blk (i := m) (by omega)) (trips_sub0 (by omega)) rfl (by decide)), ?_⟩
    refine ⟨fun a w C hA hS hd => gx1 (b_1 rfl en_20 (ev1 (gu hd 7)) (to_ok _ _ _)), ?_⟩
    refine ⟨fun a w C hA hS hd => gv1 (a_4 rfl t_7 (hA.ev rfl)), ?_⟩
    refine ⟨fun a w C hA hS hd => gv1 (a_3 rfl ty_59 (gu hd 9) (hS.bk 2 rfl) rfl), ?_⟩
    refine ⟨fun a w C hA hS hd => gv1 (a_1 rfl (hA.ev rfl)), ?_⟩
    refine ⟨fun a w C hA hS hd => gv1 (b_2 rfl un_59 ty_63 (gu hd 10) (i := q) (gu hd 11) ((c_2 (hS.ok 10 _ rfl)).blk (i := m) (by omega)) (by decide) (by omega)), ?_⟩
    refine ⟨fun a w C hA hS hd => gv1 (d_8 rfl fd_63_1 (gu hd 12) ((c_2 (hS.ok 10 _ rfl)).blk (i := m) (by omega)) (by rw [(((c_2 (hS.ok 10 _ rfl)).blk (i := m) (by omega))).1]; omega)), ?_⟩
    refine ⟨fun a w C hA hS hd => gv1 (c_5 rfl ty_3 (gu hd 13) ((c_2 (hS.ok 10 _ rfl)).blk (i := m) (by omega)) (trips_at2 (by omega))), ?_⟩
    refine ⟨fun a w C hA hS hd => gv1 (e_0 rfl (pv2 (gu hd 8) (gu hd 14)) (p_0 _ _ _)), ?_⟩
    refine ⟨fun a w C hA hS hd => d_7 rfl (vblt rfl (pv1 (gu hd 15)) aa_5 aa_3 ze_100 (by decide) (cs := [(Value.int .i64 ((((b.macs.getD m mac0).blocks).getD q (0, 0, 0)).1)), (Value.int .i64 ((((b.macs.getD m mac0).blocks).getD q (0, 0, 0)).2.1)), (Value.int .i64 ((((b.macs.getD m mac0).blocks).getD q (0, 0, 0)).2.2))]) (bs_100_1_0iiia _ _ _) rfl (by decide) (fun _ => And.intro trivial rfl)), ?_⟩
    trivial
   intro CK D0 C rsf252 Bb E Ay; clear Ba Q
   obtain ⟨CG, Cz⟩ := E 16 (by decide)
   obtain ⟨Cw, CE⟩ := Cz
   have Az : Sep NoB w D0 [(row (C 16) 100 3 1 [(Value.int .i64 ((((b.macs.getD m mac0).blocks).getD q (0, 0, 0)).1)), (Value.int .i64 ((((b.macs.getD m mac0).blocks).getD q (0, 0, 0)).2.1)), (Value.int .i64 ((((b.macs.getD m mac0).blocks).getD q (0, 0, 0)).2.2))]), (row vk_ 100 3 (((b.macs.getD m mac0).blocks.take q).length) (trips ((b.macs.getD m mac0).blocks.take q))), (blk O 103 [(Value.int .i64 ((b.macs.getD m mac0).scale)), vk_]), (blk L 61 [(Value.int .i64 ((b.macs.getD m mac0).scale)), (lk m)]), (slsR true ((b.macs.take m).length) lk_ 3 (blkN (b.macs.take m)) (blkC (b.macs.take m))), (row vm_ 103 2 ((b.macs.take m).length) (o_0 lk_ (b.macs.take m))), (e_1 true vt_ lr_ lb_ b.tabs), (blk B 37 [(Value.int .i64 b.scales), vt_, vm_]), (blk H 37 [(Value.int .i64 0), (Value.slice none 0 0), (Value.slice none 0 0)]), (blk I 25 [(Value.int .i64 b.scales), vt, vm]), (e_1 false vt lr lb b.tabs), (f_0 false vm lk b.macs)] := by rw [show catR rsf252 0 17 = ([(row (C 16) 100 3 1 [(Value.int .i64 ((((b.macs.getD m mac0).blocks).getD q (0, 0, 0)).1)), (Value.int .i64 ((((b.macs.getD m mac0).blocks).getD q (0, 0, 0)).2.1)), (Value.int .i64 ((((b.macs.getD m mac0).blocks).getD q (0, 0, 0)).2.2))])] : List Res) by (try simp only [catR, gr (E 0 (by decide)), gr (E 1 (by decide)), gr (E 2 (by decide)), gr (E 3 (by decide)), gr (E 4 (by decide)), gr (E 5 (by decide)), gr (E 6 (by decide)), gr (E 7 (by decide)), gr (E 8 (by decide)), gr (E 9 (by decide)), gr (E 10 (by decide)), gr (E 11 (by decide)), gr (E 12 (by decide)), gr (E 13 (by decide)), gr (E 14 (by decide)), gr (E 15 (by decide)), CE]); (try rfl)] at Ay; exact Ay
   have Bc := Bb.add (gs (E 1 (by decide))); clear Bb
   have n : Fr 116 [] [(106, (C 16)), (91, vk_), (11, (Value.int .i64 (q : Int))), (10, (bptr O 0)), (9, (bptr L 0)), (8, (Value.int .i64 (m : Int))), (3, (bptr B 0)), (2, (bptr H 0)), (1, (bptr I 0))] CK := Bc.add (h_8 CG rfl); clear Bc
   clear E Ay CG
   clear CE
   clear Cw
   refine s2 n (q_1 Az rfl aa_5 el_100 (n.ev rfl) (n.ev rfl) (i := 1) rfl (SlAt.i_1 (Az.j_5 0 rfl)) rfl (by simp only [maxLen]; omega) (by omega)) ?_
   intro De A5 En Bz Ab
   have x := Bz.k_0 (i := 1) rfl (n' := (((b.macs.getD m mac0).blocks.take q) ++ [(b.macs.getD m mac0).blocks.getD q (0, 0, 0)]).length) (xs' := (trips (((b.macs.getD m mac0).blocks.take q) ++ [(b.macs.getD m mac0).blocks.getD q (0, 0, 0)]))) (by simp) (by simp [trips]); clear Bz n Az CK
   refine s1 Ab (a_4 rfl fd_103_1 (Ab.ev rfl)) fun Df o => ?_; clear Ab De
   refine s7 o (b_8 x rfl ty_101 (o.ev rfl) (o.ev rfl) (i := 2) rfl (vs := [A5]) (r_5 (SlAt.isSl (SlAt.i_1 (x.j_5 1 rfl)))) rfl (h_4 (SlAt.one (SlAt.i_1 (x.j_5 1 rfl))) t_4) (Nat.le_of_ble_eq_true rfl)) ?_
   intro _ D1 B0 Ac; clear o
   have B1 : Sep NoB w D1 [(row (C 16) 100 3 1 [(Value.int .i64 ((((b.macs.getD m mac0).blocks).getD q (0, 0, 0)).1)), (Value.int .i64 ((((b.macs.getD m mac0).blocks).getD q (0, 0, 0)).2.1)), (Value.int .i64 ((((b.macs.getD m mac0).blocks).getD q (0, 0, 0)).2.2))]), (row A5 100 3 ((((b.macs.getD m mac0).blocks.take q) ++ [(b.macs.getD m mac0).blocks.getD q (0, 0, 0)]).length) (trips (((b.macs.getD m mac0).blocks.take q) ++ [(b.macs.getD m mac0).blocks.getD q (0, 0, 0)]))), (blk O 103 [(Value.int .i64 ((b.macs.getD m mac0).scale)), A5]), (blk L 61 [(Value.int .i64 ((b.macs.getD m mac0).scale)), (lk m)]), (slsR true ((b.macs.take m).length) lk_ 3 (blkN (b.macs.take m)) (blkC (b.macs.take m))), (row vm_ 103 2 ((b.macs.take m).length) (o_0 lk_ (b.macs.take m))), (e_1 true vt_ lr_ lb_ b.tabs), (blk B 37 [(Value.int .i64 b.scales), vt_, vm_]), (blk H 37 [(Value.int .i64 0), (Value.slice none 0 0), (Value.slice none 0 0)]), (blk I 25 [(Value.int .i64 b.scales), vt, vm]), (e_1 false vt lr lb b.tabs), (f_0 false vm lk b.macs)] := B0; clear B0 x
   refine e_8 ?_
   refine g_0 ?_
   refine a_9 ?_
   refine a_5 ?_
   refine s1 Ac (a_1 rfl (Ac.ev rfl)) fun Dg Ad => ?_; clear Ac Df
   refine s1 Ad (f_1 rfl (Ad.ev rfl) (evc _ _) (by omega) (by omega)) fun Dh Ae => ?_; clear Ad Dg
   refine s1 Ae (a_0 rfl (Ae.ev rfl)) fun Eb Co => ?_; clear Ae Dh
   refine e_8 ?_
   have Cs := B1.gkp (gpc 1 (gpc 2 (gpc 3 (gpc 4 (gpc 5 (gpc 6 (gpc 7 (gpc 8 (gpc 9 (gpc 10 (gpc 11 gpn))))))))))); clear B1
   exact a_9 ⟨q + 1, ⟨A5, Co.as _ rfl, (Cs.k_0 (i := 0) rfl (by rw [p_8 (by omega)]) (by rw [p_8 (by omega)])), by omega⟩, by omega⟩
  skip
  rw [decide_eq_false CB] at P
  refine b_5 P rfl ?_
  refine g_3 ?_
  refine b_3 ?_
  refine b_3 ?_
  refine f_2 ?_
  refine a_9 ?_
  have Af := P.as [(10, (bptr O 0)), (8, (Value.int .i64 (m : Int))), (3, (bptr B 0)), (2, (bptr H 0)), (1, (bptr I 0))] rfl; clear P
  refine a_5 ?_
  refine s1 Af (a_4 rfl s_1 (Af.ev rfl)) fun Di Ag => ?_; clear Af Dd
  refine s1 Ag (a_3 rfl ab_7 (Ag.ev rfl) (Q.bk 6 rfl) rfl) fun Dj Ah => ?_; clear Ag Di
  refine s1 Ah (c_4 rfl o_3 (Ah.ev rfl) (Q.bk 1 rfl) (l := [(Value.int .i64 ((b.macs.getD m mac0).scale)), vk_]) rfl rfl) fun Dk Ai => ?_; clear Ah Dj
  refine s2 Ai (h_2 Q rfl (pv1 (Ai.ev rfl)) ab_2 o_3 ze_103 (by decide) (cs := [(Value.int .i64 ((b.macs.getD m mac0).scale)), vk_]) (bs_103_1_0iva _ _)) ?_
  rintro Dl _ Eo ⟨Dr, rfl, y⟩ p; clear Ai Q Dk
  refine s2 p (q_1 y rfl ab_2 el_103 (p.ev rfl) (p.ev rfl) (i := 5) rfl (SlAt.of_blk (y.bk 0 rfl) rfl (Nat.le_of_ble_eq_true rfl)) (h_4 rfl (h_4 (SlAt.one (SlAt.i_1 (y.j_5 1 rfl))) t_4)) (by simp only [maxLen]; omega) (by omega)) ?_
  intro Dm A6 Ep B2 Aj
  have z := B2.k_0 (i := 5) rfl (n' := ((b.macs.take m) ++ [(b.macs.getD m mac0)]).length) (xs' := (o_0 (putV (b.macs.take m).length lk_ vk_) ((b.macs.take m) ++ [(b.macs.getD m mac0)]))) (by simp) (macs_snoc (b.macs.getD m mac0) vk_); clear B2 p y Dl
  refine s1 Aj (a_4 rfl s_1 (Aj.ev rfl)) fun Dn r => ?_; clear Aj Dm
  refine s7 r (b_8 z rfl ab_7 (r.ev rfl) (r.ev rfl) (i := 7) rfl (vs := [A6]) (r_5 (SlAt.isSl (SlAt.i_1 (z.j_5 5 rfl)))) rfl (h_4 (SlAt.one (SlAt.i_1 (z.j_5 5 rfl))) t_4) (Nat.le_of_ble_eq_true rfl)) ?_
  intro _ D2 B3 Bd; clear r
  have B4 : Sep NoB w D2 [(blk Dr 103 [(Value.int .i64 ((b.macs.getD m mac0).scale)), vk_]), (row vk_ 100 3 (((b.macs.getD m mac0).blocks.take q).length) (trips ((b.macs.getD m mac0).blocks.take q))), (blk O 103 [(Value.int .i64 ((b.macs.getD m mac0).scale)), vk_]), (blk L 61 [(Value.int .i64 ((b.macs.getD m mac0).scale)), (lk m)]), (slsR true ((b.macs.take m).length) lk_ 3 (blkN (b.macs.take m)) (blkC (b.macs.take m))), (row A6 103 2 (((b.macs.take m) ++ [(b.macs.getD m mac0)]).length) (o_0 (putV (b.macs.take m).length lk_ vk_) ((b.macs.take m) ++ [(b.macs.getD m mac0)]))), (e_1 true vt_ lr_ lb_ b.tabs), (blk B 37 [(Value.int .i64 b.scales), vt_, A6]), (blk H 37 [(Value.int .i64 0), (Value.slice none 0 0), (Value.slice none 0 0)]), (blk I 25 [(Value.int .i64 b.scales), vt, vm]), (e_1 false vt lr lb b.tabs), (f_0 false vm lk b.macs)] := B3; clear B3 z
  refine e_8 ?_
  refine g_0 ?_
  refine a_9 ?_
  have Ak := Bd.as [(8, (Value.int .i64 (m : Int))), (3, (bptr B 0)), (2, (bptr H 0)), (1, (bptr I 0))] rfl; clear Bd
  refine a_5 ?_
  refine s1 Ak (a_1 rfl (Ak.ev rfl)) fun Do Al => ?_; clear Ak Dn
  refine s1 Al (f_1 rfl (Al.ev rfl) (evc _ _) (by omega) (by omega)) fun Dp Am => ?_; clear Al Do
  refine s1 Am (a_0 rfl (Am.ev rfl)) fun Ec Cp => ?_; clear Am Dp
  refine e_8 ?_
  have B5 := B4.k_0 (i := 1) rfl (n' := (b.macs.getD m mac0).blocks.length) (xs' := trips (b.macs.getD m mac0).blocks) (by rw [List.take_of_length_le (by omega)]) (by rw [List.take_of_length_le (by omega)]); clear B4
  have B6 := B5.gkp (gpc 1 (gpc 4 (gpc 0 (gpc 2 (gpc 3 (gpc 5 (gpc 6 (gpc 7 (gpc 8 (gpc 9 (gpc 10 (gpc 11 gpn)))))))))))); clear B5
  have B7 := k_1 (k' := blkN (b.macs.take (m + 1))) (c' := blkC (b.macs.take (m + 1))) B6 (blkN_new (by omega)).1 (blkN_new (by omega)).2 blkN_old; clear B6
  have B8 := sep_sls_say (i := 0) (n' := (b.macs.take (m + 1)).length) (v' := (putV (b.macs.take m).length lk_ vk_)) (k' := blkN (b.macs.take (m + 1))) (c' := blkC (b.macs.take (m + 1))) B7 rfl (take_len1 (by omega)) (fun _ _ => ⟨rfl, rfl, rfl⟩); clear B7
  have Ct := B8.gkp (gpc 0 (gpc 4 (gpc 5 (gpc 6 (gpc 7 (gpc 8 (gpc 9 (gpc 10 gpn)))))))); clear B8
  exact a_9 ⟨m + 1, ⟨A6, (putV (b.macs.take m).length lk_ vk_), Cp.as _ rfl, (Ct.k_0 (i := 1) rfl (by rw [p_8 (by omega)]) (by rw [p_8 (by omega)])), by omega⟩, by omega⟩
 skip
 rw [decide_eq_false CA] at N
 refine b_5 N rfl ?_
 refine g_3 ?_
 refine b_3 ?_
 refine b_3 ?_
 refine f_2 ?_
 refine a_9 ?_
 refine b_6 ?_
 have An := N.as [(3, (bptr B 0)), (2, (bptr H 0))] rfl; clear N
 refine a_5 ?_
 refine s1 An (c_4 rfl s_7 (An.ev rfl) (J.bk 3 rfl) (l := [(Value.int .i64 b.scales), vt_, vm_]) rfl rfl) fun Ed s => ?_; clear An CJ
 refine s7 s (b_8 J rfl s_7 (s.ev rfl) (s.ev rfl) (i := 4) rfl (vs := [(Value.int .i64 b.scales), vt_, vm_]) rfl rfl (h_4 rfl (h_4 ((b_7 (J.ok 2 _ rfl)).tabs.one) (h_4 (SlAt.one (SlAt.i_1 (J.j_5 1 rfl))) t_4))) (Nat.le_of_ble_eq_true rfl)) ?_
 intro _ D3 B9 Be; clear s
 have A0 : Sep NoB w D3 [(slsR true ((b.macs.take m).length) lk_ 3 (blkN (b.macs.take m)) (blkC (b.macs.take m))), (row vm_ 103 2 ((b.macs.take m).length) (o_0 lk_ (b.macs.take m))), (e_1 true vt_ lr_ lb_ b.tabs), (blk B 37 [(Value.int .i64 b.scales), vt_, vm_]), (blk H 37 [(Value.int .i64 b.scales), vt_, vm_]), (blk I 25 [(Value.int .i64 b.scales), vt, vm]), (e_1 false vt lr lb b.tabs), (f_0 false vm lk b.macs)] := B9; clear B9 J
 refine n1 ?_
 refine c_1 ?_
 refine a_7 Be (.inl rfl) (a_2 Be rfl (.cellA rfl s_7 (A0.bk 4 rfl) (l := [(Value.int .i64 b.scales), vt_, vm_]) rfl rfl)) ?_
 have Cu := A0.gkp (gpc 1 (gpc 0 (gpc 2 gpn))); clear A0
 have hmt : m = b.macs.length := by omega
 have hz := Cu
 rw [hmt, List.take_length] at hz
 exact ⟨_, _, _, _, _, rfl, (sep_macs_join hz).keep [1, 0] (by decide) _ rfl rfl⟩
end Go.Proofs.Ytohgladndklciaa

namespace Go.Hard
def d_6 : g_9 := ⟨3, [⟨0, 1, [(100, 200), (200, 300), (300, 500), (400, 600)], [2], 2⟩, ⟨1, 2, [(250, 90), (350, 50)], [], 0⟩], [⟨0, [(150, 154, 160), (240, 246, 249)]⟩, ⟨1, [(300, 300, 299)]⟩]⟩
open Go.RowKit Go.Eng in
theorem kept_tabsC (a b c d : Value) : m_8 (putV 1 (putV 0 (fun _ => Value.slice none 0 0) a) c) (putV 1 (putV 0 (fun _ => Value.slice none 0 0) b) d) d_6.tabs = [.int .i64 0, .int .i64 1, a, b, .int .i64 2, .int .i64 1, .int .i64 2, c, d, .int .i64 0] := rfl
open Go.RowKit Go.Eng in
theorem kept_macsC (a b : Value) : o_0 (putV 1 (putV 0 (fun _ => Value.slice none 0 0) a) b) d_6.macs = [.int .i64 0, a, .int .i64 1, b] := rfl
theorem kept_thin : n_6 d_6 := (thin_iff (n := 0)).1 (by decide) |>.1
theorem kept_read : l_6 d_6 [(0, 170)] = 0 := by decide
theorem kept_spans : w_9 d_6 [(0, 170)] = some [(161, 164), (259, 266), (83, 87)] := by
  unfold w_9
  rw [if_pos (by decide)]
  show s_6 3 _ (400000 + 1) _ = _
  rw [s_6, if_pos (by decide), if_neg (by decide)]
  show s_6 3 _ (399999 + 1) _ = _
  rw [s_6, if_pos (by decide), if_pos (by decide)]
  decide
end Go.Hard

namespace Go.Proofs.Ytohgladndklciaa
open Go.RowKit Go.Shelf Go.Eng Go.Hard
theorem bs_107_4_0iia_1iia_2iia_3iia (x0_0 : Int) (x0_1 : Int) (x1_0 : Int) (x1_1 : Int) (x2_0 : Int) (x2_1 : Int) (x3_0 : Int) (x3_1 : Int) : Instr.fill (fun i => some (i * 2, 2)) ((Array.range (4 * 2)).map ((Value.agg #[(Value.int .i64 0), (Value.int .i64 0)]).cells[· % (Value.agg #[(Value.int .i64 0), (Value.int .i64 0)]).cells.size]!)) [(0, .agg #[(.int .i64 x0_0), (.int .i64 x0_1)]), (1, .agg #[(.int .i64 x1_0), (.int .i64 x1_1)]), (2, .agg #[(.int .i64 x2_0), (.int .i64 x2_1)]), (3, .agg #[(.int .i64 x3_0), (.int .i64 x3_1)])] = some (([(.int .i64 x0_0), (.int .i64 x0_1), (.int .i64 x1_0), (.int .i64 x1_1), (.int .i64 x2_0), (.int .i64 x2_1), (.int .i64 x3_0), (.int .i64 x3_1)] : List Value).toArray) := by kernel_rfl
theorem bd_106_0i_1i_2s_3s_4i (x0_0 : Int) (x1_0 : Int) (x2_0 : Value) (hx2_0 : IsSl x2_0) (x3_0 : Value) (hx3_0 : IsSl x3_0) (x4_0 : Int) (w : World) : (Instr.build 106 #[(0, (.int .i64 x0_0)), (1, (.int .i64 x1_0)), (2, x2_0), (3, x3_0), (4, (.int .i64 x4_0))]).run Try.prog w = .ok (.agg #[(.int .i64 x0_0), (.int .i64 x1_0), x2_0, x3_0, (.int .i64 x4_0)]) w := by obtain ⟨Ax2_0, Bx2_0, Cx2_0, rfl⟩ := hx2_0; obtain ⟨Ax3_0, Bx3_0, Cx3_0, rfl⟩ := hx3_0; kernel_rfl
theorem bs_107_2_0iia_1iia (x0_0 : Int) (x0_1 : Int) (x1_0 : Int) (x1_1 : Int) : Instr.fill (fun i => some (i * 2, 2)) ((Array.range (2 * 2)).map ((Value.agg #[(Value.int .i64 0), (Value.int .i64 0)]).cells[· % (Value.agg #[(Value.int .i64 0), (Value.int .i64 0)]).cells.size]!)) [(0, .agg #[(.int .i64 x0_0), (.int .i64 x0_1)]), (1, .agg #[(.int .i64 x1_0), (.int .i64 x1_1)])] = some (([(.int .i64 x0_0), (.int .i64 x0_1), (.int .i64 x1_0), (.int .i64 x1_1)] : List Value).toArray) := by kernel_rfl
theorem bd_106_0i_1i_2s (x0_0 : Int) (x1_0 : Int) (x2_0 : Value) (hx2_0 : IsSl x2_0) (w : World) : (Instr.build 106 #[(0, (.int .i64 x0_0)), (1, (.int .i64 x1_0)), (2, x2_0)]).run Try.prog w = .ok (.agg #[(.int .i64 x0_0), (.int .i64 x1_0), x2_0, (Value.slice none 0 0), (Value.int .i64 0)]) w := by obtain ⟨Ax2_0, Bx2_0, Cx2_0, rfl⟩ := hx2_0; kernel_rfl
theorem bs_106_2_0iivvia_1iivvia (x0_0 : Int) (x0_1 : Int) (x0_2 : Value) (x0_3 : Value) (x0_4 : Int) (x1_0 : Int) (x1_1 : Int) (x1_2 : Value) (x1_3 : Value) (x1_4 : Int) : Instr.fill (fun i => some (i * 5, 5)) ((Array.range (2 * 5)).map ((Value.agg #[(Value.int .i64 0), (Value.int .i64 0), (Value.slice none 0 0), (Value.slice none 0 0), (Value.int .i64 0)]).cells[· % (Value.agg #[(Value.int .i64 0), (Value.int .i64 0), (Value.slice none 0 0), (Value.slice none 0 0), (Value.int .i64 0)]).cells.size]!)) [(0, .agg #[(.int .i64 x0_0), (.int .i64 x0_1), x0_2, x0_3, (.int .i64 x0_4)]), (1, .agg #[(.int .i64 x1_0), (.int .i64 x1_1), x1_2, x1_3, (.int .i64 x1_4)])] = some (([(.int .i64 x0_0), (.int .i64 x0_1), x0_2, x0_3, (.int .i64 x0_4), (.int .i64 x1_0), (.int .i64 x1_1), x1_2, x1_3, (.int .i64 x1_4)] : List Value).toArray) := by kernel_rfl
theorem en_31 : ∀ args w, (callFunc 31 args).run Try.prog w = .ok (.enter 31 args) w := enters_of Try.func31 (by kernel_rfl) rfl
theorem bs_100_2_0iiia_1iiia (x0_0 : Int) (x0_1 : Int) (x0_2 : Int) (x1_0 : Int) (x1_1 : Int) (x1_2 : Int) : Instr.fill (fun i => some (i * 3, 3)) ((Array.range (2 * 3)).map ((Value.agg #[(Value.int .i64 0), (Value.int .i64 0), (Value.int .i64 0)]).cells[· % (Value.agg #[(Value.int .i64 0), (Value.int .i64 0), (Value.int .i64 0)]).cells.size]!)) [(0, .agg #[(.int .i64 x0_0), (.int .i64 x0_1), (.int .i64 x0_2)]), (1, .agg #[(.int .i64 x1_0), (.int .i64 x1_1), (.int .i64 x1_2)])] = some (([(.int .i64 x0_0), (.int .i64 x0_1), (.int .i64 x0_2), (.int .i64 x1_0), (.int .i64 x1_1), (.int .i64 x1_2)] : List Value).toArray) := by kernel_rfl
theorem bd_103_0i_1s (x0_0 : Int) (x1_0 : Value) (hx1_0 : IsSl x1_0) (w : World) : (Instr.build 103 #[(0, (.int .i64 x0_0)), (1, x1_0)]).run Try.prog w = .ok (.agg #[(.int .i64 x0_0), x1_0]) w := by obtain ⟨Ax1_0, Bx1_0, Cx1_0, rfl⟩ := hx1_0; kernel_rfl
theorem bs_103_2_0iva_1iva (x0_0 : Int) (x0_1 : Value) (x1_0 : Int) (x1_1 : Value) : Instr.fill (fun i => some (i * 2, 2)) ((Array.range (2 * 2)).map ((Value.agg #[(Value.int .i64 0), (Value.slice none 0 0)]).cells[· % (Value.agg #[(Value.int .i64 0), (Value.slice none 0 0)]).cells.size]!)) [(0, .agg #[(.int .i64 x0_0), x0_1]), (1, .agg #[(.int .i64 x1_0), x1_1])] = some (([(.int .i64 x0_0), x0_1, (.int .i64 x1_0), x1_1] : List Value).toArray) := by kernel_rfl
theorem bd_37_0i_1s_2s (x0_0 : Int) (x1_0 : Value) (hx1_0 : IsSl x1_0) (x2_0 : Value) (hx2_0 : IsSl x2_0) (w : World) : (Instr.build 37 #[(0, (.int .i64 x0_0)), (1, x1_0), (2, x2_0)]).run Try.prog w = .ok (.agg #[(.int .i64 x0_0), x1_0, x2_0]) w := by obtain ⟨Ax1_0, Bx1_0, Cx1_0, rfl⟩ := hx1_0; obtain ⟨Ax2_0, Bx2_0, Cx2_0, rfl⟩ := hx2_0; kernel_rfl
set_option maxHeartbeats 1000000 in
theorem kept_ok (w : World) :
  Calls Try.prog 46 #[] w (Ret fun v w' => ∃ vt' vm' lr' lb' lk', v = .agg #[.int .i64 d_6.scales, vt', vm'] ∧ Sep NoB w w' [e_1 true vt' lr' lb' d_6.tabs, f_0 true vm' lk' d_6.macs]) := by
 refine a_8 Try.func46 rfl fun a0 X => ?_
 replace X : Fr 25 [] [] a0 := X
 have AD : Sep NoB w w [] := Sep.start _ _
 refine m2 ?_
 refine s2 X (d_9 AD rfl ze_37 (cs := [(Value.int .i64 0), (Value.slice none 0 0), (Value.slice none 0 0)]) rfl) ?_
 rintro a1 _ w3 ⟨b4, rfl, AE⟩ AA; clear X AD a0
 refine n4 ?_
 refine s1 AA (e_0 rfl (pv2 (evc _ _) (evc _ _)) (l_8 _ _)) fun a6 AB => ?_; clear AA a1
 refine s1 AB (e_0 rfl (pv2 (evc _ _) (evc _ _)) (l_8 _ _)) fun a8 AC => ?_; clear AB a6
 refine s1 AC (e_0 rfl (pv2 (evc _ _) (evc _ _)) (l_8 _ _)) fun AV Y => ?_; clear AC a8
 refine s1 Y (e_0 rfl (pv2 (evc _ _) (evc _ _)) (l_8 _ _)) fun AW I => ?_; clear Y AV
 refine s2 I (h_2 AE rfl (pv4 (I.ev rfl) (I.ev rfl) (I.ev rfl) (I.ev rfl)) j_9 h_9 x_2 (by decide) (cs := [(Value.int .i64 100), (Value.int .i64 200), (Value.int .i64 200), (Value.int .i64 300), (Value.int .i64 300), (Value.int .i64 500), (Value.int .i64 400), (Value.int .i64 600)]) (bs_107_4_0iia_1iia_2iia_3iia _ _ _ _ _ _ _ _)) ?_
 rintro AX _ BB ⟨C, rfl, k⟩ Z; clear I AE AW
 refine s2 Z (h_2 k rfl (pv1 (evc _ _)) k_2 ty_3 ze_3 (by decide) (cs := [(Value.int .i64 2)]) (bs_3_1_0i _)) ?_
 rintro AY _ BC ⟨D, rfl, m⟩ J; clear Z k AX
 refine s1 J (e_0 rfl (pv5 (evc _ _) (evc _ _) (J.ev rfl) (J.ev rfl) (evc _ _)) (bd_106_0i_1i_2s_3s_4i _ _ _ ⟨_, _, _, rfl⟩ _ ⟨_, _, _, rfl⟩ _)) fun AZ a => ?_; clear J AY
 refine s1 a (e_0 rfl (pv2 (evc _ _) (evc _ _)) (l_8 _ _)) fun Aa b => ?_; clear a AZ
 refine s1 b (e_0 rfl (pv2 (evc _ _) (evc _ _)) (l_8 _ _)) fun Ab K => ?_; clear b Aa
 refine s2 K (h_2 m rfl (pv2 (K.ev rfl) (K.ev rfl)) j_9 h_9 x_2 (by decide) (cs := [(Value.int .i64 250), (Value.int .i64 90), (Value.int .i64 350), (Value.int .i64 50)]) (bs_107_2_0iia_1iia _ _ _ _)) ?_
 rintro Ac _ BD ⟨E, rfl, o⟩ Q; clear K m Ab
 refine s1 Q (e_0 rfl (pv3 (evc _ _) (evc _ _) (Q.ev rfl)) (bd_106_0i_1i_2s _ _ _ ⟨_, _, _, rfl⟩)) fun Ad L => ?_; clear Q Ac
 refine s2 L (h_2 o rfl (pv2 (L.ev rfl) (L.ev rfl)) z_8 k_4 ze_106 (by decide) (cs := [(Value.int .i64 0), (Value.int .i64 1), (Value.slice (some ⟨C, 0, none⟩) 4 4), (Value.slice (some ⟨D, 0, none⟩) 1 1), (Value.int .i64 2), (Value.int .i64 1), (Value.int .i64 2), (Value.slice (some ⟨E, 0, none⟩) 2 2), (Value.slice none 0 0), (Value.int .i64 0)]) (bs_106_2_0iivvia_1iivvia _ _ _ _ _ _ _ _ _ _)) ?_
 rintro Ae _ BE ⟨F, rfl, p⟩ c; clear L o Ad
 refine s2 c (b_1 rfl en_31 (ev2 (evc _ _) (evc _ _)) (m_2 _ _ _)) ?_
 rintro Af _ BF ⟨rfl, g⟩ R; have q := p.step g; clear g c p Ae
 refine s1 R (e_0 rfl (pv2 (R.ev rfl) (evc _ _)) (p_0 _ _ _)) fun Ag d => ?_; clear R Af
 refine s2 d (b_1 rfl en_31 (ev2 (evc _ _) (evc _ _)) (m_2 _ _ _)) ?_
 rintro Ah _ BG ⟨rfl, h⟩ S; have r := q.step h; clear h d q Ag
 refine s1 S (e_0 rfl (pv2 (S.ev rfl) (evc _ _)) (p_0 _ _ _)) fun Ai M => ?_; clear S Ah
 refine s2 M (h_2 r rfl (pv2 (M.ev rfl) (M.ev rfl)) aa_5 aa_3 ze_100 (by decide) (cs := [(Value.int .i64 150), (Value.int .i64 154), (Value.int .i64 160), (Value.int .i64 240), (Value.int .i64 246), (Value.int .i64 249)]) (bs_100_2_0iiia_1iiia _ _ _ _ _ _)) ?_
 rintro Aj _ BH ⟨A, rfl, s⟩ T; clear M r Ai
 refine s1 T (e_0 rfl (pv2 (evc _ _) (T.ev rfl)) (bd_103_0i_1s _ _ ⟨_, _, _, rfl⟩)) fun Ak e => ?_; clear T Aj
 refine s2 e (b_1 rfl en_31 (ev2 (evc _ _) (evc _ _)) (m_2 _ _ _)) ?_
 rintro Al _ BI ⟨rfl, j⟩ U; have t := s.step j; clear j e s Ak
 refine s1 U (e_0 rfl (pv2 (U.ev rfl) (evc _ _)) (p_0 _ _ _)) fun Am V => ?_; clear U Al
 refine s2 V (h_2 t rfl (pv1 (V.ev rfl)) aa_5 aa_3 ze_100 (by decide) (cs := [(Value.int .i64 300), (Value.int .i64 300), (Value.int .i64 299)]) (bs_100_1_0iiia _ _ _)) ?_
 rintro An _ BJ ⟨B, rfl, u⟩ W; clear V t Am
 refine s1 W (e_0 rfl (pv2 (evc _ _) (W.ev rfl)) (bd_103_0i_1s _ _ ⟨_, _, _, rfl⟩)) fun Ao N => ?_; clear W An
 refine s2 N (h_2 u rfl (pv2 (N.ev rfl) (N.ev rfl)) ab_2 o_3 ze_103 (by decide) (cs := [(Value.int .i64 0), (Value.slice (some ⟨A, 0, none⟩) 2 2), (Value.int .i64 1), (Value.slice (some ⟨B, 0, none⟩) 1 1)]) (bs_103_2_0iva_1iva _ _ _ _)) ?_
 rintro Ap _ BK ⟨G, rfl, x⟩ O; clear N u Ao
 refine s1 O (e_0 rfl (pv3 (evc _ _) (O.ev rfl) (O.ev rfl)) (bd_37_0i_1s_2s _ _ ⟨_, _, _, rfl⟩ _ ⟨_, _, _, rfl⟩)) fun BA P => ?_; clear O Ap
 refine s7 P (b_8 x rfl s_7 (P.ev rfl) (P.ev rfl) (i := 7) rfl (vs := [(Value.int .i64 3), (Value.slice (some ⟨F, 0, none⟩) 2 2), (Value.slice (some ⟨G, 0, none⟩) 2 2)]) rfl rfl (h_4 rfl (h_4 rfl (h_4 rfl t_4))) (Nat.le_of_ble_eq_true rfl)) ?_
 intro _ H y f; clear P
 have z : Sep NoB w H [(blk G 103 [(Value.int .i64 0), (Value.slice (some ⟨A, 0, none⟩) 2 2), (Value.int .i64 1), (Value.slice (some ⟨B, 0, none⟩) 1 1)]), (blk B 100 [(Value.int .i64 300), (Value.int .i64 300), (Value.int .i64 299)]), (blk A 100 [(Value.int .i64 150), (Value.int .i64 154), (Value.int .i64 160), (Value.int .i64 240), (Value.int .i64 246), (Value.int .i64 249)]), (blk F 106 [(Value.int .i64 0), (Value.int .i64 1), (Value.slice (some ⟨C, 0, none⟩) 4 4), (Value.slice (some ⟨D, 0, none⟩) 1 1), (Value.int .i64 2), (Value.int .i64 1), (Value.int .i64 2), (Value.slice (some ⟨E, 0, none⟩) 2 2), (Value.slice none 0 0), (Value.int .i64 0)]), (blk E 107 [(Value.int .i64 250), (Value.int .i64 90), (Value.int .i64 350), (Value.int .i64 50)]), (blk D 3 [(Value.int .i64 2)]), (blk C 107 [(Value.int .i64 100), (Value.int .i64 200), (Value.int .i64 200), (Value.int .i64 300), (Value.int .i64 300), (Value.int .i64 500), (Value.int .i64 400), (Value.int .i64 600)]), (blk b4 37 [(Value.int .i64 3), (Value.slice (some ⟨F, 0, none⟩) 2 2), (Value.slice (some ⟨G, 0, none⟩) 2 2)])] := y; clear y x
 refine n1 ?_
 refine c_1 ?_
 refine a_7 f (.inl rfl) (a_2 f rfl (.cellA rfl s_7 (z.bk 7 rfl) (l := [(Value.int .i64 3), (Value.slice (some ⟨F, 0, none⟩) 2 2), (Value.slice (some ⟨G, 0, none⟩) 2 2)]) rfl rfl)) ?_
 have Aq := z.v_5 (i := 6) (sz := 2) (n := 4) rfl rfl (by decide)
 have Ar := Aq.v_5 (i := 5) (sz := 1) (n := 1) rfl rfl (by decide)
 have As := Ar.v_5 (i := 4) (sz := 2) (n := 2) rfl rfl (by decide)
 have At := As.v_5 (i := 3) (sz := 5) (n := 2) rfl rfl (by decide)
 have Au := At.v_5 (i := 2) (sz := 3) (n := 2) rfl rfl (by decide)
 have Av := Au.v_5 (i := 1) (sz := 3) (n := 1) rfl rfl (by decide)
 have Aw := Av.v_5 (i := 0) (sz := 2) (n := 2) rfl rfl (by decide)
 have Ax : Sep NoB w H [(row (Value.slice (some ⟨C, 0, none⟩) 4 4) 107 2 4 [(Value.int .i64 100), (Value.int .i64 200), (Value.int .i64 200), (Value.int .i64 300), (Value.int .i64 300), (Value.int .i64 500), (Value.int .i64 400), (Value.int .i64 600)]), (row (Value.slice (some ⟨E, 0, none⟩) 2 2) 107 2 2 [(Value.int .i64 250), (Value.int .i64 90), (Value.int .i64 350), (Value.int .i64 50)]), (row (Value.slice (some ⟨D, 0, none⟩) 1 1) 3 1 1 [(Value.int .i64 2)]), (row (Value.slice (some ⟨F, 0, none⟩) 2 2) 106 5 2 [(Value.int .i64 0), (Value.int .i64 1), (Value.slice (some ⟨C, 0, none⟩) 4 4), (Value.slice (some ⟨D, 0, none⟩) 1 1), (Value.int .i64 2), (Value.int .i64 1), (Value.int .i64 2), (Value.slice (some ⟨E, 0, none⟩) 2 2), (Value.slice none 0 0), (Value.int .i64 0)]), (row (Value.slice (some ⟨A, 0, none⟩) 2 2) 100 3 2 [(Value.int .i64 150), (Value.int .i64 154), (Value.int .i64 160), (Value.int .i64 240), (Value.int .i64 246), (Value.int .i64 249)]), (row (Value.slice (some ⟨B, 0, none⟩) 1 1) 100 3 1 [(Value.int .i64 300), (Value.int .i64 300), (Value.int .i64 299)]), (row (Value.slice (some ⟨G, 0, none⟩) 2 2) 103 2 2 [(Value.int .i64 0), (Value.slice (some ⟨A, 0, none⟩) 2 2), (Value.int .i64 1), (Value.slice (some ⟨B, 0, none⟩) 1 1)])] := Aw.keep [6, 4, 5, 3, 2, 1, 0] (by decide) _ rfl rfl
 have Ay : Sep NoB w H [(slsR true 0 (fun _ => Value.slice none 0 0) 2 (l_5 d_6.tabs) (l_4 d_6.tabs)), (row (Value.slice (some ⟨C, 0, none⟩) 4 4) 107 2 4 [(Value.int .i64 100), (Value.int .i64 200), (Value.int .i64 200), (Value.int .i64 300), (Value.int .i64 300), (Value.int .i64 500), (Value.int .i64 400), (Value.int .i64 600)]), (row (Value.slice (some ⟨E, 0, none⟩) 2 2) 107 2 2 [(Value.int .i64 250), (Value.int .i64 90), (Value.int .i64 350), (Value.int .i64 50)]), (row (Value.slice (some ⟨D, 0, none⟩) 1 1) 3 1 1 [(Value.int .i64 2)]), (row (Value.slice (some ⟨F, 0, none⟩) 2 2) 106 5 2 [(Value.int .i64 0), (Value.int .i64 1), (Value.slice (some ⟨C, 0, none⟩) 4 4), (Value.slice (some ⟨D, 0, none⟩) 1 1), (Value.int .i64 2), (Value.int .i64 1), (Value.int .i64 2), (Value.slice (some ⟨E, 0, none⟩) 2 2), (Value.slice none 0 0), (Value.int .i64 0)]), (row (Value.slice (some ⟨A, 0, none⟩) 2 2) 100 3 2 [(Value.int .i64 150), (Value.int .i64 154), (Value.int .i64 160), (Value.int .i64 240), (Value.int .i64 246), (Value.int .i64 249)]), (row (Value.slice (some ⟨B, 0, none⟩) 1 1) 100 3 1 [(Value.int .i64 300), (Value.int .i64 300), (Value.int .i64 299)]), (row (Value.slice (some ⟨G, 0, none⟩) 2 2) 103 2 2 [(Value.int .i64 0), (Value.slice (some ⟨A, 0, none⟩) 2 2), (Value.int .i64 1), (Value.slice (some ⟨B, 0, none⟩) 1 1)])] := o_7 Ax (fun _ => Value.slice none 0 0) 2 (l_5 d_6.tabs) (l_4 d_6.tabs)
 have Az : Sep NoB w H [(row (Value.slice (some ⟨C, 0, none⟩) 4 4) 107 2 4 [(Value.int .i64 100), (Value.int .i64 200), (Value.int .i64 200), (Value.int .i64 300), (Value.int .i64 300), (Value.int .i64 500), (Value.int .i64 400), (Value.int .i64 600)]), (slsR true 0 (fun _ => Value.slice none 0 0) 2 (l_5 d_6.tabs) (l_4 d_6.tabs)), (row (Value.slice (some ⟨E, 0, none⟩) 2 2) 107 2 2 [(Value.int .i64 250), (Value.int .i64 90), (Value.int .i64 350), (Value.int .i64 50)]), (row (Value.slice (some ⟨D, 0, none⟩) 1 1) 3 1 1 [(Value.int .i64 2)]), (row (Value.slice (some ⟨F, 0, none⟩) 2 2) 106 5 2 [(Value.int .i64 0), (Value.int .i64 1), (Value.slice (some ⟨C, 0, none⟩) 4 4), (Value.slice (some ⟨D, 0, none⟩) 1 1), (Value.int .i64 2), (Value.int .i64 1), (Value.int .i64 2), (Value.slice (some ⟨E, 0, none⟩) 2 2), (Value.slice none 0 0), (Value.int .i64 0)]), (row (Value.slice (some ⟨A, 0, none⟩) 2 2) 100 3 2 [(Value.int .i64 150), (Value.int .i64 154), (Value.int .i64 160), (Value.int .i64 240), (Value.int .i64 246), (Value.int .i64 249)]), (row (Value.slice (some ⟨B, 0, none⟩) 1 1) 100 3 1 [(Value.int .i64 300), (Value.int .i64 300), (Value.int .i64 299)]), (row (Value.slice (some ⟨G, 0, none⟩) 2 2) 103 2 2 [(Value.int .i64 0), (Value.slice (some ⟨A, 0, none⟩) 2 2), (Value.int .i64 1), (Value.slice (some ⟨B, 0, none⟩) 1 1)])] := Ay.keep [1, 0, 2, 3, 4, 5, 6, 7] (by decide) _ rfl rfl
 have A0 : Sep NoB w H [(slsR true 1 (putV 0 (fun _ => Value.slice none 0 0) (Value.slice (some ⟨C, 0, none⟩) 4 4)) 2 (l_5 d_6.tabs) (l_4 d_6.tabs)), (row (Value.slice (some ⟨E, 0, none⟩) 2 2) 107 2 2 [(Value.int .i64 250), (Value.int .i64 90), (Value.int .i64 350), (Value.int .i64 50)]), (row (Value.slice (some ⟨D, 0, none⟩) 1 1) 3 1 1 [(Value.int .i64 2)]), (row (Value.slice (some ⟨F, 0, none⟩) 2 2) 106 5 2 [(Value.int .i64 0), (Value.int .i64 1), (Value.slice (some ⟨C, 0, none⟩) 4 4), (Value.slice (some ⟨D, 0, none⟩) 1 1), (Value.int .i64 2), (Value.int .i64 1), (Value.int .i64 2), (Value.slice (some ⟨E, 0, none⟩) 2 2), (Value.slice none 0 0), (Value.int .i64 0)]), (row (Value.slice (some ⟨A, 0, none⟩) 2 2) 100 3 2 [(Value.int .i64 150), (Value.int .i64 154), (Value.int .i64 160), (Value.int .i64 240), (Value.int .i64 246), (Value.int .i64 249)]), (row (Value.slice (some ⟨B, 0, none⟩) 1 1) 100 3 1 [(Value.int .i64 300), (Value.int .i64 300), (Value.int .i64 299)]), (row (Value.slice (some ⟨G, 0, none⟩) 2 2) 103 2 2 [(Value.int .i64 0), (Value.slice (some ⟨A, 0, none⟩) 2 2), (Value.int .i64 1), (Value.slice (some ⟨B, 0, none⟩) 1 1)])] := k_1 (k' := l_5 d_6.tabs) (c' := l_4 d_6.tabs) Az rfl rfl (fun i hi => absurd hi (Nat.not_lt_zero _))
 have A1 : Sep NoB w H [(row (Value.slice (some ⟨E, 0, none⟩) 2 2) 107 2 2 [(Value.int .i64 250), (Value.int .i64 90), (Value.int .i64 350), (Value.int .i64 50)]), (slsR true 1 (putV 0 (fun _ => Value.slice none 0 0) (Value.slice (some ⟨C, 0, none⟩) 4 4)) 2 (l_5 d_6.tabs) (l_4 d_6.tabs)), (row (Value.slice (some ⟨D, 0, none⟩) 1 1) 3 1 1 [(Value.int .i64 2)]), (row (Value.slice (some ⟨F, 0, none⟩) 2 2) 106 5 2 [(Value.int .i64 0), (Value.int .i64 1), (Value.slice (some ⟨C, 0, none⟩) 4 4), (Value.slice (some ⟨D, 0, none⟩) 1 1), (Value.int .i64 2), (Value.int .i64 1), (Value.int .i64 2), (Value.slice (some ⟨E, 0, none⟩) 2 2), (Value.slice none 0 0), (Value.int .i64 0)]), (row (Value.slice (some ⟨A, 0, none⟩) 2 2) 100 3 2 [(Value.int .i64 150), (Value.int .i64 154), (Value.int .i64 160), (Value.int .i64 240), (Value.int .i64 246), (Value.int .i64 249)]), (row (Value.slice (some ⟨B, 0, none⟩) 1 1) 100 3 1 [(Value.int .i64 300), (Value.int .i64 300), (Value.int .i64 299)]), (row (Value.slice (some ⟨G, 0, none⟩) 2 2) 103 2 2 [(Value.int .i64 0), (Value.slice (some ⟨A, 0, none⟩) 2 2), (Value.int .i64 1), (Value.slice (some ⟨B, 0, none⟩) 1 1)])] := A0.keep [1, 0, 2, 3, 4, 5, 6] (by decide) _ rfl rfl
 have A2 : Sep NoB w H [(slsR true 2 (putV 1 (putV 0 (fun _ => Value.slice none 0 0) (Value.slice (some ⟨C, 0, none⟩) 4 4)) (Value.slice (some ⟨E, 0, none⟩) 2 2)) 2 (l_5 d_6.tabs) (l_4 d_6.tabs)), (row (Value.slice (some ⟨D, 0, none⟩) 1 1) 3 1 1 [(Value.int .i64 2)]), (row (Value.slice (some ⟨F, 0, none⟩) 2 2) 106 5 2 [(Value.int .i64 0), (Value.int .i64 1), (Value.slice (some ⟨C, 0, none⟩) 4 4), (Value.slice (some ⟨D, 0, none⟩) 1 1), (Value.int .i64 2), (Value.int .i64 1), (Value.int .i64 2), (Value.slice (some ⟨E, 0, none⟩) 2 2), (Value.slice none 0 0), (Value.int .i64 0)]), (row (Value.slice (some ⟨A, 0, none⟩) 2 2) 100 3 2 [(Value.int .i64 150), (Value.int .i64 154), (Value.int .i64 160), (Value.int .i64 240), (Value.int .i64 246), (Value.int .i64 249)]), (row (Value.slice (some ⟨B, 0, none⟩) 1 1) 100 3 1 [(Value.int .i64 300), (Value.int .i64 300), (Value.int .i64 299)]), (row (Value.slice (some ⟨G, 0, none⟩) 2 2) 103 2 2 [(Value.int .i64 0), (Value.slice (some ⟨A, 0, none⟩) 2 2), (Value.int .i64 1), (Value.slice (some ⟨B, 0, none⟩) 1 1)])] := k_1 (k' := l_5 d_6.tabs) (c' := l_4 d_6.tabs) A1 rfl rfl (fun _ _ => ⟨rfl, rfl⟩)
 have A3 : Sep NoB w H [(row (Value.slice none 0 0) 3 1 0 []), (slsR true 2 (putV 1 (putV 0 (fun _ => Value.slice none 0 0) (Value.slice (some ⟨C, 0, none⟩) 4 4)) (Value.slice (some ⟨E, 0, none⟩) 2 2)) 2 (l_5 d_6.tabs) (l_4 d_6.tabs)), (row (Value.slice (some ⟨D, 0, none⟩) 1 1) 3 1 1 [(Value.int .i64 2)]), (row (Value.slice (some ⟨F, 0, none⟩) 2 2) 106 5 2 [(Value.int .i64 0), (Value.int .i64 1), (Value.slice (some ⟨C, 0, none⟩) 4 4), (Value.slice (some ⟨D, 0, none⟩) 1 1), (Value.int .i64 2), (Value.int .i64 1), (Value.int .i64 2), (Value.slice (some ⟨E, 0, none⟩) 2 2), (Value.slice none 0 0), (Value.int .i64 0)]), (row (Value.slice (some ⟨A, 0, none⟩) 2 2) 100 3 2 [(Value.int .i64 150), (Value.int .i64 154), (Value.int .i64 160), (Value.int .i64 240), (Value.int .i64 246), (Value.int .i64 249)]), (row (Value.slice (some ⟨B, 0, none⟩) 1 1) 100 3 1 [(Value.int .i64 300), (Value.int .i64 300), (Value.int .i64 299)]), (row (Value.slice (some ⟨G, 0, none⟩) 2 2) 103 2 2 [(Value.int .i64 0), (Value.slice (some ⟨A, 0, none⟩) 2 2), (Value.int .i64 1), (Value.slice (some ⟨B, 0, none⟩) 1 1)])] := A2.y_4 3 1
 have A4 : Sep NoB w H [(slsR true 0 (fun _ => Value.slice none 0 0) 1 (brkN d_6.tabs) (brkC d_6.tabs)), (row (Value.slice none 0 0) 3 1 0 []), (slsR true 2 (putV 1 (putV 0 (fun _ => Value.slice none 0 0) (Value.slice (some ⟨C, 0, none⟩) 4 4)) (Value.slice (some ⟨E, 0, none⟩) 2 2)) 2 (l_5 d_6.tabs) (l_4 d_6.tabs)), (row (Value.slice (some ⟨D, 0, none⟩) 1 1) 3 1 1 [(Value.int .i64 2)]), (row (Value.slice (some ⟨F, 0, none⟩) 2 2) 106 5 2 [(Value.int .i64 0), (Value.int .i64 1), (Value.slice (some ⟨C, 0, none⟩) 4 4), (Value.slice (some ⟨D, 0, none⟩) 1 1), (Value.int .i64 2), (Value.int .i64 1), (Value.int .i64 2), (Value.slice (some ⟨E, 0, none⟩) 2 2), (Value.slice none 0 0), (Value.int .i64 0)]), (row (Value.slice (some ⟨A, 0, none⟩) 2 2) 100 3 2 [(Value.int .i64 150), (Value.int .i64 154), (Value.int .i64 160), (Value.int .i64 240), (Value.int .i64 246), (Value.int .i64 249)]), (row (Value.slice (some ⟨B, 0, none⟩) 1 1) 100 3 1 [(Value.int .i64 300), (Value.int .i64 300), (Value.int .i64 299)]), (row (Value.slice (some ⟨G, 0, none⟩) 2 2) 103 2 2 [(Value.int .i64 0), (Value.slice (some ⟨A, 0, none⟩) 2 2), (Value.int .i64 1), (Value.slice (some ⟨B, 0, none⟩) 1 1)])] := o_7 A3 (fun _ => Value.slice none 0 0) 1 (brkN d_6.tabs) (brkC d_6.tabs)
 have A5 : Sep NoB w H [(row (Value.slice (some ⟨D, 0, none⟩) 1 1) 3 1 1 [(Value.int .i64 2)]), (slsR true 0 (fun _ => Value.slice none 0 0) 1 (brkN d_6.tabs) (brkC d_6.tabs)), (row (Value.slice none 0 0) 3 1 0 []), (slsR true 2 (putV 1 (putV 0 (fun _ => Value.slice none 0 0) (Value.slice (some ⟨C, 0, none⟩) 4 4)) (Value.slice (some ⟨E, 0, none⟩) 2 2)) 2 (l_5 d_6.tabs) (l_4 d_6.tabs)), (row (Value.slice (some ⟨F, 0, none⟩) 2 2) 106 5 2 [(Value.int .i64 0), (Value.int .i64 1), (Value.slice (some ⟨C, 0, none⟩) 4 4), (Value.slice (some ⟨D, 0, none⟩) 1 1), (Value.int .i64 2), (Value.int .i64 1), (Value.int .i64 2), (Value.slice (some ⟨E, 0, none⟩) 2 2), (Value.slice none 0 0), (Value.int .i64 0)]), (row (Value.slice (some ⟨A, 0, none⟩) 2 2) 100 3 2 [(Value.int .i64 150), (Value.int .i64 154), (Value.int .i64 160), (Value.int .i64 240), (Value.int .i64 246), (Value.int .i64 249)]), (row (Value.slice (some ⟨B, 0, none⟩) 1 1) 100 3 1 [(Value.int .i64 300), (Value.int .i64 300), (Value.int .i64 299)]), (row (Value.slice (some ⟨G, 0, none⟩) 2 2) 103 2 2 [(Value.int .i64 0), (Value.slice (some ⟨A, 0, none⟩) 2 2), (Value.int .i64 1), (Value.slice (some ⟨B, 0, none⟩) 1 1)])] := A4.keep [3, 0, 1, 2, 4, 5, 6, 7] (by decide) _ rfl rfl
 have AF : Sep NoB w H [(slsR true 1 (putV 0 (fun _ => Value.slice none 0 0) (Value.slice (some ⟨D, 0, none⟩) 1 1)) 1 (brkN d_6.tabs) (brkC d_6.tabs)), (row (Value.slice none 0 0) 3 1 0 []), (slsR true 2 (putV 1 (putV 0 (fun _ => Value.slice none 0 0) (Value.slice (some ⟨C, 0, none⟩) 4 4)) (Value.slice (some ⟨E, 0, none⟩) 2 2)) 2 (l_5 d_6.tabs) (l_4 d_6.tabs)), (row (Value.slice (some ⟨F, 0, none⟩) 2 2) 106 5 2 [(Value.int .i64 0), (Value.int .i64 1), (Value.slice (some ⟨C, 0, none⟩) 4 4), (Value.slice (some ⟨D, 0, none⟩) 1 1), (Value.int .i64 2), (Value.int .i64 1), (Value.int .i64 2), (Value.slice (some ⟨E, 0, none⟩) 2 2), (Value.slice none 0 0), (Value.int .i64 0)]), (row (Value.slice (some ⟨A, 0, none⟩) 2 2) 100 3 2 [(Value.int .i64 150), (Value.int .i64 154), (Value.int .i64 160), (Value.int .i64 240), (Value.int .i64 246), (Value.int .i64 249)]), (row (Value.slice (some ⟨B, 0, none⟩) 1 1) 100 3 1 [(Value.int .i64 300), (Value.int .i64 300), (Value.int .i64 299)]), (row (Value.slice (some ⟨G, 0, none⟩) 2 2) 103 2 2 [(Value.int .i64 0), (Value.slice (some ⟨A, 0, none⟩) 2 2), (Value.int .i64 1), (Value.slice (some ⟨B, 0, none⟩) 1 1)])] := k_1 (k' := brkN d_6.tabs) (c' := brkC d_6.tabs) A5 rfl rfl (fun i hi => absurd hi (Nat.not_lt_zero _))
 have AG : Sep NoB w H [(row (Value.slice none 0 0) 3 1 0 []), (slsR true 1 (putV 0 (fun _ => Value.slice none 0 0) (Value.slice (some ⟨D, 0, none⟩) 1 1)) 1 (brkN d_6.tabs) (brkC d_6.tabs)), (slsR true 2 (putV 1 (putV 0 (fun _ => Value.slice none 0 0) (Value.slice (some ⟨C, 0, none⟩) 4 4)) (Value.slice (some ⟨E, 0, none⟩) 2 2)) 2 (l_5 d_6.tabs) (l_4 d_6.tabs)), (row (Value.slice (some ⟨F, 0, none⟩) 2 2) 106 5 2 [(Value.int .i64 0), (Value.int .i64 1), (Value.slice (some ⟨C, 0, none⟩) 4 4), (Value.slice (some ⟨D, 0, none⟩) 1 1), (Value.int .i64 2), (Value.int .i64 1), (Value.int .i64 2), (Value.slice (some ⟨E, 0, none⟩) 2 2), (Value.slice none 0 0), (Value.int .i64 0)]), (row (Value.slice (some ⟨A, 0, none⟩) 2 2) 100 3 2 [(Value.int .i64 150), (Value.int .i64 154), (Value.int .i64 160), (Value.int .i64 240), (Value.int .i64 246), (Value.int .i64 249)]), (row (Value.slice (some ⟨B, 0, none⟩) 1 1) 100 3 1 [(Value.int .i64 300), (Value.int .i64 300), (Value.int .i64 299)]), (row (Value.slice (some ⟨G, 0, none⟩) 2 2) 103 2 2 [(Value.int .i64 0), (Value.slice (some ⟨A, 0, none⟩) 2 2), (Value.int .i64 1), (Value.slice (some ⟨B, 0, none⟩) 1 1)])] := AF.keep [1, 0, 2, 3, 4, 5, 6] (by decide) _ rfl rfl
 have AH : Sep NoB w H [(slsR true 2 (putV 1 (putV 0 (fun _ => Value.slice none 0 0) (Value.slice (some ⟨D, 0, none⟩) 1 1)) (Value.slice none 0 0)) 1 (brkN d_6.tabs) (brkC d_6.tabs)), (slsR true 2 (putV 1 (putV 0 (fun _ => Value.slice none 0 0) (Value.slice (some ⟨C, 0, none⟩) 4 4)) (Value.slice (some ⟨E, 0, none⟩) 2 2)) 2 (l_5 d_6.tabs) (l_4 d_6.tabs)), (row (Value.slice (some ⟨F, 0, none⟩) 2 2) 106 5 2 [(Value.int .i64 0), (Value.int .i64 1), (Value.slice (some ⟨C, 0, none⟩) 4 4), (Value.slice (some ⟨D, 0, none⟩) 1 1), (Value.int .i64 2), (Value.int .i64 1), (Value.int .i64 2), (Value.slice (some ⟨E, 0, none⟩) 2 2), (Value.slice none 0 0), (Value.int .i64 0)]), (row (Value.slice (some ⟨A, 0, none⟩) 2 2) 100 3 2 [(Value.int .i64 150), (Value.int .i64 154), (Value.int .i64 160), (Value.int .i64 240), (Value.int .i64 246), (Value.int .i64 249)]), (row (Value.slice (some ⟨B, 0, none⟩) 1 1) 100 3 1 [(Value.int .i64 300), (Value.int .i64 300), (Value.int .i64 299)]), (row (Value.slice (some ⟨G, 0, none⟩) 2 2) 103 2 2 [(Value.int .i64 0), (Value.slice (some ⟨A, 0, none⟩) 2 2), (Value.int .i64 1), (Value.slice (some ⟨B, 0, none⟩) 1 1)])] := k_1 (k' := brkN d_6.tabs) (c' := brkC d_6.tabs) AG rfl rfl (fun _ _ => ⟨rfl, rfl⟩)
 have AI : Sep NoB w H [(row (Value.slice (some ⟨F, 0, none⟩) 2 2) 106 5 2 [(Value.int .i64 0), (Value.int .i64 1), (Value.slice (some ⟨C, 0, none⟩) 4 4), (Value.slice (some ⟨D, 0, none⟩) 1 1), (Value.int .i64 2), (Value.int .i64 1), (Value.int .i64 2), (Value.slice (some ⟨E, 0, none⟩) 2 2), (Value.slice none 0 0), (Value.int .i64 0)]), (slsR true 2 (putV 1 (putV 0 (fun _ => Value.slice none 0 0) (Value.slice (some ⟨C, 0, none⟩) 4 4)) (Value.slice (some ⟨E, 0, none⟩) 2 2)) 2 (l_5 d_6.tabs) (l_4 d_6.tabs)), (slsR true 2 (putV 1 (putV 0 (fun _ => Value.slice none 0 0) (Value.slice (some ⟨D, 0, none⟩) 1 1)) (Value.slice none 0 0)) 1 (brkN d_6.tabs) (brkC d_6.tabs)), (row (Value.slice (some ⟨A, 0, none⟩) 2 2) 100 3 2 [(Value.int .i64 150), (Value.int .i64 154), (Value.int .i64 160), (Value.int .i64 240), (Value.int .i64 246), (Value.int .i64 249)]), (row (Value.slice (some ⟨B, 0, none⟩) 1 1) 100 3 1 [(Value.int .i64 300), (Value.int .i64 300), (Value.int .i64 299)]), (row (Value.slice (some ⟨G, 0, none⟩) 2 2) 103 2 2 [(Value.int .i64 0), (Value.slice (some ⟨A, 0, none⟩) 2 2), (Value.int .i64 1), (Value.slice (some ⟨B, 0, none⟩) 1 1)])] := AH.keep [2, 1, 0, 3, 4, 5] (by decide) _ rfl rfl
 have AJ : Sep NoB w H [(row (Value.slice (some ⟨F, 0, none⟩) 2 2) 106 5 d_6.tabs.length (m_8 (putV 1 (putV 0 (fun _ => Value.slice none 0 0) (Value.slice (some ⟨C, 0, none⟩) 4 4)) (Value.slice (some ⟨E, 0, none⟩) 2 2)) (putV 1 (putV 0 (fun _ => Value.slice none 0 0) (Value.slice (some ⟨D, 0, none⟩) 1 1)) (Value.slice none 0 0)) d_6.tabs)), (slsR true 2 (putV 1 (putV 0 (fun _ => Value.slice none 0 0) (Value.slice (some ⟨C, 0, none⟩) 4 4)) (Value.slice (some ⟨E, 0, none⟩) 2 2)) 2 (l_5 d_6.tabs) (l_4 d_6.tabs)), (slsR true 2 (putV 1 (putV 0 (fun _ => Value.slice none 0 0) (Value.slice (some ⟨D, 0, none⟩) 1 1)) (Value.slice none 0 0)) 1 (brkN d_6.tabs) (brkC d_6.tabs)), (row (Value.slice (some ⟨A, 0, none⟩) 2 2) 100 3 2 [(Value.int .i64 150), (Value.int .i64 154), (Value.int .i64 160), (Value.int .i64 240), (Value.int .i64 246), (Value.int .i64 249)]), (row (Value.slice (some ⟨B, 0, none⟩) 1 1) 100 3 1 [(Value.int .i64 300), (Value.int .i64 300), (Value.int .i64 299)]), (row (Value.slice (some ⟨G, 0, none⟩) 2 2) 103 2 2 [(Value.int .i64 0), (Value.slice (some ⟨A, 0, none⟩) 2 2), (Value.int .i64 1), (Value.slice (some ⟨B, 0, none⟩) 1 1)])] := AI.k_0 (i := 0) rfl rfl (kept_tabsC _ _ _ _).symm
 have AK : Sep NoB w H [(e_1 true (Value.slice (some ⟨F, 0, none⟩) 2 2) (putV 1 (putV 0 (fun _ => Value.slice none 0 0) (Value.slice (some ⟨C, 0, none⟩) 4 4)) (Value.slice (some ⟨E, 0, none⟩) 2 2)) (putV 1 (putV 0 (fun _ => Value.slice none 0 0) (Value.slice (some ⟨D, 0, none⟩) 1 1)) (Value.slice none 0 0)) d_6.tabs), (row (Value.slice (some ⟨A, 0, none⟩) 2 2) 100 3 2 [(Value.int .i64 150), (Value.int .i64 154), (Value.int .i64 160), (Value.int .i64 240), (Value.int .i64 246), (Value.int .i64 249)]), (row (Value.slice (some ⟨B, 0, none⟩) 1 1) 100 3 1 [(Value.int .i64 300), (Value.int .i64 300), (Value.int .i64 299)]), (row (Value.slice (some ⟨G, 0, none⟩) 2 2) 103 2 2 [(Value.int .i64 0), (Value.slice (some ⟨A, 0, none⟩) 2 2), (Value.int .i64 1), (Value.slice (some ⟨B, 0, none⟩) 1 1)])] := sep_tabs_join AJ
 have AL : Sep NoB w H [(slsR true 0 (fun _ => Value.slice none 0 0) 3 (blkN d_6.macs) (blkC d_6.macs)), (e_1 true (Value.slice (some ⟨F, 0, none⟩) 2 2) (putV 1 (putV 0 (fun _ => Value.slice none 0 0) (Value.slice (some ⟨C, 0, none⟩) 4 4)) (Value.slice (some ⟨E, 0, none⟩) 2 2)) (putV 1 (putV 0 (fun _ => Value.slice none 0 0) (Value.slice (some ⟨D, 0, none⟩) 1 1)) (Value.slice none 0 0)) d_6.tabs), (row (Value.slice (some ⟨A, 0, none⟩) 2 2) 100 3 2 [(Value.int .i64 150), (Value.int .i64 154), (Value.int .i64 160), (Value.int .i64 240), (Value.int .i64 246), (Value.int .i64 249)]), (row (Value.slice (some ⟨B, 0, none⟩) 1 1) 100 3 1 [(Value.int .i64 300), (Value.int .i64 300), (Value.int .i64 299)]), (row (Value.slice (some ⟨G, 0, none⟩) 2 2) 103 2 2 [(Value.int .i64 0), (Value.slice (some ⟨A, 0, none⟩) 2 2), (Value.int .i64 1), (Value.slice (some ⟨B, 0, none⟩) 1 1)])] := o_7 AK (fun _ => Value.slice none 0 0) 3 (blkN d_6.macs) (blkC d_6.macs)
 have AM : Sep NoB w H [(row (Value.slice (some ⟨A, 0, none⟩) 2 2) 100 3 2 [(Value.int .i64 150), (Value.int .i64 154), (Value.int .i64 160), (Value.int .i64 240), (Value.int .i64 246), (Value.int .i64 249)]), (slsR true 0 (fun _ => Value.slice none 0 0) 3 (blkN d_6.macs) (blkC d_6.macs)), (e_1 true (Value.slice (some ⟨F, 0, none⟩) 2 2) (putV 1 (putV 0 (fun _ => Value.slice none 0 0) (Value.slice (some ⟨C, 0, none⟩) 4 4)) (Value.slice (some ⟨E, 0, none⟩) 2 2)) (putV 1 (putV 0 (fun _ => Value.slice none 0 0) (Value.slice (some ⟨D, 0, none⟩) 1 1)) (Value.slice none 0 0)) d_6.tabs), (row (Value.slice (some ⟨B, 0, none⟩) 1 1) 100 3 1 [(Value.int .i64 300), (Value.int .i64 300), (Value.int .i64 299)]), (row (Value.slice (some ⟨G, 0, none⟩) 2 2) 103 2 2 [(Value.int .i64 0), (Value.slice (some ⟨A, 0, none⟩) 2 2), (Value.int .i64 1), (Value.slice (some ⟨B, 0, none⟩) 1 1)])] := AL.keep [2, 0, 1, 3, 4] (by decide) _ rfl rfl
 have AN : Sep NoB w H [(slsR true 1 (putV 0 (fun _ => Value.slice none 0 0) (Value.slice (some ⟨A, 0, none⟩) 2 2)) 3 (blkN d_6.macs) (blkC d_6.macs)), (e_1 true (Value.slice (some ⟨F, 0, none⟩) 2 2) (putV 1 (putV 0 (fun _ => Value.slice none 0 0) (Value.slice (some ⟨C, 0, none⟩) 4 4)) (Value.slice (some ⟨E, 0, none⟩) 2 2)) (putV 1 (putV 0 (fun _ => Value.slice none 0 0) (Value.slice (some ⟨D, 0, none⟩) 1 1)) (Value.slice none 0 0)) d_6.tabs), (row (Value.slice (some ⟨B, 0, none⟩) 1 1) 100 3 1 [(Value.int .i64 300), (Value.int .i64 300), (Value.int .i64 299)]), (row (Value.slice (some ⟨G, 0, none⟩) 2 2) 103 2 2 [(Value.int .i64 0), (Value.slice (some ⟨A, 0, none⟩) 2 2), (Value.int .i64 1), (Value.slice (some ⟨B, 0, none⟩) 1 1)])] := k_1 (k' := blkN d_6.macs) (c' := blkC d_6.macs) AM rfl rfl (fun i hi => absurd hi (Nat.not_lt_zero _))
 have AO : Sep NoB w H [(row (Value.slice (some ⟨B, 0, none⟩) 1 1) 100 3 1 [(Value.int .i64 300), (Value.int .i64 300), (Value.int .i64 299)]), (slsR true 1 (putV 0 (fun _ => Value.slice none 0 0) (Value.slice (some ⟨A, 0, none⟩) 2 2)) 3 (blkN d_6.macs) (blkC d_6.macs)), (e_1 true (Value.slice (some ⟨F, 0, none⟩) 2 2) (putV 1 (putV 0 (fun _ => Value.slice none 0 0) (Value.slice (some ⟨C, 0, none⟩) 4 4)) (Value.slice (some ⟨E, 0, none⟩) 2 2)) (putV 1 (putV 0 (fun _ => Value.slice none 0 0) (Value.slice (some ⟨D, 0, none⟩) 1 1)) (Value.slice none 0 0)) d_6.tabs), (row (Value.slice (some ⟨G, 0, none⟩) 2 2) 103 2 2 [(Value.int .i64 0), (Value.slice (some ⟨A, 0, none⟩) 2 2), (Value.int .i64 1), (Value.slice (some ⟨B, 0, none⟩) 1 1)])] := AN.keep [2, 0, 1, 3] (by decide) _ rfl rfl
 have AP : Sep NoB w H [(slsR true 2 (putV 1 (putV 0 (fun _ => Value.slice none 0 0) (Value.slice (some ⟨A, 0, none⟩) 2 2)) (Value.slice (some ⟨B, 0, none⟩) 1 1)) 3 (blkN d_6.macs) (blkC d_6.macs)), (e_1 true (Value.slice (some ⟨F, 0, none⟩) 2 2) (putV 1 (putV 0 (fun _ => Value.slice none 0 0) (Value.slice (some ⟨C, 0, none⟩) 4 4)) (Value.slice (some ⟨E, 0, none⟩) 2 2)) (putV 1 (putV 0 (fun _ => Value.slice none 0 0) (Value.slice (some ⟨D, 0, none⟩) 1 1)) (Value.slice none 0 0)) d_6.tabs), (row (Value.slice (some ⟨G, 0, none⟩) 2 2) 103 2 2 [(Value.int .i64 0), (Value.slice (some ⟨A, 0, none⟩) 2 2), (Value.int .i64 1), (Value.slice (some ⟨B, 0, none⟩) 1 1)])] := k_1 (k' := blkN d_6.macs) (c' := blkC d_6.macs) AO rfl rfl (fun _ _ => ⟨rfl, rfl⟩)
 have AQ : Sep NoB w H [(row (Value.slice (some ⟨G, 0, none⟩) 2 2) 103 2 2 [(Value.int .i64 0), (Value.slice (some ⟨A, 0, none⟩) 2 2), (Value.int .i64 1), (Value.slice (some ⟨B, 0, none⟩) 1 1)]), (slsR true 2 (putV 1 (putV 0 (fun _ => Value.slice none 0 0) (Value.slice (some ⟨A, 0, none⟩) 2 2)) (Value.slice (some ⟨B, 0, none⟩) 1 1)) 3 (blkN d_6.macs) (blkC d_6.macs)), (e_1 true (Value.slice (some ⟨F, 0, none⟩) 2 2) (putV 1 (putV 0 (fun _ => Value.slice none 0 0) (Value.slice (some ⟨C, 0, none⟩) 4 4)) (Value.slice (some ⟨E, 0, none⟩) 2 2)) (putV 1 (putV 0 (fun _ => Value.slice none 0 0) (Value.slice (some ⟨D, 0, none⟩) 1 1)) (Value.slice none 0 0)) d_6.tabs)] := AP.keep [2, 0, 1] (by decide) _ rfl rfl
 have AR : Sep NoB w H [(row (Value.slice (some ⟨G, 0, none⟩) 2 2) 103 2 d_6.macs.length (o_0 (putV 1 (putV 0 (fun _ => Value.slice none 0 0) (Value.slice (some ⟨A, 0, none⟩) 2 2)) (Value.slice (some ⟨B, 0, none⟩) 1 1)) d_6.macs)), (slsR true 2 (putV 1 (putV 0 (fun _ => Value.slice none 0 0) (Value.slice (some ⟨A, 0, none⟩) 2 2)) (Value.slice (some ⟨B, 0, none⟩) 1 1)) 3 (blkN d_6.macs) (blkC d_6.macs)), (e_1 true (Value.slice (some ⟨F, 0, none⟩) 2 2) (putV 1 (putV 0 (fun _ => Value.slice none 0 0) (Value.slice (some ⟨C, 0, none⟩) 4 4)) (Value.slice (some ⟨E, 0, none⟩) 2 2)) (putV 1 (putV 0 (fun _ => Value.slice none 0 0) (Value.slice (some ⟨D, 0, none⟩) 1 1)) (Value.slice none 0 0)) d_6.tabs)] := AQ.k_0 (i := 0) rfl rfl (kept_macsC _ _).symm
 have AS : Sep NoB w H [(f_0 true (Value.slice (some ⟨G, 0, none⟩) 2 2) (putV 1 (putV 0 (fun _ => Value.slice none 0 0) (Value.slice (some ⟨A, 0, none⟩) 2 2)) (Value.slice (some ⟨B, 0, none⟩) 1 1)) d_6.macs), (e_1 true (Value.slice (some ⟨F, 0, none⟩) 2 2) (putV 1 (putV 0 (fun _ => Value.slice none 0 0) (Value.slice (some ⟨C, 0, none⟩) 4 4)) (Value.slice (some ⟨E, 0, none⟩) 2 2)) (putV 1 (putV 0 (fun _ => Value.slice none 0 0) (Value.slice (some ⟨D, 0, none⟩) 1 1)) (Value.slice none 0 0)) d_6.tabs)] := sep_macs_join AR
 have AT : Sep NoB w H [(e_1 true (Value.slice (some ⟨F, 0, none⟩) 2 2) (putV 1 (putV 0 (fun _ => Value.slice none 0 0) (Value.slice (some ⟨C, 0, none⟩) 4 4)) (Value.slice (some ⟨E, 0, none⟩) 2 2)) (putV 1 (putV 0 (fun _ => Value.slice none 0 0) (Value.slice (some ⟨D, 0, none⟩) 1 1)) (Value.slice none 0 0)) d_6.tabs), (f_0 true (Value.slice (some ⟨G, 0, none⟩) 2 2) (putV 1 (putV 0 (fun _ => Value.slice none 0 0) (Value.slice (some ⟨A, 0, none⟩) 2 2)) (Value.slice (some ⟨B, 0, none⟩) 1 1)) d_6.macs)] := AS.keep [1, 0] (by decide) _ rfl rfl
 exact ⟨_, _, _, _, _, rfl, AT⟩
end Go.Proofs.Ytohgladndklciaa

namespace Go.Proofs.Ytohgladndklciaa
open Go.RowKit Go.Shelf Go.Eng Go.Hard
theorem en_46 : ∀ args w, (callFunc 46 args).run Try.prog w = .ok (.enter 46 args) w := enters_of Try.func46 (by kernel_rfl) rfl
theorem en_33 : ∀ args w, (callFunc 33 args).run Try.prog w = .ok (.enter 33 args) w := enters_of Try.func33 (by kernel_rfl) rfl
theorem en_18 : ∀ args w, (callFunc 18 args).run Try.prog w = .ok (.enter 18 args) w := enters_of Try.func18 (by kernel_rfl) rfl
theorem en_25 : ∀ args w, (callFunc 25 args).run Try.prog w = .ok (.enter 25 args) w := enters_of Try.func25 (by kernel_rfl) rfl
theorem awake_ok (w : World) :
  Calls Try.prog 17 #[] w (Ret fun v w' => v = .bool true ∧ Ext NoB w w') := by
 refine a_8 Try.func17 rfl fun a0 Z => ?_
 replace Z : Fr 71 [] [] a0 := Z
 have AS : Sep NoB w w [] := Sep.start _ _
 refine m2 ?_
 refine s1 Z (a_0 rfl (evc _ _)) fun a1 AR => ?_; clear Z a0
 refine n4 ?_
 refine s2 AR (b_1 rfl en_46 ev0 (kept_ok _)) ?_
 rintro a3 _ w5 ⟨vt6, vm7, lr8, lb9, lk10, rfl, AM⟩ r; have L := AS.y_8 AM rfl; clear AM AR AS a1
 refine s2 r (b_1 rfl en_33 (ev2 (r.ev rfl) (evc _ _)) (Bias_ok d_6 vt6 vm7 lr8 lb9 lk10 _ (b_7 (L.ok 0 _ rfl)) (c_2 (L.ok 1 _ rfl)) kept_thin 0)) ?_
 rintro AY _ BG ⟨rfl, y⟩ O; have AB := L.step y; clear y r L a3
 refine s1 O (a_1 rfl (O.ev rfl)) fun AZ P => ?_; clear O AY
 refine s1 P (e_5 rfl (P.ev rfl) rfl) fun Aa Q => ?_; clear P AZ
 refine s1 Q (e_5 rfl (Q.ev rfl) rfl) fun Ab n => ?_; clear Q Aa
 refine s2 n (d_9 AB rfl x_5 (cs := [(Value.int .i64 0), (Value.int .i64 0)]) rfl) ?_
 rintro Ac _ BH ⟨B, rfl, AC⟩ H; clear n AB Ab
 refine s7 H (b_8 AC rfl f_7 (H.ev rfl) (H.ev rfl) (i := 0) rfl (vs := [(Value.int .i64 ((x_4 d_6 0).1)), (Value.int .i64 ((x_4 d_6 0).2))]) rfl rfl rfl (Nat.le_of_ble_eq_true rfl)) ?_
 intro _ A3 AD R; clear H
 have AE : Sep NoB w A3 [(blk B 30 [(Value.int .i64 ((x_4 d_6 0).1)), (Value.int .i64 ((x_4 d_6 0).2))]), (e_1 true vt6 lr8 lb9 d_6.tabs), (f_0 true vm7 lk10 d_6.macs)] := AD; clear AD AC
 refine s1 R (a_0 rfl (R.ev rfl)) fun Ad o => ?_; clear R Ac
 refine n2 ?_
 have p := o.as [(2, (Value.int .i64 (x_3 d_6 0))), (1, (bptr B 0))] rfl; clear o
 refine a_5 ?_
 refine s2 p (b_1 rfl en_46 ev0 (kept_ok _)) ?_
 rintro Ae _ BI ⟨vt39, vm40, lr41, lb42, lk43, rfl, AN⟩ q; have AF := AE.y_8 AN rfl; clear AN p AE Ad
 refine s2 q (b_1 rfl en_31 (ev2 (evc _ _) (evc _ _)) (m_2 _ _ _)) ?_
 rintro Af _ BJ ⟨rfl, z⟩ I; have M := AF.step z; clear z q AF Ae
 refine s2 I (b_1 rfl en_18 (ev3 (I.ev rfl) (evc _ _) (I.ev rfl)) (Convert_ok d_6 vt39 vm40 lr41 lb42 lk43 _ (b_7 (M.ok 0 _ rfl)) (c_2 (M.ok 1 _ rfl)) kept_thin 0 150 180)) ?_
 rintro Ag _ BK ⟨rfl, AA⟩ S; have AG := M.step AA; clear AA I M Af
 refine s1 S (a_1 rfl (S.ev rfl)) fun Ah T => ?_; clear S Ag
 refine s1 T (e_5 rfl (T.ev rfl) rfl) fun Ai U => ?_; clear T Ah
 refine s1 U (e_5 rfl (U.ev rfl) rfl) fun Aj s => ?_; clear U Ai
 refine s2 s (d_9 AG rfl x_5 (cs := [(Value.int .i64 0), (Value.int .i64 0)]) rfl) ?_
 rintro Ak _ BL ⟨N, rfl, AH⟩ J; clear s AG Aj
 refine s7 J (b_8 AH rfl f_7 (J.ev rfl) (J.ev rfl) (i := 0) rfl (vs := [(Value.int .i64 ((y_9 d_6 0 (150, 180)).1)), (Value.int .i64 ((y_9 d_6 0 (150, 180)).2))]) rfl rfl rfl (Nat.le_of_ble_eq_true rfl)) ?_
 intro _ A4 AI V; clear J
 have AJ : Sep NoB w A4 [(blk N 30 [(Value.int .i64 ((y_9 d_6 0 (150, 180)).1)), (Value.int .i64 ((y_9 d_6 0 (150, 180)).2))]), (e_1 true vt39 lr41 lb42 d_6.tabs), (f_0 true vm40 lk43 d_6.macs), (blk B 30 [(Value.int .i64 ((x_4 d_6 0).1)), (Value.int .i64 ((x_4 d_6 0).2))]), (e_1 true vt6 lr8 lb9 d_6.tabs), (f_0 true vm7 lk10 d_6.macs)] := AI; clear AI AH
 refine s1 V (a_0 rfl (V.ev rfl)) fun Al t => ?_; clear V Ak
 refine n2 ?_
 have u := t.as [(4, (Value.int .i64 (x_7 d_6 0 (150, 180)))), (3, (bptr N 0)), (2, (Value.int .i64 (x_3 d_6 0))), (1, (bptr B 0))] rfl; clear t
 refine a_5 ?_
 refine s2 u (b_1 rfl en_46 ev0 (kept_ok _)) ?_
 rintro Am _ BM ⟨vt77, vm78, lr79, lb80, lk81, rfl, AO⟩ x; have AK := AJ.y_8 AO rfl; clear AO u AJ Al
 refine s1 x (e_0 rfl (pv2 (evc _ _) (evc _ _)) (bd_98_0i_1i _ _)) fun An W => ?_; clear x Am
 refine s2 W (h_2 AK rfl (pv1 (W.ev rfl)) ab_9 ab_8 ze_98 (by decide) (cs := [(Value.int .i64 0), (Value.int .i64 170)]) (bs_98_1_0iia _ _)) ?_
 rintro Ao _ BN ⟨As, rfl, C⟩ K; clear W AK An
 refine s2 K (b_1 rfl en_25 (ev2 (K.ev rfl) (K.ev rfl)) (Spans_ok d_6 vt77 vm78 lr79 lb80 lk81 _ (b_7 (C.ok 1 _ rfl)) (c_2 (C.ok 2 _ rfl)) kept_thin ([(0, 170)]) _ (SlAt.of_blk (C.bk 0 rfl) rfl (Nat.le_of_ble_eq_true rfl)) (by decide) ([(161, 164), (259, 266), (83, 87)]) kept_read kept_spans)) ?_
 rintro Ap _ A5 ⟨A, rfl, AP⟩ X
 have AL : Sep NoB w A5 [(row A 30 2 ([(161, 164), (259, 266), (83, 87)].length) (pairs ([(161, 164), (259, 266), (83, 87)]))), (blk As 98 [(Value.int .i64 0), (Value.int .i64 170)]), (e_1 true vt77 lr79 lb80 d_6.tabs), (f_0 true vm78 lk81 d_6.macs), (blk N 30 [(Value.int .i64 ((y_9 d_6 0 (150, 180)).1)), (Value.int .i64 ((y_9 d_6 0 (150, 180)).2))]), (e_1 true vt39 lr41 lb42 d_6.tabs), (f_0 true vm40 lk43 d_6.macs), (blk B 30 [(Value.int .i64 ((x_4 d_6 0).1)), (Value.int .i64 ((x_4 d_6 0).2))]), (e_1 true vt6 lr8 lb9 d_6.tabs), (f_0 true vm7 lk10 d_6.macs)] := C.y_8 AP rfl; clear AP K C Ao
 refine s1 X (a_1 rfl (X.ev rfl)) fun Aq Y => ?_; clear X Ap
 refine s1 Y (e_5 rfl (Y.ev rfl) rfl) fun Ar D => ?_; clear Y Aq
 refine s1 D (e_5 rfl (D.ev rfl) rfl) fun AT E => ?_; clear D Ar
 refine s1 E (a_0 rfl (E.ev rfl)) fun AU F => ?_; clear E AT
 refine s1 F (a_0 rfl (F.ev rfl)) fun A7 b => ?_; clear F AU
 refine n2 ?_
 have c := b.as [(6, (Value.int .i64 0)), (5, A), (4, (Value.int .i64 (x_7 d_6 0 (150, 180)))), (3, (bptr N 0)), (2, (Value.int .i64 (x_3 d_6 0))), (1, (bptr B 0))] rfl; clear b
 have d := c.as [(6, (Value.int .i64 0)), (5, A), (4, (Value.int .i64 (x_7 d_6 0 (150, 180)))), (3, (bptr N 0)), (2, (Value.int .i64 (x_3 d_6 0))), (1, (bptr B 0))] rfl; clear c
 refine f_9 mixed d AL 46 [[], [0], [1], [2], [2], [2, 3, 4], [2, 5], [6], [7], [7, 8], [7, 9], [10], [11], [11], [11, 12, 13], [11, 14], [15], [16], [16, 17], [16, 18], [19], [20], [20, 21], [20, 22], [20, 23], [24], [25], [25, 26], [25, 27], [25], [25, 28, 29], [25, 30], [31], [32], [32, 33], [32, 34], [32], [32, 35, 36], [32, 37], [38], [39], [39, 40], [39, 41], [39], [39, 42, 43], [39, 44]] [(Yd.val (Value.int .i64 (x_3 d_6 0))), (Yd.val (Value.bool true)), (Yd.val (Value.bool true)), (Yd.val (Value.agg #[(Value.int .i64 ((x_4 d_6 0).1)), (Value.int .i64 ((x_4 d_6 0).2))])), (Yd.val (Value.agg #[(Value.int .i64 6), (Value.int .i64 9)])), (Yd.val (Value.bool true)), (Yd.val (Value.bool true)), (Yd.val (Value.bool true)), (Yd.val (Value.int .i64 (x_7 d_6 0 (150, 180)))), (Yd.val (Value.bool true)), (Yd.val (Value.bool true)), (Yd.val (Value.bool true)), (Yd.val (Value.agg #[(Value.int .i64 ((y_9 d_6 0 (150, 180)).1)), (Value.int .i64 ((y_9 d_6 0 (150, 180)).2))])), (Yd.val (Value.agg #[(Value.int .i64 248), (Value.int .i64 282)])), (Yd.val (Value.bool true)), (Yd.val (Value.bool true)), (Yd.val (Value.bool true)), (Yd.val (Value.int .i64 0)), (Yd.val (Value.bool true)), (Yd.val (Value.bool true)), (Yd.val (Value.bool true)), (Yd.val A), (Yd.val (Value.int .i64 ([(161, 164), (259, 266), (83, 87)].length : Int))), (Yd.val (Value.bool true)), (Yd.val (Value.bool true)), (Yd.val (Value.bool true)), (Yd.val A), (Yd.val (eptr A (0 * 2))), (Yd.val (Value.agg #[(Value.int .i64 ((([(161, 164), (259, 266), (83, 87)]).getD 0 (0, 0)).1)), (Value.int .i64 ((([(161, 164), (259, 266), (83, 87)]).getD 0 (0, 0)).2))])), (Yd.val (Value.agg #[(Value.int .i64 161), (Value.int .i64 164)])), (Yd.val (Value.bool true)), (Yd.val (Value.bool true)), (Yd.val (Value.bool true)), (Yd.val A), (Yd.val (eptr A (1 * 2))), (Yd.val (Value.agg #[(Value.int .i64 ((([(161, 164), (259, 266), (83, 87)]).getD 1 (0, 0)).1)), (Value.int .i64 ((([(161, 164), (259, 266), (83, 87)]).getD 1 (0, 0)).2))])), (Yd.val (Value.agg #[(Value.int .i64 259), (Value.int .i64 266)])), (Yd.val (Value.bool true)), (Yd.val (Value.bool true)), (Yd.val (Value.bool true)), (Yd.val A), (Yd.val (eptr A (2 * 2))), (Yd.val (Value.agg #[(Value.int .i64 ((([(161, 164), (259, 266), (83, 87)]).getD 2 (0, 0)).1)), (Value.int .i64 ((([(161, 164), (259, 266), (83, 87)]).getD 2 (0, 0)).2))])), (Yd.val (Value.agg #[(Value.int .i64 83), (Value.int .i64 87)])), (Yd.val (Value.bool true)), (Yd.val (Value.bool true))] (by decide +kernel) rfl rfl ?_ ?_
 ·skip
  refine dq (fun a w hA hS hd => a_1 rfl (hA.ev rfl)) ?_
  refine ⟨fun a w hA hS hd => by have e0 := hx hd 0; exact d_7 rfl (dv (q_9 rfl (c_7 e0) (evc _ _)) hS (by show Value.bool _ = _; simp only [decide_eq_true (show (x_3 d_6 0) = 0 from (by decide)), decide_true, decide_false, Bool.not_true, Bool.not_false])), ?_⟩
  refine dq (fun a w hA hS hd => a_1 rfl (hq hd 1)) ?_
  refine dy 2 (fun a w hA hS hd => c_4 rfl f_7 (hA.ev rfl) (hS.bk 7 rfl) (l := [(Value.int .i64 ((x_4 d_6 0).1)), (Value.int .i64 ((x_4 d_6 0).2))]) rfl rfl) ?_
  refine ⟨fun a w hA hS hd => by have e2 := hx hd 2; exact i_5 rfl rfl e2 (dx (b_1 rfl en_31 (ev2 (evc _ _) (evc _ _)) (m_2 _ _ _)) hS (fun _ => rfl)), ?_⟩
  refine ⟨fun a w hA hS hd => by have e2 := hx hd 2; have e3 := hx hd 3; have e4 := hx hd 4; exact i_5 rfl rfl e2 (dv (op_eqlP tw_30 rfl (c_7 e3) (c_7 e4)) hS (by show Value.bool _ = _; simp only [(show (decide ((((x_4 d_6 0).1) : Int) = 6) && decide ((((x_4 d_6 0).2) : Int) = 9)) = true from (by decide)), decide_true, decide_false, Bool.not_true, Bool.not_false])), ?_⟩
  refine dq (fun a w hA hS hd => b_4 rfl (hq hd 2) (hq hd 5)) ?_
  refine dq (fun a w hA hS hd => a_1 rfl (hq hd 6)) ?_
  refine dy 7 (fun a w hA hS hd => a_1 rfl (hA.ev rfl)) ?_
  refine ⟨fun a w hA hS hd => by have e7 := hx hd 7; have e8 := hx hd 8; exact i_5 rfl rfl e7 (dv (q_9 rfl (c_7 e8) (evc _ _)) hS (by show Value.bool _ = _; simp only [decide_eq_true (show (x_7 d_6 0 (150, 180)) = 0 from (by decide)), decide_true, decide_false, Bool.not_true, Bool.not_false])), ?_⟩
  refine dq (fun a w hA hS hd => b_4 rfl (hq hd 7) (hq hd 9)) ?_
  refine dq (fun a w hA hS hd => a_1 rfl (hq hd 10)) ?_
  refine dy 11 (fun a w hA hS hd => c_4 rfl f_7 (hA.ev rfl) (hS.bk 4 rfl) (l := [(Value.int .i64 ((y_9 d_6 0 (150, 180)).1)), (Value.int .i64 ((y_9 d_6 0 (150, 180)).2))]) rfl rfl) ?_
  refine ⟨fun a w hA hS hd => by have h := hx hd 11; exact i_5 rfl rfl h (dx (b_1 rfl en_31 (ev2 (evc _ _) (evc _ _)) (m_2 _ _ _)) hS (fun _ => rfl)), ?_⟩
  refine ⟨fun a w hA hS hd => by have h := hx hd 11; have At := hx hd 12; have Au := hx hd 13; exact i_5 rfl rfl h (dv (op_eqlP tw_30 rfl (c_7 At) (c_7 Au)) hS (by show Value.bool _ = _; simp only [(show (decide ((((y_9 d_6 0 (150, 180)).1) : Int) = 248) && decide ((((y_9 d_6 0 (150, 180)).2) : Int) = 282)) = true from (by decide)), decide_true, decide_false, Bool.not_true, Bool.not_false])), ?_⟩
  refine dq (fun a w hA hS hd => b_4 rfl (hq hd 11) (hq hd 14)) ?_
  refine dq (fun a w hA hS hd => a_1 rfl (hq hd 15)) ?_
  refine dy 16 (fun a w hA hS hd => a_1 rfl (hA.ev rfl)) ?_
  refine dy 16 (fun a w hA hS hd => q_9 rfl (hq hd 17) (evc _ _)) ?_
  refine dq (fun a w hA hS hd => b_4 rfl (hq hd 16) (hq hd 18)) ?_
  refine dq (fun a w hA hS hd => a_1 rfl (hq hd 19)) ?_
  refine dy 20 (fun a w hA hS hd => a_1 rfl (hA.ev rfl)) ?_
  refine dy 20 (fun a w hA hS hd => d_2 rfl un_50 (hq hd 21) (SlAt.i_1 (hS.j_5 0 rfl))) ?_
  refine ⟨fun a w hA hS hd => by have Av := hx hd 20; have Aw := hx hd 22; exact i_5 rfl rfl Av (dv (q_9 rfl (c_7 Aw) (evc _ _)) hS (by show Value.bool _ = _; simp only [decide_eq_true (show ([(161, 164), (259, 266), (83, 87)].length : Int) = 3 from (by decide)), decide_true, decide_false, Bool.not_true, Bool.not_false])), ?_⟩
  refine dq (fun a w hA hS hd => b_4 rfl (hq hd 20) (hq hd 23)) ?_
  refine dq (fun a w hA hS hd => a_1 rfl (hq hd 24)) ?_
  refine dy 25 (fun a w hA hS hd => a_1 rfl (hA.ev rfl)) ?_
  refine dy 25 (fun a w hA hS hd => b_2 rfl un_50 f_7 (hq hd 26) (i := 0) (show _ = Value.int .i64 ((0 : Nat) : Int) from (evc _ _)) (SlAt.i_1 (hS.j_5 0 rfl)) (by decide) (by decide)) ?_
  refine dy 25 (fun a w hA hS hd => e_2 rfl f_7 (hq hd 27) (SlAt.i_1 (hS.j_5 0 rfl)) (h_5 (by decide)) rfl (by decide)) ?_
  refine ⟨fun a w hA hS hd => by have j := hx hd 25; exact i_5 rfl rfl j (dx (b_1 rfl en_31 (ev2 (evc _ _) (evc _ _)) (m_2 _ _ _)) hS (fun _ => rfl)), ?_⟩
  refine ⟨fun a w hA hS hd => by have j := hx hd 25; have Ax := hx hd 28; have Ay := hx hd 29; exact i_5 rfl rfl j (dv (op_eqlP tw_30 rfl (c_7 Ax) (c_7 Ay)) hS (by show Value.bool _ = _; simp only [(show (decide ((((([(161, 164), (259, 266), (83, 87)]).getD 0 (0, 0)).1) : Int) = 161) && decide ((((([(161, 164), (259, 266), (83, 87)]).getD 0 (0, 0)).2) : Int) = 164)) = true from (by decide)), decide_true, decide_false, Bool.not_true, Bool.not_false])), ?_⟩
  refine dq (fun a w hA hS hd => b_4 rfl (hq hd 25) (hq hd 30)) ?_
  refine dq (fun a w hA hS hd => a_1 rfl (hq hd 31)) ?_
  refine dy 32 (fun a w hA hS hd => a_1 rfl (hA.ev rfl)) ?_
  refine dy 32 (fun a w hA hS hd => b_2 rfl un_50 f_7 (hq hd 33) (i := 1) (show _ = Value.int .i64 ((1 : Nat) : Int) from (evc _ _)) (SlAt.i_1 (hS.j_5 0 rfl)) (by decide) (by decide)) ?_
  refine dy 32 (fun a w hA hS hd => e_2 rfl f_7 (hq hd 34) (SlAt.i_1 (hS.j_5 0 rfl)) (h_5 (by decide)) rfl (by decide)) ?_
  refine ⟨fun a w hA hS hd => by have k := hx hd 32; exact i_5 rfl rfl k (dx (b_1 rfl en_31 (ev2 (evc _ _) (evc _ _)) (m_2 _ _ _)) hS (fun _ => rfl)), ?_⟩
  refine ⟨fun a w hA hS hd => by have k := hx hd 32; have Az := hx hd 35; have A0 := hx hd 36; exact i_5 rfl rfl k (dv (op_eqlP tw_30 rfl (c_7 Az) (c_7 A0)) hS (by show Value.bool _ = _; simp only [(show (decide ((((([(161, 164), (259, 266), (83, 87)]).getD 1 (0, 0)).1) : Int) = 259) && decide ((((([(161, 164), (259, 266), (83, 87)]).getD 1 (0, 0)).2) : Int) = 266)) = true from (by decide)), decide_true, decide_false, Bool.not_true, Bool.not_false])), ?_⟩
  refine dq (fun a w hA hS hd => b_4 rfl (hq hd 32) (hq hd 37)) ?_
  refine dq (fun a w hA hS hd => a_1 rfl (hq hd 38)) ?_
  refine dy 39 (fun a w hA hS hd => a_1 rfl (hA.ev rfl)) ?_
  refine dy 39 (fun a w hA hS hd => b_2 rfl un_50 f_7 (hq hd 40) (i := 2) (show _ = Value.int .i64 ((2 : Nat) : Int) from (evc _ _)) (SlAt.i_1 (hS.j_5 0 rfl)) (by decide) (by decide)) ?_
  refine dy 39 (fun a w hA hS hd => e_2 rfl f_7 (hq hd 41) (SlAt.i_1 (hS.j_5 0 rfl)) (h_5 (by decide)) rfl (by decide)) ?_
  refine ⟨fun a w hA hS hd => by have m := hx hd 39; exact i_5 rfl rfl m (dx (b_1 rfl en_31 (ev2 (evc _ _) (evc _ _)) (m_2 _ _ _)) hS (fun _ => rfl)), ?_⟩
  refine ⟨fun a w hA hS hd => by have m := hx hd 39; have A1 := hx hd 42; have A2 := hx hd 43; exact i_5 rfl rfl m (dv (op_eqlP tw_30 rfl (c_7 A1) (c_7 A2)) hS (by show Value.bool _ = _; simp only [(show (decide ((((([(161, 164), (259, 266), (83, 87)]).getD 2 (0, 0)).1) : Int) = 83) && decide ((((([(161, 164), (259, 266), (83, 87)]).getD 2 (0, 0)).2) : Int) = 87)) = true from (by decide)), decide_true, decide_false, Bool.not_true, Bool.not_false])), ?_⟩
  refine dq (fun a w hA hS hd => b_4 rfl (hq hd 39) (hq hd 44)) ?_
  trivial
 intro AV BF e AQ g; clear d AL
 have G := e.add (hz g 45); clear e
 clear g
 refine s1 G (a_0 rfl (G.ev rfl)) fun A8 f => ?_; clear G AV
 refine n1 ?_
 refine c_1 ?_
 refine a_7 f (.inl rfl) (a_2 f rfl (.tmp rfl)) ?_
 exact ⟨rfl, AQ.ext⟩
end Go.Proofs.Ytohgladndklciaa

namespace Go.Proofs.Ytohgladndklciaa
open Go.RowKit Go.Shelf Go.Eng Go.Hard
theorem en_16 : ∀ args w, (callFunc 16 args).run Try.prog w = .ok (.enter 16 args) w := enters_of Try.func16 (by kernel_rfl) rfl
theorem en_17 : ∀ args w, (callFunc 17 args).run Try.prog w = .ok (.enter 17 args) w := enters_of Try.func17 (by kernel_rfl) rfl
theorem en_19 : ∀ args w, (callFunc 19 args).run Try.prog w = .ok (.enter 19 args) w := enters_of Try.func19 (by kernel_rfl) rfl
theorem en_26 : ∀ args w, (callFunc 26 args).run Try.prog w = .ok (.enter 26 args) w := enters_of Try.func26 (by kernel_rfl) rfl
theorem en_27 : ∀ args w, (callFunc 27 args).run Try.prog w = .ok (.enter 27 args) w := enters_of Try.func27 (by kernel_rfl) rfl
theorem en_71 : ∀ args w, (callFunc 71 args).run Try.prog w = .ok (.enter 71 args) w := enters_of Try.func71 (by kernel_rfl) rfl
theorem en_39 : ∀ args w, (callFunc 39 args).run Try.prog w = .ok (.enter 39 args) w := enters_of Try.func39 (by kernel_rfl) rfl
theorem en_38 : ∀ args w, (callFunc 38 args).run Try.prog w = .ok (.enter 38 args) w := enters_of Try.func38 (by kernel_rfl) rfl
end Go.Proofs.Ytohgladndklciaa

namespace Go.Hard
section
variable {s t : h_0} {e f : Int} {k : Nat}
end
section
variable {b : g_9} {l : List (Int × Int)} {k j : Nat}
variable {i : Nat}
end
end Go.Hard

namespace Go.Proofs.Ytohgladndklciaa
open Go.RowKit Go.Shelf Go.Eng Go.Hard
end Go.Proofs.Ytohgladndklciaa

namespace Go.Hard
section
variable {b : g_9} {l : List (Int × Int)} {z : List Int} {t : TabD} {k : Nat}
theorem u_3 (h : (j_3 t (z.getD t.frm.toNat 0)).isSome = false) : q_0 z t = true := by
  unfold q_0
  cases hm : j_3 t (z.getD t.frm.toNat 0) with
  | none => rfl
  | some r => rw [hm] at h; cases h
theorem l_9 (h : (j_3 t (z.getD t.frm.toNat 0)).isSome = true) : q_0 z t = inB (z.getD t.dst.toNat 0) ((d_0 t (z.getD t.frm.toNat 0)).1 - t.err) ((d_0 t (z.getD t.frm.toNat 0)).2 + t.err) := by
  unfold q_0 d_0
  cases hm : j_3 t (z.getD t.frm.toNat 0) with
  | none => rw [hm] at h; cases h
  | some r => rfl
theorem fitR_is : y_1 b l z k = inB ((l.getD k (0, 0)).2 - z.getD (b.macs.getD (l.getD k (0, 0)).1.toNat mac0).scale.toNat 0) (d_5 (b.macs.getD (l.getD k (0, 0)).1.toNat mac0)).1 (d_5 (b.macs.getD (l.getD k (0, 0)).1.toNat mac0)).2 := rfl
theorem fits_iff : z_5 b l z = true ↔ (z.length : Int) = b.scales ∧ (∀ i, i < z.length → inB (z.getD i 0) 0 100000 = true) ∧ (∀ i, i < l.length → y_1 b l z i = true) ∧ ∀ i, i < b.tabs.length → q_0 z (b.tabs.getD i tab0) = true := by
  have e1 : z.all valueB = true ↔ ∀ i, i < z.length → inB (z.getD i 0) 0 100000 = true := by
    rw [List.all_eq_true]; exact (r_9 (p := valueB) (d := 0)).symm.trans g_2
  have e2 : b.tabs.all (q_0 z) = true ↔ ∀ i, i < b.tabs.length → q_0 z (b.tabs.getD i tab0) = true := by
    rw [List.all_eq_true]; exact (r_9 (p := q_0 z) (d := tab0)).symm.trans g_2
  unfold z_5
  rw [Bool.and_eq_true, Bool.and_eq_true, Bool.and_eq_true, decide_eq_true_eq, e1, e2, List.all_eq_true]
  simp only [List.mem_range, and_assoc]
theorem fits_not (h : ¬ ((z.length : Int) = b.scales ∧ (∀ i, i < z.length → inB (z.getD i 0) 0 100000 = true) ∧ (∀ i, i < l.length → y_1 b l z i = true) ∧ ∀ i, i < b.tabs.length → q_0 z (b.tabs.getD i tab0) = true)) : z_5 b l z = false := by
  cases hf : z_5 b l z with
  | false => rfl
  | true => exact absurd (fits_iff.1 hf) h
theorem y_2 (h : ¬ (z.length : Int) = b.scales) : z_5 b l z = false := fits_not fun g => h g.1
theorem fits_n1 (hk : k < z.length) (h : inB (z.getD k 0) 0 100000 = false) : z_5 b l z = false := fits_not fun g => by rw [g.2.1 k hk] at h; cases h
theorem fits_n1' (h : (List.range z.length).all (fun i => inB (z.getD i 0) 0 100000) = false) : z_5 b l z = false := fits_not fun g => by
  rw [List.all_eq_true.2 fun i hi => g.2.1 i (List.mem_range.1 hi)] at h; cases h
theorem y_3 (hk : k < l.length) (h : inB ((l.getD k (0, 0)).2 - z.getD (b.macs.getD (l.getD k (0, 0)).1.toNat mac0).scale.toNat 0) (d_5 (b.macs.getD (l.getD k (0, 0)).1.toNat mac0)).1 (d_5 (b.macs.getD (l.getD k (0, 0)).1.toNat mac0)).2 = false) : z_5 b l z = false := fits_not fun g => by have := g.2.2.1 k hk; rw [fitR_is, h] at this; cases this
theorem fits_n3 (hk : k < b.tabs.length) (h : q_0 z (b.tabs.getD k tab0) = false) : z_5 b l z = false := fits_not fun g => by rw [g.2.2.2 k hk] at h; cases h
theorem fits_y (h0 : (z.length : Int) = b.scales) (h1 : ∀ i, i < z.length → inB (z.getD i 0) 0 100000 = true) (h2 : ∀ i, i < l.length → y_1 b l z i = true) (h3 : ∀ i, i < b.tabs.length → q_0 z (b.tabs.getD i tab0) = true) : z_5 b l z = true := fits_iff.2 ⟨h0, h1, h2, h3⟩
theorem fits_rest (h0 : (z.length : Int) = b.scales) (h1 : (List.range z.length).all (fun i => inB (z.getD i 0) 0 100000) = true) (h2 : ∀ i, i < l.length → y_1 b l z i = true) : (List.range b.tabs.length).all (fun i => q_0 z (b.tabs.getD i tab0)) = z_5 b l z := by
  cases hf : (List.range b.tabs.length).all (fun i => q_0 z (b.tabs.getD i tab0)) with
  | true => exact (fits_y h0 (fun i hi => List.all_eq_true.1 h1 i (List.mem_range.2 hi)) h2 fun i hi => List.all_eq_true.1 hf i (List.mem_range.2 hi)).symm
  | false =>
    refine (fits_not fun g => ?_).symm
    rw [List.all_eq_true.2 fun i hi => g.2.2.2 i (List.mem_range.1 hi)] at hf; cases hf
end
end Go.Hard
