/-
  Books built in memory: slices of slices, one more; tables and machines as one thing.
  The chapter's book and what it shows; decided by the kernel.
  What the laws ask first: may a book be played; narrower spans. What HardAllows says.
-/
import Derived.Test.YtohgladndklciaaBc
import Derived.Test.YtohgladndklciaaEnga
set_option linter.unusedSimpArgs false
set_option linter.unusedVariables false
namespace Go.Proofs.Ytohgladndklciaa
open Go.RowKit Go.Shelf Go.Eng Go.Hard
theorem ze_98 : (Try.prog.info? 98).bind (·.zero) = some (Value.agg #[(Value.int .i64 0), (Value.int .i64 0)]) := by kernel_rfl
theorem en_88 : ∀ args w, (callFunc 88 args).run Try.prog w = .ok (.enter 88 args) w := enters_of Try.func88 (by kernel_rfl) rfl
theorem ar_120 : Try.prog.underlying 120 = some (.array 4 30) := by kernel_rfl
theorem tw_30 : i_9 Try.prog 30 = true := by kernel_rfl
theorem gt_120 : Try.prog.eqGuardType Try.prog.depth 120 = false := by kernel_rfl
set_option maxHeartbeats 4000000 in
theorem spansb_ok (b : h_2) (vt vm : Value) (lr lb lk : Nat → Value) (w : World) (hT : j_5 w vt lr lb b.tabs) (hM : k_8 w vm lk b.macs) (hth : q_4 b) (bx bm : Nat) (es : Array MapEntry) (ck : Nat) (hMO : s_4 bm es ck (bN b.tabs b.tabs.length)) (hbx : (blk bx 146 [.int .i64 b.scales, vt, vm, .map (some bm)]).p w) (hmx : (mapX false bm es ck es.size 106 5 (bN b.tabs b.tabs.length) (bC lr lb b.tabs b.tabs.length)).p w) (hb : o_3 b) (l : List (Int × Int)) (xl : Value) (hxl : SlAt w xl 2 l.length (pairs l)) (hl : x_7 b l) :
  Calls Try.prog 57 #[(bptr bx 0), xl] w (Ret fun v w' => ∃ x, x.length = 4 ∧ v = .tuple #[.agg (pairs x).toArray, .bool (m_9 b l).isSome] ∧ (∀ t, m_9 b l = some t → x.take b.scales.toNat = t) ∧ Ext NoB w w') := by
 refine a_9 Try.func57 rfl fun a0 Ak => ?_
 replace Ak : Fr 79 [] [(0, (bptr bx 0)), (1, xl)] a0 := Ak
 have hsc := hb.scales; have htl9 := hth.tl; have hml9 := hth.ml; have hll := hl.len
 have B2 : Sep NoB w w [(rob bx 146 [(Value.int .i64 b.scales), vt, vm, (Value.map (some bm))]), (mapX false bm es ck es.size 106 5 (bN b.tabs b.tabs.length) (bC lr lb b.tabs b.tabs.length)), (b_6 false vt lr lb b.tabs), (c_0 false vm lk b.macs), (sl xl 2 l.length (pairs l))] := f_2 ⟨rfl, hbx, rfl, hmx, rfl, hT, rfl, hM, rfl, hxl, trivial⟩
 refine m2 ?_
 refine s2 Ak (e_3 B2 rfl ze_120 (cs := (pairs zero4)) rfl) ?_
 rintro a1 _ w3 ⟨C, rfl, B3⟩ Bz; clear Ak B2 a0
 refine s1 Bz (a_0 rfl (evc _ _)) fun a6 B0 => ?_; clear Bz a1
 refine n2 ?_
 refine m2 ?_
 refine s1 B0 (a_1 rfl (evc _ _)) fun a8 B1 => ?_; clear B0 a6
 refine n1 ?_
 refine d_0 ?_
 have BG := B1.as [(13, (Value.int .i64 0)), (4, (bptr C 0)), (0, (bptr bx 0)), (1, xl)] rfl; clear B1
 refine h_1 (G := Nat) (fun (k : Nat) a_ w_ => Fr 79 [] [(13, (Value.int .i64 (k : Int))), (4, (bptr C 0)), (0, (bptr bx 0)), (1, xl)] a_ ∧ Sep NoB w w_ [(blk C 120 (pairs (fillU k))), (rob bx 146 [(Value.int .i64 b.scales), vt, vm, (Value.map (some bm))]), (mapX false bm es ck es.size 106 5 (bN b.tabs b.tabs.length) (bC lr lb b.tabs b.tabs.length)), (b_6 false vt lr lb b.tabs), (c_0 false vm lk b.macs), (sl xl 2 l.length (pairs l))] ∧ (k ≤ 4)) (fun k => 4 - k) 0 ⟨BG.as _ rfl, B3, by omega⟩ ?_
 clear BG B3 a8
 rintro k C1 Dk ⟨AW, c, hk⟩
 have hfl := fillU_len k
 refine m2 ?_
 refine s1 AW (g_3 rfl (AW.ev rfl) (evc _ _)) fun Bx H => ?_; clear AW C1
 refine n2 ?_
 by_cases Bf : (k : Int) < 4
 ·skip
  rw [decide_eq_true Bf] at H
  refine c_7 H rfl ?_
  refine d_2 ?_
  refine b_2 ?_
  refine b_9 ?_
  refine d_0 ?_
  refine m2 ?_
  refine s1 H (a_1 rfl (H.ev rfl)) fun C2 AX => ?_; clear H Bx
  refine s1 AX (a_0 rfl (AX.ev rfl)) fun C3 AY => ?_; clear AX C2
  refine n3 ?_
  refine s1 AY (a_1 rfl (AY.ev rfl)) fun C4 BH => ?_; clear AY C3
  refine s1 BH (e_6 rfl (pv2 (evc _ _) (evc _ _)) (l_6 _ _)) fun C5 AN => ?_; clear BH C4
  refine s1 AN (o_6 rfl x_5 f_5 (AN.ev rfl) (i := k) (AN.ev rfl) (by omega)) fun C6 AO => ?_; clear AN C5
  refine s7 AO (c_1 c rfl f_5 (AO.ev rfl) (AO.ev rfl) (i := 0) rfl (vs := [(Value.int .i64 0), (Value.int .i64 100000)]) rfl rfl rfl (by simp only [b_1, List.length_set, List.length_cons, List.length_nil]; omega)) ?_
  intro _ Dl BW BI; have CZ := BW.n_8 (i := 0) rfl (cs' := (pairs ((fillU k).set k (0, 100000)))) (pairs_setZ _ _ _ _); clear BW AO c
  refine f_0 ?_
  refine g_9 ?_
  refine b_2 ?_
  have AZ := BI.as [(13, (Value.int .i64 (k : Int))), (4, (bptr C 0)), (0, (bptr bx 0)), (1, xl)] rfl; clear BI
  refine a_5 ?_
  refine s1 AZ (g_0 rfl (AZ.ev rfl) (evc _ _) (by omega) (by omega)) fun C7 Aa => ?_; clear AZ C6
  refine s1 Aa (a_1 rfl (Aa.ev rfl)) fun Df CY => ?_; clear Aa C7
  refine f_0 ?_
  exact b_2 ⟨k + 1, ⟨CY.as _ rfl, CZ, by omega⟩, by omega⟩
 skip
 rw [decide_eq_false Bf] at H
 refine b_8 H rfl ?_
 refine h_0 ?_
 refine b_5 ?_
 refine b_5 ?_
 refine f_8 ?_
 refine b_2 ?_
 refine b_9 ?_
 refine m2 ?_
 refine s1 H (a_1 rfl (H.ev rfl)) fun C8 Ab => ?_; clear H Bx
 refine s1 Ab (d_5 rfl un_53 (Ab.ev rfl) (c.sk 5 rfl)) fun C9 BJ => ?_; clear Ab C8
 refine s1 BJ (a_1 rfl (evc _ _)) fun DA BK => ?_; clear BJ C9
 refine n1 ?_
 refine d_0 ?_
 have BL := BK.as [(22, (Value.int .i64 0)), (21, (Value.int .i64 (l.length : Int))), (20, xl), (4, (bptr C 0)), (0, (bptr bx 0))] rfl; clear BK
 refine h_1 (G := Nat) (fun (k : Nat) a_ w_ => Fr 79 [] [(22, (Value.int .i64 (k : Int))), (21, (Value.int .i64 (l.length : Int))), (20, xl), (4, (bptr C 0)), (0, (bptr bx 0))] a_ ∧ Sep NoB w w_ [(blk C 120 (pairs (d_3 b l e_7 k))), (rob bx 146 [(Value.int .i64 b.scales), vt, vm, (Value.map (some bm))]), (mapX false bm es ck es.size 106 5 (bN b.tabs b.tabs.length) (bC lr lb b.tabs b.tabs.length)), (b_6 false vt lr lb b.tabs), (c_0 false vm lk b.macs), (sl xl 2 l.length (pairs l))] ∧ (k ≤ l.length) ∧ (Full b.scales.toNat (d_3 b l e_7 k))) (fun k => l.length - k) 0 ⟨BL.as _ rfl, (c.n_8 (i := 0) rfl (by rw [show k = 4 by omega, fill4]; rfl)), Nat.zero_le _, full_free hb.four⟩ ?_
 clear BL c DA
 rintro k DB Dm ⟨AP, N, hk, hfu⟩
 have hsl := t_2 b l e_7 k; have Di : e_7.length = 4 := rfl
 refine m2 ?_
 refine s1 AP (g_3 rfl (AP.ev rfl) (AP.ev rfl)) fun By I => ?_; clear AP DB
 refine n2 ?_
 by_cases Bg : (k : Int) < (l.length : Int)
 ·skip
  rw [decide_eq_true Bg] at I
  have hscl := scale_lt hb hl (k := k) (by omega); unfold o_1 at hscl; have hmv := hl.macV hb (k := k) (by omega); have hsv := hmv.scale; have hbb := biasF_bd hmv; have hlm := hl.mac k (by omega); have hlr := hl.read k (by omega); have hsl1 := t_2 b l e_7 (k + 1); have hb4_ := hb.four
  refine c_7 I rfl ?_
  refine d_2 ?_
  refine b_2 ?_
  refine b_9 ?_
  refine d_0 ?_
  refine m2 ?_
  refine s1 I (b_3 rfl un_53 ty_98 (I.ev rfl) (i := k) (I.ev rfl) (N.sk 5 rfl) (by decide) (by omega)) fun DC Ac => ?_; clear I By
  refine s1 Ac (f_1 rfl ty_98 (Ac.ev rfl) (N.sk 5 rfl) (i_5 (by omega)) rfl (by decide)) fun DD BM => ?_; clear Ac DC
  refine s2 BM (e_3 N rfl ze_98 (cs := [(Value.int .i64 0), (Value.int .i64 0)]) rfl) ?_
  rintro Dg _ Dn ⟨L, rfl, BX⟩ AQ; clear BM N DD
  refine s7 AQ (c_1 BX rfl ty_98 (AQ.ev rfl) (AQ.ev rfl) (i := 0) rfl (vs := [(Value.int .i64 ((l.getD k (0, 0)).1)), (Value.int .i64 ((l.getD k (0, 0)).2))]) rfl rfl rfl (Nat.le_of_ble_eq_true rfl)) ?_
  intro _ DI BY BN; clear AQ
  have BZ : Sep NoB w DI [(blk L 98 [(Value.int .i64 ((l.getD k (0, 0)).1)), (Value.int .i64 ((l.getD k (0, 0)).2))]), (blk C 120 (pairs (d_3 b l e_7 k))), (rob bx 146 [(Value.int .i64 b.scales), vt, vm, (Value.map (some bm))]), (mapX false bm es ck es.size 106 5 (bN b.tabs b.tabs.length) (bC lr lb b.tabs b.tabs.length)), (b_6 false vt lr lb b.tabs), (c_0 false vm lk b.macs), (sl xl 2 l.length (pairs l))] := BY; clear BY BX
  refine n2 ?_
  have BO := BN.as [(8, (bptr L 0)), (22, (Value.int .i64 (k : Int))), (21, (Value.int .i64 (l.length : Int))), (20, xl), (4, (bptr C 0)), (0, (bptr bx 0))] rfl; clear BN
  refine s_5 mixed BO BZ 10 [[], [0], [1], [2], [3], [], [5], [4, 6], [7], []] [(fun (A : Nat → Value) (v_ : Value) (rs_ : List Res) => v_ = (bptr bx 0) ∧ rs_ = []), (fun (A : Nat → Value) (v_ : Value) (rs_ : List Res) => v_ = (bptr bx 0) ∧ rs_ = []), (fun (A : Nat → Value) (v_ : Value) (rs_ : List Res) => v_ = (bptr bx 0) ∧ rs_ = []), (fun (A : Nat → Value) (v_ : Value) (rs_ : List Res) => v_ = (bptr bx 2) ∧ rs_ = []), (fun (A : Nat → Value) (v_ : Value) (rs_ : List Res) => v_ = vm ∧ rs_ = []), (fun (A : Nat → Value) (v_ : Value) (rs_ : List Res) => v_ = (bptr L 0) ∧ rs_ = []), (fun (A : Nat → Value) (v_ : Value) (rs_ : List Res) => v_ = (Value.int .i64 ((l.getD k (0, 0)).1)) ∧ rs_ = []), (fun (A : Nat → Value) (v_ : Value) (rs_ : List Res) => v_ = (eptr vm (((l.getD k (0, 0)).1).toNat * 2)) ∧ rs_ = []), (fun (A : Nat → Value) (v_ : Value) (rs_ : List Res) => v_ = (Value.agg #[(Value.int .i64 ((b.macs.getD (((l.getD k (0, 0)).1).toNat) mac0).scale)), (lk (((l.getD k (0, 0)).1).toNat))]) ∧ rs_ = []), (fun (A : Nat → Value) (v_ : Value) (rs_ : List Res) => ∃ (b9_ : Nat), v_ = (bptr b9_ 0) ∧ rs_ = [(blk b9_ 103 [(Value.int .i64 0), (Value.slice none 0 0)])])] (by decide +kernel) (by decide +kernel) rfl rfl ⟨(fun _ _ _ _ _ h_ => h_), (fun _ _ _ _ _ h_ => h_), (fun _ _ _ _ _ h_ => h_), (fun _ _ _ _ _ h_ => h_), (fun _ _ _ _ _ h_ => h_), (fun _ _ _ _ _ h_ => h_), (fun _ _ _ _ _ h_ => h_), (fun _ _ _ _ _ h_ => h_), (fun _ _ _ _ _ h_ => h_), (fun _ _ _ _ _ h_ => h_), trivial⟩ ?_ ?_
  ·skip
   refine ⟨fun a w A hA hS hd => gv1 (a_1 rfl (hA.ev rfl)), ?_⟩
   refine ⟨fun a w A hA hS hd => gv1 (n_9 rfl (gu hd 0)), ?_⟩
   refine ⟨fun a w A hA hS hd => gv1 (a_4 rfl fd_146_0 (gu hd 1)), ?_⟩
   refine ⟨fun a w A hA hS hd => gv1 (a_4 rfl u_3 (gu hd 2)), ?_⟩
   refine ⟨fun a w A hA hS hd => gv1 (a_3 rfl ty_35 (gu hd 3) (hS.rk 2 rfl) rfl), ?_⟩
   refine ⟨fun a w A hA hS hd => gv1 (a_4 rfl fd_98_0 (hA.ev rfl)), ?_⟩
   refine ⟨fun a w A hA hS hd => gv1 (a_3 rfl ty_3 (gu hd 5) (hS.bk 0 rfl) rfl), ?_⟩
   refine ⟨fun a w A hA hS hd => gv1 (b_3 rfl ab_0 t_3 (gu hd 4) (i := ((l.getD k (0, 0)).1).toNat) ((gu hd 6).trans (j_1 (by omega))) (c_3 (hS.ok 5 _ rfl)).macs (by decide) (by omega)), ?_⟩
   refine ⟨fun a w A hA hS hd => gv1 (f_1 rfl t_3 (gu hd 7) (c_3 (hS.ok 5 _ rfl)).macs (w_4 (by omega)) rfl (by decide)), ?_⟩
   refine ⟨fun a w A hA hS hd => d_6 rfl (valloc rfl ze_103 (cs := [(Value.int .i64 0), (Value.slice none 0 0)]) rfl (fun b_ => ⟨b_, rfl, rfl⟩)), ?_⟩
   trivial
  intro BF DJ A rsf71 BP D Af; clear BO BZ
  obtain ⟨Ca, Cq⟩ := D 0 (by decide)
  obtain ⟨Ci, Bh⟩ := Cq
  obtain ⟨Cb, Cr⟩ := D 1 (by decide)
  obtain ⟨Cj, Bi⟩ := Cr
  obtain ⟨Cc, Cs⟩ := D 2 (by decide)
  obtain ⟨Ck, Bj⟩ := Cs
  obtain ⟨Cd, Ct⟩ := D 3 (by decide)
  obtain ⟨Cl, Bk⟩ := Ct
  obtain ⟨Ce, Cu⟩ := D 4 (by decide)
  obtain ⟨Cm, Bl⟩ := Cu
  obtain ⟨Cf, Cv⟩ := D 5 (by decide)
  obtain ⟨Cn, Bm⟩ := Cv
  obtain ⟨Cg, Cw⟩ := D 6 (by decide)
  obtain ⟨Co, Bn⟩ := Cw
  obtain ⟨Ch, Cx⟩ := D 7 (by decide)
  obtain ⟨Cp, Bo⟩ := Cx
  obtain ⟨Ah, Cy⟩ := D 8 (by decide)
  obtain ⟨Br, Bp⟩ := Cy
  obtain ⟨Ai, Cz⟩ := D 9 (by decide)
  obtain ⟨b9_, Bs, Bq⟩ := Cz
  have Ag : Sep NoB w DJ [(blk b9_ 103 [(Value.int .i64 0), (Value.slice none 0 0)]), (blk L 98 [(Value.int .i64 ((l.getD k (0, 0)).1)), (Value.int .i64 ((l.getD k (0, 0)).2))]), (blk C 120 (pairs (d_3 b l e_7 k))), (rob bx 146 [(Value.int .i64 b.scales), vt, vm, (Value.map (some bm))]), (mapX false bm es ck es.size 106 5 (bN b.tabs b.tabs.length) (bC lr lb b.tabs b.tabs.length)), (b_6 false vt lr lb b.tabs), (c_0 false vm lk b.macs), (sl xl 2 l.length (pairs l))] := by rw [show catR rsf71 0 10 = ([(blk b9_ 103 [(Value.int .i64 0), (Value.slice none 0 0)])] : List Res) by (try simp only [catR, Bh, Bi, Bj, Bk, Bl, Bm, Bn, Bo, Bp, Bq]); (try rfl)] at Af; exact Af
  rw [Br] at Ah
  have BQ : Fr 79 [] [(34, (Value.agg #[(Value.int .i64 ((b.macs.getD (((l.getD k (0, 0)).1).toNat) mac0).scale)), (lk (((l.getD k (0, 0)).1).toNat))])), (8, (bptr L 0)), (22, (Value.int .i64 (k : Int))), (21, (Value.int .i64 (l.length : Int))), (20, xl), (4, (bptr C 0)), (0, (bptr bx 0))] BF := BP.add (d_4 Ah rfl); clear BP
  rw [Bs] at Ai
  have AR : Fr 79 [] [(9, (bptr b9_ 0)), (34, (Value.agg #[(Value.int .i64 ((b.macs.getD (((l.getD k (0, 0)).1).toNat) mac0).scale)), (lk (((l.getD k (0, 0)).1).toNat))])), (8, (bptr L 0)), (22, (Value.int .i64 (k : Int))), (21, (Value.int .i64 (l.length : Int))), (20, xl), (4, (bptr C 0)), (0, (bptr bx 0))] BF := BQ.add (d_4 Ai rfl); clear BQ
  clear D Af Ca Cb Cc Cd Ce Cf Cg Ch Ah Ai
  clear Bh
  clear Ci
  clear Bi
  clear Cj
  clear Bj
  clear Ck
  clear Bk
  clear Cl
  clear Bl
  clear Cm
  clear Bm
  clear Cn
  clear Bn
  clear Co
  clear Bo
  clear Cp
  clear Bp
  clear Br
  clear Bq
  clear Bs
  refine s7 AR (c_1 Ag rfl t_3 (AR.ev rfl) (AR.ev rfl) (i := 0) rfl (vs := [(Value.int .i64 ((b.macs.getD (((l.getD k (0, 0)).1).toNat) mac0).scale)), (lk (((l.getD k (0, 0)).1).toNat))]) rfl rfl (h_4 rfl (h_4 (SlAt.one ((c_3 (Ag.ok 6 _ rfl)).blk (i := ((l.getD k (0, 0)).1).toNat) (by omega))) v_0)) (Nat.le_of_ble_eq_true rfl)) ?_
  intro _ DK Ba Ad; clear AR
  have AU : Sep NoB w DK [(blk b9_ 103 [(Value.int .i64 ((b.macs.getD (((l.getD k (0, 0)).1).toNat) mac0).scale)), (lk (((l.getD k (0, 0)).1).toNat))]), (blk L 98 [(Value.int .i64 ((l.getD k (0, 0)).1)), (Value.int .i64 ((l.getD k (0, 0)).2))]), (blk C 120 (pairs (d_3 b l e_7 k))), (rob bx 146 [(Value.int .i64 b.scales), vt, vm, (Value.map (some bm))]), (mapX false bm es ck es.size 106 5 (bN b.tabs b.tabs.length) (bC lr lb b.tabs b.tabs.length)), (b_6 false vt lr lb b.tabs), (c_0 false vm lk b.macs), (sl xl 2 l.length (pairs l))] := Ba; clear Ba Ag
  refine n4 ?_
  refine s1 Ad (c_5 rfl t_3 (Ad.ev rfl) (AU.bk 0 rfl) (l := [(Value.int .i64 ((b.macs.getD (((l.getD k (0, 0)).1).toNat) mac0).scale)), (lk (((l.getD k (0, 0)).1).toNat))]) rfl rfl) fun DE Ae => ?_; clear Ad BF
  refine s2 Ae (b_0 rfl en_67 (ev1 (Ae.ev rfl)) (bias_ok _ (b.macs.getD (((l.getD k (0, 0)).1).toNat) mac0) _ _ ((c_3 (AU.ok 6 _ rfl)).blk (i := ((l.getD k (0, 0)).1).toNat) (by omega)) (hl.macV hb (by omega)) (hth.kl _))) ?_
  rintro DF _ Do ⟨rfl, BV⟩ BR; have Bb := AU.step BV; clear BV Ae AU DE
  refine s2 BR (e_3 Bb rfl t_5 (cs := [(Value.int .i64 0), (Value.int .i64 0)]) rfl) ?_
  rintro Dh _ Dp ⟨Aj, rfl, Bc⟩ AS; clear BR Bb DF
  refine s7 AS (c_1 Bc rfl f_5 (AS.ev rfl) (AS.ev rfl) (i := 0) rfl (vs := [(Value.int .i64 ((e_4 (b.macs.getD (((l.getD k (0, 0)).1).toNat) mac0)).1)), (Value.int .i64 ((e_4 (b.macs.getD (((l.getD k (0, 0)).1).toNat) mac0)).2))]) rfl rfl rfl (Nat.le_of_ble_eq_true rfl)) ?_
  intro _ DL Bd BS; clear AS
  have Be : Sep NoB w DL [(blk Aj 30 [(Value.int .i64 ((e_4 (b.macs.getD (((l.getD k (0, 0)).1).toNat) mac0)).1)), (Value.int .i64 ((e_4 (b.macs.getD (((l.getD k (0, 0)).1).toNat) mac0)).2))]), (blk b9_ 103 [(Value.int .i64 ((b.macs.getD (((l.getD k (0, 0)).1).toNat) mac0).scale)), (lk (((l.getD k (0, 0)).1).toNat))]), (blk L 98 [(Value.int .i64 ((l.getD k (0, 0)).1)), (Value.int .i64 ((l.getD k (0, 0)).2))]), (blk C 120 (pairs (d_3 b l e_7 k))), (rob bx 146 [(Value.int .i64 b.scales), vt, vm, (Value.map (some bm))]), (mapX false bm es ck es.size 106 5 (bN b.tabs b.tabs.length) (bC lr lb b.tabs b.tabs.length)), (b_6 false vt lr lb b.tabs), (c_0 false vm lk b.macs), (sl xl 2 l.length (pairs l))] := Bd; clear Bd Bc
  refine n2 ?_
  have BT := BS.as [(10, (bptr Aj 0)), (9, (bptr b9_ 0)), (8, (bptr L 0)), (22, (Value.int .i64 (k : Int))), (21, (Value.int .i64 (l.length : Int))), (20, xl), (4, (bptr C 0)), (0, (bptr bx 0))] rfl; clear BS
  refine g_6 mixed BT Be 18 [[], [0], [], [2], [3], [4], [], [6], [], [8], [7, 9], [], [11], [], [13], [12, 14], [10, 15], [5, 16]] [(Yd.val (bptr b9_ 0)), (Yd.val (Value.int .i64 ((b.macs.getD (((l.getD k (0, 0)).1).toNat) mac0).scale))), (Yd.val (bptr b9_ 0)), (Yd.val (Value.int .i64 ((b.macs.getD (((l.getD k (0, 0)).1).toNat) mac0).scale))), (Yd.val (bptr C (0 + ((b.macs.getD (((l.getD k (0, 0)).1).toNat) mac0).scale).toNat * 2))), (Yd.val (Value.agg #[(Value.int .i64 (((d_3 b l e_7 k).getD (((b.macs.getD (((l.getD k (0, 0)).1).toNat) mac0).scale).toNat) (0, 0)).1)), (Value.int .i64 (((d_3 b l e_7 k).getD (((b.macs.getD (((l.getD k (0, 0)).1).toNat) mac0).scale).toNat) (0, 0)).2))])), (Yd.val (bptr L 1)), (Yd.val (Value.int .i64 ((l.getD k (0, 0)).2))), (Yd.val (bptr Aj 1)), (Yd.val (Value.int .i64 ((e_4 (b.macs.getD (((l.getD k (0, 0)).1).toNat) mac0)).2))), (Yd.val (Value.int .i64 (((l.getD k (0, 0)).2) - ((e_4 (b.macs.getD (((l.getD k (0, 0)).1).toNat) mac0)).2)))), (Yd.val (bptr L 1)), (Yd.val (Value.int .i64 ((l.getD k (0, 0)).2))), (Yd.val (bptr Aj 0)), (Yd.val (Value.int .i64 ((e_4 (b.macs.getD (((l.getD k (0, 0)).1).toNat) mac0)).1))), (Yd.val (Value.int .i64 (((l.getD k (0, 0)).2) - ((e_4 (b.macs.getD (((l.getD k (0, 0)).1).toNat) mac0)).1)))), (Yd.val (Value.agg #[(Value.int .i64 (((l.getD k (0, 0)).2) - ((e_4 (b.macs.getD (((l.getD k (0, 0)).1).toNat) mac0)).2))), (Value.int .i64 (((l.getD k (0, 0)).2) - ((e_4 (b.macs.getD (((l.getD k (0, 0)).1).toNat) mac0)).1)))])), (Yd.val (Value.agg #[(Value.int .i64 ((cutR (((d_3 b l e_7 k).getD (((b.macs.getD (((l.getD k (0, 0)).1).toNat) mac0).scale).toNat) (0, 0)).1, ((d_3 b l e_7 k).getD (((b.macs.getD (((l.getD k (0, 0)).1).toNat) mac0).scale).toNat) (0, 0)).2) (((l.getD k (0, 0)).2) - ((e_4 (b.macs.getD (((l.getD k (0, 0)).1).toNat) mac0)).2), ((l.getD k (0, 0)).2) - ((e_4 (b.macs.getD (((l.getD k (0, 0)).1).toNat) mac0)).1))).1)), (Value.int .i64 ((cutR (((d_3 b l e_7 k).getD (((b.macs.getD (((l.getD k (0, 0)).1).toNat) mac0).scale).toNat) (0, 0)).1, ((d_3 b l e_7 k).getD (((b.macs.getD (((l.getD k (0, 0)).1).toNat) mac0).scale).toNat) (0, 0)).2) (((l.getD k (0, 0)).2) - ((e_4 (b.macs.getD (((l.getD k (0, 0)).1).toNat) mac0)).2), ((l.getD k (0, 0)).2) - ((e_4 (b.macs.getD (((l.getD k (0, 0)).1).toNat) mac0)).1))).2))]))] (by decide +kernel) rfl rfl ?_ ?_
  ·skip
   refine dq (fun a w hA hS hd => a_4 rfl fd_103_0 (hA.ev rfl)) ?_
   refine dq (fun a w hA hS hd => a_3 rfl ty_3 (hq hd 0) (hS.bk 1 rfl) rfl) ?_
   refine dq (fun a w hA hS hd => a_4 rfl fd_103_0 (hA.ev rfl)) ?_
   refine dq (fun a w hA hS hd => a_3 rfl ty_3 (hq hd 2) (hS.bk 1 rfl) rfl) ?_
   refine dq (fun a w hA hS hd => o_6 rfl x_5 f_5 (hA.ev rfl) (i := ((b.macs.getD (((l.getD k (0, 0)).1).toNat) mac0).scale).toNat) ((hq hd 3).trans (j_1 (by omega))) (by omega)) ?_
   refine dq (fun a w hA hS hd => c_5 rfl f_5 (hq hd 4) (hS.bk 3 rfl) (l := [(Value.int .i64 (((d_3 b l e_7 k).getD (((b.macs.getD (((l.getD k (0, 0)).1).toNat) mac0).scale).toNat) (0, 0)).1)), (Value.int .i64 (((d_3 b l e_7 k).getD (((b.macs.getD (((l.getD k (0, 0)).1).toNat) mac0).scale).toNat) (0, 0)).2))]) (s_2 (xs := (d_3 b l e_7 k)) (i := ((b.macs.getD (((l.getD k (0, 0)).1).toNat) mac0).scale).toNat) (by omega)) rfl) ?_
   refine dq (fun a w hA hS hd => a_4 rfl fd_98_1 (hA.ev rfl)) ?_
   refine dq (fun a w hA hS hd => a_3 rfl ty_3 (hq hd 6) (hS.bk 2 rfl) rfl) ?_
   refine dq (fun a w hA hS hd => a_4 rfl p_2 (hA.ev rfl)) ?_
   refine dq (fun a w hA hS hd => a_3 rfl ty_3 (hq hd 8) (hS.bk 0 rfl) rfl) ?_
   refine dq (fun a w hA hS hd => i_4 rfl (hq hd 7) (hq hd 9) (by omega) (by omega)) ?_
   refine dq (fun a w hA hS hd => a_4 rfl fd_98_1 (hA.ev rfl)) ?_
   refine dq (fun a w hA hS hd => a_3 rfl ty_3 (hq hd 11) (hS.bk 2 rfl) rfl) ?_
   refine dq (fun a w hA hS hd => a_4 rfl p_1 (hA.ev rfl)) ?_
   refine dq (fun a w hA hS hd => a_3 rfl ty_3 (hq hd 13) (hS.bk 0 rfl) rfl) ?_
   refine dq (fun a w hA hS hd => i_4 rfl (hq hd 12) (hq hd 14) (by omega) (by omega)) ?_
   refine dq (fun a w hA hS hd => e_6 rfl (pv2 (hq hd 10) (hq hd 15)) (l_6 _ _)) ?_
   refine ⟨fun a w hA hS hd => by have e5 := hx hd 5; have DH := hx hd 16; exact d_6 rfl (dx (b_0 rfl en_87 (ev2 (c_9 e5) (c_9 DH)) (cut_ok _ _ _ _ _)) hS (fun _ => rfl)), ?_⟩
   trivial
  intro DG Dq BU Ax AT; clear BT Be
  have Al := BU.add (hz AT 1); clear BU
  have O := Al.add (hz AT 17); clear Al
  clear AT
  refine s1 O (o_6 rfl x_5 f_5 (O.ev rfl) (i := ((b.macs.getD (((l.getD k (0, 0)).1).toNat) mac0).scale).toNat) ((O.ev rfl).trans (j_1 (by omega))) (by omega)) fun B5 P => ?_; clear O DG
  refine s7 P (c_1 Ax rfl f_5 (P.ev rfl) (P.ev rfl) (i := 3) rfl (vs := [(Value.int .i64 ((cutR (((d_3 b l e_7 k).getD (((b.macs.getD (((l.getD k (0, 0)).1).toNat) mac0).scale).toNat) (0, 0)).1, ((d_3 b l e_7 k).getD (((b.macs.getD (((l.getD k (0, 0)).1).toNat) mac0).scale).toNat) (0, 0)).2) (((l.getD k (0, 0)).2) - ((e_4 (b.macs.getD (((l.getD k (0, 0)).1).toNat) mac0)).2), ((l.getD k (0, 0)).2) - ((e_4 (b.macs.getD (((l.getD k (0, 0)).1).toNat) mac0)).1))).1)), (Value.int .i64 ((cutR (((d_3 b l e_7 k).getD (((b.macs.getD (((l.getD k (0, 0)).1).toNat) mac0).scale).toNat) (0, 0)).1, ((d_3 b l e_7 k).getD (((b.macs.getD (((l.getD k (0, 0)).1).toNat) mac0).scale).toNat) (0, 0)).2) (((l.getD k (0, 0)).2) - ((e_4 (b.macs.getD (((l.getD k (0, 0)).1).toNat) mac0)).2), ((l.getD k (0, 0)).2) - ((e_4 (b.macs.getD (((l.getD k (0, 0)).1).toNat) mac0)).1))).2))]) rfl rfl rfl (by simp only [b_1, List.length_set, List.length_cons, List.length_nil]; omega)) ?_
  intro _ DV Ay e; have Z := Ay.n_8 (i := 3) rfl (cs' := (pairs ((d_3 b l e_7 k).set (((b.macs.getD (((l.getD k (0, 0)).1).toNat) mac0).scale).toNat) ((cutR (((d_3 b l e_7 k).getD (((b.macs.getD (((l.getD k (0, 0)).1).toNat) mac0).scale).toNat) (0, 0)).1, ((d_3 b l e_7 k).getD (((b.macs.getD (((l.getD k (0, 0)).1).toNat) mac0).scale).toNat) (0, 0)).2) (((l.getD k (0, 0)).2) - ((e_4 (b.macs.getD (((l.getD k (0, 0)).1).toNat) mac0)).2), ((l.getD k (0, 0)).2) - ((e_4 (b.macs.getD (((l.getD k (0, 0)).1).toNat) mac0)).1))).1, (cutR (((d_3 b l e_7 k).getD (((b.macs.getD (((l.getD k (0, 0)).1).toNat) mac0).scale).toNat) (0, 0)).1, ((d_3 b l e_7 k).getD (((b.macs.getD (((l.getD k (0, 0)).1).toNat) mac0).scale).toNat) (0, 0)).2) (((l.getD k (0, 0)).2) - ((e_4 (b.macs.getD (((l.getD k (0, 0)).1).toNat) mac0)).2), ((l.getD k (0, 0)).2) - ((e_4 (b.macs.getD (((l.getD k (0, 0)).1).toNat) mac0)).1))).2)))) (pairs_setZ _ _ _ _); clear Ay P Ax
  refine n4 ?_
  refine s1 e (a_4 rfl fd_103_0 (e.ev rfl)) fun B6 f => ?_; clear e B5
  refine s1 f (a_3 rfl ty_3 (f.ev rfl) (Z.bk 1 rfl) rfl) fun B7 Q => ?_; clear f B6
  refine s1 Q (o_6 rfl x_5 f_5 (Q.ev rfl) (i := ((b.macs.getD (((l.getD k (0, 0)).1).toNat) mac0).scale).toNat) ((Q.ev rfl).trans (j_1 (by omega))) (by omega)) fun B8 h => ?_; clear Q B7
  refine s1 h (c_5 rfl f_5 (h.ev rfl) (Z.bk 3 rfl) (l := [(Value.int .i64 ((((d_3 b l e_7 k).set (((b.macs.getD (((l.getD k (0, 0)).1).toNat) mac0).scale).toNat) ((cutR (((d_3 b l e_7 k).getD (((b.macs.getD (((l.getD k (0, 0)).1).toNat) mac0).scale).toNat) (0, 0)).1, ((d_3 b l e_7 k).getD (((b.macs.getD (((l.getD k (0, 0)).1).toNat) mac0).scale).toNat) (0, 0)).2) (((l.getD k (0, 0)).2) - ((e_4 (b.macs.getD (((l.getD k (0, 0)).1).toNat) mac0)).2), ((l.getD k (0, 0)).2) - ((e_4 (b.macs.getD (((l.getD k (0, 0)).1).toNat) mac0)).1))).1, (cutR (((d_3 b l e_7 k).getD (((b.macs.getD (((l.getD k (0, 0)).1).toNat) mac0).scale).toNat) (0, 0)).1, ((d_3 b l e_7 k).getD (((b.macs.getD (((l.getD k (0, 0)).1).toNat) mac0).scale).toNat) (0, 0)).2) (((l.getD k (0, 0)).2) - ((e_4 (b.macs.getD (((l.getD k (0, 0)).1).toNat) mac0)).2), ((l.getD k (0, 0)).2) - ((e_4 (b.macs.getD (((l.getD k (0, 0)).1).toNat) mac0)).1))).2)).getD (((b.macs.getD (((l.getD k (0, 0)).1).toNat) mac0).scale).toNat) (0, 0)).1)), (Value.int .i64 ((((d_3 b l e_7 k).set (((b.macs.getD (((l.getD k (0, 0)).1).toNat) mac0).scale).toNat) ((cutR (((d_3 b l e_7 k).getD (((b.macs.getD (((l.getD k (0, 0)).1).toNat) mac0).scale).toNat) (0, 0)).1, ((d_3 b l e_7 k).getD (((b.macs.getD (((l.getD k (0, 0)).1).toNat) mac0).scale).toNat) (0, 0)).2) (((l.getD k (0, 0)).2) - ((e_4 (b.macs.getD (((l.getD k (0, 0)).1).toNat) mac0)).2), ((l.getD k (0, 0)).2) - ((e_4 (b.macs.getD (((l.getD k (0, 0)).1).toNat) mac0)).1))).1, (cutR (((d_3 b l e_7 k).getD (((b.macs.getD (((l.getD k (0, 0)).1).toNat) mac0).scale).toNat) (0, 0)).1, ((d_3 b l e_7 k).getD (((b.macs.getD (((l.getD k (0, 0)).1).toNat) mac0).scale).toNat) (0, 0)).2) (((l.getD k (0, 0)).2) - ((e_4 (b.macs.getD (((l.getD k (0, 0)).1).toNat) mac0)).2), ((l.getD k (0, 0)).2) - ((e_4 (b.macs.getD (((l.getD k (0, 0)).1).toNat) mac0)).1))).2)).getD (((b.macs.getD (((l.getD k (0, 0)).1).toNat) mac0).scale).toNat) (0, 0)).2))]) (s_2 (xs := ((d_3 b l e_7 k).set (((b.macs.getD (((l.getD k (0, 0)).1).toNat) mac0).scale).toNat) ((cutR (((d_3 b l e_7 k).getD (((b.macs.getD (((l.getD k (0, 0)).1).toNat) mac0).scale).toNat) (0, 0)).1, ((d_3 b l e_7 k).getD (((b.macs.getD (((l.getD k (0, 0)).1).toNat) mac0).scale).toNat) (0, 0)).2) (((l.getD k (0, 0)).2) - ((e_4 (b.macs.getD (((l.getD k (0, 0)).1).toNat) mac0)).2), ((l.getD k (0, 0)).2) - ((e_4 (b.macs.getD (((l.getD k (0, 0)).1).toNat) mac0)).1))).1, (cutR (((d_3 b l e_7 k).getD (((b.macs.getD (((l.getD k (0, 0)).1).toNat) mac0).scale).toNat) (0, 0)).1, ((d_3 b l e_7 k).getD (((b.macs.getD (((l.getD k (0, 0)).1).toNat) mac0).scale).toNat) (0, 0)).2) (((l.getD k (0, 0)).2) - ((e_4 (b.macs.getD (((l.getD k (0, 0)).1).toNat) mac0)).2), ((l.getD k (0, 0)).2) - ((e_4 (b.macs.getD (((l.getD k (0, 0)).1).toNat) mac0)).1))).2))) (i := ((b.macs.getD (((l.getD k (0, 0)).1).toNat) mac0).scale).toNat) (by simp only [List.length_set]; omega)) rfl) fun B9 j => ?_; clear h B8
  refine s2 j (b_0 rfl en_68 (ev1 (j.ev rfl)) (empty_ok _ _ _)) ?_
  rintro BC _ DW ⟨rfl, Av⟩ E; have M := Z.step Av; clear Av j Z B9
  refine n1 ?_
  by_cases BA : ((((d_3 b l e_7 k).set (((b.macs.getD (((l.getD k (0, 0)).1).toNat) mac0).scale).toNat) ((cutR (((d_3 b l e_7 k).getD (((b.macs.getD (((l.getD k (0, 0)).1).toNat) mac0).scale).toNat) (0, 0)).1, ((d_3 b l e_7 k).getD (((b.macs.getD (((l.getD k (0, 0)).1).toNat) mac0).scale).toNat) (0, 0)).2) (((l.getD k (0, 0)).2) - ((e_4 (b.macs.getD (((l.getD k (0, 0)).1).toNat) mac0)).2), ((l.getD k (0, 0)).2) - ((e_4 (b.macs.getD (((l.getD k (0, 0)).1).toNat) mac0)).1))).1, (cutR (((d_3 b l e_7 k).getD (((b.macs.getD (((l.getD k (0, 0)).1).toNat) mac0).scale).toNat) (0, 0)).1, ((d_3 b l e_7 k).getD (((b.macs.getD (((l.getD k (0, 0)).1).toNat) mac0).scale).toNat) (0, 0)).2) (((l.getD k (0, 0)).2) - ((e_4 (b.macs.getD (((l.getD k (0, 0)).1).toNat) mac0)).2), ((l.getD k (0, 0)).2) - ((e_4 (b.macs.getD (((l.getD k (0, 0)).1).toNat) mac0)).1))).2)).getD (((b.macs.getD (((l.getD k (0, 0)).1).toNat) mac0).scale).toNat) (0, 0)).2) < ((((d_3 b l e_7 k).set (((b.macs.getD (((l.getD k (0, 0)).1).toNat) mac0).scale).toNat) ((cutR (((d_3 b l e_7 k).getD (((b.macs.getD (((l.getD k (0, 0)).1).toNat) mac0).scale).toNat) (0, 0)).1, ((d_3 b l e_7 k).getD (((b.macs.getD (((l.getD k (0, 0)).1).toNat) mac0).scale).toNat) (0, 0)).2) (((l.getD k (0, 0)).2) - ((e_4 (b.macs.getD (((l.getD k (0, 0)).1).toNat) mac0)).2), ((l.getD k (0, 0)).2) - ((e_4 (b.macs.getD (((l.getD k (0, 0)).1).toNat) mac0)).1))).1, (cutR (((d_3 b l e_7 k).getD (((b.macs.getD (((l.getD k (0, 0)).1).toNat) mac0).scale).toNat) (0, 0)).1, ((d_3 b l e_7 k).getD (((b.macs.getD (((l.getD k (0, 0)).1).toNat) mac0).scale).toNat) (0, 0)).2) (((l.getD k (0, 0)).2) - ((e_4 (b.macs.getD (((l.getD k (0, 0)).1).toNat) mac0)).2), ((l.getD k (0, 0)).2) - ((e_4 (b.macs.getD (((l.getD k (0, 0)).1).toNat) mac0)).1))).2)).getD (((b.macs.getD (((l.getD k (0, 0)).1).toNat) mac0).scale).toNat) (0, 0)).1)
  ·skip
   rw [decide_eq_true BA] at E
   refine c_7 E rfl ?_
   refine b_9 ?_
   have m := E.as [(4, (bptr C 0))] rfl; clear E
   refine a_5 ?_
   refine s1 m (c_5 rfl l_2 (m.ev rfl) (M.bk 3 rfl) (l := (pairs ((d_3 b l e_7 k).set (((b.macs.getD (((l.getD k (0, 0)).1).toNat) mac0).scale).toNat) ((cutR (((d_3 b l e_7 k).getD (((b.macs.getD (((l.getD k (0, 0)).1).toNat) mac0).scale).toNat) (0, 0)).1, ((d_3 b l e_7 k).getD (((b.macs.getD (((l.getD k (0, 0)).1).toNat) mac0).scale).toNat) (0, 0)).2) (((l.getD k (0, 0)).2) - ((e_4 (b.macs.getD (((l.getD k (0, 0)).1).toNat) mac0)).2), ((l.getD k (0, 0)).2) - ((e_4 (b.macs.getD (((l.getD k (0, 0)).1).toNat) mac0)).1))).1, (cutR (((d_3 b l e_7 k).getD (((b.macs.getD (((l.getD k (0, 0)).1).toNat) mac0).scale).toNat) (0, 0)).1, ((d_3 b l e_7 k).getD (((b.macs.getD (((l.getD k (0, 0)).1).toNat) mac0).scale).toNat) (0, 0)).2) (((l.getD k (0, 0)).2) - ((e_4 (b.macs.getD (((l.getD k (0, 0)).1).toNat) mac0)).2), ((l.getD k (0, 0)).2) - ((e_4 (b.macs.getD (((l.getD k (0, 0)).1).toNat) mac0)).1))).2)))) (g_2 _ _ (show (pairs ((d_3 b l e_7 k).set (((b.macs.getD (((l.getD k (0, 0)).1).toNat) mac0).scale).toNat) ((cutR (((d_3 b l e_7 k).getD (((b.macs.getD (((l.getD k (0, 0)).1).toNat) mac0).scale).toNat) (0, 0)).1, ((d_3 b l e_7 k).getD (((b.macs.getD (((l.getD k (0, 0)).1).toNat) mac0).scale).toNat) (0, 0)).2) (((l.getD k (0, 0)).2) - ((e_4 (b.macs.getD (((l.getD k (0, 0)).1).toNat) mac0)).2), ((l.getD k (0, 0)).2) - ((e_4 (b.macs.getD (((l.getD k (0, 0)).1).toNat) mac0)).1))).1, (cutR (((d_3 b l e_7 k).getD (((b.macs.getD (((l.getD k (0, 0)).1).toNat) mac0).scale).toNat) (0, 0)).1, ((d_3 b l e_7 k).getD (((b.macs.getD (((l.getD k (0, 0)).1).toNat) mac0).scale).toNat) (0, 0)).2) (((l.getD k (0, 0)).2) - ((e_4 (b.macs.getD (((l.getD k (0, 0)).1).toNat) mac0)).2), ((l.getD k (0, 0)).2) - ((e_4 (b.macs.getD (((l.getD k (0, 0)).1).toNat) mac0)).1))).2))).length = 8 from by simp only [b_1, List.length_set]; omega)) (show (pairs ((d_3 b l e_7 k).set (((b.macs.getD (((l.getD k (0, 0)).1).toNat) mac0).scale).toNat) ((cutR (((d_3 b l e_7 k).getD (((b.macs.getD (((l.getD k (0, 0)).1).toNat) mac0).scale).toNat) (0, 0)).1, ((d_3 b l e_7 k).getD (((b.macs.getD (((l.getD k (0, 0)).1).toNat) mac0).scale).toNat) (0, 0)).2) (((l.getD k (0, 0)).2) - ((e_4 (b.macs.getD (((l.getD k (0, 0)).1).toNat) mac0)).2), ((l.getD k (0, 0)).2) - ((e_4 (b.macs.getD (((l.getD k (0, 0)).1).toNat) mac0)).1))).1, (cutR (((d_3 b l e_7 k).getD (((b.macs.getD (((l.getD k (0, 0)).1).toNat) mac0).scale).toNat) (0, 0)).1, ((d_3 b l e_7 k).getD (((b.macs.getD (((l.getD k (0, 0)).1).toNat) mac0).scale).toNat) (0, 0)).2) (((l.getD k (0, 0)).2) - ((e_4 (b.macs.getD (((l.getD k (0, 0)).1).toNat) mac0)).2), ((l.getD k (0, 0)).2) - ((e_4 (b.macs.getD (((l.getD k (0, 0)).1).toNat) mac0)).1))).2))).length = 8 from by simp only [b_1, List.length_set]; omega)) fun CA R => ?_; clear m BC
   refine s7 R (c_1 M rfl l_2 (R.ev rfl) (R.ev rfl) (i := 3) rfl (vs := (pairs ((d_3 b l e_7 k).set (((b.macs.getD (((l.getD k (0, 0)).1).toNat) mac0).scale).toNat) ((cutR (((d_3 b l e_7 k).getD (((b.macs.getD (((l.getD k (0, 0)).1).toNat) mac0).scale).toNat) (0, 0)).1, ((d_3 b l e_7 k).getD (((b.macs.getD (((l.getD k (0, 0)).1).toNat) mac0).scale).toNat) (0, 0)).2) (((l.getD k (0, 0)).2) - ((e_4 (b.macs.getD (((l.getD k (0, 0)).1).toNat) mac0)).2), ((l.getD k (0, 0)).2) - ((e_4 (b.macs.getD (((l.getD k (0, 0)).1).toNat) mac0)).1))).1, (cutR (((d_3 b l e_7 k).getD (((b.macs.getD (((l.getD k (0, 0)).1).toNat) mac0).scale).toNat) (0, 0)).1, ((d_3 b l e_7 k).getD (((b.macs.getD (((l.getD k (0, 0)).1).toNat) mac0).scale).toNat) (0, 0)).2) (((l.getD k (0, 0)).2) - ((e_4 (b.macs.getD (((l.getD k (0, 0)).1).toNat) mac0)).2), ((l.getD k (0, 0)).2) - ((e_4 (b.macs.getD (((l.getD k (0, 0)).1).toNat) mac0)).1))).2)))) rfl (show (pairs ((d_3 b l e_7 k).set (((b.macs.getD (((l.getD k (0, 0)).1).toNat) mac0).scale).toNat) ((cutR (((d_3 b l e_7 k).getD (((b.macs.getD (((l.getD k (0, 0)).1).toNat) mac0).scale).toNat) (0, 0)).1, ((d_3 b l e_7 k).getD (((b.macs.getD (((l.getD k (0, 0)).1).toNat) mac0).scale).toNat) (0, 0)).2) (((l.getD k (0, 0)).2) - ((e_4 (b.macs.getD (((l.getD k (0, 0)).1).toNat) mac0)).2), ((l.getD k (0, 0)).2) - ((e_4 (b.macs.getD (((l.getD k (0, 0)).1).toNat) mac0)).1))).1, (cutR (((d_3 b l e_7 k).getD (((b.macs.getD (((l.getD k (0, 0)).1).toNat) mac0).scale).toNat) (0, 0)).1, ((d_3 b l e_7 k).getD (((b.macs.getD (((l.getD k (0, 0)).1).toNat) mac0).scale).toNat) (0, 0)).2) (((l.getD k (0, 0)).2) - ((e_4 (b.macs.getD (((l.getD k (0, 0)).1).toNat) mac0)).2), ((l.getD k (0, 0)).2) - ((e_4 (b.macs.getD (((l.getD k (0, 0)).1).toNat) mac0)).1))).2))).length = 8 from by simp only [b_1, List.length_set]; omega) (m_5 _) (by simp only [b_1, List.length_set, List.length_cons, List.length_nil]; omega)) ?_
   intro _ DX Az Am; have A0 := Az.n_8 (i := 3) rfl (cs' := (pairs ((d_3 b l e_7 k).set (((b.macs.getD (((l.getD k (0, 0)).1).toNat) mac0).scale).toNat) ((cutR (((d_3 b l e_7 k).getD (((b.macs.getD (((l.getD k (0, 0)).1).toNat) mac0).scale).toNat) (0, 0)).1, ((d_3 b l e_7 k).getD (((b.macs.getD (((l.getD k (0, 0)).1).toNat) mac0).scale).toNat) (0, 0)).2) (((l.getD k (0, 0)).2) - ((e_4 (b.macs.getD (((l.getD k (0, 0)).1).toNat) mac0)).2), ((l.getD k (0, 0)).2) - ((e_4 (b.macs.getD (((l.getD k (0, 0)).1).toNat) mac0)).1))).1, (cutR (((d_3 b l e_7 k).getD (((b.macs.getD (((l.getD k (0, 0)).1).toNat) mac0).scale).toNat) (0, 0)).1, ((d_3 b l e_7 k).getD (((b.macs.getD (((l.getD k (0, 0)).1).toNat) mac0).scale).toNat) (0, 0)).2) (((l.getD k (0, 0)).2) - ((e_4 (b.macs.getD (((l.getD k (0, 0)).1).toNat) mac0)).2), ((l.getD k (0, 0)).2) - ((e_4 (b.macs.getD (((l.getD k (0, 0)).1).toNat) mac0)).1))).2)))) (j_8 _ _ (by first | (simp only [b_1, List.length_set, List.length_cons, List.length_nil]; done) | (simp only [b_1, List.length_set, List.length_cons, List.length_nil]; omega))); clear Az R M
   refine s1 Am (a_0 rfl (evc _ _)) fun DN An => ?_; clear Am CA
   refine n1 ?_
   refine c_4 ?_
   refine d_1 ?_
   refine a_7 ?_
   refine a_7 ?_
   refine d_1 ?_
   refine a_7 ?_
   refine a_8 An (.inl rfl) (e_2 An rfl (.cellA rfl l_2 (A0.bk 3 rfl) (l := (pairs ((d_3 b l e_7 k).set (((b.macs.getD (((l.getD k (0, 0)).1).toNat) mac0).scale).toNat) ((cutR (((d_3 b l e_7 k).getD (((b.macs.getD (((l.getD k (0, 0)).1).toNat) mac0).scale).toNat) (0, 0)).1, ((d_3 b l e_7 k).getD (((b.macs.getD (((l.getD k (0, 0)).1).toNat) mac0).scale).toNat) (0, 0)).2) (((l.getD k (0, 0)).2) - ((e_4 (b.macs.getD (((l.getD k (0, 0)).1).toNat) mac0)).2), ((l.getD k (0, 0)).2) - ((e_4 (b.macs.getD (((l.getD k (0, 0)).1).toNat) mac0)).1))).1, (cutR (((d_3 b l e_7 k).getD (((b.macs.getD (((l.getD k (0, 0)).1).toNat) mac0).scale).toNat) (0, 0)).1, ((d_3 b l e_7 k).getD (((b.macs.getD (((l.getD k (0, 0)).1).toNat) mac0).scale).toNat) (0, 0)).2) (((l.getD k (0, 0)).2) - ((e_4 (b.macs.getD (((l.getD k (0, 0)).1).toNat) mac0)).2), ((l.getD k (0, 0)).2) - ((e_4 (b.macs.getD (((l.getD k (0, 0)).1).toNat) mac0)).1))).2)))) (g_2 _ _ (show (pairs ((d_3 b l e_7 k).set (((b.macs.getD (((l.getD k (0, 0)).1).toNat) mac0).scale).toNat) ((cutR (((d_3 b l e_7 k).getD (((b.macs.getD (((l.getD k (0, 0)).1).toNat) mac0).scale).toNat) (0, 0)).1, ((d_3 b l e_7 k).getD (((b.macs.getD (((l.getD k (0, 0)).1).toNat) mac0).scale).toNat) (0, 0)).2) (((l.getD k (0, 0)).2) - ((e_4 (b.macs.getD (((l.getD k (0, 0)).1).toNat) mac0)).2), ((l.getD k (0, 0)).2) - ((e_4 (b.macs.getD (((l.getD k (0, 0)).1).toNat) mac0)).1))).1, (cutR (((d_3 b l e_7 k).getD (((b.macs.getD (((l.getD k (0, 0)).1).toNat) mac0).scale).toNat) (0, 0)).1, ((d_3 b l e_7 k).getD (((b.macs.getD (((l.getD k (0, 0)).1).toNat) mac0).scale).toNat) (0, 0)).2) (((l.getD k (0, 0)).2) - ((e_4 (b.macs.getD (((l.getD k (0, 0)).1).toNat) mac0)).2), ((l.getD k (0, 0)).2) - ((e_4 (b.macs.getD (((l.getD k (0, 0)).1).toNat) mac0)).1))).2))).length = 8 from by simp only [b_1, List.length_set]; omega)) (show (pairs ((d_3 b l e_7 k).set (((b.macs.getD (((l.getD k (0, 0)).1).toNat) mac0).scale).toNat) ((cutR (((d_3 b l e_7 k).getD (((b.macs.getD (((l.getD k (0, 0)).1).toNat) mac0).scale).toNat) (0, 0)).1, ((d_3 b l e_7 k).getD (((b.macs.getD (((l.getD k (0, 0)).1).toNat) mac0).scale).toNat) (0, 0)).2) (((l.getD k (0, 0)).2) - ((e_4 (b.macs.getD (((l.getD k (0, 0)).1).toNat) mac0)).2), ((l.getD k (0, 0)).2) - ((e_4 (b.macs.getD (((l.getD k (0, 0)).1).toNat) mac0)).1))).1, (cutR (((d_3 b l e_7 k).getD (((b.macs.getD (((l.getD k (0, 0)).1).toNat) mac0).scale).toNat) (0, 0)).1, ((d_3 b l e_7 k).getD (((b.macs.getD (((l.getD k (0, 0)).1).toNat) mac0).scale).toNat) (0, 0)).2) (((l.getD k (0, 0)).2) - ((e_4 (b.macs.getD (((l.getD k (0, 0)).1).toNat) mac0)).2), ((l.getD k (0, 0)).2) - ((e_4 (b.macs.getD (((l.getD k (0, 0)).1).toNat) mac0)).1))).2))).length = 8 from by simp only [b_1, List.length_set]; omega)) (.tmp rfl)) ?_
   have hz := start_empty hb hl (k := k) (by omega) (by assumption)
   exact ⟨_, hsl1, by rw [hz]; rfl, fun t h_ => by rw [hz] at h_; (cases h_), A0.ext⟩
  skip
  rw [decide_eq_false BA] at E
  refine b_8 E rfl ?_
  refine d_2 ?_
  refine g_9 ?_
  refine b_2 ?_
  have n := E.as [(22, (Value.int .i64 (k : Int))), (21, (Value.int .i64 (l.length : Int))), (20, xl), (4, (bptr C 0)), (0, (bptr bx 0))] rfl; clear E
  refine a_5 ?_
  refine s1 n (g_0 rfl (n.ev rfl) (evc _ _) (by omega) (by omega)) fun CB o => ?_; clear n BC
  refine s1 o (a_1 rfl (o.ev rfl)) fun DO Bt => ?_; clear o CB
  refine f_0 ?_
  have Bv := M.gkp (gpc 3 (gpc 4 (gpc 5 (gpc 6 (gpc 7 (gpc 8 gpn)))))); clear M
  exact b_2 ⟨k + 1, ⟨Bt.as _ rfl, Bv, by omega, (start_next hb hl (by omega) hfu (by assumption))⟩, by omega⟩
 skip
 rw [decide_eq_false Bg] at I
 refine b_8 I rfl ?_
 refine h_0 ?_
 refine b_5 ?_
 refine b_5 ?_
 refine f_8 ?_
 refine b_2 ?_
 refine d_0 ?_
 have Ao := I.as [(4, (bptr C 0)), (0, (bptr bx 0))] rfl; clear I
 refine h_1 (G := Nat) (fun (g : Nat) a_ w_ => ∃ x_ : List (Int × Int), Fr 79 [] [(4, (bptr C 0)), (0, (bptr bx 0))] a_ ∧ Sep NoB w w_ [(blk C 120 (pairs x_)), (rob bx 146 [(Value.int .i64 b.scales), vt, vm, (Value.map (some bm))]), (mapX false bm es ck es.size 106 5 (bN b.tabs b.tabs.length) (bC lr lb b.tabs b.tabs.length)), (b_6 false vt lr lb b.tabs), (c_0 false vm lk b.macs), (sl xl 2 l.length (pairs l))] ∧ (Go.Hard.Loop b.scales.toNat b.tabs (u_1 b l) x_) ∧ (m_9 b l = q_7 b.scales.toNat (g_1 b.scales.toNat b.tabs) g x_) ∧ (width x_ < g)) (fun g => g) 400001 ⟨(d_3 b l e_7 k), Ao.as _ rfl, N, (by have hkl : k = l.length := (by omega); subst hkl; exact loop_start hb hl hfu), (by have hkl : k = l.length := (by omega); subst hkl; exact spans_go hfu), (by have hkl : k = l.length := (by omega); subst hkl; exact Nat.lt_succ_of_le (start_width hb hl))⟩ ?_
 clear Ao N By
 rintro g CC DY ⟨x_, q, K, hlp, hsp, hwd⟩
 have Dj : x_.length = 4 := hlp.len; have B4 : (g_8 (g_1 b.scales.toNat b.tabs) x_).1.length = 4 := (hlp.pass hb.four hb.orderV).1
 refine d_0 ?_
 refine m2 ?_
 refine s1 q (a_1 rfl (q.ev rfl)) fun CD r => ?_; clear q CC
 refine s1 r (c_5 rfl l_2 (r.ev rfl) (K.bk 0 rfl) (l := (pairs x_)) (g_2 _ _ (show (pairs x_).length = 8 from by simp only [b_1, List.length_set]; omega)) (show (pairs x_).length = 8 from by simp only [b_1, List.length_set]; omega)) fun CE S => ?_; clear r CD
 refine s2 S (b_0 rfl en_88 (ev2 (S.ev rfl) (S.ev rfl)) (cutb_ok b vt vm lr lb lk _ (a_6 (K.ok 3 _ rfl)) (c_3 (K.ok 4 _ rfl)) hth bx bm _ _ hMO (K.rk 1 rfl) (K.ok 2 _ rfl) hb x_ (by omega))) ?_
 rintro CF _ DZ ⟨rfl, Aw⟩ s; have A1 := K.step Aw; clear Aw S K CE
 refine s1 s (a_1 rfl (s.ev rfl)) fun CG u => ?_; clear s CF
 refine s1 u (c_6 rfl (u.ev rfl) rfl) fun CH y => ?_; clear u CG
 refine s1 y (c_6 rfl (y.ev rfl) rfl) fun CI Ap => ?_; clear y CH
 refine s2 Ap (e_3 A1 rfl ze_120 (cs := [(Value.int .i64 0), (Value.int .i64 0), (Value.int .i64 0), (Value.int .i64 0), (Value.int .i64 0), (Value.int .i64 0), (Value.int .i64 0), (Value.int .i64 0)]) rfl) ?_
 rintro CJ _ Da ⟨d, rfl, A2⟩ T; clear Ap A1 CI
 refine s7 T (c_1 A2 rfl l_2 (T.ev rfl) (T.ev rfl) (i := 0) rfl (vs := (pairs ((g_8 (g_1 b.scales.toNat b.tabs) x_).1))) rfl (show (pairs ((g_8 (g_1 b.scales.toNat b.tabs) x_).1)).length = 8 from by simp only [b_1, List.length_set]; omega) (m_5 _) (by decide)) ?_
 intro _ Db A3 z; have B := A3.n_8 (i := 0) rfl (cs' := (pairs ((g_8 (g_1 b.scales.toNat b.tabs) x_).1))) (j_8 _ _ (Eq.symm (show (pairs ((g_8 (g_1 b.scales.toNat b.tabs) x_).1)).length = 8 from by simp only [b_1, List.length_set]; omega))); clear A3 T A2
 refine s1 z (a_0 rfl (z.ev rfl)) fun CK Aq => ?_; clear z CJ
 refine n2 ?_
 refine b_9 ?_
 have AA := Aq.as [(12, (Value.bool (aa_8 b.scales.toNat (g_8 (g_1 b.scales.toNat b.tabs) x_).1))), (11, (bptr d 0)), (4, (bptr C 0)), (0, (bptr bx 0))] rfl; clear Aq
 refine a_5 ?_
 refine s1 AA (a_1 rfl (AA.ev rfl)) fun CL AB => ?_; clear AA CK
 refine s1 AB (f_7 rfl (AB.ev rfl)) fun CM AC => ?_; clear AB CL
 refine s1 AC (a_1 rfl (AC.ev rfl)) fun BD J => ?_; clear AC CM
 rcases Bool.eq_false_or_eq_true ((aa_8 b.scales.toNat (g_8 (g_1 b.scales.toNat b.tabs) x_).1)) with AV | AV
 ·skip
  rw [AV] at J
  refine s5 J (c_5 rfl l_2 (J.ev rfl) (B.bk 0 rfl) (l := (pairs ((g_8 (g_1 b.scales.toNat b.tabs) x_).1))) (g_2 _ _ (show (pairs ((g_8 (g_1 b.scales.toNat b.tabs) x_).1)).length = 8 from by simp only [b_1, List.length_set]; omega)) (show (pairs ((g_8 (g_1 b.scales.toNat b.tabs) x_).1)).length = 8 from by simp only [b_1, List.length_set]; omega)) fun CN AD => ?_; clear J BD
  refine s5 AD (c_5 rfl l_2 (AD.ev rfl) (B.bk 1 rfl) (l := (pairs x_)) (g_2 _ _ (show (pairs x_).length = 8 from by simp only [b_1, List.length_set]; omega)) (show (pairs x_).length = 8 from by simp only [b_1, List.length_set]; omega)) fun CO U => ?_; clear AD CN
  refine s5 U (op_eqlAP ar_120 tw_30 f_5 gt_120 rfl (U.ev rfl) (U.ev rfl) (by omega) (by omega)) fun CP V => ?_; clear U CO
  refine s1 V (d_8 rfl (V.ev rfl) (V.ev rfl)) fun BE F => ?_; clear V CP
  refine n1 ?_
  by_cases BB : (g_8 (g_1 b.scales.toNat b.tabs) x_).1 = x_
  ·skip
   rw [decide_eq_true BB] at F
   refine c_7 F rfl ?_
   refine b_9 ?_
   have AE := F.as [(12, (Value.bool true)), (11, (bptr d 0)), (4, (bptr C 0))] rfl; clear F
   refine a_5 ?_
   refine s1 AE (c_5 rfl l_2 (AE.ev rfl) (B.bk 0 rfl) (l := (pairs ((g_8 (g_1 b.scales.toNat b.tabs) x_).1))) (g_2 _ _ (show (pairs ((g_8 (g_1 b.scales.toNat b.tabs) x_).1)).length = 8 from by simp only [b_1, List.length_set]; omega)) (show (pairs ((g_8 (g_1 b.scales.toNat b.tabs) x_).1)).length = 8 from by simp only [b_1, List.length_set]; omega)) fun CQ AF => ?_; clear AE BE
   refine s1 AF (a_1 rfl (AF.ev rfl)) fun CR W => ?_; clear AF CQ
   refine s7 W (c_1 B rfl l_2 (W.ev rfl) (W.ev rfl) (i := 1) rfl (vs := (pairs ((g_8 (g_1 b.scales.toNat b.tabs) x_).1))) rfl (show (pairs ((g_8 (g_1 b.scales.toNat b.tabs) x_).1)).length = 8 from by simp only [b_1, List.length_set]; omega) (m_5 _) (by simp only [b_1, List.length_set, List.length_cons, List.length_nil]; omega)) ?_
   intro _ Dc A4 AG; have A5 := A4.n_8 (i := 1) rfl (cs' := (pairs ((g_8 (g_1 b.scales.toNat b.tabs) x_).1))) (j_8 _ _ (by first | (simp only [b_1, List.length_set, List.length_cons, List.length_nil]; done) | (simp only [b_1, List.length_set, List.length_cons, List.length_nil]; omega))); clear A4 W B
   refine s1 AG (a_0 rfl (AG.ev rfl)) fun DP Ar => ?_; clear AG CR
   refine n1 ?_
   refine c_4 ?_
   refine a_7 ?_
   refine d_1 ?_
   refine a_7 ?_
   refine d_1 ?_
   refine a_8 Ar (.inl rfl) (e_2 Ar rfl (.cellA rfl l_2 (A5.bk 1 rfl) (l := (pairs ((g_8 (g_1 b.scales.toNat b.tabs) x_).1))) (g_2 _ _ (show (pairs ((g_8 (g_1 b.scales.toNat b.tabs) x_).1)).length = 8 from by simp only [b_1, List.length_set]; omega)) (show (pairs ((g_8 (g_1 b.scales.toNat b.tabs) x_).1)).length = 8 from by simp only [b_1, List.length_set]; omega)) (.tmp rfl)) ?_
   have hz := hsp.trans (k_done (by omega) (by assumption) (by assumption))
   exact ⟨_, B4, by rw [hz]; rfl, fun t h_ => by rw [hz] at h_; rw [← Option.some.inj h_]; congr 1, A5.ext⟩
  skip
  rw [decide_eq_false BB] at F
  refine b_8 F rfl ?_
  refine d_2 ?_
  refine b_2 ?_
  have AH := F.as [(11, (bptr d 0)), (4, (bptr C 0)), (0, (bptr bx 0))] rfl; clear F
  refine a_5 ?_
  refine s1 AH (c_5 rfl l_2 (AH.ev rfl) (B.bk 0 rfl) (l := (pairs ((g_8 (g_1 b.scales.toNat b.tabs) x_).1))) (g_2 _ _ (show (pairs ((g_8 (g_1 b.scales.toNat b.tabs) x_).1)).length = 8 from by simp only [b_1, List.length_set]; omega)) (show (pairs ((g_8 (g_1 b.scales.toNat b.tabs) x_).1)).length = 8 from by simp only [b_1, List.length_set]; omega)) fun DQ X => ?_; clear AH BE
  refine s7 X (c_1 B rfl l_2 (X.ev rfl) (X.ev rfl) (i := 1) rfl (vs := (pairs ((g_8 (g_1 b.scales.toNat b.tabs) x_).1))) rfl (show (pairs ((g_8 (g_1 b.scales.toNat b.tabs) x_).1)).length = 8 from by simp only [b_1, List.length_set]; omega) (m_5 _) (by simp only [b_1, List.length_set, List.length_cons, List.length_nil]; omega)) ?_
  intro _ Dd A6 Bu; have A7 := A6.n_8 (i := 1) rfl (cs' := (pairs ((g_8 (g_1 b.scales.toNat b.tabs) x_).1))) (j_8 _ _ (by first | (simp only [b_1, List.length_set, List.length_cons, List.length_nil]; done) | (simp only [b_1, List.length_set, List.length_cons, List.length_nil]; omega))); clear A6 X B
  refine f_0 ?_
  refine g_9 ?_
  have Bw := A7.gkp (gpc 1 (gpc 2 (gpc 3 (gpc 4 (gpc 5 (gpc 6 gpn)))))); clear A7
  exact b_2 ⟨(g - 1), ⟨(g_8 (g_1 b.scales.toNat b.tabs) x_).1, Bu.as _ rfl, Bw, (hlp.next hb.four hb.orderV (r_3.1 (by assumption)) (by assumption)).1, (hsp.trans (k_next (by omega) (by assumption) (by assumption))), (by have := (hlp.next hb.four hb.orderV (r_3.1 (by assumption)) (by assumption)).2; omega)⟩, by omega⟩
 skip
 rw [AV] at J
 refine s3 J fun CS As => ?_; clear J BD
 refine s3 As fun CT At => ?_; clear As CS
 refine s3 At fun CU AI => ?_; clear At CT
 refine s1 AI (b_4 rfl (AI.ev rfl) (evc _ _)) fun CV AJ => ?_; clear AI CU
 refine n1 ?_
 refine c_7 AJ rfl ?_
 refine b_9 ?_
 have AK := AJ.as [(12, (Value.bool false)), (11, (bptr d 0)), (4, (bptr C 0))] rfl; clear AJ
 refine a_5 ?_
 refine s1 AK (c_5 rfl l_2 (AK.ev rfl) (B.bk 0 rfl) (l := (pairs ((g_8 (g_1 b.scales.toNat b.tabs) x_).1))) (g_2 _ _ (show (pairs ((g_8 (g_1 b.scales.toNat b.tabs) x_).1)).length = 8 from by simp only [b_1, List.length_set]; omega)) (show (pairs ((g_8 (g_1 b.scales.toNat b.tabs) x_).1)).length = 8 from by simp only [b_1, List.length_set]; omega)) fun CW AL => ?_; clear AK CV
 refine s1 AL (a_1 rfl (AL.ev rfl)) fun CX Y => ?_; clear AL CW
 refine s7 Y (c_1 B rfl l_2 (Y.ev rfl) (Y.ev rfl) (i := 1) rfl (vs := (pairs ((g_8 (g_1 b.scales.toNat b.tabs) x_).1))) rfl (show (pairs ((g_8 (g_1 b.scales.toNat b.tabs) x_).1)).length = 8 from by simp only [b_1, List.length_set]; omega) (m_5 _) (by simp only [b_1, List.length_set, List.length_cons, List.length_nil]; omega)) ?_
 intro _ De A8 AM; have A9 := A8.n_8 (i := 1) rfl (cs' := (pairs ((g_8 (g_1 b.scales.toNat b.tabs) x_).1))) (j_8 _ _ (by first | (simp only [b_1, List.length_set, List.length_cons, List.length_nil]; done) | (simp only [b_1, List.length_set, List.length_cons, List.length_nil]; omega))); clear A8 Y B
 refine s1 AM (a_0 rfl (AM.ev rfl)) fun DR Au => ?_; clear AM CX
 refine n1 ?_
 refine c_4 ?_
 refine a_7 ?_
 refine d_1 ?_
 refine a_7 ?_
 refine d_1 ?_
 refine a_8 Au (.inl rfl) (e_2 Au rfl (.cellA rfl l_2 (A9.bk 1 rfl) (l := (pairs ((g_8 (g_1 b.scales.toNat b.tabs) x_).1))) (g_2 _ _ (show (pairs ((g_8 (g_1 b.scales.toNat b.tabs) x_).1)).length = 8 from by simp only [b_1, List.length_set]; omega)) (show (pairs ((g_8 (g_1 b.scales.toNat b.tabs) x_).1)).length = 8 from by simp only [b_1, List.length_set]; omega)) (.tmp rfl)) ?_
 have hz := hsp.trans (k_fail (by assumption))
 exact ⟨_, B4, by rw [hz]; rfl, fun t h_ => by rw [hz] at h_; (cases h_), A9.ext⟩
end Go.Proofs.Ytohgladndklciaa

namespace Go.Proofs.Ytohgladndklciaa
open Go.RowKit Go.Shelf Go.Eng Go.Hard
theorem bs_30_0_  : Instr.fill (fun i => some (i * 2, 2)) ((Array.range (0 * 2)).map ((Value.agg #[(Value.int .i64 0), (Value.int .i64 0)]).cells[· % (Value.agg #[(Value.int .i64 0), (Value.int .i64 0)]).cells.size]!)) [] = some (([] : List Value).toArray) := by kernel_rfl
theorem el_30 : elK Try.prog 30 = some ((Value.agg #[(Value.int .i64 0), (Value.int .i64 0)]), 2, 16) := by kernel_rfl
theorem el_98 : elK Try.prog 98 = some ((Value.agg #[(Value.int .i64 0), (Value.int .i64 0)]), 2, 16) := by kernel_rfl
theorem clone_rng (xs : List (Int × Int)) (v : Value) (w : World) (hv : SlAt w v 2 xs.length (pairs xs)) (hlen : xs.length ≤ 1000000) :
  Calls Try.prog 58 #[v] w (Ret fun v w' => Ext NoB w w' ∧ w'.ownsRow w.heap.size 30 2 v xs.length (pairs xs)) := by
 refine a_9 Try.func58 rfl fun P F => ?_
 replace F : Fr 8 [] [(0, v)] P := F
 have G : Sep NoB w w [(sl v 2 xs.length (pairs xs))] := f_2 ⟨rfl, hv, trivial⟩
 refine m2 ?_
 refine s1 F (a_0 rfl (evc _ _)) fun V I => ?_; clear F P
 refine n2 ?_
 refine m2 ?_
 refine s1 I (a_1 rfl (I.ev rfl)) fun W K => ?_; clear I V
 refine s2 K (op_eqlNil aa_4 rfl (K.ev rfl) (evc _ _) (G.sk 0 rfl) (by decide)) ?_
 rintro T _ _ ⟨bn7, rfl, rfl, U⟩ A; clear K W
 refine n1 ?_
 rcases Bool.eq_false_or_eq_true (bn7) with O | O
 ·skip
  rw [O] at A
  refine c_7 A rfl ?_
  refine m2 ?_
  refine s1 A (a_0 rfl (evc _ _)) fun X H => ?_; clear A T
  refine n1 ?_
  refine c_4 ?_
  refine a_7 ?_
  refine a_8 H (.inl rfl) (a_2 H rfl (.tmp rfl)) ?_
  exact ⟨G.ext, by have hz := (U (by assumption)); rw [hz.1, hz.2]; exact ⟨by simp, .inl ⟨rfl, rfl⟩⟩⟩
 skip
 rw [O] at A
 refine b_8 A rfl ?_
 refine d_2 ?_
 refine b_2 ?_
 refine m2 ?_
 refine s2 A (h_3 G rfl pv0 aa_4 f_5 t_5 (by decide) (cs := []) bs_30_0_) ?_
 rintro Q _ b ⟨Z, rfl, L⟩ C; clear A G T
 refine s1 C (a_1 rfl (C.ev rfl)) fun R B => ?_; clear C Q
 have E := L.w_1 (i := 0) (sz := 2) (n := 0) rfl rfl (by decide); clear L
 refine s2 B (q_6 E rfl aa_4 el_30 (B.ev rfl) (B.ev rfl) (i := 0) rfl (E.sk 1 rfl) (m_5 _) (by simp [maxLen]; omega) (by omega)) ?_
 intro S a c M D
 have N := M.k_4 (i := 0) rfl (n' := xs.length) (xs' := (pairs xs)) (by simp) (by simp); clear M B E R
 refine s1 D (a_0 rfl (D.ev rfl)) fun Y J => ?_; clear D S
 refine n1 ?_
 refine c_4 ?_
 refine a_8 J (.inl rfl) (a_2 J rfl (.tmp rfl)) ?_
 exact ⟨N.ext, N.row_new (i := 0) rfl⟩
end Go.Proofs.Ytohgladndklciaa

namespace Go.Proofs.Ytohgladndklciaa
open Go.RowKit Go.Shelf Go.Eng Go.Hard
theorem en_56 : ∀ args w, (callFunc 56 args).run Try.prog w = .ok (.enter 56 args) w := enters_of Try.func56 (by kernel_rfl) rfl
theorem en_57 : ∀ args w, (callFunc 57 args).run Try.prog w = .ok (.enter 57 args) w := enters_of Try.func57 (by kernel_rfl) rfl
theorem en_58 : ∀ args w, (callFunc 58 args).run Try.prog w = .ok (.enter 58 args) w := enters_of Try.func58 (by kernel_rfl) rfl
def spE (b : h_2) (l : List (Int × Int)) : Int := if o_7 b l ≠ 0 then o_7 b l else if m_9 b l = none then 9 else 0
theorem spE_9 {b : h_2} {l : List (Int × Int)} (h : o_7 b l = 0) (A : m_9 b l = none) : spE b l = 9 := by unfold spE; rw [if_neg (not_not_intro h), if_pos A]
theorem Spans_none (b : h_2) (vt vm : Value) (lr lb lk : Nat → Value) (w : World) (hT : j_5 w vt lr lb b.tabs) (hM : k_8 w vm lk b.macs) (hth : q_4 b) (l : List (Int × Int)) (xl : Value) (hxl : SlAt w xl 2 l.length (pairs l)) (hlb : l.length ≤ 1000000) (hr : o_7 b l = 0) (hs : m_9 b l = none) :
  Calls Try.prog 25 #[(Value.agg #[(Value.int .i64 b.scales), vt, vm]), xl] w (Ret fun v w' => v = .tuple #[.slice none 0 0, .int .i64 (spE b l)] ∧ Ext NoB w w') := by
 refine a_9 Try.func25 rfl fun r G => ?_
 replace G : Fr 31 [] [(0, (Value.agg #[(Value.int .i64 b.scales), vt, vm])), (1, xl)] r := G
 have hc : f_9 b = 0 := read_check hr; have hbl := read_ok hr; have hb := hbl.1; have hl := hbl.2; have hll := hl.len; have hsc := hb.scales
 have o : Sep NoB w w [(b_6 false vt lr lb b.tabs), (c_0 false vm lk b.macs), (sl xl 2 l.length (pairs l))] := f_2 ⟨rfl, hT, rfl, hM, rfl, hxl, trivial⟩
 refine m2 ?_
 refine s2 G (f_3 o rfl (G.ev rfl) (cs := [(Value.int .i64 b.scales), vt, vm]) rfl) ?_
 rintro a1 _ w3 ⟨b4, rfl, B⟩ m; clear G o r
 refine s1 m (a_0 rfl (evc _ _)) fun a6 n => ?_; clear m a1
 refine s1 n (a_0 rfl (evc _ _)) fun a8 e => ?_; clear n a6
 refine n4 ?_
 refine s1 e (c_5 rfl y_0 (e.ev rfl) (B.bk 0 rfl) (l := [(Value.int .i64 b.scales), vt, vm]) rfl rfl) fun s H => ?_; clear e a8
 refine s1 H (a_1 rfl (H.ev rfl)) fun t C => ?_; clear H s
 refine s2 C (b_0 rfl en_56 (ev2 (C.ev rfl) (C.ev rfl)) (read_yes b vt vm lr lb lk _ (a_6 (B.ok 1 _ rfl)) (c_3 (B.ok 2 _ rfl)) hth l _ (B.sk 3 rfl) (by omega) hc hr)) ?_
 rintro u _ AW ⟨bx19, bm20, es21, ck22, rfl, hMO23, k⟩ I; have A := B.y_7 k rfl; clear k C B t
 refine s1 I (a_1 rfl (I.ev rfl)) fun x J => ?_; clear I u
 refine s1 J (c_6 rfl (J.ev rfl) rfl) fun y K => ?_; clear J x
 refine s1 K (c_6 rfl (K.ev rfl) rfl) fun z L => ?_; clear K y
 refine s1 L (a_0 rfl (L.ev rfl)) fun AA M => ?_; clear L z
 refine s1 M (a_0 rfl (M.ev rfl)) fun AB Z => ?_; clear M AA
 refine n2 ?_
 refine b_9 ?_
 have N := Z.as [(7, (Value.int .i64 0)), (6, (bptr bx19 0)), (2, (bptr b4 0)), (1, xl)] rfl; clear Z
 refine a_5 ?_
 refine s1 N (a_1 rfl (N.ev rfl)) fun AC O => ?_; clear N AB
 refine s1 O (s_8 rfl (O.ev rfl) (evc _ _)) fun AD D => ?_; clear O AC
 refine n1 ?_
 refine b_8 D rfl ?_
 refine d_2 ?_
 refine b_2 ?_
 refine m2 ?_
 refine s1 D (a_1 rfl (D.ev rfl)) fun AE P => ?_; clear D AD
 refine s1 P (a_1 rfl (P.ev rfl)) fun AF E => ?_; clear P AE
 refine s2 E (b_0 rfl en_57 (ev2 (E.ev rfl) (E.ev rfl)) (spansb_ok b vt vm lr lb lk _ (a_6 (A.ok 3 _ rfl)) (c_3 (A.ok 4 _ rfl)) hth bx19 bm20 _ _ (by assumption) (A.bk 0 rfl) (mapX_ro (A.ok 1 _ rfl)) hb l _ (A.sk 5 rfl) hl)) ?_
 rintro AG _ AX ⟨Y, AU, rfl, htk48, f⟩ Q; have g := A.step f; clear f E A AF
 refine s1 Q (a_1 rfl (Q.ev rfl)) fun AH R => ?_; clear Q AG
 refine s1 R (c_6 rfl (R.ev rfl) rfl) fun AI S => ?_; clear R AH
 refine s1 S (c_6 rfl (S.ev rfl) rfl) fun AJ T => ?_; clear S AI
 have q : ((m_9 b l).isSome) = false := (by rw [hs]; rfl)
 rw [q] at T
 refine s2 T (e_3 g rfl ze_120 (cs := [(Value.int .i64 0), (Value.int .i64 0), (Value.int .i64 0), (Value.int .i64 0), (Value.int .i64 0), (Value.int .i64 0), (Value.int .i64 0), (Value.int .i64 0)]) rfl) ?_
 rintro AK _ AY ⟨AQ, rfl, h⟩ F; clear T g AJ
 refine s7 F (c_1 h rfl l_2 (F.ev rfl) (F.ev rfl) (i := 0) rfl (vs := (pairs Y)) rfl (show (pairs Y).length = 8 from by simp only [b_1, List.length_set]; omega) (m_5 _) (by decide)) ?_
 intro _ AZ j U; have p := j.n_8 (i := 0) rfl (cs' := (pairs Y)) (j_8 _ _ (Eq.symm (show (pairs Y).length = 8 from by simp only [b_1, List.length_set]; omega))); clear j F h
 refine s1 U (a_0 rfl (U.ev rfl)) fun AL a => ?_; clear U AK
 refine n2 ?_
 refine b_9 ?_
 have V := a.as [(9, (Value.bool false)), (8, (bptr AQ 0)), (2, (bptr b4 0))] rfl; clear a
 refine a_5 ?_
 refine s1 V (a_1 rfl (V.ev rfl)) fun AM W => ?_; clear V AL
 refine s1 W (f_7 rfl (W.ev rfl)) fun AN X => ?_; clear W AM
 refine n1 ?_
 refine c_7 X rfl ?_
 refine m2 ?_
 refine s1 X (a_0 rfl (evc _ _)) fun AO c => ?_; clear X AN
 refine s1 c (a_0 rfl (evc _ _)) fun AV d => ?_; clear c AO
 refine n1 ?_
 refine c_4 ?_
 refine a_7 ?_
 refine a_8 d (.inl rfl) (e_2 d rfl (.tmp rfl) (.tmp rfl)) ?_
 exact ⟨by rw [spE_9 hr hs], p.ext⟩
theorem Spans_ok (b : h_2) (vt vm : Value) (lr lb lk : Nat → Value) (w : World) (hT : j_5 w vt lr lb b.tabs) (hM : k_8 w vm lk b.macs) (hth : q_4 b) (l : List (Int × Int)) (xl : Value) (hxl : SlAt w xl 2 l.length (pairs l)) (hlb : l.length ≤ 1000000) (t : g_5) (hr : o_7 b l = 0) (hs : m_9 b l = some t) :
  Calls Try.prog 25 #[(Value.agg #[(Value.int .i64 b.scales), vt, vm]), xl] w (Ret fun v w' => ∃ u, v = .tuple #[u, .int .i64 0] ∧ Sep NoB w w' [row u 30 2 t.length (pairs t)]) := by
 refine a_9 Try.func25 rfl fun a0 J => ?_
 replace J : Fr 31 [] [(0, (Value.agg #[(Value.int .i64 b.scales), vt, vm])), (1, xl)] a0 := J
 have hc : f_9 b = 0 := read_check hr; have hbl := read_ok hr; have hb := hbl.1; have hl := hbl.2; have hll := hl.len; have hsc := hb.scales
 have z : Sep NoB w w [(b_6 false vt lr lb b.tabs), (c_0 false vm lk b.macs), (sl xl 2 l.length (pairs l))] := f_2 ⟨rfl, hT, rfl, hM, rfl, hxl, trivial⟩
 refine m2 ?_
 refine s2 J (f_3 z rfl (J.ev rfl) (cs := [(Value.int .i64 b.scales), vt, vm]) rfl) ?_
 rintro a1 _ w3 ⟨b4, rfl, B⟩ x; clear J z a0
 refine s1 x (a_0 rfl (evc _ _)) fun a6 y => ?_; clear x a1
 refine s1 y (a_0 rfl (evc _ _)) fun a8 k => ?_; clear y a6
 refine n4 ?_
 refine s1 k (c_5 rfl y_0 (k.ev rfl) (B.bk 0 rfl) (l := [(Value.int .i64 b.scales), vt, vm]) rfl rfl) fun AD L => ?_; clear k a8
 refine s1 L (a_1 rfl (L.ev rfl)) fun AE C => ?_; clear L AD
 refine s2 C (b_0 rfl en_56 (ev2 (C.ev rfl) (C.ev rfl)) (read_yes b vt vm lr lb lk _ (a_6 (B.ok 1 _ rfl)) (c_3 (B.ok 2 _ rfl)) hth l _ (B.sk 3 rfl) (by omega) hc hr)) ?_
 rintro AF _ Ak ⟨bx19, bm20, es21, ck22, rfl, hMO23, s⟩ M; have A := B.y_7 s rfl; clear s C B AE
 refine s1 M (a_1 rfl (M.ev rfl)) fun AG N => ?_; clear M AF
 refine s1 N (c_6 rfl (N.ev rfl) rfl) fun AH O => ?_; clear N AG
 refine s1 O (c_6 rfl (O.ev rfl) rfl) fun AI P => ?_; clear O AH
 refine s1 P (a_0 rfl (P.ev rfl)) fun AJ Q => ?_; clear P AI
 refine s1 Q (a_0 rfl (Q.ev rfl)) fun AK f => ?_; clear Q AJ
 refine n2 ?_
 refine b_9 ?_
 have R := f.as [(7, (Value.int .i64 0)), (6, (bptr bx19 0)), (2, (bptr b4 0)), (1, xl)] rfl; clear f
 refine a_5 ?_
 refine s1 R (a_1 rfl (R.ev rfl)) fun AL S => ?_; clear R AK
 refine s1 S (s_8 rfl (S.ev rfl) (evc _ _)) fun AM D => ?_; clear S AL
 refine n1 ?_
 refine b_8 D rfl ?_
 refine d_2 ?_
 refine b_2 ?_
 refine m2 ?_
 refine s1 D (a_1 rfl (D.ev rfl)) fun AN T => ?_; clear D AM
 refine s1 T (a_1 rfl (T.ev rfl)) fun AO E => ?_; clear T AN
 refine s2 E (b_0 rfl en_57 (ev2 (E.ev rfl) (E.ev rfl)) (spansb_ok b vt vm lr lb lk _ (a_6 (A.ok 3 _ rfl)) (c_3 (A.ok 4 _ rfl)) hth bx19 bm20 _ _ (by assumption) (A.bk 0 rfl) (mapX_ro (A.ok 1 _ rfl)) hb l _ (A.sk 5 rfl) hl)) ?_
 rintro AP _ Al ⟨K, Ah, rfl, htk48, n⟩ U; have p := A.step n; clear n E A AO
 refine s1 U (a_1 rfl (U.ev rfl)) fun AQ V => ?_; clear U AP
 refine s1 V (c_6 rfl (V.ev rfl) rfl) fun AR W => ?_; clear V AQ
 refine s1 W (c_6 rfl (W.ev rfl) rfl) fun AS X => ?_; clear W AR
 have AB : ((m_9 b l).isSome) = true := (by rw [hs]; rfl)
 rw [AB] at X
 refine s2 X (e_3 p rfl ze_120 (cs := [(Value.int .i64 0), (Value.int .i64 0), (Value.int .i64 0), (Value.int .i64 0), (Value.int .i64 0), (Value.int .i64 0), (Value.int .i64 0), (Value.int .i64 0)]) rfl) ?_
 rintro AT _ Am ⟨Ad, rfl, q⟩ F; clear X p AS
 refine s7 F (c_1 q rfl l_2 (F.ev rfl) (F.ev rfl) (i := 0) rfl (vs := (pairs K)) rfl (show (pairs K).length = 8 from by simp only [b_1, List.length_set]; omega) (m_5 _) (by decide)) ?_
 intro _ An r Y; have I := r.n_8 (i := 0) rfl (cs' := (pairs K)) (j_8 _ _ (Eq.symm (show (pairs K).length = 8 from by simp only [b_1, List.length_set]; omega))); clear r F q
 refine s1 Y (a_0 rfl (Y.ev rfl)) fun AU g => ?_; clear Y AT
 refine n2 ?_
 refine b_9 ?_
 have Z := g.as [(9, (Value.bool true)), (8, (bptr Ad 0)), (2, (bptr b4 0))] rfl; clear g
 refine a_5 ?_
 refine s1 Z (a_1 rfl (Z.ev rfl)) fun AV a => ?_; clear Z AU
 refine s1 a (f_7 rfl (a.ev rfl)) fun AW G => ?_; clear a AV
 refine n1 ?_
 refine b_8 G rfl ?_
 refine d_2 ?_
 refine b_2 ?_
 refine m2 ?_
 refine s1 G (a_4 rfl fd_37_0 (G.ev rfl)) fun AX c => ?_; clear G AW
 refine s1 c (a_3 rfl ty_3 (c.ev rfl) (I.bk 3 rfl) rfl) fun AY H => ?_; clear c AX
 refine s1 H (op_sliceArr rfl x_5 f_5 (H.ev rfl) (h := b.scales.toNat) ((H.ev rfl).trans (j_1 (by omega))) (by omega)) fun AZ d => ?_; clear H AY
 refine s2 d (b_0 rfl en_58 (ev1 (d.ev rfl)) (clone_rng (K.take b.scales.toNat) _ _ ((SlAt.of_blkCut (I.bk 0 rfl) (by rw [b_1]; omega) (by omega) (by decide)).say (by rw [List.length_take]; omega) (pairs_takeH _ _)) (by rw [List.length_take]; omega))) ?_
 rintro Aa Aj Ao ⟨o, hO84⟩ e; have AA := I.new_row o hO84; clear o hO84 d I AZ
 refine s1 e (a_0 rfl (e.ev rfl)) fun Ab j => ?_; clear e Aa
 refine s1 j (a_0 rfl (evc _ _)) fun Ai m => ?_; clear j Ab
 refine n1 ?_
 refine c_4 ?_
 refine a_8 m (.inl rfl) (e_2 m rfl (.tmp rfl) (.tmp rfl)) ?_
 have hz := AA.keep [0] (by decide) [_] rfl rfl
 rw [htk48 _ hs] at hz
 exact ⟨_, rfl, hz⟩
end Go.Proofs.Ytohgladndklciaa

namespace Go.Hard
open Go.RowKit Go.Eng
section
variable {X : Nat → Prop} {w0 w : World} {L : List Res}
theorem p_4 (h : Sep X w0 w L) (v : Nat → Value) (sz : Nat) (k : Nat → Nat) (c : Nat → List Value) : Sep X w0 w (slsR true 0 v sz k c :: L) :=
  h.push (Ext.refl _ _) (fun i hi => absurd hi (Nat.not_lt_zero _)) (fun b hb => by obtain ⟨i, hi, _⟩ := hb; exact absurd hi (Nat.not_lt_zero _))
theorem k_5 {u : Value} {e sz m n : Nat} {xs : List Value} {v : Nat → Value} {k k' : Nat → Nat} {c c' : Nat → List Value} (h : Sep X w0 w (row u e sz m xs :: slsR true n v sz k c :: L)) (hk : k' n = m) (hc : c' n = xs) (hold : ∀ i, i < n → k' i = k i ∧ c' i = c i) :
    Sep X w0 w (slsR true (n + 1) (putV n v u) sz k' c' :: L) := by
  have h0 := h.j_4 0 rfl
  have h1 := h.ok 1 _ rfl
  refine h.join (t := slsR true (n + 1) (putV n v u) sz k' c') (fun i hi => ?_) (fun b hb => ?_) (fun _ => ⟨rfl, rfl⟩) (fun _ => trivial)
  · rcases Nat.lt_succ_iff_lt_or_eq.1 hi with hi | rfl
    · rw [w_7 _ _ hi, (hold i hi).1, (hold i hi).2]; exact h1 i hi
    · rw [w_6, hk, hc]; exact SlAt.h_7 h0
  · obtain ⟨i, hi, hb⟩ := hb
    rcases Nat.lt_succ_iff_lt_or_eq.1 hi with hi | rfl
    · rw [w_7 _ _ hi, (hold i hi).2] at hb; exact .inr ⟨i, hi, hb⟩
    · rw [w_6, hc] at hb; exact .inl (v_7 hb)
theorem sep_sls_say {i : Nat} {o : Bool} {sz n n' : Nat} {v v' : Nat → Value} {k k' : Nat → Nat} {c c' : Nat → List Value} (h : Sep X w0 w L) (hi : L[i]? = some (slsR o n v sz k c)) (hn : n = n') (he : ∀ i, i < n → v' i = v i ∧ k' i = k i ∧ c' i = c i) : Sep X w0 w (L.set i (slsR o n' v' sz k' c')) := by
  subst hn
  have h1 := h.ok i _ hi
  refine h.say hi (fun q hq => ?_) (fun b hb => ?_) (fun ho => ho)
  · rw [(he q hq).1, (he q hq).2.1, (he q hq).2.2]; exact h1 q hq
  · obtain ⟨q, hq, hb⟩ := hb
    rw [(he q hq).1, (he q hq).2.2] at hb; exact ⟨q, hq, hb⟩
theorem sep_tabs_join {vt : Value} {lr lb : Nat → Value} {ts : List TabD} (h : Sep X w0 w (row vt 106 5 ts.length (n_4 lr lb ts) :: slsR true ts.length lr 2 (m_1 ts) (m_0 ts) :: slsR true ts.length lb 1 (brkN ts) (brkC ts) :: L)) : Sep X w0 w (b_6 true vt lr lb ts :: L) := by
  have h0 := h.j_4 0 rfl
  have hp := h.pw
  have ap := List.pairwise_cons.1 hp
  -- the row and both together
  refine Sep.of_pw h.ext (fun r hr => ?_) (fun r hr ho b hb => ?_) (List.pairwise_cons.2 ⟨fun r hr => ?_, (List.pairwise_cons.1 (List.pairwise_cons.1 ap.2).2).2⟩)
  · rcases List.mem_cons.1 hr with rfl | hr
    · exact ⟨SlAt.h_7 h0, h.ok 1 _ rfl, h.ok 2 _ rfl⟩
    · exact h.mem (List.mem_cons_of_mem _ (List.mem_cons_of_mem _ (List.mem_cons_of_mem _ hr)))
  · rcases List.mem_cons.1 hr with rfl | hr
    · rcases hb with hb | hb | hb
      · exact h.mine 0 _ rfl rfl b (v_7 hb)
      · exact h.mine 1 _ rfl rfl b hb
      · exact h.mine 2 _ rfl rfl b hb
    · exact h.mineM (List.mem_cons_of_mem _ (List.mem_cons_of_mem _ (List.mem_cons_of_mem _ hr))) ho b hb
  · have a0 := ap.1 r (List.mem_cons_of_mem _ (List.mem_cons_of_mem _ hr))
    have a1 := (List.pairwise_cons.1 ap.2).1 r (List.mem_cons_of_mem _ hr)
    have a2 := (List.pairwise_cons.1 (List.pairwise_cons.1 ap.2).2).1 r hr
    refine ⟨fun _ b hb => ?_, fun ho b hb hb' => ?_⟩
    · rcases hb with hb | hb | hb
      · exact a0.1 rfl b (v_7 hb)
      · exact a1.1 rfl b hb
      · exact a2.1 rfl b hb
    · rcases hb' with hb' | hb' | hb'
      · exact a0.2 ho b hb (v_7 hb')
      · exact a1.2 ho b hb hb'
      · exact a2.2 ho b hb hb'
theorem sep_macs_join {vm : Value} {lk : Nat → Value} {ms : List MacD} (h : Sep X w0 w (row vm 103 2 ms.length (o_4 lk ms) :: slsR true ms.length lk 3 (blkN ms) (blkC ms) :: L)) : Sep X w0 w (c_0 true vm lk ms :: L) := by
  have h0 := h.j_4 0 rfl
  refine h.join (t := c_0 true vm lk ms) ⟨SlAt.h_7 h0, h.ok 1 _ rfl⟩ (fun b hb => ?_) (fun _ => ⟨rfl, rfl⟩) (fun _ => trivial)
  rcases hb with hb | hb
  · exact .inl (v_7 hb)
  · exact .inr hb
end
theorem q_3 {α : Type} {l : List α} {d : α} {k : Nat} (h : k < l.length) : l.take k ++ [l.getD k d] = l.take (k + 1) := by
  rw [List.take_add_one, List.getElem?_eq_getElem h, List.getD, List.getElem?_eq_getElem h]; rfl
section
variable {ts : List TabD} {ms : List MacD} {k : Nat}
theorem take_at {α : Type} {l : List α} {d : α} {k i : Nat} (hk : i < k) : (l.take k).getD i d = l.getD i d := by
  simp [List.getD, List.getElem?_take, hk]
theorem rowsN_new (h : k < ts.length) : m_1 (ts.take (k + 1)) (ts.take k).length = (ts.getD k tab0).rows.length ∧ m_0 (ts.take (k + 1)) (ts.take k).length = pairs (ts.getD k tab0).rows ∧ brkN (ts.take (k + 1)) (ts.take k).length = (ts.getD k tab0).brk.length ∧ brkC (ts.take (k + 1)) (ts.take k).length = ints (ts.getD k tab0).brk := by
  rw [List.length_take, Nat.min_eq_left (by omega)]
  unfold m_1 m_0 brkN brkC
  rw [take_at (Nat.lt_succ_self k)]
  exact ⟨rfl, rfl, rfl, rfl⟩
theorem rowsN_old (i : Nat) (hi : i < (ts.take k).length) : (m_1 (ts.take (k + 1)) i = m_1 (ts.take k) i ∧ m_0 (ts.take (k + 1)) i = m_0 (ts.take k) i) ∧ brkN (ts.take (k + 1)) i = brkN (ts.take k) i ∧ brkC (ts.take (k + 1)) i = brkC (ts.take k) i := by
  have hk : i < k := by rw [List.length_take] at hi; omega
  unfold m_1 m_0 brkN brkC
  rw [take_at (show i < k + 1 by omega), take_at hk]
  exact ⟨⟨rfl, rfl⟩, rfl, rfl⟩
theorem blkN_new (h : k < ms.length) : blkN (ms.take (k + 1)) (ms.take k).length = (ms.getD k mac0).blocks.length ∧ blkC (ms.take (k + 1)) (ms.take k).length = trips (ms.getD k mac0).blocks := by
  rw [List.length_take, Nat.min_eq_left (by omega)]
  unfold blkN blkC
  rw [take_at (Nat.lt_succ_self k)]
  exact ⟨rfl, rfl⟩
theorem blkN_old (i : Nat) (hi : i < (ms.take k).length) : blkN (ms.take (k + 1)) i = blkN (ms.take k) i ∧ blkC (ms.take (k + 1)) i = blkC (ms.take k) i := by
  have hk : i < k := by rw [List.length_take] at hi; omega
  unfold blkN blkC
  rw [take_at (show i < k + 1 by omega), take_at hk]
  exact ⟨rfl, rfl⟩
theorem take_len1 {α : Type} {l : List α} (h : k < l.length) : (l.take k).length + 1 = (l.take (k + 1)).length := by simp only [List.length_take]; omega
end
end Go.Hard

namespace Go.Proofs.Ytohgladndklciaa
open Go.RowKit Go.Shelf Go.Eng Go.Hard
theorem bd_98_0i_1i (x0_0 : Int) (x1_0 : Int) (w : World) : (Instr.build 98 #[(0, (.int .i64 x0_0)), (1, (.int .i64 x1_0))]).run Try.prog w = .ok (.agg #[(.int .i64 x0_0), (.int .i64 x1_0)]) w := by kernel_rfl
theorem bs_98_1_0iia (x0_0 : Int) (x0_1 : Int) : Instr.fill (fun i => some (i * 2, 2)) ((Array.range (1 * 2)).map ((Value.agg #[(Value.int .i64 0), (Value.int .i64 0)]).cells[· % (Value.agg #[(Value.int .i64 0), (Value.int .i64 0)]).cells.size]!)) [(0, .agg #[(.int .i64 x0_0), (.int .i64 x0_1)])] = some (([(.int .i64 x0_0), (.int .i64 x0_1)] : List Value).toArray) := by kernel_rfl
theorem list_ok (l : List Int) (xl : Value) (w : World) (hxl : SlAt w xl 1 l.length (ints l)) (hlen : l.length ≤ 1000000) :
  Calls Try.prog 40 #[xl] w (Ret fun v w' => Ext NoB w w' ∧ w'.ownsRow w.heap.size 3 1 v l.length (ints l)) := by
 refine a_9 Try.func40 rfl fun J A => ?_
 replace A : Fr 5 [] [(0, xl)] J := A
 have I : Sep NoB w w [(sl xl 1 l.length (ints l))] := f_2 ⟨rfl, hxl, trivial⟩
 refine m2 ?_
 refine s1 A (a_0 rfl (evc _ _)) fun K C => ?_; clear A J
 refine n4 ?_
 refine s1 C (a_1 rfl (C.ev rfl)) fun L D => ?_; clear C K
 have H := I.y_3 3 1; clear I
 refine s2 D (q_6 H rfl m_2 el_3 (evc _ _) (D.ev rfl) (i := 0) rfl (H.sk 1 rfl) (ints_one _) (by simp only [maxLen]; omega) (by omega)) ?_
 intro M O P F E
 have G := F.k_4 (i := 0) rfl (n' := l.length) (xs' := (ints l)) (by simp) (by simp); clear F D H L
 refine s1 E (a_0 rfl (E.ev rfl)) fun N B => ?_; clear E M
 refine n1 ?_
 refine c_4 ?_
 refine a_8 B (.inl rfl) (a_2 B rfl (.tmp rfl)) ?_
 exact ⟨G.ext, G.row_new (i := 0) rfl⟩
theorem Readings_ok (l : List (Int × Int)) (xl : Value) (w : World) (hxl : SlAt w xl 2 l.length (pairs l)) (A5 : l.length ≤ 12) :
  Calls Try.prog 26 #[xl] w (Ret fun v w' => Ext NoB w w' ∧ w'.ownsRow w.heap.size 98 2 v l.length (pairs l)) := by
 refine a_9 Try.func26 rfl fun a0 T => ?_
 replace T : Fr 26 [] [(0, xl)] a0 := T
 have AJ : Sep NoB w w [(sl xl 2 l.length (pairs l))] := f_2 ⟨rfl, hxl, trivial⟩
 refine m2 ?_
 refine s1 T (a_0 rfl (evc _ _)) fun a1 AF => ?_; clear T a0
 refine n4 ?_
 refine s1 AF (a_0 rfl (evc _ _)) fun a3 AG => ?_; clear AF a1
 have AK := AJ.y_3 98 2; clear AJ
 refine n2 ?_
 refine m2 ?_
 refine s1 AG (a_0 rfl (evc _ _)) fun a6 AH => ?_; clear AG a3
 refine n1 ?_
 refine d_0 ?_
 have AI := AH.as [(4, (Value.int .i64 0)), (3, (Value.slice none 0 0)), (0, xl)] rfl; clear AH
 refine h_1 (G := Nat) (fun (k : Nat) a_ w_ => ∃ v3_ : Value, Fr 26 [] [(4, (Value.int .i64 (k : Int))), (3, v3_), (0, xl)] a_ ∧ Sep NoB w w_ [(row v3_ 98 2 ((l.take k).length) (pairs (l.take k))), (sl xl 2 l.length (pairs l))] ∧ (k ≤ l.length)) (fun k => l.length - k) 0 ⟨(Value.slice none 0 0), AI.as _ rfl, (AK.k_4 (i := 0) rfl (by rfl) (by rfl)), by omega⟩ ?_
 clear AI AK a6
 rintro k a9 A8 ⟨v3_, H, F, hkk⟩
 have hlt_ : (l.take k).length ≤ 12 := by simp only [List.length_take]; omega
 refine b_9 ?_
 refine m2 ?_
 refine s1 H (a_1 rfl (H.ev rfl)) fun Aq I => ?_; clear H a9
 refine s1 I (a_1 rfl (I.ev rfl)) fun Ar J => ?_; clear I Aq
 refine s1 J (d_5 rfl aa_1 (J.ev rfl) (F.sk 1 rfl)) fun As D => ?_; clear J Ar
 refine s1 D (g_3 rfl (D.ev rfl) (D.ev rfl)) fun At C => ?_; clear D As
 refine n1 ?_
 by_cases g : (k : Int) < (l.length : Int)
 ·skip
  rw [decide_eq_true g] at C
  refine c_7 C rfl ?_
  refine d_2 ?_
  refine b_2 ?_
  refine b_9 ?_
  refine d_0 ?_
  have Z := C.as [(4, (Value.int .i64 (k : Int))), (3, v3_), (0, xl)] rfl; clear C
  refine s_5 mixed Z F 13 [[], [], [], [1, 2], [3], [4], [], [], [6, 7], [8], [9], [5, 10], [11]] [(fun (A : Nat → Value) (v_ : Value) (rs_ : List Res) => v_ = v3_ ∧ rs_ = []), (fun (A : Nat → Value) (v_ : Value) (rs_ : List Res) => v_ = xl ∧ rs_ = []), (fun (A : Nat → Value) (v_ : Value) (rs_ : List Res) => v_ = (Value.int .i64 (k : Int)) ∧ rs_ = []), (fun (A : Nat → Value) (v_ : Value) (rs_ : List Res) => v_ = (eptr xl (k * 2)) ∧ rs_ = []), (fun (A : Nat → Value) (v_ : Value) (rs_ : List Res) => v_ = (eptr xl (k * 2 + 0)) ∧ rs_ = []), (fun (A : Nat → Value) (v_ : Value) (rs_ : List Res) => v_ = (Value.int .i64 ((l.getD k (0, 0)).1)) ∧ rs_ = []), (fun (A : Nat → Value) (v_ : Value) (rs_ : List Res) => v_ = xl ∧ rs_ = []), (fun (A : Nat → Value) (v_ : Value) (rs_ : List Res) => v_ = (Value.int .i64 (k : Int)) ∧ rs_ = []), (fun (A : Nat → Value) (v_ : Value) (rs_ : List Res) => v_ = (eptr xl (k * 2)) ∧ rs_ = []), (fun (A : Nat → Value) (v_ : Value) (rs_ : List Res) => v_ = (eptr xl (k * 2 + 1)) ∧ rs_ = []), (fun (A : Nat → Value) (v_ : Value) (rs_ : List Res) => v_ = (Value.int .i64 ((l.getD k (0, 0)).2)) ∧ rs_ = []), (fun (A : Nat → Value) (v_ : Value) (rs_ : List Res) => v_ = (Value.agg #[(Value.int .i64 ((l.getD k (0, 0)).1)), (Value.int .i64 ((l.getD k (0, 0)).2))]) ∧ rs_ = []), (fun (A : Nat → Value) (v_ : Value) (rs_ : List Res) => True ∧ rs_ = [(row v_ 98 2 1 [(Value.int .i64 ((l.getD k (0, 0)).1)), (Value.int .i64 ((l.getD k (0, 0)).2))])])] (by decide +kernel) (by decide +kernel) rfl rfl ⟨(fun _ _ _ _ _ h_ => h_), (fun _ _ _ _ _ h_ => h_), (fun _ _ _ _ _ h_ => h_), (fun _ _ _ _ _ h_ => h_), (fun _ _ _ _ _ h_ => h_), (fun _ _ _ _ _ h_ => h_), (fun _ _ _ _ _ h_ => h_), (fun _ _ _ _ _ h_ => h_), (fun _ _ _ _ _ h_ => h_), (fun _ _ _ _ _ h_ => h_), (fun _ _ _ _ _ h_ => h_), (fun _ _ _ _ _ h_ => h_), (fun _ _ _ _ _ h_ => h_), trivial⟩ ?_ ?_
  ·skip
   refine ⟨fun a w A hA hS hd => gv1 (a_1 rfl (hA.ev rfl)), ?_⟩
   refine ⟨fun a w A hA hS hd => gv1 (a_1 rfl (hA.ev rfl)), ?_⟩
   refine ⟨fun a w A hA hS hd => gv1 (a_1 rfl (hA.ev rfl)), ?_⟩
   refine ⟨fun a w A hA hS hd => gv1 (b_3 rfl aa_1 ty_67 (gu hd 1) (i := k) (gu hd 2) (hS.sk 1 rfl) (by decide) (by omega)), ?_⟩
   refine ⟨fun a w A hA hS hd => gv1 (c_8 rfl fd_67_0 (gu hd 3) (hS.sk 1 rfl) (by rw [((hS.sk 1 rfl)).1]; omega)), ?_⟩
   refine ⟨fun a w A hA hS hd => gv1 (c_2 rfl ty_3 (gu hd 4) (hS.sk 1 rfl) (e_5 (by omega))), ?_⟩
   refine ⟨fun a w A hA hS hd => gv1 (a_1 rfl (hA.ev rfl)), ?_⟩
   refine ⟨fun a w A hA hS hd => gv1 (a_1 rfl (hA.ev rfl)), ?_⟩
   refine ⟨fun a w A hA hS hd => gv1 (b_3 rfl aa_1 ty_67 (gu hd 6) (i := k) (gu hd 7) (hS.sk 1 rfl) (by decide) (by omega)), ?_⟩
   refine ⟨fun a w A hA hS hd => gv1 (c_8 rfl fd_67_1 (gu hd 8) (hS.sk 1 rfl) (by rw [((hS.sk 1 rfl)).1]; omega)), ?_⟩
   refine ⟨fun a w A hA hS hd => gv1 (c_2 rfl ty_3 (gu hd 9) (hS.sk 1 rfl) (j_7 (by omega))), ?_⟩
   refine ⟨fun a w A hA hS hd => gv1 (e_6 rfl (pv2 (gu hd 5) (gu hd 10)) (bd_98_0i_1i _ _)), ?_⟩
   refine ⟨fun a w A hA hS hd => d_6 rfl (vblt rfl (pv1 (gu hd 11)) un_53 ty_98 ze_98 (by decide) (cs := [(Value.int .i64 ((l.getD k (0, 0)).1)), (Value.int .i64 ((l.getD k (0, 0)).2))]) (bs_98_1_0iia _ _) rfl (by decide) (fun _ => And.intro trivial rfl)), ?_⟩
   trivial
  intro Y A0 A rsf29 b B Q; clear Z F
  obtain ⟨S, Af⟩ := B 0 (by decide)
  obtain ⟨u, h⟩ := Af
  obtain ⟨AN, Ag⟩ := B 1 (by decide)
  obtain ⟨AW, j⟩ := Ag
  obtain ⟨AO, Ah⟩ := B 2 (by decide)
  obtain ⟨AX, m⟩ := Ah
  obtain ⟨AP, Ai⟩ := B 3 (by decide)
  obtain ⟨AY, n⟩ := Ai
  obtain ⟨AQ, Aj⟩ := B 4 (by decide)
  obtain ⟨AZ, o⟩ := Aj
  obtain ⟨AR, Ak⟩ := B 5 (by decide)
  obtain ⟨Aa, p⟩ := Ak
  obtain ⟨AS, Al⟩ := B 6 (by decide)
  obtain ⟨Ab, q⟩ := Al
  obtain ⟨AT, Am⟩ := B 7 (by decide)
  obtain ⟨Ac, r⟩ := Am
  obtain ⟨AU, An⟩ := B 8 (by decide)
  obtain ⟨Ad, s⟩ := An
  obtain ⟨AV, Ao⟩ := B 9 (by decide)
  obtain ⟨Ae, t⟩ := Ao
  obtain ⟨x, AC⟩ := B 10 (by decide)
  obtain ⟨z, U⟩ := AC
  obtain ⟨y, AD⟩ := B 11 (by decide)
  obtain ⟨AA, V⟩ := AD
  obtain ⟨X, AE⟩ := B 12 (by decide)
  obtain ⟨AB, W⟩ := AE
  have R : Sep NoB w A0 [(row (A 12) 98 2 1 [(Value.int .i64 ((l.getD k (0, 0)).1)), (Value.int .i64 ((l.getD k (0, 0)).2))]), (row v3_ 98 2 ((l.take k).length) (pairs (l.take k))), (sl xl 2 l.length (pairs l))] := by rw [show catR rsf29 0 13 = ([(row (A 12) 98 2 1 [(Value.int .i64 ((l.getD k (0, 0)).1)), (Value.int .i64 ((l.getD k (0, 0)).2))])] : List Res) by (try simp only [catR, h, j, m, n, o, p, q, r, s, t, U, V, W]); (try rfl)] at Q; exact Q
  rw [u] at S
  have c : Fr 26 [] [(11, v3_), (4, (Value.int .i64 (k : Int))), (3, v3_), (0, xl)] Y := b.add (d_4 S rfl); clear b
  have E : Fr 26 [] [(23, (A 12)), (11, v3_), (4, (Value.int .i64 (k : Int))), (3, v3_), (0, xl)] Y := c.add (d_4 X rfl); clear c
  clear B Q S AN AO AP AQ AR AS AT AU AV x y X
  clear h
  clear u
  clear j
  clear AW
  clear m
  clear AX
  clear n
  clear AY
  clear o
  clear AZ
  clear p
  clear Aa
  clear q
  clear Ab
  clear r
  clear Ac
  clear s
  clear Ad
  clear t
  clear Ae
  clear U
  clear z
  clear V
  clear AA
  clear W
  clear AB
  refine s2 E (q_6 R rfl un_53 el_98 (E.ev rfl) (E.ev rfl) (i := 1) rfl (SlAt.h_7 (R.j_4 0 rfl)) rfl (by simp only [maxLen]; omega) (by omega)) ?_
  intro Au Az A9 e K
  have f := e.k_4 (i := 1) rfl (n' := ((l.take k) ++ [l.getD k (0, 0)]).length) (xs' := (pairs ((l.take k) ++ [l.getD k (0, 0)]))) (by simp) (by simp [pairs]); clear e E R Y
  refine s1 K (a_0 rfl (K.ev rfl)) fun Av L => ?_; clear K Au
  refine f_0 ?_
  refine g_9 ?_
  refine b_2 ?_
  refine a_5 ?_
  refine s1 L (a_1 rfl (L.ev rfl)) fun Aw M => ?_; clear L Av
  refine s1 M (g_0 rfl (M.ev rfl) (evc _ _) (by omega) (by omega)) fun Ax N => ?_; clear M Aw
  refine s1 N (a_0 rfl (N.ev rfl)) fun A6 AL => ?_; clear N Ax
  refine f_0 ?_
  have AM := f.gkp (gpc 1 (gpc 2 gpn)); clear f
  exact b_2 ⟨k + 1, ⟨Az, AL.as _ rfl, (AM.k_4 (i := 0) rfl (by rw [q_3 (by omega)]) (by rw [q_3 (by omega)])), by omega⟩, by omega⟩
 skip
 rw [decide_eq_false g] at C
 refine b_8 C rfl ?_
 refine h_0 ?_
 refine b_5 ?_
 refine b_5 ?_
 refine f_8 ?_
 refine b_2 ?_
 refine b_9 ?_
 have O := C.as [(3, v3_)] rfl; clear C
 refine a_5 ?_
 refine s1 O (a_1 rfl (O.ev rfl)) fun Ay P => ?_; clear O At
 refine s1 P (a_0 rfl (P.ev rfl)) fun A7 d => ?_; clear P Ay
 refine n1 ?_
 refine c_4 ?_
 refine a_8 d (.inl rfl) (a_2 d rfl (.tmp rfl)) ?_
 have hz := F.k_4 (i := 0) rfl (n' := l.length) (xs' := pairs l) (by rw [show k = l.length by omega, List.take_length]) (by rw [show k = l.length by omega, List.take_length])
 exact ⟨hz.ext, hz.row_new (i := 0) rfl⟩
end Go.Proofs.Ytohgladndklciaa

namespace Go.Proofs.Ytohgladndklciaa
open Go.RowKit Go.Shelf Go.Eng Go.Hard
theorem ze_37 : (Try.prog.info? 37).bind (·.zero) = some (Value.agg #[(Value.int .i64 0), (Value.slice none 0 0), (Value.slice none 0 0)]) := by kernel_rfl
theorem bd_37_0i (x0_0 : Int) (w : World) : (Instr.build 37 #[(0, (.int .i64 x0_0))]).run Try.prog w = .ok (.agg #[(.int .i64 x0_0), (Value.slice none 0 0), (Value.slice none 0 0)]) w := by kernel_rfl
theorem ze_46 : (Try.prog.info? 46).bind (·.zero) = some (Value.agg #[(Value.int .i64 0), (Value.int .i64 0), (Value.slice none 0 0), (Value.slice none 0 0), (Value.int .i64 0)]) := by kernel_rfl
theorem bd_106_0i_1i_3s_4i (x0_0 : Int) (x1_0 : Int) (x2_0 : Value) (hx2_0 : IsSl x2_0) (x3_0 : Int) (w : World) : (Instr.build 106 #[(0, (.int .i64 x0_0)), (1, (.int .i64 x1_0)), (3, x2_0), (4, (.int .i64 x3_0))]).run Try.prog w = .ok (.agg #[(.int .i64 x0_0), (.int .i64 x1_0), (Value.slice none 0 0), x2_0, (.int .i64 x3_0)]) w := by obtain ⟨Ax2_0, Bx2_0, Cx2_0, rfl⟩ := hx2_0; kernel_rfl
theorem en_40 : ∀ args w, (callFunc 40 args).run Try.prog w = .ok (.enter 40 args) w := enters_of Try.func40 (by kernel_rfl) rfl
theorem n_0 (x0_0 : Int) (x1_0 : Int) (w : World) : (Instr.build 107 #[(0, (.int .i64 x0_0)), (1, (.int .i64 x1_0))]).run Try.prog w = .ok (.agg #[(.int .i64 x0_0), (.int .i64 x1_0)]) w := by kernel_rfl
theorem bs_107_1_0iia (x0_0 : Int) (x0_1 : Int) : Instr.fill (fun i => some (i * 2, 2)) ((Array.range (1 * 2)).map ((Value.agg #[(Value.int .i64 0), (Value.int .i64 0)]).cells[· % (Value.agg #[(Value.int .i64 0), (Value.int .i64 0)]).cells.size]!)) [(0, .agg #[(.int .i64 x0_0), (.int .i64 x0_1)])] = some (([(.int .i64 x0_0), (.int .i64 x0_1)] : List Value).toArray) := by kernel_rfl
theorem el_107 : elK Try.prog 107 = some ((Value.agg #[(Value.int .i64 0), (Value.int .i64 0)]), 2, 16) := by kernel_rfl
theorem bd_103_0i (x0_0 : Int) (w : World) : (Instr.build 103 #[(0, (.int .i64 x0_0))]).run Try.prog w = .ok (.agg #[(.int .i64 x0_0), (Value.slice none 0 0)]) w := by kernel_rfl
theorem p_6 (x0_0 : Int) (x0_1 : Int) (x1_0 : Int) (w : World) : (Instr.build 100 #[(0, .agg #[(.int .i64 x0_0), (.int .i64 x0_1)]), (1, (.int .i64 x1_0))]).run Try.prog w = .ok (.agg #[(.int .i64 x0_0), (.int .i64 x0_1), (.int .i64 x1_0)]) w := by kernel_rfl
theorem en_20 : ∀ args w, (callFunc 20 args).run Try.prog w = .ok (.enter 20 args) w := enters_of Try.func20 (by kernel_rfl) rfl
theorem bs_100_1_0iiia (x0_0 : Int) (x0_1 : Int) (x0_2 : Int) : Instr.fill (fun i => some (i * 3, 3)) ((Array.range (1 * 3)).map ((Value.agg #[(Value.int .i64 0), (Value.int .i64 0), (Value.int .i64 0)]).cells[· % (Value.agg #[(Value.int .i64 0), (Value.int .i64 0), (Value.int .i64 0)]).cells.size]!)) [(0, .agg #[(.int .i64 x0_0), (.int .i64 x0_1), (.int .i64 x0_2)])] = some (([(.int .i64 x0_0), (.int .i64 x0_1), (.int .i64 x0_2)] : List Value).toArray) := by kernel_rfl
theorem el_100 : elK Try.prog 100 = some ((Value.agg #[(Value.int .i64 0), (Value.int .i64 0), (Value.int .i64 0)]), 3, 24) := by kernel_rfl
theorem bs_103_1_0iva (x0_0 : Int) (x0_1 : Value) : Instr.fill (fun i => some (i * 2, 2)) ((Array.range (1 * 2)).map ((Value.agg #[(Value.int .i64 0), (Value.slice none 0 0)]).cells[· % (Value.agg #[(Value.int .i64 0), (Value.slice none 0 0)]).cells.size]!)) [(0, .agg #[(.int .i64 x0_0), x0_1])] = some (([(.int .i64 x0_0), x0_1] : List Value).toArray) := by kernel_rfl
theorem el_103 : elK Try.prog 103 = some ((Value.agg #[(Value.int .i64 0), (Value.slice none 0 0)]), 2, 32) := by kernel_rfl
set_option maxHeartbeats 4000000 in
theorem q_9 (b : h_2) (vt vm : Value) (lr lb lk : Nat → Value) (w : World) (hT : j_5 w vt lr lb b.tabs) (hM : k_8 w vm lk b.macs) (hth : q_4 b) :
  Calls Try.prog 19 #[(Value.agg #[(Value.int .i64 b.scales), vt, vm])] w (Ret fun v w' => ∃ vt' vm' lr' lb' lk', v = .agg #[.int .i64 b.scales, vt', vm'] ∧ Sep NoB w w' [b_6 true vt' lr' lb' b.tabs, c_0 true vm' lk' b.macs]) := by
 refine a_9 Try.func19 rfl fun a0 B8 => ?_
 replace B8 : Fr 116 [] [(0, (Value.agg #[(Value.int .i64 b.scales), vt, vm]))] a0 := B8
 have htl9 := hth.tl; have hml9 := hth.ml
 have Dw : Sep NoB w w [(b_6 false vt lr lb b.tabs), (c_0 false vm lk b.macs)] := f_2 ⟨rfl, hT, rfl, hM, trivial⟩
 refine m2 ?_
 refine s2 B8 (f_3 Dw rfl (B8.ev rfl) (cs := [(Value.int .i64 b.scales), vt, vm]) rfl) ?_
 rintro a1 _ w3 ⟨I, rfl, Dx⟩ Dv; clear B8 Dw a0
 refine s2 Dv (e_3 Dx rfl ze_37 (cs := [(Value.int .i64 0), (Value.slice none 0 0), (Value.slice none 0 0)]) rfl) ?_
 rintro a6 _ w8 ⟨H, rfl, CO⟩ DS; clear Dv Dx a1
 refine n4 ?_
 refine s1 DS (a_4 rfl fd_25_0 (DS.ev rfl)) fun Ev CB => ?_; clear DS a6
 refine s1 CB (a_3 rfl ty_3 (CB.ev rfl) (CO.bk 1 rfl) rfl) fun Ew CC => ?_; clear CB Ev
 refine s1 CC (e_6 rfl (pv1 (CC.ev rfl)) (bd_37_0i _)) fun Ex DJ => ?_; clear CC Ew
 refine s2 DJ (e_3 CO rfl ze_37 (cs := [(Value.int .i64 0), (Value.slice none 0 0), (Value.slice none 0 0)]) rfl) ?_
 rintro Ey _ Fk ⟨D, rfl, DY⟩ BB; clear DJ CO Ex
 refine s7 BB (c_1 DY rfl y_0 (BB.ev rfl) (BB.ev rfl) (i := 0) rfl (vs := [(Value.int .i64 b.scales), (Value.slice none 0 0), (Value.slice none 0 0)]) rfl rfl (h_4 rfl (h_4 rfl (h_4 rfl v_0))) (Nat.le_of_ble_eq_true rfl)) ?_
 intro _ FK DZ DK; clear BB
 have Da : Sep NoB w FK [(blk D 37 [(Value.int .i64 b.scales), (Value.slice none 0 0), (Value.slice none 0 0)]), (blk H 37 [(Value.int .i64 0), (Value.slice none 0 0), (Value.slice none 0 0)]), (blk I 25 [(Value.int .i64 b.scales), vt, vm]), (b_6 false vt lr lb b.tabs), (c_0 false vm lk b.macs)] := DZ; clear DZ DY
 refine n2 ?_
 refine m2 ?_
 refine s1 DK (a_0 rfl (evc _ _)) fun Ez DL => ?_; clear DK Ey
 refine n1 ?_
 refine d_0 ?_
 have Db := p_4 (p_4 (Da.y_3 106 5) (fun _ => Value.slice none 0 0) 1 (brkN (b.tabs.take 0)) (brkC (b.tabs.take 0))) (fun _ => Value.slice none 0 0) 2 (m_1 (b.tabs.take 0)) (m_0 (b.tabs.take 0)); clear Da
 have DM := DL.as [(4, (Value.int .i64 0)), (3, (bptr D 0)), (2, (bptr H 0)), (1, (bptr I 0))] rfl; clear DL
 refine h_1 (G := Nat) (fun (k : Nat) a_ w_ => ∃ vt_ : Value, ∃ lr_ : Nat → Value, ∃ lb_ : Nat → Value, Fr 116 [] [(4, (Value.int .i64 (k : Int))), (3, (bptr D 0)), (2, (bptr H 0)), (1, (bptr I 0))] a_ ∧ Sep NoB w w_ [(slsR true ((b.tabs.take k).length) lr_ 2 (m_1 (b.tabs.take k)) (m_0 (b.tabs.take k))), (slsR true ((b.tabs.take k).length) lb_ 1 (brkN (b.tabs.take k)) (brkC (b.tabs.take k))), (row vt_ 106 5 ((b.tabs.take k).length) (n_4 lr_ lb_ (b.tabs.take k))), (blk D 37 [(Value.int .i64 b.scales), vt_, (Value.slice none 0 0)]), (blk H 37 [(Value.int .i64 0), (Value.slice none 0 0), (Value.slice none 0 0)]), (blk I 25 [(Value.int .i64 b.scales), vt, vm]), (b_6 false vt lr lb b.tabs), (c_0 false vm lk b.macs)] ∧ (k ≤ b.tabs.length)) (fun k => b.tabs.length - k) 0 ⟨(Value.slice none 0 0), (fun _ => Value.slice none 0 0), (fun _ => Value.slice none 0 0), DM.as _ rfl, (Db.k_4 (i := 2) rfl (by rfl) (by rfl)), by omega⟩ ?_
 clear DM Db Ez
 rintro k E0 Fl ⟨vt_, lr_, lb_, CD, T, hk⟩
 have htk : (b.tabs.take k).length = k := by rw [List.length_take]; omega
 refine b_9 ?_
 refine m2 ?_
 refine s1 CD (a_1 rfl (CD.ev rfl)) fun E1 CE => ?_; clear CD E0
 refine s1 CE (a_4 rfl l_9 (CE.ev rfl)) fun E2 CF => ?_; clear CE E1
 refine s1 CF (a_3 rfl w_9 (CF.ev rfl) (T.bk 5 rfl) rfl) fun E3 CG => ?_; clear CF E2
 refine s1 CG (d_5 rfl x_2 (CG.ev rfl) (a_6 (T.ok 6 _ rfl)).tabs) fun E4 Bc => ?_; clear CG E3
 refine s1 Bc (g_3 rfl (Bc.ev rfl) (Bc.ev rfl)) fun Du S => ?_; clear Bc E4
 refine n1 ?_
 by_cases Dh : (k : Int) < (b.tabs.length : Int)
 ·skip
  rw [decide_eq_true Dh] at S
  have htkk := hth.tab k
  refine c_7 S rfl ?_
  refine d_2 ?_
  refine b_2 ?_
  refine b_9 ?_
  refine d_0 ?_
  refine m2 ?_
  refine s1 S (a_4 rfl l_9 (S.ev rfl)) fun E5 CH => ?_; clear S Du
  refine s1 CH (a_3 rfl w_9 (CH.ev rfl) (T.bk 5 rfl) rfl) fun E6 CI => ?_; clear CH E5
  refine s1 CI (a_1 rfl (CI.ev rfl)) fun E7 Bd => ?_; clear CI E6
  refine s1 Bd (b_3 rfl x_2 z_1 (Bd.ev rfl) (i := k) (Bd.ev rfl) (a_6 (T.ok 6 _ rfl)).tabs (by decide) (by omega)) fun E8 CJ => ?_; clear Bd E7
  refine s1 CJ (f_1 rfl z_1 (CJ.ev rfl) (a_6 (T.ok 6 _ rfl)).tabs (r_8 (by omega)) rfl (by decide)) fun E9 DN => ?_; clear CJ E8
  refine s2 DN (e_3 T rfl ze_46 (cs := [(Value.int .i64 0), (Value.int .i64 0), (Value.slice none 0 0), (Value.slice none 0 0), (Value.int .i64 0)]) rfl) ?_
  rintro Fh _ Fm ⟨J, rfl, Bp⟩ Be; clear DN T E9
  refine s7 Be (c_1 Bp rfl z_1 (Be.ev rfl) (Be.ev rfl) (i := 0) rfl (vs := [(Value.int .i64 ((b.tabs.getD k tab0).frm)), (Value.int .i64 ((b.tabs.getD k tab0).dst)), (lr k), (lb k), (Value.int .i64 ((b.tabs.getD k tab0).err))]) rfl rfl (h_4 rfl (h_4 rfl (h_4 (SlAt.one ((a_6 (Bp.ok 7 _ rfl)).row (i := k) (by omega))) (h_4 (SlAt.one ((a_6 (Bp.ok 7 _ rfl)).brk (i := k) (by omega))) (h_4 rfl v_0))))) (Nat.le_of_ble_eq_true rfl)) ?_
  intro _ FL Dc DO; clear Be
  have Dd : Sep NoB w FL [(blk J 46 [(Value.int .i64 ((b.tabs.getD k tab0).frm)), (Value.int .i64 ((b.tabs.getD k tab0).dst)), (lr k), (lb k), (Value.int .i64 ((b.tabs.getD k tab0).err))]), (slsR true ((b.tabs.take k).length) lr_ 2 (m_1 (b.tabs.take k)) (m_0 (b.tabs.take k))), (slsR true ((b.tabs.take k).length) lb_ 1 (brkN (b.tabs.take k)) (brkC (b.tabs.take k))), (row vt_ 106 5 ((b.tabs.take k).length) (n_4 lr_ lb_ (b.tabs.take k))), (blk D 37 [(Value.int .i64 b.scales), vt_, (Value.slice none 0 0)]), (blk H 37 [(Value.int .i64 0), (Value.slice none 0 0), (Value.slice none 0 0)]), (blk I 25 [(Value.int .i64 b.scales), vt, vm]), (b_6 false vt lr lb b.tabs), (c_0 false vm lk b.macs)] := Dc; clear Dc Bp
  refine n2 ?_
  have DP := DO.as [(5, (bptr J 0)), (4, (Value.int .i64 (k : Int))), (3, (bptr D 0)), (2, (bptr H 0)), (1, (bptr I 0))] rfl; clear DO
  have DQ := DP.as [(5, (bptr J 0)), (4, (Value.int .i64 (k : Int))), (3, (bptr D 0)), (2, (bptr H 0)), (1, (bptr I 0))] rfl; clear DP
  refine s_5 mixed DQ Dd 11 [[], [0], [], [2], [], [4], [5], [], [7], [1, 3, 6, 8], []] [(fun (B : Nat → Value) (v_ : Value) (rs_ : List Res) => v_ = (bptr J 0) ∧ rs_ = []), (fun (B : Nat → Value) (v_ : Value) (rs_ : List Res) => v_ = (Value.int .i64 ((b.tabs.getD k tab0).frm)) ∧ rs_ = []), (fun (B : Nat → Value) (v_ : Value) (rs_ : List Res) => v_ = (bptr J 1) ∧ rs_ = []), (fun (B : Nat → Value) (v_ : Value) (rs_ : List Res) => v_ = (Value.int .i64 ((b.tabs.getD k tab0).dst)) ∧ rs_ = []), (fun (B : Nat → Value) (v_ : Value) (rs_ : List Res) => v_ = (bptr J 3) ∧ rs_ = []), (fun (B : Nat → Value) (v_ : Value) (rs_ : List Res) => v_ = (lb k) ∧ rs_ = []), (fun (B : Nat → Value) (v_ : Value) (rs_ : List Res) => True ∧ rs_ = [(row v_ 3 1 ((b.tabs.getD k tab0).brk.length) (ints ((b.tabs.getD k tab0).brk)))]), (fun (B : Nat → Value) (v_ : Value) (rs_ : List Res) => v_ = (bptr J 4) ∧ rs_ = []), (fun (B : Nat → Value) (v_ : Value) (rs_ : List Res) => v_ = (Value.int .i64 ((b.tabs.getD k tab0).err)) ∧ rs_ = []), (fun (B : Nat → Value) (v_ : Value) (rs_ : List Res) => v_ = (Value.agg #[(Value.int .i64 ((b.tabs.getD k tab0).frm)), (Value.int .i64 ((b.tabs.getD k tab0).dst)), (Value.slice none 0 0), (B 6), (Value.int .i64 ((b.tabs.getD k tab0).err))]) ∧ rs_ = []), (fun (B : Nat → Value) (v_ : Value) (rs_ : List Res) => ∃ (b10_ : Nat), v_ = (bptr b10_ 0) ∧ rs_ = [(blk b10_ 106 [(Value.int .i64 0), (Value.int .i64 0), (Value.slice none 0 0), (Value.slice none 0 0), (Value.int .i64 0)])])] (by decide +kernel) (by decide +kernel) rfl rfl ⟨(fun _ _ _ _ _ h_ => h_), (fun _ _ _ _ _ h_ => h_), (fun _ _ _ _ _ h_ => h_), (fun _ _ _ _ _ h_ => h_), (fun _ _ _ _ _ h_ => h_), (fun _ _ _ _ _ h_ => h_), (fun _ _ _ _ _ h_ => h_), (fun _ _ _ _ _ h_ => h_), (fun _ _ _ _ _ h_ => h_), (fun _ _ _ _ he_ h_ => by dsimp only at h_ ⊢; rw [← he_ 6 (by decide)]; exact h_), (fun _ _ _ _ _ h_ => h_), trivial⟩ ?_ ?_
  ·skip
   refine ⟨fun a w B hA hS hd => gv1 (a_4 rfl fd_46_0 (hA.ev rfl)), ?_⟩
   refine ⟨fun a w B hA hS hd => gv1 (a_3 rfl ty_3 (gu hd 0) (hS.bk 0 rfl) rfl), ?_⟩
   refine ⟨fun a w B hA hS hd => gv1 (a_4 rfl fd_46_1 (hA.ev rfl)), ?_⟩
   refine ⟨fun a w B hA hS hd => gv1 (a_3 rfl ty_3 (gu hd 2) (hS.bk 0 rfl) rfl), ?_⟩
   refine ⟨fun a w B hA hS hd => gv1 (a_4 rfl l_0 (hA.ev rfl)), ?_⟩
   refine ⟨fun a w B hA hS hd => gv1 (a_3 rfl s_0 (gu hd 4) (hS.bk 0 rfl) rfl), ?_⟩
   refine ⟨fun a w B hA hS hd => d_6 rfl (vn (b_0 rfl en_40 (ev1 (gu hd 5)) (list_ok ((b.tabs.getD k tab0).brk) _ _ ((a_6 (hS.ok 7 _ rfl)).brk (i := k) (by omega)) (hth.bl _))) (fun v w' h => ⟨_, And.intro trivial rfl, (Sep.start NoB _).new_row h.1 h.2, rfl⟩)), ?_⟩
   refine ⟨fun a w B hA hS hd => gv1 (a_4 rfl fd_46_4 (hA.ev rfl)), ?_⟩
   refine ⟨fun a w B hA hS hd => gv1 (a_3 rfl ty_3 (gu hd 7) (hS.bk 0 rfl) rfl), ?_⟩
   refine ⟨fun a w B hA hS hd => ?_, ?_⟩
   ·skip
    obtain ⟨e6, Fj, FJ, FH⟩ := hd 6 (by decide)
    obtain ⟨Fi, FI⟩ := FJ; subst FI
    have hp6_0 := FH _ (List.mem_of_getElem? (i := 0) rfl)
    exact gv1 (e_6 rfl (pv4 (gu hd 1) (gu hd 3) (c_9 (d_4 e6 rfl)) (gu hd 8)) (bd_106_0i_1i_3s_4i _ _ _ (SlAt.isSl (SlAt.h_7 hp6_0)) _))
   refine ⟨fun a w B hA hS hd => d_6 rfl (valloc rfl ze_106 (cs := [(Value.int .i64 0), (Value.int .i64 0), (Value.slice none 0 0), (Value.slice none 0 0), (Value.int .i64 0)]) rfl (fun b_ => ⟨b_, rfl, rfl⟩)), ?_⟩
   trivial
  intro DI FM B rsf72 DR N CP; clear DQ Dd
  obtain ⟨AY, Ao⟩ := N 0 (by decide)
  obtain ⟨Ag, Y⟩ := Ao
  obtain ⟨U, Ap⟩ := N 1 (by decide)
  obtain ⟨t, Z⟩ := Ap
  obtain ⟨AZ, Aq⟩ := N 2 (by decide)
  obtain ⟨Ah, c⟩ := Aq
  obtain ⟨Aa, Ar⟩ := N 3 (by decide)
  obtain ⟨Ai, d⟩ := Ar
  obtain ⟨Ab, As⟩ := N 4 (by decide)
  obtain ⟨Aj, e⟩ := As
  obtain ⟨Ac, At⟩ := N 5 (by decide)
  obtain ⟨Ak, f⟩ := At
  obtain ⟨Ad, Au⟩ := N 6 (by decide)
  obtain ⟨Al, g⟩ := Au
  obtain ⟨Ae, Av⟩ := N 7 (by decide)
  obtain ⟨Am, n⟩ := Av
  obtain ⟨Af, Aw⟩ := N 8 (by decide)
  obtain ⟨An, o⟩ := Aw
  obtain ⟨s, Ax⟩ := N 9 (by decide)
  obtain ⟨AD, p⟩ := Ax
  obtain ⟨V, AC⟩ := N 10 (by decide)
  obtain ⟨b10_, r, R⟩ := AC
  have CQ : Sep NoB w FM [(row (B 6) 3 1 ((b.tabs.getD k tab0).brk.length) (ints ((b.tabs.getD k tab0).brk))), (blk b10_ 106 [(Value.int .i64 0), (Value.int .i64 0), (Value.slice none 0 0), (Value.slice none 0 0), (Value.int .i64 0)]), (blk J 46 [(Value.int .i64 ((b.tabs.getD k tab0).frm)), (Value.int .i64 ((b.tabs.getD k tab0).dst)), (lr k), (lb k), (Value.int .i64 ((b.tabs.getD k tab0).err))]), (slsR true ((b.tabs.take k).length) lr_ 2 (m_1 (b.tabs.take k)) (m_0 (b.tabs.take k))), (slsR true ((b.tabs.take k).length) lb_ 1 (brkN (b.tabs.take k)) (brkC (b.tabs.take k))), (row vt_ 106 5 ((b.tabs.take k).length) (n_4 lr_ lb_ (b.tabs.take k))), (blk D 37 [(Value.int .i64 b.scales), vt_, (Value.slice none 0 0)]), (blk H 37 [(Value.int .i64 0), (Value.slice none 0 0), (Value.slice none 0 0)]), (blk I 25 [(Value.int .i64 b.scales), vt, vm]), (b_6 false vt lr lb b.tabs), (c_0 false vm lk b.macs)] := by rw [show catR rsf72 0 11 = ([(row (B 6) 3 1 ((b.tabs.getD k tab0).brk.length) (ints ((b.tabs.getD k tab0).brk))), (blk b10_ 106 [(Value.int .i64 0), (Value.int .i64 0), (Value.slice none 0 0), (Value.slice none 0 0), (Value.int .i64 0)])] : List Res) by (try simp only [catR, Y, Z, c, d, e, f, g, n, o, p, R]); (try rfl)] at CP; exact CP
  rw [AD] at s
  have DT : Fr 116 [] [(36, (Value.agg #[(Value.int .i64 ((b.tabs.getD k tab0).frm)), (Value.int .i64 ((b.tabs.getD k tab0).dst)), (Value.slice none 0 0), (B 6), (Value.int .i64 ((b.tabs.getD k tab0).err))])), (5, (bptr J 0)), (4, (Value.int .i64 (k : Int))), (3, (bptr D 0)), (2, (bptr H 0)), (1, (bptr I 0))] DI := DR.add (d_4 s rfl); clear DR
  rw [r] at V
  have Bf : Fr 116 [] [(6, (bptr b10_ 0)), (36, (Value.agg #[(Value.int .i64 ((b.tabs.getD k tab0).frm)), (Value.int .i64 ((b.tabs.getD k tab0).dst)), (Value.slice none 0 0), (B 6), (Value.int .i64 ((b.tabs.getD k tab0).err))])), (5, (bptr J 0)), (4, (Value.int .i64 (k : Int))), (3, (bptr D 0)), (2, (bptr H 0)), (1, (bptr I 0))] DI := DT.add (d_4 V rfl); clear DT
  clear N CP AY U AZ Aa Ab Ac Ad Ae Af s V
  clear Y
  clear Ag
  clear Z
  clear t
  clear c
  clear Ah
  clear d
  clear Ai
  clear e
  clear Aj
  clear f
  clear Ak
  clear g
  clear Al
  clear n
  clear Am
  clear o
  clear An
  clear p
  clear AD
  clear R
  clear r
  refine s7 Bf (c_1 CQ rfl l_1 (Bf.ev rfl) (Bf.ev rfl) (i := 1) rfl (vs := [(Value.int .i64 ((b.tabs.getD k tab0).frm)), (Value.int .i64 ((b.tabs.getD k tab0).dst)), (Value.slice none 0 0), (B 6), (Value.int .i64 ((b.tabs.getD k tab0).err))]) rfl rfl (h_4 rfl (h_4 rfl (h_4 rfl (h_4 (SlAt.one (SlAt.h_7 (CQ.j_4 0 rfl))) (h_4 rfl v_0))))) (Nat.le_of_ble_eq_true rfl)) ?_
  intro _ FN De DU; clear Bf
  have Df : Sep NoB w FN [(row (B 6) 3 1 ((b.tabs.getD k tab0).brk.length) (ints ((b.tabs.getD k tab0).brk))), (blk b10_ 106 [(Value.int .i64 ((b.tabs.getD k tab0).frm)), (Value.int .i64 ((b.tabs.getD k tab0).dst)), (Value.slice none 0 0), (B 6), (Value.int .i64 ((b.tabs.getD k tab0).err))]), (blk J 46 [(Value.int .i64 ((b.tabs.getD k tab0).frm)), (Value.int .i64 ((b.tabs.getD k tab0).dst)), (lr k), (lb k), (Value.int .i64 ((b.tabs.getD k tab0).err))]), (slsR true ((b.tabs.take k).length) lr_ 2 (m_1 (b.tabs.take k)) (m_0 (b.tabs.take k))), (slsR true ((b.tabs.take k).length) lb_ 1 (brkN (b.tabs.take k)) (brkC (b.tabs.take k))), (row vt_ 106 5 ((b.tabs.take k).length) (n_4 lr_ lb_ (b.tabs.take k))), (blk D 37 [(Value.int .i64 b.scales), vt_, (Value.slice none 0 0)]), (blk H 37 [(Value.int .i64 0), (Value.slice none 0 0), (Value.slice none 0 0)]), (blk I 25 [(Value.int .i64 b.scales), vt, vm]), (b_6 false vt lr lb b.tabs), (c_0 false vm lk b.macs)] := De; clear De CQ
  refine n2 ?_
  refine m2 ?_
  refine s1 DU (a_0 rfl (evc _ _)) fun FA DV => ?_; clear DU DI
  refine n1 ?_
  refine d_0 ?_
  have Dg := Df.y_3 107 2; clear Df
  have DW := DV.as [(7, (Value.int .i64 0)), (6, (bptr b10_ 0)), (5, (bptr J 0)), (4, (Value.int .i64 (k : Int))), (3, (bptr D 0)), (2, (bptr H 0)), (1, (bptr I 0))] rfl; clear DV
  refine h_1 (G := Nat) (fun (j : Nat) a_ w_ => ∃ vr_ : Value, Fr 116 [] [(7, (Value.int .i64 (j : Int))), (6, (bptr b10_ 0)), (5, (bptr J 0)), (4, (Value.int .i64 (k : Int))), (3, (bptr D 0)), (2, (bptr H 0)), (1, (bptr I 0))] a_ ∧ Sep NoB w w_ [(row vr_ 107 2 (((b.tabs.getD k tab0).rows.take j).length) (pairs ((b.tabs.getD k tab0).rows.take j))), (row (B 6) 3 1 ((b.tabs.getD k tab0).brk.length) (ints ((b.tabs.getD k tab0).brk))), (blk b10_ 106 [(Value.int .i64 ((b.tabs.getD k tab0).frm)), (Value.int .i64 ((b.tabs.getD k tab0).dst)), vr_, (B 6), (Value.int .i64 ((b.tabs.getD k tab0).err))]), (blk J 46 [(Value.int .i64 ((b.tabs.getD k tab0).frm)), (Value.int .i64 ((b.tabs.getD k tab0).dst)), (lr k), (lb k), (Value.int .i64 ((b.tabs.getD k tab0).err))]), (slsR true ((b.tabs.take k).length) lr_ 2 (m_1 (b.tabs.take k)) (m_0 (b.tabs.take k))), (slsR true ((b.tabs.take k).length) lb_ 1 (brkN (b.tabs.take k)) (brkC (b.tabs.take k))), (row vt_ 106 5 ((b.tabs.take k).length) (n_4 lr_ lb_ (b.tabs.take k))), (blk D 37 [(Value.int .i64 b.scales), vt_, (Value.slice none 0 0)]), (blk H 37 [(Value.int .i64 0), (Value.slice none 0 0), (Value.slice none 0 0)]), (blk I 25 [(Value.int .i64 b.scales), vt, vm]), (b_6 false vt lr lb b.tabs), (c_0 false vm lk b.macs)] ∧ (j ≤ (b.tabs.getD k tab0).rows.length)) (fun j => (b.tabs.getD k tab0).rows.length - j) 0 ⟨(Value.slice none 0 0), DW.as _ rfl, (Dg.k_4 (i := 0) rfl (by rfl) (by rfl)), (Nat.zero_le _)⟩ ?_
  clear DW Dg FA
  rintro j FB Fn ⟨vr_, CK, X, hkj⟩
  have hlt_j : ((b.tabs.getD k tab0).rows.take j).length ≤ 12 := by simp only [List.length_take]; omega
  refine b_9 ?_
  refine m2 ?_
  refine s1 CK (a_1 rfl (CK.ev rfl)) fun FC CL => ?_; clear CK FB
  refine s1 CL (a_4 rfl f_4 (CL.ev rfl)) fun FD CM => ?_; clear CL FC
  refine s1 CM (a_3 rfl k_1 (CM.ev rfl) (X.bk 3 rfl) rfl) fun FE CN => ?_; clear CM FD
  refine s1 CN (d_5 rfl k_2 (CN.ev rfl) ((a_6 (X.ok 10 _ rfl)).row (i := k) (by omega))) fun FF Bg => ?_; clear CN FE
  refine s1 Bg (g_3 rfl (Bg.ev rfl) (Bg.ev rfl)) fun FG W => ?_; clear Bg FF
  refine n1 ?_
  by_cases Di : (j : Int) < ((b.tabs.getD k tab0).rows.length : Int)
  ·skip
   rw [decide_eq_true Di] at W
   refine c_7 W rfl ?_
   refine d_2 ?_
   refine b_2 ?_
   refine b_9 ?_
   refine d_0 ?_
   have DX := W.as [(7, (Value.int .i64 (j : Int))), (6, (bptr b10_ 0)), (5, (bptr J 0)), (4, (Value.int .i64 (k : Int))), (3, (bptr D 0)), (2, (bptr H 0)), (1, (bptr I 0))] rfl; clear W
   refine s_5 mixed DX X 16 [[], [0], [], [2], [], [3, 4], [5], [6], [], [8], [], [9, 10], [11], [12], [7, 13], [14]] [(fun (C : Nat → Value) (v_ : Value) (rs_ : List Res) => v_ = (bptr b10_ 2) ∧ rs_ = []), (fun (C : Nat → Value) (v_ : Value) (rs_ : List Res) => v_ = vr_ ∧ rs_ = []), (fun (C : Nat → Value) (v_ : Value) (rs_ : List Res) => v_ = (bptr J 2) ∧ rs_ = []), (fun (C : Nat → Value) (v_ : Value) (rs_ : List Res) => v_ = (lr k) ∧ rs_ = []), (fun (C : Nat → Value) (v_ : Value) (rs_ : List Res) => v_ = (Value.int .i64 (j : Int)) ∧ rs_ = []), (fun (C : Nat → Value) (v_ : Value) (rs_ : List Res) => v_ = (eptr (lr k) (j * 2)) ∧ rs_ = []), (fun (C : Nat → Value) (v_ : Value) (rs_ : List Res) => v_ = (eptr (lr k) (j * 2 + 0)) ∧ rs_ = []), (fun (C : Nat → Value) (v_ : Value) (rs_ : List Res) => v_ = (Value.int .i64 ((((b.tabs.getD k tab0).rows).getD j (0, 0)).1)) ∧ rs_ = []), (fun (C : Nat → Value) (v_ : Value) (rs_ : List Res) => v_ = (bptr J 2) ∧ rs_ = []), (fun (C : Nat → Value) (v_ : Value) (rs_ : List Res) => v_ = (lr k) ∧ rs_ = []), (fun (C : Nat → Value) (v_ : Value) (rs_ : List Res) => v_ = (Value.int .i64 (j : Int)) ∧ rs_ = []), (fun (C : Nat → Value) (v_ : Value) (rs_ : List Res) => v_ = (eptr (lr k) (j * 2)) ∧ rs_ = []), (fun (C : Nat → Value) (v_ : Value) (rs_ : List Res) => v_ = (eptr (lr k) (j * 2 + 1)) ∧ rs_ = []), (fun (C : Nat → Value) (v_ : Value) (rs_ : List Res) => v_ = (Value.int .i64 ((((b.tabs.getD k tab0).rows).getD j (0, 0)).2)) ∧ rs_ = []), (fun (C : Nat → Value) (v_ : Value) (rs_ : List Res) => v_ = (Value.agg #[(Value.int .i64 ((((b.tabs.getD k tab0).rows).getD j (0, 0)).1)), (Value.int .i64 ((((b.tabs.getD k tab0).rows).getD j (0, 0)).2))]) ∧ rs_ = []), (fun (C : Nat → Value) (v_ : Value) (rs_ : List Res) => True ∧ rs_ = [(row v_ 107 2 1 [(Value.int .i64 ((((b.tabs.getD k tab0).rows).getD j (0, 0)).1)), (Value.int .i64 ((((b.tabs.getD k tab0).rows).getD j (0, 0)).2))])])] (by decide +kernel) (by decide +kernel) rfl rfl ⟨(fun _ _ _ _ _ h_ => h_), (fun _ _ _ _ _ h_ => h_), (fun _ _ _ _ _ h_ => h_), (fun _ _ _ _ _ h_ => h_), (fun _ _ _ _ _ h_ => h_), (fun _ _ _ _ _ h_ => h_), (fun _ _ _ _ _ h_ => h_), (fun _ _ _ _ _ h_ => h_), (fun _ _ _ _ _ h_ => h_), (fun _ _ _ _ _ h_ => h_), (fun _ _ _ _ _ h_ => h_), (fun _ _ _ _ _ h_ => h_), (fun _ _ _ _ _ h_ => h_), (fun _ _ _ _ _ h_ => h_), (fun _ _ _ _ _ h_ => h_), (fun _ _ _ _ _ h_ => h_), trivial⟩ ?_ ?_
   ·skip
    refine ⟨fun a w C hA hS hd => gv1 (a_4 rfl i_6 (hA.ev rfl)), ?_⟩
    refine ⟨fun a w C hA hS hd => gv1 (a_3 rfl n_6 (gu hd 0) (hS.bk 2 rfl) rfl), ?_⟩
    refine ⟨fun a w C hA hS hd => gv1 (a_4 rfl f_4 (hA.ev rfl)), ?_⟩
    refine ⟨fun a w C hA hS hd => gv1 (a_3 rfl k_1 (gu hd 2) (hS.bk 3 rfl) rfl), ?_⟩
    refine ⟨fun a w C hA hS hd => gv1 (a_1 rfl (hA.ev rfl)), ?_⟩
    refine ⟨fun a w C hA hS hd => gv1 (b_3 rfl k_2 m_6 (gu hd 3) (i := j) (gu hd 4) ((a_6 (hS.ok 10 _ rfl)).row (i := k) (by omega)) (by decide) (by omega)), ?_⟩
    refine ⟨fun a w C hA hS hd => gv1 (c_8 rfl h_9 (gu hd 5) ((a_6 (hS.ok 10 _ rfl)).row (i := k) (by omega)) (by rw [(((a_6 (hS.ok 10 _ rfl)).row (i := k) (by omega))).1]; omega)), ?_⟩
    refine ⟨fun a w C hA hS hd => gv1 (c_2 rfl ty_3 (gu hd 6) ((a_6 (hS.ok 10 _ rfl)).row (i := k) (by omega)) (e_5 (by omega))), ?_⟩
    refine ⟨fun a w C hA hS hd => gv1 (a_4 rfl f_4 (hA.ev rfl)), ?_⟩
    refine ⟨fun a w C hA hS hd => gv1 (a_3 rfl k_1 (gu hd 8) (hS.bk 3 rfl) rfl), ?_⟩
    refine ⟨fun a w C hA hS hd => gv1 (a_1 rfl (hA.ev rfl)), ?_⟩
    refine ⟨fun a w C hA hS hd => gv1 (b_3 rfl k_2 m_6 (gu hd 9) (i := j) (gu hd 10) ((a_6 (hS.ok 10 _ rfl)).row (i := k) (by omega)) (by decide) (by omega)), ?_⟩
    refine ⟨fun a w C hA hS hd => gv1 (c_8 rfl u_5 (gu hd 11) ((a_6 (hS.ok 10 _ rfl)).row (i := k) (by omega)) (by rw [(((a_6 (hS.ok 10 _ rfl)).row (i := k) (by omega))).1]; omega)), ?_⟩
    refine ⟨fun a w C hA hS hd => gv1 (c_2 rfl ty_3 (gu hd 12) ((a_6 (hS.ok 10 _ rfl)).row (i := k) (by omega)) (j_7 (by omega))), ?_⟩
    refine ⟨fun a w C hA hS hd => gv1 (e_6 rfl (pv2 (gu hd 7) (gu hd 13)) (n_0 _ _)), ?_⟩
    refine ⟨fun a w C hA hS hd => d_6 rfl (vblt rfl (pv1 (gu hd 14)) k_3 h_8 x_6 (by decide) (cs := [(Value.int .i64 ((((b.tabs.getD k tab0).rows).getD j (0, 0)).1)), (Value.int .i64 ((((b.tabs.getD k tab0).rows).getD j (0, 0)).2))]) (bs_107_1_0iia _ _) rfl (by decide) (fun _ => And.intro trivial rfl)), ?_⟩
    trivial
   intro B9 El C rsf106 CR F Bh; clear DX X
   obtain ⟨AY, Ao⟩ := F 0 (by decide)
   obtain ⟨Ag, Y⟩ := Ao
   obtain ⟨U, Ap⟩ := F 1 (by decide)
   obtain ⟨t, Z⟩ := Ap
   obtain ⟨AZ, Aq⟩ := F 2 (by decide)
   obtain ⟨Ah, c⟩ := Aq
   obtain ⟨Aa, Ar⟩ := F 3 (by decide)
   obtain ⟨Ai, d⟩ := Ar
   obtain ⟨Ab, As⟩ := F 4 (by decide)
   obtain ⟨Aj, e⟩ := As
   obtain ⟨Ac, At⟩ := F 5 (by decide)
   obtain ⟨Ak, f⟩ := At
   obtain ⟨Ad, Au⟩ := F 6 (by decide)
   obtain ⟨Al, g⟩ := Au
   obtain ⟨Ae, Av⟩ := F 7 (by decide)
   obtain ⟨Am, n⟩ := Av
   obtain ⟨Af, Aw⟩ := F 8 (by decide)
   obtain ⟨An, o⟩ := Aw
   obtain ⟨s, Ax⟩ := F 9 (by decide)
   obtain ⟨AD, p⟩ := Ax
   obtain ⟨V, AC⟩ := F 10 (by decide)
   obtain ⟨r, R⟩ := AC
   obtain ⟨Bq, Bz⟩ := F 11 (by decide)
   obtain ⟨Bu, x⟩ := Bz
   obtain ⟨Br, B0⟩ := F 12 (by decide)
   obtain ⟨Bv, y⟩ := B0
   obtain ⟨Bs, B1⟩ := F 13 (by decide)
   obtain ⟨Bw, z⟩ := B1
   obtain ⟨Bt, B2⟩ := F 14 (by decide)
   obtain ⟨Bx, AA⟩ := B2
   obtain ⟨AX, B3⟩ := F 15 (by decide)
   obtain ⟨By, AB⟩ := B3
   have Bi : Sep NoB w El [(row (C 15) 107 2 1 [(Value.int .i64 ((((b.tabs.getD k tab0).rows).getD j (0, 0)).1)), (Value.int .i64 ((((b.tabs.getD k tab0).rows).getD j (0, 0)).2))]), (row vr_ 107 2 (((b.tabs.getD k tab0).rows.take j).length) (pairs ((b.tabs.getD k tab0).rows.take j))), (row (B 6) 3 1 ((b.tabs.getD k tab0).brk.length) (ints ((b.tabs.getD k tab0).brk))), (blk b10_ 106 [(Value.int .i64 ((b.tabs.getD k tab0).frm)), (Value.int .i64 ((b.tabs.getD k tab0).dst)), vr_, (B 6), (Value.int .i64 ((b.tabs.getD k tab0).err))]), (blk J 46 [(Value.int .i64 ((b.tabs.getD k tab0).frm)), (Value.int .i64 ((b.tabs.getD k tab0).dst)), (lr k), (lb k), (Value.int .i64 ((b.tabs.getD k tab0).err))]), (slsR true ((b.tabs.take k).length) lr_ 2 (m_1 (b.tabs.take k)) (m_0 (b.tabs.take k))), (slsR true ((b.tabs.take k).length) lb_ 1 (brkN (b.tabs.take k)) (brkC (b.tabs.take k))), (row vt_ 106 5 ((b.tabs.take k).length) (n_4 lr_ lb_ (b.tabs.take k))), (blk D 37 [(Value.int .i64 b.scales), vt_, (Value.slice none 0 0)]), (blk H 37 [(Value.int .i64 0), (Value.slice none 0 0), (Value.slice none 0 0)]), (blk I 25 [(Value.int .i64 b.scales), vt, vm]), (b_6 false vt lr lb b.tabs), (c_0 false vm lk b.macs)] := by rw [show catR rsf106 0 16 = ([(row (C 15) 107 2 1 [(Value.int .i64 ((((b.tabs.getD k tab0).rows).getD j (0, 0)).1)), (Value.int .i64 ((((b.tabs.getD k tab0).rows).getD j (0, 0)).2))])] : List Res) by (try simp only [catR, Y, Z, c, d, e, f, g, n, o, p, R, x, y, z, AA, AB]); (try rfl)] at Bh; exact Bh
   rw [t] at U
   have CS : Fr 116 [] [(45, vr_), (7, (Value.int .i64 (j : Int))), (6, (bptr b10_ 0)), (5, (bptr J 0)), (4, (Value.int .i64 (k : Int))), (3, (bptr D 0)), (2, (bptr H 0)), (1, (bptr I 0))] B9 := CR.add (d_4 U rfl); clear CR
   have AE : Fr 116 [] [(59, (C 15)), (45, vr_), (7, (Value.int .i64 (j : Int))), (6, (bptr b10_ 0)), (5, (bptr J 0)), (4, (Value.int .i64 (k : Int))), (3, (bptr D 0)), (2, (bptr H 0)), (1, (bptr I 0))] B9 := CS.add (d_4 AX rfl); clear CS
   clear F Bh AY U AZ Aa Ab Ac Ad Ae Af s V Bq Br Bs Bt AX
   clear Y
   clear Ag
   clear Z
   clear t
   clear c
   clear Ah
   clear d
   clear Ai
   clear e
   clear Aj
   clear f
   clear Ak
   clear g
   clear Al
   clear n
   clear Am
   clear o
   clear An
   clear p
   clear AD
   clear R
   clear r
   clear x
   clear Bu
   clear y
   clear Bv
   clear z
   clear Bw
   clear AA
   clear Bx
   clear AB
   clear By
   refine s2 AE (q_6 Bi rfl k_3 el_107 (AE.ev rfl) (AE.ev rfl) (i := 1) rfl (SlAt.h_7 (Bi.j_4 0 rfl)) rfl (by simp only [maxLen]; omega) (by omega)) ?_
   intro Dy B4 FX Ci Ay
   have AS := Ci.k_4 (i := 1) rfl (n' := (((b.tabs.getD k tab0).rows.take j) ++ [(b.tabs.getD k tab0).rows.getD j (0, 0)]).length) (xs' := (pairs (((b.tabs.getD k tab0).rows.take j) ++ [(b.tabs.getD k tab0).rows.getD j (0, 0)]))) (by simp) (by simp [pairs]); clear Ci AE Bi B9
   refine s1 Ay (a_4 rfl i_6 (Ay.ev rfl)) fun Dz AF => ?_; clear Ay Dy
   refine s7 AF (c_1 AS rfl n_6 (AF.ev rfl) (AF.ev rfl) (i := 3) rfl (vs := [B4]) (isSl_cells (SlAt.isSl (SlAt.h_7 (AS.j_4 1 rfl)))) rfl (h_4 (SlAt.one (SlAt.h_7 (AS.j_4 1 rfl))) v_0) (Nat.le_of_ble_eq_true rfl)) ?_
   intro _ Em Cj Az; clear AF
   have Ck : Sep NoB w Em [(row (C 15) 107 2 1 [(Value.int .i64 ((((b.tabs.getD k tab0).rows).getD j (0, 0)).1)), (Value.int .i64 ((((b.tabs.getD k tab0).rows).getD j (0, 0)).2))]), (row B4 107 2 ((((b.tabs.getD k tab0).rows.take j) ++ [(b.tabs.getD k tab0).rows.getD j (0, 0)]).length) (pairs (((b.tabs.getD k tab0).rows.take j) ++ [(b.tabs.getD k tab0).rows.getD j (0, 0)]))), (row (B 6) 3 1 ((b.tabs.getD k tab0).brk.length) (ints ((b.tabs.getD k tab0).brk))), (blk b10_ 106 [(Value.int .i64 ((b.tabs.getD k tab0).frm)), (Value.int .i64 ((b.tabs.getD k tab0).dst)), B4, (B 6), (Value.int .i64 ((b.tabs.getD k tab0).err))]), (blk J 46 [(Value.int .i64 ((b.tabs.getD k tab0).frm)), (Value.int .i64 ((b.tabs.getD k tab0).dst)), (lr k), (lb k), (Value.int .i64 ((b.tabs.getD k tab0).err))]), (slsR true ((b.tabs.take k).length) lr_ 2 (m_1 (b.tabs.take k)) (m_0 (b.tabs.take k))), (slsR true ((b.tabs.take k).length) lb_ 1 (brkN (b.tabs.take k)) (brkC (b.tabs.take k))), (row vt_ 106 5 ((b.tabs.take k).length) (n_4 lr_ lb_ (b.tabs.take k))), (blk D 37 [(Value.int .i64 b.scales), vt_, (Value.slice none 0 0)]), (blk H 37 [(Value.int .i64 0), (Value.slice none 0 0), (Value.slice none 0 0)]), (blk I 25 [(Value.int .i64 b.scales), vt, vm]), (b_6 false vt lr lb b.tabs), (c_0 false vm lk b.macs)] := Cj; clear Cj AS
   refine f_0 ?_
   refine g_9 ?_
   refine b_2 ?_
   refine a_5 ?_
   refine s1 Az (a_1 rfl (Az.ev rfl)) fun D0 A0 => ?_; clear Az Dz
   refine s1 A0 (g_0 rfl (A0.ev rfl) (evc _ _) (by omega) (by omega)) fun D1 A1 => ?_; clear A0 D0
   refine s1 A1 (a_0 rfl (A1.ev rfl)) fun FP Dj => ?_; clear A1 D1
   refine f_0 ?_
   have Dn := Ck.gkp (gpc 1 (gpc 2 (gpc 3 (gpc 4 (gpc 5 (gpc 6 (gpc 7 (gpc 8 (gpc 9 (gpc 10 (gpc 11 (gpc 12 gpn)))))))))))); clear Ck
   exact b_2 ⟨j + 1, ⟨B4, Dj.as _ rfl, (Dn.k_4 (i := 0) rfl (by rw [q_3 (by omega)]) (by rw [q_3 (by omega)])), by omega⟩, by omega⟩
  skip
  rw [decide_eq_false Di] at W
  refine b_8 W rfl ?_
  refine h_0 ?_
  refine b_5 ?_
  refine b_5 ?_
  refine f_8 ?_
  refine b_2 ?_
  have A2 := W.as [(6, (bptr b10_ 0)), (4, (Value.int .i64 (k : Int))), (3, (bptr D 0)), (2, (bptr H 0)), (1, (bptr I 0))] rfl; clear W
  refine a_5 ?_
  refine s1 A2 (a_4 rfl w_3 (A2.ev rfl)) fun D2 A3 => ?_; clear A2 FG
  refine s1 A3 (a_3 rfl ty_34 (A3.ev rfl) (X.bk 7 rfl) rfl) fun D3 A4 => ?_; clear A3 D2
  refine s1 A4 (c_5 rfl l_1 (A4.ev rfl) (X.bk 2 rfl) (l := [(Value.int .i64 ((b.tabs.getD k tab0).frm)), (Value.int .i64 ((b.tabs.getD k tab0).dst)), vr_, (B 6), (Value.int .i64 ((b.tabs.getD k tab0).err))]) rfl rfl) fun D4 A5 => ?_; clear A4 D3
  refine s2 A5 (h_3 X rfl (pv1 (A5.ev rfl)) z_2 l_1 ze_106 (by decide) (cs := [(Value.int .i64 ((b.tabs.getD k tab0).frm)), (Value.int .i64 ((b.tabs.getD k tab0).dst)), vr_, (B 6), (Value.int .i64 ((b.tabs.getD k tab0).err))]) (bs_106_1_0iivvia _ _ _ _ _)) ?_
  rintro D5 _ FY ⟨Ej, rfl, u⟩ AG; clear A5 X D4
  refine s2 AG (q_6 u rfl z_2 el_106 (AG.ev rfl) (AG.ev rfl) (i := 7) rfl (SlAt.of_blk (u.bk 0 rfl) rfl (Nat.le_of_ble_eq_true rfl)) (h_4 rfl (h_4 rfl (h_4 (SlAt.one (SlAt.h_7 (u.j_4 1 rfl))) (h_4 (SlAt.one (SlAt.h_7 (u.j_4 2 rfl))) (h_4 rfl v_0))))) (by simp only [maxLen]; omega) (by omega)) ?_
  intro D6 B5 FZ Cl A6
  have AT := Cl.k_4 (i := 7) rfl (n' := ((b.tabs.take k) ++ [(b.tabs.getD k tab0)]).length) (xs' := (n_4 (putV (b.tabs.take k).length lr_ vr_) (putV (b.tabs.take k).length lb_ (B 6)) ((b.tabs.take k) ++ [(b.tabs.getD k tab0)]))) (by simp) (tabs_snoc (b.tabs.getD k tab0) vr_ (B 6)); clear Cl AG u D5
  refine s1 A6 (a_4 rfl w_3 (A6.ev rfl)) fun D7 AH => ?_; clear A6 D6
  refine s7 AH (c_1 AT rfl ty_34 (AH.ev rfl) (AH.ev rfl) (i := 8) rfl (vs := [B5]) (isSl_cells (SlAt.isSl (SlAt.h_7 (AT.j_4 7 rfl)))) rfl (h_4 (SlAt.one (SlAt.h_7 (AT.j_4 7 rfl))) v_0) (Nat.le_of_ble_eq_true rfl)) ?_
  intro _ En Cm CT; clear AH
  have Cn : Sep NoB w En [(blk Ej 106 [(Value.int .i64 ((b.tabs.getD k tab0).frm)), (Value.int .i64 ((b.tabs.getD k tab0).dst)), vr_, (B 6), (Value.int .i64 ((b.tabs.getD k tab0).err))]), (row vr_ 107 2 (((b.tabs.getD k tab0).rows.take j).length) (pairs ((b.tabs.getD k tab0).rows.take j))), (row (B 6) 3 1 ((b.tabs.getD k tab0).brk.length) (ints ((b.tabs.getD k tab0).brk))), (blk b10_ 106 [(Value.int .i64 ((b.tabs.getD k tab0).frm)), (Value.int .i64 ((b.tabs.getD k tab0).dst)), vr_, (B 6), (Value.int .i64 ((b.tabs.getD k tab0).err))]), (blk J 46 [(Value.int .i64 ((b.tabs.getD k tab0).frm)), (Value.int .i64 ((b.tabs.getD k tab0).dst)), (lr k), (lb k), (Value.int .i64 ((b.tabs.getD k tab0).err))]), (slsR true ((b.tabs.take k).length) lr_ 2 (m_1 (b.tabs.take k)) (m_0 (b.tabs.take k))), (slsR true ((b.tabs.take k).length) lb_ 1 (brkN (b.tabs.take k)) (brkC (b.tabs.take k))), (row B5 106 5 (((b.tabs.take k) ++ [(b.tabs.getD k tab0)]).length) (n_4 (putV (b.tabs.take k).length lr_ vr_) (putV (b.tabs.take k).length lb_ (B 6)) ((b.tabs.take k) ++ [(b.tabs.getD k tab0)]))), (blk D 37 [(Value.int .i64 b.scales), B5, (Value.slice none 0 0)]), (blk H 37 [(Value.int .i64 0), (Value.slice none 0 0), (Value.slice none 0 0)]), (blk I 25 [(Value.int .i64 b.scales), vt, vm]), (b_6 false vt lr lb b.tabs), (c_0 false vm lk b.macs)] := Cm; clear Cm AT
  refine f_0 ?_
  refine g_9 ?_
  refine b_2 ?_
  have A7 := CT.as [(4, (Value.int .i64 (k : Int))), (3, (bptr D 0)), (2, (bptr H 0)), (1, (bptr I 0))] rfl; clear CT
  refine a_5 ?_
  refine s1 A7 (a_1 rfl (A7.ev rfl)) fun D8 A8 => ?_; clear A7 D7
  refine s1 A8 (g_0 rfl (A8.ev rfl) (evc _ _) (by omega) (by omega)) fun D9 A9 => ?_; clear A8 D8
  refine s1 A9 (a_0 rfl (A9.ev rfl)) fun FQ Dk => ?_; clear A9 D9
  refine f_0 ?_
  have Co := Cn.k_4 (i := 1) rfl (n' := (b.tabs.getD k tab0).rows.length) (xs' := pairs (b.tabs.getD k tab0).rows) (by rw [List.take_of_length_le (by omega)]) (by rw [List.take_of_length_le (by omega)]); clear Cn
  have Cp := Co.gkp (gpc 1 (gpc 5 (gpc 0 (gpc 2 (gpc 3 (gpc 4 (gpc 6 (gpc 7 (gpc 8 (gpc 9 (gpc 10 (gpc 11 (gpc 12 gpn))))))))))))); clear Co
  have Cq := k_5 (k' := m_1 (b.tabs.take (k + 1))) (c' := m_0 (b.tabs.take (k + 1))) Cp (rowsN_new (by omega)).1 (rowsN_new (by omega)).2.1 (fun i hi => (rowsN_old i hi).1); clear Cp
  have Cr := sep_sls_say (i := 0) (n' := (b.tabs.take (k + 1)).length) (v' := (putV (b.tabs.take k).length lr_ vr_)) (k' := m_1 (b.tabs.take (k + 1))) (c' := m_0 (b.tabs.take (k + 1))) Cq rfl (take_len1 (by omega)) (fun _ _ => ⟨rfl, rfl, rfl⟩); clear Cq
  have Cs := Cr.gkp (gpc 2 (gpc 5 (gpc 0 (gpc 1 (gpc 3 (gpc 4 (gpc 6 (gpc 7 (gpc 8 (gpc 9 (gpc 10 (gpc 11 gpn)))))))))))); clear Cr
  have Ct := k_5 (k' := brkN (b.tabs.take (k + 1))) (c' := brkC (b.tabs.take (k + 1))) Cs (rowsN_new (by omega)).2.2.1 (rowsN_new (by omega)).2.2.2 (fun i hi => (rowsN_old i hi).2); clear Cs
  have Cu := sep_sls_say (i := 0) (n' := (b.tabs.take (k + 1)).length) (v' := (putV (b.tabs.take k).length lb_ (B 6))) (k' := brkN (b.tabs.take (k + 1))) (c' := brkC (b.tabs.take (k + 1))) Ct rfl (take_len1 (by omega)) (fun _ _ => ⟨rfl, rfl, rfl⟩); clear Ct
  have Do := Cu.gkp (gpc 1 (gpc 0 (gpc 5 (gpc 6 (gpc 7 (gpc 8 (gpc 9 (gpc 10 gpn)))))))); clear Cu
  exact b_2 ⟨k + 1, ⟨B5, (putV (b.tabs.take k).length lr_ vr_), (putV (b.tabs.take k).length lb_ (B 6)), Dk.as _ rfl, (Do.k_4 (i := 2) rfl (by rw [q_3 (by omega)]) (by rw [q_3 (by omega)])), by omega⟩, by omega⟩
 skip
 rw [decide_eq_false Dh] at S
 refine b_8 S rfl ?_
 refine h_0 ?_
 refine b_5 ?_
 refine b_5 ?_
 refine f_8 ?_
 refine b_2 ?_
 refine b_9 ?_
 refine b_9 ?_
 have CU := S.as [(3, (bptr D 0)), (2, (bptr H 0)), (1, (bptr I 0))] rfl; clear S
 refine a_5 ?_
 refine s1 CU (a_0 rfl (evc _ _)) fun EA CV => ?_; clear CU Du
 refine n1 ?_
 refine d_0 ?_
 have hkt : k = b.tabs.length := by omega
 have Bj := T.gkp (gpc 2 (gpc 0 (gpc 1 (gpc 3 (gpc 4 (gpc 5 (gpc 6 (gpc 7 gpn)))))))); clear T
 rw [hkt, List.take_length] at Bj
 have Cv := sep_tabs_join Bj; clear Bj
 have Cw := p_4 (Cv.y_3 103 2) (fun _ => Value.slice none 0 0) 3 (blkN (b.macs.take 0)) (blkC (b.macs.take 0)); clear Cv
 have CW := CV.as [(8, (Value.int .i64 0)), (3, (bptr D 0)), (2, (bptr H 0)), (1, (bptr I 0))] rfl; clear CV
 refine h_1 (G := Nat) (fun (m : Nat) a_ w_ => ∃ vm_ : Value, ∃ lk_ : Nat → Value, Fr 116 [] [(8, (Value.int .i64 (m : Int))), (3, (bptr D 0)), (2, (bptr H 0)), (1, (bptr I 0))] a_ ∧ Sep NoB w w_ [(slsR true ((b.macs.take m).length) lk_ 3 (blkN (b.macs.take m)) (blkC (b.macs.take m))), (row vm_ 103 2 ((b.macs.take m).length) (o_4 lk_ (b.macs.take m))), (b_6 true vt_ lr_ lb_ b.tabs), (blk D 37 [(Value.int .i64 b.scales), vt_, vm_]), (blk H 37 [(Value.int .i64 0), (Value.slice none 0 0), (Value.slice none 0 0)]), (blk I 25 [(Value.int .i64 b.scales), vt, vm]), (b_6 false vt lr lb b.tabs), (c_0 false vm lk b.macs)] ∧ (m ≤ b.macs.length)) (fun m => b.macs.length - m) 0 ⟨(Value.slice none 0 0), (fun _ => Value.slice none 0 0), CW.as _ rfl, (Cw.k_4 (i := 1) rfl (by rfl) (by rfl)), (Nat.zero_le _)⟩ ?_
 clear CW Cw EA
 rintro m EB Fa ⟨vm_, lk_, BA, K, hkm⟩
 have hmtk : (b.macs.take m).length = m := by rw [List.length_take]; omega
 refine b_9 ?_
 refine m2 ?_
 refine s1 BA (a_1 rfl (BA.ev rfl)) fun EC BC => ?_; clear BA EB
 refine s1 BC (a_4 rfl o_5 (BC.ev rfl)) fun ED BD => ?_; clear BC EC
 refine s1 BD (a_3 rfl z_5 (BD.ev rfl) (K.bk 5 rfl) rfl) fun EE BE => ?_; clear BD ED
 refine s1 BE (d_5 rfl z_7 (BE.ev rfl) (c_3 (K.ok 7 _ rfl)).macs) fun EF AI => ?_; clear BE EE
 refine s1 AI (g_3 rfl (AI.ev rfl) (AI.ev rfl)) fun DH O => ?_; clear AI EF
 refine n1 ?_
 by_cases DD : (m : Int) < (b.macs.length : Int)
 ·skip
  rw [decide_eq_true DD] at O
  have hmkk := hth.mac m
  refine c_7 O rfl ?_
  refine d_2 ?_
  refine b_2 ?_
  refine b_9 ?_
  refine d_0 ?_
  refine m2 ?_
  refine s1 O (a_4 rfl o_5 (O.ev rfl)) fun EG BF => ?_; clear O DH
  refine s1 BF (a_3 rfl z_5 (BF.ev rfl) (K.bk 5 rfl) rfl) fun EH BG => ?_; clear BF EG
  refine s1 BG (a_1 rfl (BG.ev rfl)) fun EI AJ => ?_; clear BG EH
  refine s1 AJ (b_3 rfl z_7 aa_0 (AJ.ev rfl) (i := m) (AJ.ev rfl) (c_3 (K.ok 7 _ rfl)).macs (by decide) (by omega)) fun EJ BH => ?_; clear AJ EI
  refine s1 BH (f_1 rfl aa_0 (BH.ev rfl) (c_3 (K.ok 7 _ rfl)).macs (w_4 (by omega)) rfl (by decide)) fun EK CX => ?_; clear BH EJ
  refine s2 CX (e_3 K rfl ze_61 (cs := [(Value.int .i64 0), (Value.slice none 0 0)]) rfl) ?_
  rintro EL _ Fb ⟨L, rfl, Bk⟩ AK; clear CX K EK
  refine s7 AK (c_1 Bk rfl aa_0 (AK.ev rfl) (AK.ev rfl) (i := 0) rfl (vs := [(Value.int .i64 ((b.macs.getD m mac0).scale)), (lk m)]) rfl rfl (h_4 rfl (h_4 (SlAt.one ((c_3 (Bk.ok 8 _ rfl)).blk (i := m) (by omega))) v_0)) (Nat.le_of_ble_eq_true rfl)) ?_
  intro _ Eo Cx CY; clear AK
  have Bl : Sep NoB w Eo [(blk L 61 [(Value.int .i64 ((b.macs.getD m mac0).scale)), (lk m)]), (slsR true ((b.macs.take m).length) lk_ 3 (blkN (b.macs.take m)) (blkC (b.macs.take m))), (row vm_ 103 2 ((b.macs.take m).length) (o_4 lk_ (b.macs.take m))), (b_6 true vt_ lr_ lb_ b.tabs), (blk D 37 [(Value.int .i64 b.scales), vt_, vm_]), (blk H 37 [(Value.int .i64 0), (Value.slice none 0 0), (Value.slice none 0 0)]), (blk I 25 [(Value.int .i64 b.scales), vt, vm]), (b_6 false vt lr lb b.tabs), (c_0 false vm lk b.macs)] := Cx; clear Cx Bk
  refine n2 ?_
  have BI := CY.as [(9, (bptr L 0)), (8, (Value.int .i64 (m : Int))), (3, (bptr D 0)), (2, (bptr H 0)), (1, (bptr I 0))] rfl; clear CY
  refine a_5 ?_
  refine s1 BI (a_4 rfl fd_61_0 (BI.ev rfl)) fun EM BJ => ?_; clear BI EL
  refine s1 BJ (a_3 rfl ty_3 (BJ.ev rfl) (Bl.bk 0 rfl) rfl) fun EN BK => ?_; clear BJ EM
  refine s1 BK (e_6 rfl (pv1 (BK.ev rfl)) (bd_103_0i _)) fun EO CZ => ?_; clear BK EN
  refine s2 CZ (e_3 Bl rfl ze_103 (cs := [(Value.int .i64 0), (Value.slice none 0 0)]) rfl) ?_
  rintro EP _ Fc ⟨M, rfl, Cy⟩ AL; clear CZ Bl EO
  refine s7 AL (c_1 Cy rfl t_3 (AL.ev rfl) (AL.ev rfl) (i := 0) rfl (vs := [(Value.int .i64 ((b.macs.getD m mac0).scale)), (Value.slice none 0 0)]) rfl rfl (h_4 rfl (h_4 rfl v_0)) (Nat.le_of_ble_eq_true rfl)) ?_
  intro _ Ep Cz Ca; clear AL
  have C0 : Sep NoB w Ep [(blk M 103 [(Value.int .i64 ((b.macs.getD m mac0).scale)), (Value.slice none 0 0)]), (blk L 61 [(Value.int .i64 ((b.macs.getD m mac0).scale)), (lk m)]), (slsR true ((b.macs.take m).length) lk_ 3 (blkN (b.macs.take m)) (blkC (b.macs.take m))), (row vm_ 103 2 ((b.macs.take m).length) (o_4 lk_ (b.macs.take m))), (b_6 true vt_ lr_ lb_ b.tabs), (blk D 37 [(Value.int .i64 b.scales), vt_, vm_]), (blk H 37 [(Value.int .i64 0), (Value.slice none 0 0), (Value.slice none 0 0)]), (blk I 25 [(Value.int .i64 b.scales), vt, vm]), (b_6 false vt lr lb b.tabs), (c_0 false vm lk b.macs)] := Cz; clear Cz Cy
  refine n2 ?_
  refine m2 ?_
  refine s1 Ca (a_0 rfl (evc _ _)) fun EQ Cb => ?_; clear Ca EP
  refine n1 ?_
  refine d_0 ?_
  have C1 := C0.y_3 100 3; clear C0
  have Cc := Cb.as [(11, (Value.int .i64 0)), (10, (bptr M 0)), (9, (bptr L 0)), (8, (Value.int .i64 (m : Int))), (3, (bptr D 0)), (2, (bptr H 0)), (1, (bptr I 0))] rfl; clear Cb
  refine h_1 (G := Nat) (fun (q : Nat) a_ w_ => ∃ vk_ : Value, Fr 116 [] [(11, (Value.int .i64 (q : Int))), (10, (bptr M 0)), (9, (bptr L 0)), (8, (Value.int .i64 (m : Int))), (3, (bptr D 0)), (2, (bptr H 0)), (1, (bptr I 0))] a_ ∧ Sep NoB w w_ [(row vk_ 100 3 (((b.macs.getD m mac0).blocks.take q).length) (trips ((b.macs.getD m mac0).blocks.take q))), (blk M 103 [(Value.int .i64 ((b.macs.getD m mac0).scale)), vk_]), (blk L 61 [(Value.int .i64 ((b.macs.getD m mac0).scale)), (lk m)]), (slsR true ((b.macs.take m).length) lk_ 3 (blkN (b.macs.take m)) (blkC (b.macs.take m))), (row vm_ 103 2 ((b.macs.take m).length) (o_4 lk_ (b.macs.take m))), (b_6 true vt_ lr_ lb_ b.tabs), (blk D 37 [(Value.int .i64 b.scales), vt_, vm_]), (blk H 37 [(Value.int .i64 0), (Value.slice none 0 0), (Value.slice none 0 0)]), (blk I 25 [(Value.int .i64 b.scales), vt, vm]), (b_6 false vt lr lb b.tabs), (c_0 false vm lk b.macs)] ∧ (q ≤ (b.macs.getD m mac0).blocks.length)) (fun q => (b.macs.getD m mac0).blocks.length - q) 0 ⟨(Value.slice none 0 0), Cc.as _ rfl, (C1.k_4 (i := 0) rfl (by rfl) (by rfl)), (Nat.zero_le _)⟩ ?_
  clear Cc C1 EQ
  rintro q ER Fd ⟨vk_, BL, Q, hkq⟩
  have hlt_q : ((b.macs.getD m mac0).blocks.take q).length ≤ 12 := by simp only [List.length_take]; omega
  refine b_9 ?_
  refine m2 ?_
  refine s1 BL (a_1 rfl (BL.ev rfl)) fun ES BM => ?_; clear BL ER
  refine s1 BM (a_4 rfl u_4 (BM.ev rfl)) fun ET BN => ?_; clear BM ES
  refine s1 BN (a_3 rfl ty_59 (BN.ev rfl) (Q.bk 2 rfl) rfl) fun EU BO => ?_; clear BN ET
  refine s1 BO (d_5 rfl un_59 (BO.ev rfl) ((c_3 (Q.ok 10 _ rfl)).blk (i := m) (by omega))) fun EV AM => ?_; clear BO EU
  refine s1 AM (g_3 rfl (AM.ev rfl) (AM.ev rfl)) fun EW P => ?_; clear AM EV
  refine n1 ?_
  by_cases DE : (q : Int) < ((b.macs.getD m mac0).blocks.length : Int)
  ·skip
   rw [decide_eq_true DE] at P
   refine c_7 P rfl ?_
   refine d_2 ?_
   refine b_2 ?_
   refine b_9 ?_
   refine d_0 ?_
   have Cd := P.as [(11, (Value.int .i64 (q : Int))), (10, (bptr M 0)), (9, (bptr L 0)), (8, (Value.int .i64 (m : Int))), (3, (bptr D 0)), (2, (bptr H 0)), (1, (bptr I 0))] rfl; clear P
   refine s_5 mixed Cd Q 17 [[], [0], [], [2], [], [3, 4], [5], [6], [7], [], [9], [], [10, 11], [12], [13], [8, 14], [15]] [(fun (A : Nat → Value) (v_ : Value) (rs_ : List Res) => v_ = (bptr M 1) ∧ rs_ = []), (fun (A : Nat → Value) (v_ : Value) (rs_ : List Res) => v_ = vk_ ∧ rs_ = []), (fun (A : Nat → Value) (v_ : Value) (rs_ : List Res) => v_ = (bptr L 1) ∧ rs_ = []), (fun (A : Nat → Value) (v_ : Value) (rs_ : List Res) => v_ = (lk m) ∧ rs_ = []), (fun (A : Nat → Value) (v_ : Value) (rs_ : List Res) => v_ = (Value.int .i64 (q : Int)) ∧ rs_ = []), (fun (A : Nat → Value) (v_ : Value) (rs_ : List Res) => v_ = (eptr (lk m) (q * 3)) ∧ rs_ = []), (fun (A : Nat → Value) (v_ : Value) (rs_ : List Res) => v_ = (eptr (lk m) (q * 3 + 0)) ∧ rs_ = []), (fun (A : Nat → Value) (v_ : Value) (rs_ : List Res) => v_ = (Value.agg #[(Value.int .i64 ((((b.macs.getD m mac0).blocks).getD q (0, 0, 0)).1)), (Value.int .i64 ((((b.macs.getD m mac0).blocks).getD q (0, 0, 0)).2.1))]) ∧ rs_ = []), (fun (A : Nat → Value) (v_ : Value) (rs_ : List Res) => v_ = (Value.agg #[(Value.int .i64 ((((b.macs.getD m mac0).blocks).getD q (0, 0, 0)).1)), (Value.int .i64 ((((b.macs.getD m mac0).blocks).getD q (0, 0, 0)).2.1))]) ∧ rs_ = []), (fun (A : Nat → Value) (v_ : Value) (rs_ : List Res) => v_ = (bptr L 1) ∧ rs_ = []), (fun (A : Nat → Value) (v_ : Value) (rs_ : List Res) => v_ = (lk m) ∧ rs_ = []), (fun (A : Nat → Value) (v_ : Value) (rs_ : List Res) => v_ = (Value.int .i64 (q : Int)) ∧ rs_ = []), (fun (A : Nat → Value) (v_ : Value) (rs_ : List Res) => v_ = (eptr (lk m) (q * 3)) ∧ rs_ = []), (fun (A : Nat → Value) (v_ : Value) (rs_ : List Res) => v_ = (eptr (lk m) (q * 3 + 2)) ∧ rs_ = []), (fun (A : Nat → Value) (v_ : Value) (rs_ : List Res) => v_ = (Value.int .i64 ((((b.macs.getD m mac0).blocks).getD q (0, 0, 0)).2.2)) ∧ rs_ = []), (fun (A : Nat → Value) (v_ : Value) (rs_ : List Res) => v_ = (Value.agg #[(Value.int .i64 ((((b.macs.getD m mac0).blocks).getD q (0, 0, 0)).1)), (Value.int .i64 ((((b.macs.getD m mac0).blocks).getD q (0, 0, 0)).2.1)), (Value.int .i64 ((((b.macs.getD m mac0).blocks).getD q (0, 0, 0)).2.2))]) ∧ rs_ = []), (fun (A : Nat → Value) (v_ : Value) (rs_ : List Res) => True ∧ rs_ = [(row v_ 100 3 1 [(Value.int .i64 ((((b.macs.getD m mac0).blocks).getD q (0, 0, 0)).1)), (Value.int .i64 ((((b.macs.getD m mac0).blocks).getD q (0, 0, 0)).2.1)), (Value.int .i64 ((((b.macs.getD m mac0).blocks).getD q (0, 0, 0)).2.2))])])] (by decide +kernel) (by decide +kernel) rfl rfl ⟨(fun _ _ _ _ _ h_ => h_), (fun _ _ _ _ _ h_ => h_), (fun _ _ _ _ _ h_ => h_), (fun _ _ _ _ _ h_ => h_), (fun _ _ _ _ _ h_ => h_), (fun _ _ _ _ _ h_ => h_), (fun _ _ _ _ _ h_ => h_), (fun _ _ _ _ _ h_ => h_), (fun _ _ _ _ _ h_ => h_), (fun _ _ _ _ _ h_ => h_), (fun _ _ _ _ _ h_ => h_), (fun _ _ _ _ _ h_ => h_), (fun _ _ _ _ _ h_ => h_), (fun _ _ _ _ _ h_ => h_), (fun _ _ _ _ _ h_ => h_), (fun _ _ _ _ _ h_ => h_), (fun _ _ _ _ _ h_ => h_), trivial⟩ ?_ ?_
   ·skip
    refine ⟨fun a w A hA hS hd => gv1 (a_4 rfl fd_103_1 (hA.ev rfl)), ?_⟩
    refine ⟨fun a w A hA hS hd => gv1 (a_3 rfl ty_101 (gu hd 0) (hS.bk 1 rfl) rfl), ?_⟩
    refine ⟨fun a w A hA hS hd => gv1 (a_4 rfl u_4 (hA.ev rfl)), ?_⟩
    refine ⟨fun a w A hA hS hd => gv1 (a_3 rfl ty_59 (gu hd 2) (hS.bk 2 rfl) rfl), ?_⟩
    refine ⟨fun a w A hA hS hd => gv1 (a_1 rfl (hA.ev rfl)), ?_⟩
    refine ⟨fun a w A hA hS hd => gv1 (b_3 rfl un_59 ty_63 (gu hd 3) (i := q) (gu hd 4) ((c_3 (hS.ok 10 _ rfl)).blk (i := m) (by omega)) (by decide) (by omega)), ?_⟩
    refine ⟨fun a w A hA hS hd => gv1 (c_8 rfl fd_63_0 (gu hd 5) ((c_3 (hS.ok 10 _ rfl)).blk (i := m) (by omega)) (by rw [(((c_3 (hS.ok 10 _ rfl)).blk (i := m) (by omega))).1]; omega)), ?_⟩
    refine ⟨fun a w A hA hS hd => gv1 (f_1 rfl ty_27 (gu hd 6) ((c_3 (hS.ok 10 _ rfl)).blk (i := m) (by omega)) (trips_sub0 (by omega)) rfl (by decide)), ?_⟩
    refine ⟨fun a w A hA hS hd => gx1 (b_0 rfl en_20 (ev1 (gu hd 7)) (to_ok _ _ _)), ?_⟩
    refine ⟨fun a w A hA hS hd => gv1 (a_4 rfl u_4 (hA.ev rfl)), ?_⟩
    refine ⟨fun a w A hA hS hd => gv1 (a_3 rfl ty_59 (gu hd 9) (hS.bk 2 rfl) rfl), ?_⟩
    refine ⟨fun a w A hA hS hd => gv1 (a_1 rfl (hA.ev rfl)), ?_⟩
    refine ⟨fun a w A hA hS hd => gv1 (b_3 rfl un_59 ty_63 (gu hd 10) (i := q) (gu hd 11) ((c_3 (hS.ok 10 _ rfl)).blk (i := m) (by omega)) (by decide) (by omega)), ?_⟩
    refine ⟨fun a w A hA hS hd => gv1 (c_8 rfl fd_63_1 (gu hd 12) ((c_3 (hS.ok 10 _ rfl)).blk (i := m) (by omega)) (by rw [(((c_3 (hS.ok 10 _ rfl)).blk (i := m) (by omega))).1]; omega)), ?_⟩
    refine ⟨fun a w A hA hS hd => gv1 (c_2 rfl ty_3 (gu hd 13) ((c_3 (hS.ok 10 _ rfl)).blk (i := m) (by omega)) (trips_at2 (by omega))), ?_⟩
    refine ⟨fun a w A hA hS hd => gv1 (e_6 rfl (pv2 (gu hd 8) (gu hd 14)) (p_6 _ _ _)), ?_⟩
    refine ⟨fun a w A hA hS hd => d_6 rfl (vblt rfl (pv1 (gu hd 15)) z_6 z_4 ze_100 (by decide) (cs := [(Value.int .i64 ((((b.macs.getD m mac0).blocks).getD q (0, 0, 0)).1)), (Value.int .i64 ((((b.macs.getD m mac0).blocks).getD q (0, 0, 0)).2.1)), (Value.int .i64 ((((b.macs.getD m mac0).blocks).getD q (0, 0, 0)).2.2))]) (bs_100_1_0iiia _ _ _) rfl (by decide) (fun _ => And.intro trivial rfl)), ?_⟩
    trivial
   intro CA Eq A rsf252 Ce E Bm; clear Cd Q
   obtain ⟨AY, Ao⟩ := E 0 (by decide)
   obtain ⟨Ag, Y⟩ := Ao
   obtain ⟨U, Ap⟩ := E 1 (by decide)
   obtain ⟨t, Z⟩ := Ap
   obtain ⟨AZ, Aq⟩ := E 2 (by decide)
   obtain ⟨Ah, c⟩ := Aq
   obtain ⟨Aa, Ar⟩ := E 3 (by decide)
   obtain ⟨Ai, d⟩ := Ar
   obtain ⟨Ab, As⟩ := E 4 (by decide)
   obtain ⟨Aj, e⟩ := As
   obtain ⟨Ac, At⟩ := E 5 (by decide)
   obtain ⟨Ak, f⟩ := At
   obtain ⟨Ad, Au⟩ := E 6 (by decide)
   obtain ⟨Al, g⟩ := Au
   obtain ⟨Ae, Av⟩ := E 7 (by decide)
   obtain ⟨Am, n⟩ := Av
   obtain ⟨Af, Aw⟩ := E 8 (by decide)
   obtain ⟨An, o⟩ := Aw
   obtain ⟨s, Ax⟩ := E 9 (by decide)
   obtain ⟨AD, p⟩ := Ax
   obtain ⟨V, AC⟩ := E 10 (by decide)
   obtain ⟨r, R⟩ := AC
   obtain ⟨Bq, Bz⟩ := E 11 (by decide)
   obtain ⟨Bu, x⟩ := Bz
   obtain ⟨Br, B0⟩ := E 12 (by decide)
   obtain ⟨Bv, y⟩ := B0
   obtain ⟨Bs, B1⟩ := E 13 (by decide)
   obtain ⟨Bw, z⟩ := B1
   obtain ⟨Bt, B2⟩ := E 14 (by decide)
   obtain ⟨Bx, AA⟩ := B2
   obtain ⟨AX, B3⟩ := E 15 (by decide)
   obtain ⟨By, AB⟩ := B3
   obtain ⟨DG, Dt⟩ := E 16 (by decide)
   obtain ⟨Ds, DF⟩ := Dt
   have Bn : Sep NoB w Eq [(row (A 16) 100 3 1 [(Value.int .i64 ((((b.macs.getD m mac0).blocks).getD q (0, 0, 0)).1)), (Value.int .i64 ((((b.macs.getD m mac0).blocks).getD q (0, 0, 0)).2.1)), (Value.int .i64 ((((b.macs.getD m mac0).blocks).getD q (0, 0, 0)).2.2))]), (row vk_ 100 3 (((b.macs.getD m mac0).blocks.take q).length) (trips ((b.macs.getD m mac0).blocks.take q))), (blk M 103 [(Value.int .i64 ((b.macs.getD m mac0).scale)), vk_]), (blk L 61 [(Value.int .i64 ((b.macs.getD m mac0).scale)), (lk m)]), (slsR true ((b.macs.take m).length) lk_ 3 (blkN (b.macs.take m)) (blkC (b.macs.take m))), (row vm_ 103 2 ((b.macs.take m).length) (o_4 lk_ (b.macs.take m))), (b_6 true vt_ lr_ lb_ b.tabs), (blk D 37 [(Value.int .i64 b.scales), vt_, vm_]), (blk H 37 [(Value.int .i64 0), (Value.slice none 0 0), (Value.slice none 0 0)]), (blk I 25 [(Value.int .i64 b.scales), vt, vm]), (b_6 false vt lr lb b.tabs), (c_0 false vm lk b.macs)] := by rw [show catR rsf252 0 17 = ([(row (A 16) 100 3 1 [(Value.int .i64 ((((b.macs.getD m mac0).blocks).getD q (0, 0, 0)).1)), (Value.int .i64 ((((b.macs.getD m mac0).blocks).getD q (0, 0, 0)).2.1)), (Value.int .i64 ((((b.macs.getD m mac0).blocks).getD q (0, 0, 0)).2.2))])] : List Res) by (try simp only [catR, Y, Z, c, d, e, f, g, n, o, p, R, x, y, z, AA, AB, DF]); (try rfl)] at Bm; exact Bm
   rw [t] at U
   have Cf : Fr 116 [] [(91, vk_), (11, (Value.int .i64 (q : Int))), (10, (bptr M 0)), (9, (bptr L 0)), (8, (Value.int .i64 (m : Int))), (3, (bptr D 0)), (2, (bptr H 0)), (1, (bptr I 0))] CA := Ce.add (d_4 U rfl); clear Ce
   have AN : Fr 116 [] [(106, (A 16)), (91, vk_), (11, (Value.int .i64 (q : Int))), (10, (bptr M 0)), (9, (bptr L 0)), (8, (Value.int .i64 (m : Int))), (3, (bptr D 0)), (2, (bptr H 0)), (1, (bptr I 0))] CA := Cf.add (d_4 DG rfl); clear Cf
   clear E Bm AY U AZ Aa Ab Ac Ad Ae Af s V Bq Br Bs Bt AX DG
   clear Y
   clear Ag
   clear Z
   clear t
   clear c
   clear Ah
   clear d
   clear Ai
   clear e
   clear Aj
   clear f
   clear Ak
   clear g
   clear Al
   clear n
   clear Am
   clear o
   clear An
   clear p
   clear AD
   clear R
   clear r
   clear x
   clear Bu
   clear y
   clear Bv
   clear z
   clear Bw
   clear AA
   clear Bx
   clear AB
   clear By
   clear DF
   clear Ds
   refine s2 AN (q_6 Bn rfl z_6 el_100 (AN.ev rfl) (AN.ev rfl) (i := 1) rfl (SlAt.h_7 (Bn.j_4 0 rfl)) rfl (by simp only [maxLen]; omega) (by omega)) ?_
   intro EX B6 Fe C2 BP
   have AU := C2.k_4 (i := 1) rfl (n' := (((b.macs.getD m mac0).blocks.take q) ++ [(b.macs.getD m mac0).blocks.getD q (0, 0, 0)]).length) (xs' := (trips (((b.macs.getD m mac0).blocks.take q) ++ [(b.macs.getD m mac0).blocks.getD q (0, 0, 0)]))) (by simp) (by simp [trips]); clear C2 AN Bn CA
   refine s1 BP (a_4 rfl fd_103_1 (BP.ev rfl)) fun EY AO => ?_; clear BP EX
   refine s7 AO (c_1 AU rfl ty_101 (AO.ev rfl) (AO.ev rfl) (i := 2) rfl (vs := [B6]) (isSl_cells (SlAt.isSl (SlAt.h_7 (AU.j_4 1 rfl)))) rfl (h_4 (SlAt.one (SlAt.h_7 (AU.j_4 1 rfl))) v_0) (Nat.le_of_ble_eq_true rfl)) ?_
   intro _ Er C3 BQ; clear AO
   have C4 : Sep NoB w Er [(row (A 16) 100 3 1 [(Value.int .i64 ((((b.macs.getD m mac0).blocks).getD q (0, 0, 0)).1)), (Value.int .i64 ((((b.macs.getD m mac0).blocks).getD q (0, 0, 0)).2.1)), (Value.int .i64 ((((b.macs.getD m mac0).blocks).getD q (0, 0, 0)).2.2))]), (row B6 100 3 ((((b.macs.getD m mac0).blocks.take q) ++ [(b.macs.getD m mac0).blocks.getD q (0, 0, 0)]).length) (trips (((b.macs.getD m mac0).blocks.take q) ++ [(b.macs.getD m mac0).blocks.getD q (0, 0, 0)]))), (blk M 103 [(Value.int .i64 ((b.macs.getD m mac0).scale)), B6]), (blk L 61 [(Value.int .i64 ((b.macs.getD m mac0).scale)), (lk m)]), (slsR true ((b.macs.take m).length) lk_ 3 (blkN (b.macs.take m)) (blkC (b.macs.take m))), (row vm_ 103 2 ((b.macs.take m).length) (o_4 lk_ (b.macs.take m))), (b_6 true vt_ lr_ lb_ b.tabs), (blk D 37 [(Value.int .i64 b.scales), vt_, vm_]), (blk H 37 [(Value.int .i64 0), (Value.slice none 0 0), (Value.slice none 0 0)]), (blk I 25 [(Value.int .i64 b.scales), vt, vm]), (b_6 false vt lr lb b.tabs), (c_0 false vm lk b.macs)] := C3; clear C3 AU
   refine f_0 ?_
   refine g_9 ?_
   refine b_2 ?_
   refine a_5 ?_
   refine s1 BQ (a_1 rfl (BQ.ev rfl)) fun EZ BR => ?_; clear BQ EY
   refine s1 BR (g_0 rfl (BR.ev rfl) (evc _ _) (by omega) (by omega)) fun Ea BS => ?_; clear BR EZ
   refine s1 BS (a_0 rfl (BS.ev rfl)) fun FSa Dl => ?_; clear BS Ea
   refine f_0 ?_
   have Dp := C4.gkp (gpc 1 (gpc 2 (gpc 3 (gpc 4 (gpc 5 (gpc 6 (gpc 7 (gpc 8 (gpc 9 (gpc 10 (gpc 11 gpn))))))))))); clear C4
   exact b_2 ⟨q + 1, ⟨B6, Dl.as _ rfl, (Dp.k_4 (i := 0) rfl (by rw [q_3 (by omega)]) (by rw [q_3 (by omega)])), by omega⟩, by omega⟩
  skip
  rw [decide_eq_false DE] at P
  refine b_8 P rfl ?_
  refine h_0 ?_
  refine b_5 ?_
  refine b_5 ?_
  refine f_8 ?_
  refine b_2 ?_
  have BT := P.as [(10, (bptr M 0)), (8, (Value.int .i64 (m : Int))), (3, (bptr D 0)), (2, (bptr H 0)), (1, (bptr I 0))] rfl; clear P
  refine a_5 ?_
  refine s1 BT (a_4 rfl u_3 (BT.ev rfl)) fun Eb BU => ?_; clear BT EW
  refine s1 BU (a_3 rfl ty_35 (BU.ev rfl) (Q.bk 6 rfl) rfl) fun Ec BV => ?_; clear BU Eb
  refine s1 BV (c_5 rfl t_3 (BV.ev rfl) (Q.bk 1 rfl) (l := [(Value.int .i64 ((b.macs.getD m mac0).scale)), vk_]) rfl rfl) fun Ed BW => ?_; clear BV Ec
  refine s2 BW (h_3 Q rfl (pv1 (BW.ev rfl)) ab_0 t_3 ze_103 (by decide) (cs := [(Value.int .i64 ((b.macs.getD m mac0).scale)), vk_]) (bs_103_1_0iva _ _)) ?_
  rintro Ee _ Ff ⟨Ek, rfl, AV⟩ AP; clear BW Q Ed
  refine s2 AP (q_6 AV rfl ab_0 el_103 (AP.ev rfl) (AP.ev rfl) (i := 5) rfl (SlAt.of_blk (AV.bk 0 rfl) rfl (Nat.le_of_ble_eq_true rfl)) (h_4 rfl (h_4 (SlAt.one (SlAt.h_7 (AV.j_4 1 rfl))) v_0)) (by simp only [maxLen]; omega) (by omega)) ?_
  intro Ef B7 Fg C5 BX
  have AW := C5.k_4 (i := 5) rfl (n' := ((b.macs.take m) ++ [(b.macs.getD m mac0)]).length) (xs' := (o_4 (putV (b.macs.take m).length lk_ vk_) ((b.macs.take m) ++ [(b.macs.getD m mac0)]))) (by simp) (macs_snoc (b.macs.getD m mac0) vk_); clear C5 AP AV Ee
  refine s1 BX (a_4 rfl u_3 (BX.ev rfl)) fun Eg AQ => ?_; clear BX Ef
  refine s7 AQ (c_1 AW rfl ty_35 (AQ.ev rfl) (AQ.ev rfl) (i := 7) rfl (vs := [B7]) (isSl_cells (SlAt.isSl (SlAt.h_7 (AW.j_4 5 rfl)))) rfl (h_4 (SlAt.one (SlAt.h_7 (AW.j_4 5 rfl))) v_0) (Nat.le_of_ble_eq_true rfl)) ?_
  intro _ Es C6 Cg; clear AQ
  have C7 : Sep NoB w Es [(blk Ek 103 [(Value.int .i64 ((b.macs.getD m mac0).scale)), vk_]), (row vk_ 100 3 (((b.macs.getD m mac0).blocks.take q).length) (trips ((b.macs.getD m mac0).blocks.take q))), (blk M 103 [(Value.int .i64 ((b.macs.getD m mac0).scale)), vk_]), (blk L 61 [(Value.int .i64 ((b.macs.getD m mac0).scale)), (lk m)]), (slsR true ((b.macs.take m).length) lk_ 3 (blkN (b.macs.take m)) (blkC (b.macs.take m))), (row B7 103 2 (((b.macs.take m) ++ [(b.macs.getD m mac0)]).length) (o_4 (putV (b.macs.take m).length lk_ vk_) ((b.macs.take m) ++ [(b.macs.getD m mac0)]))), (b_6 true vt_ lr_ lb_ b.tabs), (blk D 37 [(Value.int .i64 b.scales), vt_, B7]), (blk H 37 [(Value.int .i64 0), (Value.slice none 0 0), (Value.slice none 0 0)]), (blk I 25 [(Value.int .i64 b.scales), vt, vm]), (b_6 false vt lr lb b.tabs), (c_0 false vm lk b.macs)] := C6; clear C6 AW
  refine f_0 ?_
  refine g_9 ?_
  refine b_2 ?_
  have BY := Cg.as [(8, (Value.int .i64 (m : Int))), (3, (bptr D 0)), (2, (bptr H 0)), (1, (bptr I 0))] rfl; clear Cg
  refine a_5 ?_
  refine s1 BY (a_1 rfl (BY.ev rfl)) fun Eh BZ => ?_; clear BY Eg
  refine s1 BZ (g_0 rfl (BZ.ev rfl) (evc _ _) (by omega) (by omega)) fun Ei Ba => ?_; clear BZ Eh
  refine s1 Ba (a_0 rfl (Ba.ev rfl)) fun FT Dm => ?_; clear Ba Ei
  refine f_0 ?_
  have C8 := C7.k_4 (i := 1) rfl (n' := (b.macs.getD m mac0).blocks.length) (xs' := trips (b.macs.getD m mac0).blocks) (by rw [List.take_of_length_le (by omega)]) (by rw [List.take_of_length_le (by omega)]); clear C7
  have C9 := C8.gkp (gpc 1 (gpc 4 (gpc 0 (gpc 2 (gpc 3 (gpc 5 (gpc 6 (gpc 7 (gpc 8 (gpc 9 (gpc 10 (gpc 11 gpn)))))))))))); clear C8
  have DA := k_5 (k' := blkN (b.macs.take (m + 1))) (c' := blkC (b.macs.take (m + 1))) C9 (blkN_new (by omega)).1 (blkN_new (by omega)).2 blkN_old; clear C9
  have DB := sep_sls_say (i := 0) (n' := (b.macs.take (m + 1)).length) (v' := (putV (b.macs.take m).length lk_ vk_)) (k' := blkN (b.macs.take (m + 1))) (c' := blkC (b.macs.take (m + 1))) DA rfl (take_len1 (by omega)) (fun _ _ => ⟨rfl, rfl, rfl⟩); clear DA
  have Dq := DB.gkp (gpc 0 (gpc 4 (gpc 5 (gpc 6 (gpc 7 (gpc 8 (gpc 9 (gpc 10 gpn)))))))); clear DB
  exact b_2 ⟨m + 1, ⟨B7, (putV (b.macs.take m).length lk_ vk_), Dm.as _ rfl, (Dq.k_4 (i := 1) rfl (by rw [q_3 (by omega)]) (by rw [q_3 (by omega)])), by omega⟩, by omega⟩
 skip
 rw [decide_eq_false DD] at O
 refine b_8 O rfl ?_
 refine h_0 ?_
 refine b_5 ?_
 refine b_5 ?_
 refine f_8 ?_
 refine b_2 ?_
 refine b_9 ?_
 have Bb := O.as [(3, (bptr D 0)), (2, (bptr H 0))] rfl; clear O
 refine a_5 ?_
 refine s1 Bb (c_5 rfl y_0 (Bb.ev rfl) (K.bk 3 rfl) (l := [(Value.int .i64 b.scales), vt_, vm_]) rfl rfl) fun FU AR => ?_; clear Bb DH
 refine s7 AR (c_1 K rfl y_0 (AR.ev rfl) (AR.ev rfl) (i := 4) rfl (vs := [(Value.int .i64 b.scales), vt_, vm_]) rfl rfl (h_4 rfl (h_4 ((a_6 (K.ok 2 _ rfl)).tabs.one) (h_4 (SlAt.one (SlAt.h_7 (K.j_4 1 rfl))) v_0))) (Nat.le_of_ble_eq_true rfl)) ?_
 intro _ Et DC Ch; clear AR
 have Bo : Sep NoB w Et [(slsR true ((b.macs.take m).length) lk_ 3 (blkN (b.macs.take m)) (blkC (b.macs.take m))), (row vm_ 103 2 ((b.macs.take m).length) (o_4 lk_ (b.macs.take m))), (b_6 true vt_ lr_ lb_ b.tabs), (blk D 37 [(Value.int .i64 b.scales), vt_, vm_]), (blk H 37 [(Value.int .i64 b.scales), vt_, vm_]), (blk I 25 [(Value.int .i64 b.scales), vt, vm]), (b_6 false vt lr lb b.tabs), (c_0 false vm lk b.macs)] := DC; clear DC K
 refine n1 ?_
 refine c_4 ?_
 refine a_8 Ch (.inl rfl) (a_2 Ch rfl (.cellA rfl y_0 (Bo.bk 4 rfl) (l := [(Value.int .i64 b.scales), vt_, vm_]) rfl rfl)) ?_
 have Dr := Bo.gkp (gpc 1 (gpc 0 (gpc 2 gpn))); clear Bo
 have hmt : m = b.macs.length := by omega
 have hz := Dr
 rw [hmt, List.take_length] at hz
 exact ⟨_, _, _, _, _, rfl, (sep_macs_join hz).keep [1, 0] (by decide) _ rfl rfl⟩
end Go.Proofs.Ytohgladndklciaa

namespace Go.Hard
def e_1 : h_2 := ⟨3, [⟨0, 1, [(100, 200), (200, 300), (300, 500), (400, 600)], [2], 2⟩, ⟨1, 2, [(250, 90), (350, 50)], [], 0⟩], [⟨0, [(150, 154, 160), (240, 246, 249)]⟩, ⟨1, [(300, 300, 299)]⟩]⟩
open Go.RowKit Go.Eng in
theorem kept_tabsC (a b c d : Value) : n_4 (putV 1 (putV 0 (fun _ => Value.slice none 0 0) a) c) (putV 1 (putV 0 (fun _ => Value.slice none 0 0) b) d) e_1.tabs = [.int .i64 0, .int .i64 1, a, b, .int .i64 2, .int .i64 1, .int .i64 2, c, d, .int .i64 0] := rfl
open Go.RowKit Go.Eng in
theorem kept_macsC (a b : Value) : o_4 (putV 1 (putV 0 (fun _ => Value.slice none 0 0) a) b) e_1.macs = [.int .i64 0, a, .int .i64 1, b] := rfl
theorem kept_thin : q_4 e_1 := (thin_iff (n := 0)).1 (by decide) |>.1
theorem kept_read : o_7 e_1 [(0, 170)] = 0 := by decide
theorem kept_spans : m_9 e_1 [(0, 170)] = some [(161, 164), (259, 266), (83, 87)] := by
  unfold m_9
  rw [if_pos (by decide)]
  show q_7 3 _ (400000 + 1) _ = _
  rw [q_7, if_pos (by decide), if_neg (by decide)]
  show q_7 3 _ (399999 + 1) _ = _
  rw [q_7, if_pos (by decide), if_pos (by decide)]
  decide
end Go.Hard

namespace Go.Proofs.Ytohgladndklciaa
open Go.RowKit Go.Shelf Go.Eng Go.Hard
theorem bs_107_4_0iia_1iia_2iia_3iia (x0_0 : Int) (x0_1 : Int) (x1_0 : Int) (x1_1 : Int) (x2_0 : Int) (x2_1 : Int) (x3_0 : Int) (x3_1 : Int) : Instr.fill (fun i => some (i * 2, 2)) ((Array.range (4 * 2)).map ((Value.agg #[(Value.int .i64 0), (Value.int .i64 0)]).cells[· % (Value.agg #[(Value.int .i64 0), (Value.int .i64 0)]).cells.size]!)) [(0, .agg #[(.int .i64 x0_0), (.int .i64 x0_1)]), (1, .agg #[(.int .i64 x1_0), (.int .i64 x1_1)]), (2, .agg #[(.int .i64 x2_0), (.int .i64 x2_1)]), (3, .agg #[(.int .i64 x3_0), (.int .i64 x3_1)])] = some (([(.int .i64 x0_0), (.int .i64 x0_1), (.int .i64 x1_0), (.int .i64 x1_1), (.int .i64 x2_0), (.int .i64 x2_1), (.int .i64 x3_0), (.int .i64 x3_1)] : List Value).toArray) := by kernel_rfl
theorem bd_106_0i_1i_2s_3s_4i (x0_0 : Int) (x1_0 : Int) (x2_0 : Value) (hx2_0 : IsSl x2_0) (x3_0 : Value) (hx3_0 : IsSl x3_0) (x4_0 : Int) (w : World) : (Instr.build 106 #[(0, (.int .i64 x0_0)), (1, (.int .i64 x1_0)), (2, x2_0), (3, x3_0), (4, (.int .i64 x4_0))]).run Try.prog w = .ok (.agg #[(.int .i64 x0_0), (.int .i64 x1_0), x2_0, x3_0, (.int .i64 x4_0)]) w := by obtain ⟨Ax2_0, Bx2_0, Cx2_0, rfl⟩ := hx2_0; obtain ⟨Ax3_0, Bx3_0, Cx3_0, rfl⟩ := hx3_0; kernel_rfl
theorem bs_107_2_0iia_1iia (x0_0 : Int) (x0_1 : Int) (x1_0 : Int) (x1_1 : Int) : Instr.fill (fun i => some (i * 2, 2)) ((Array.range (2 * 2)).map ((Value.agg #[(Value.int .i64 0), (Value.int .i64 0)]).cells[· % (Value.agg #[(Value.int .i64 0), (Value.int .i64 0)]).cells.size]!)) [(0, .agg #[(.int .i64 x0_0), (.int .i64 x0_1)]), (1, .agg #[(.int .i64 x1_0), (.int .i64 x1_1)])] = some (([(.int .i64 x0_0), (.int .i64 x0_1), (.int .i64 x1_0), (.int .i64 x1_1)] : List Value).toArray) := by kernel_rfl
theorem bd_106_0i_1i_2s (x0_0 : Int) (x1_0 : Int) (x2_0 : Value) (hx2_0 : IsSl x2_0) (w : World) : (Instr.build 106 #[(0, (.int .i64 x0_0)), (1, (.int .i64 x1_0)), (2, x2_0)]).run Try.prog w = .ok (.agg #[(.int .i64 x0_0), (.int .i64 x1_0), x2_0, (Value.slice none 0 0), (Value.int .i64 0)]) w := by obtain ⟨Ax2_0, Bx2_0, Cx2_0, rfl⟩ := hx2_0; kernel_rfl
theorem bs_106_2_0iivvia_1iivvia (x0_0 : Int) (x0_1 : Int) (x0_2 : Value) (x0_3 : Value) (x0_4 : Int) (x1_0 : Int) (x1_1 : Int) (x1_2 : Value) (x1_3 : Value) (x1_4 : Int) : Instr.fill (fun i => some (i * 5, 5)) ((Array.range (2 * 5)).map ((Value.agg #[(Value.int .i64 0), (Value.int .i64 0), (Value.slice none 0 0), (Value.slice none 0 0), (Value.int .i64 0)]).cells[· % (Value.agg #[(Value.int .i64 0), (Value.int .i64 0), (Value.slice none 0 0), (Value.slice none 0 0), (Value.int .i64 0)]).cells.size]!)) [(0, .agg #[(.int .i64 x0_0), (.int .i64 x0_1), x0_2, x0_3, (.int .i64 x0_4)]), (1, .agg #[(.int .i64 x1_0), (.int .i64 x1_1), x1_2, x1_3, (.int .i64 x1_4)])] = some (([(.int .i64 x0_0), (.int .i64 x0_1), x0_2, x0_3, (.int .i64 x0_4), (.int .i64 x1_0), (.int .i64 x1_1), x1_2, x1_3, (.int .i64 x1_4)] : List Value).toArray) := by kernel_rfl
theorem v_2 : ∀ args w, (callFunc 31 args).run Try.prog w = .ok (.enter 31 args) w := enters_of Try.func31 (by kernel_rfl) rfl
theorem bs_100_2_0iiia_1iiia (x0_0 : Int) (x0_1 : Int) (x0_2 : Int) (x1_0 : Int) (x1_1 : Int) (x1_2 : Int) : Instr.fill (fun i => some (i * 3, 3)) ((Array.range (2 * 3)).map ((Value.agg #[(Value.int .i64 0), (Value.int .i64 0), (Value.int .i64 0)]).cells[· % (Value.agg #[(Value.int .i64 0), (Value.int .i64 0), (Value.int .i64 0)]).cells.size]!)) [(0, .agg #[(.int .i64 x0_0), (.int .i64 x0_1), (.int .i64 x0_2)]), (1, .agg #[(.int .i64 x1_0), (.int .i64 x1_1), (.int .i64 x1_2)])] = some (([(.int .i64 x0_0), (.int .i64 x0_1), (.int .i64 x0_2), (.int .i64 x1_0), (.int .i64 x1_1), (.int .i64 x1_2)] : List Value).toArray) := by kernel_rfl
theorem bd_103_0i_1s (x0_0 : Int) (x1_0 : Value) (hx1_0 : IsSl x1_0) (w : World) : (Instr.build 103 #[(0, (.int .i64 x0_0)), (1, x1_0)]).run Try.prog w = .ok (.agg #[(.int .i64 x0_0), x1_0]) w := by obtain ⟨Ax1_0, Bx1_0, Cx1_0, rfl⟩ := hx1_0; kernel_rfl
theorem bs_103_2_0iva_1iva (x0_0 : Int) (x0_1 : Value) (x1_0 : Int) (x1_1 : Value) : Instr.fill (fun i => some (i * 2, 2)) ((Array.range (2 * 2)).map ((Value.agg #[(Value.int .i64 0), (Value.slice none 0 0)]).cells[· % (Value.agg #[(Value.int .i64 0), (Value.slice none 0 0)]).cells.size]!)) [(0, .agg #[(.int .i64 x0_0), x0_1]), (1, .agg #[(.int .i64 x1_0), x1_1])] = some (([(.int .i64 x0_0), x0_1, (.int .i64 x1_0), x1_1] : List Value).toArray) := by kernel_rfl
theorem bd_37_0i_1s_2s (x0_0 : Int) (x1_0 : Value) (hx1_0 : IsSl x1_0) (x2_0 : Value) (hx2_0 : IsSl x2_0) (w : World) : (Instr.build 37 #[(0, (.int .i64 x0_0)), (1, x1_0), (2, x2_0)]).run Try.prog w = .ok (.agg #[(.int .i64 x0_0), x1_0, x2_0]) w := by obtain ⟨Ax1_0, Bx1_0, Cx1_0, rfl⟩ := hx1_0; obtain ⟨Ax2_0, Bx2_0, Cx2_0, rfl⟩ := hx2_0; kernel_rfl
set_option maxHeartbeats 1000000 in
theorem kept_ok (w : World) :
  Calls Try.prog 46 #[] w (Ret fun v w' => ∃ vt' vm' lr' lb' lk', v = .agg #[.int .i64 e_1.scales, vt', vm'] ∧ Sep NoB w w' [b_6 true vt' lr' lb' e_1.tabs, c_0 true vm' lk' e_1.macs]) := by
 refine a_9 Try.func46 rfl fun a0 X => ?_
 replace X : Fr 25 [] [] a0 := X
 have AD : Sep NoB w w [] := Sep.start _ _
 refine m2 ?_
 refine s2 X (e_3 AD rfl ze_37 (cs := [(Value.int .i64 0), (Value.slice none 0 0), (Value.slice none 0 0)]) rfl) ?_
 rintro a1 _ w3 ⟨b4, rfl, AE⟩ AA; clear X AD a0
 refine n4 ?_
 refine s1 AA (e_6 rfl (pv2 (evc _ _) (evc _ _)) (n_0 _ _)) fun a6 AB => ?_; clear AA a1
 refine s1 AB (e_6 rfl (pv2 (evc _ _) (evc _ _)) (n_0 _ _)) fun a8 AC => ?_; clear AB a6
 refine s1 AC (e_6 rfl (pv2 (evc _ _) (evc _ _)) (n_0 _ _)) fun AV Y => ?_; clear AC a8
 refine s1 Y (e_6 rfl (pv2 (evc _ _) (evc _ _)) (n_0 _ _)) fun AW I => ?_; clear Y AV
 refine s2 I (h_3 AE rfl (pv4 (I.ev rfl) (I.ev rfl) (I.ev rfl) (I.ev rfl)) k_3 h_8 x_6 (by decide) (cs := [(Value.int .i64 100), (Value.int .i64 200), (Value.int .i64 200), (Value.int .i64 300), (Value.int .i64 300), (Value.int .i64 500), (Value.int .i64 400), (Value.int .i64 600)]) (bs_107_4_0iia_1iia_2iia_3iia _ _ _ _ _ _ _ _)) ?_
 rintro AX _ BB ⟨C, rfl, k⟩ Z; clear I AE AW
 refine s2 Z (h_3 k rfl (pv1 (evc _ _)) m_2 ty_3 ze_3 (by decide) (cs := [(Value.int .i64 2)]) (bs_3_1_0i _)) ?_
 rintro AY _ BC ⟨D, rfl, m⟩ J; clear Z k AX
 refine s1 J (e_6 rfl (pv5 (evc _ _) (evc _ _) (J.ev rfl) (J.ev rfl) (evc _ _)) (bd_106_0i_1i_2s_3s_4i _ _ _ ⟨_, _, _, rfl⟩ _ ⟨_, _, _, rfl⟩ _)) fun AZ a => ?_; clear J AY
 refine s1 a (e_6 rfl (pv2 (evc _ _) (evc _ _)) (n_0 _ _)) fun Aa b => ?_; clear a AZ
 refine s1 b (e_6 rfl (pv2 (evc _ _) (evc _ _)) (n_0 _ _)) fun Ab K => ?_; clear b Aa
 refine s2 K (h_3 m rfl (pv2 (K.ev rfl) (K.ev rfl)) k_3 h_8 x_6 (by decide) (cs := [(Value.int .i64 250), (Value.int .i64 90), (Value.int .i64 350), (Value.int .i64 50)]) (bs_107_2_0iia_1iia _ _ _ _)) ?_
 rintro Ac _ BD ⟨E, rfl, o⟩ Q; clear K m Ab
 refine s1 Q (e_6 rfl (pv3 (evc _ _) (evc _ _) (Q.ev rfl)) (bd_106_0i_1i_2s _ _ _ ⟨_, _, _, rfl⟩)) fun Ad L => ?_; clear Q Ac
 refine s2 L (h_3 o rfl (pv2 (L.ev rfl) (L.ev rfl)) z_2 l_1 ze_106 (by decide) (cs := [(Value.int .i64 0), (Value.int .i64 1), (Value.slice (some ⟨C, 0, none⟩) 4 4), (Value.slice (some ⟨D, 0, none⟩) 1 1), (Value.int .i64 2), (Value.int .i64 1), (Value.int .i64 2), (Value.slice (some ⟨E, 0, none⟩) 2 2), (Value.slice none 0 0), (Value.int .i64 0)]) (bs_106_2_0iivvia_1iivvia _ _ _ _ _ _ _ _ _ _)) ?_
 rintro Ae _ BE ⟨F, rfl, p⟩ c; clear L o Ad
 refine s2 c (b_0 rfl v_2 (ev2 (evc _ _) (evc _ _)) (g_4 _ _ _)) ?_
 rintro Af _ BF ⟨rfl, g⟩ R; have q := p.step g; clear g c p Ae
 refine s1 R (e_6 rfl (pv2 (R.ev rfl) (evc _ _)) (p_6 _ _ _)) fun Ag d => ?_; clear R Af
 refine s2 d (b_0 rfl v_2 (ev2 (evc _ _) (evc _ _)) (g_4 _ _ _)) ?_
 rintro Ah _ BG ⟨rfl, h⟩ S; have r := q.step h; clear h d q Ag
 refine s1 S (e_6 rfl (pv2 (S.ev rfl) (evc _ _)) (p_6 _ _ _)) fun Ai M => ?_; clear S Ah
 refine s2 M (h_3 r rfl (pv2 (M.ev rfl) (M.ev rfl)) z_6 z_4 ze_100 (by decide) (cs := [(Value.int .i64 150), (Value.int .i64 154), (Value.int .i64 160), (Value.int .i64 240), (Value.int .i64 246), (Value.int .i64 249)]) (bs_100_2_0iiia_1iiia _ _ _ _ _ _)) ?_
 rintro Aj _ BH ⟨A, rfl, s⟩ T; clear M r Ai
 refine s1 T (e_6 rfl (pv2 (evc _ _) (T.ev rfl)) (bd_103_0i_1s _ _ ⟨_, _, _, rfl⟩)) fun Ak e => ?_; clear T Aj
 refine s2 e (b_0 rfl v_2 (ev2 (evc _ _) (evc _ _)) (g_4 _ _ _)) ?_
 rintro Al _ BI ⟨rfl, j⟩ U; have t := s.step j; clear j e s Ak
 refine s1 U (e_6 rfl (pv2 (U.ev rfl) (evc _ _)) (p_6 _ _ _)) fun Am V => ?_; clear U Al
 refine s2 V (h_3 t rfl (pv1 (V.ev rfl)) z_6 z_4 ze_100 (by decide) (cs := [(Value.int .i64 300), (Value.int .i64 300), (Value.int .i64 299)]) (bs_100_1_0iiia _ _ _)) ?_
 rintro An _ BJ ⟨B, rfl, u⟩ W; clear V t Am
 refine s1 W (e_6 rfl (pv2 (evc _ _) (W.ev rfl)) (bd_103_0i_1s _ _ ⟨_, _, _, rfl⟩)) fun Ao N => ?_; clear W An
 refine s2 N (h_3 u rfl (pv2 (N.ev rfl) (N.ev rfl)) ab_0 t_3 ze_103 (by decide) (cs := [(Value.int .i64 0), (Value.slice (some ⟨A, 0, none⟩) 2 2), (Value.int .i64 1), (Value.slice (some ⟨B, 0, none⟩) 1 1)]) (bs_103_2_0iva_1iva _ _ _ _)) ?_
 rintro Ap _ BK ⟨G, rfl, x⟩ O; clear N u Ao
 refine s1 O (e_6 rfl (pv3 (evc _ _) (O.ev rfl) (O.ev rfl)) (bd_37_0i_1s_2s _ _ ⟨_, _, _, rfl⟩ _ ⟨_, _, _, rfl⟩)) fun BA P => ?_; clear O Ap
 refine s7 P (c_1 x rfl y_0 (P.ev rfl) (P.ev rfl) (i := 7) rfl (vs := [(Value.int .i64 3), (Value.slice (some ⟨F, 0, none⟩) 2 2), (Value.slice (some ⟨G, 0, none⟩) 2 2)]) rfl rfl (h_4 rfl (h_4 rfl (h_4 rfl v_0))) (Nat.le_of_ble_eq_true rfl)) ?_
 intro _ H y f; clear P
 have z : Sep NoB w H [(blk G 103 [(Value.int .i64 0), (Value.slice (some ⟨A, 0, none⟩) 2 2), (Value.int .i64 1), (Value.slice (some ⟨B, 0, none⟩) 1 1)]), (blk B 100 [(Value.int .i64 300), (Value.int .i64 300), (Value.int .i64 299)]), (blk A 100 [(Value.int .i64 150), (Value.int .i64 154), (Value.int .i64 160), (Value.int .i64 240), (Value.int .i64 246), (Value.int .i64 249)]), (blk F 106 [(Value.int .i64 0), (Value.int .i64 1), (Value.slice (some ⟨C, 0, none⟩) 4 4), (Value.slice (some ⟨D, 0, none⟩) 1 1), (Value.int .i64 2), (Value.int .i64 1), (Value.int .i64 2), (Value.slice (some ⟨E, 0, none⟩) 2 2), (Value.slice none 0 0), (Value.int .i64 0)]), (blk E 107 [(Value.int .i64 250), (Value.int .i64 90), (Value.int .i64 350), (Value.int .i64 50)]), (blk D 3 [(Value.int .i64 2)]), (blk C 107 [(Value.int .i64 100), (Value.int .i64 200), (Value.int .i64 200), (Value.int .i64 300), (Value.int .i64 300), (Value.int .i64 500), (Value.int .i64 400), (Value.int .i64 600)]), (blk b4 37 [(Value.int .i64 3), (Value.slice (some ⟨F, 0, none⟩) 2 2), (Value.slice (some ⟨G, 0, none⟩) 2 2)])] := y; clear y x
 refine n1 ?_
 refine c_4 ?_
 refine a_8 f (.inl rfl) (a_2 f rfl (.cellA rfl y_0 (z.bk 7 rfl) (l := [(Value.int .i64 3), (Value.slice (some ⟨F, 0, none⟩) 2 2), (Value.slice (some ⟨G, 0, none⟩) 2 2)]) rfl rfl)) ?_
 have Aq := z.w_1 (i := 6) (sz := 2) (n := 4) rfl rfl (by decide)
 have Ar := Aq.w_1 (i := 5) (sz := 1) (n := 1) rfl rfl (by decide)
 have As := Ar.w_1 (i := 4) (sz := 2) (n := 2) rfl rfl (by decide)
 have At := As.w_1 (i := 3) (sz := 5) (n := 2) rfl rfl (by decide)
 have Au := At.w_1 (i := 2) (sz := 3) (n := 2) rfl rfl (by decide)
 have Av := Au.w_1 (i := 1) (sz := 3) (n := 1) rfl rfl (by decide)
 have Aw := Av.w_1 (i := 0) (sz := 2) (n := 2) rfl rfl (by decide)
 have Ax : Sep NoB w H [(row (Value.slice (some ⟨C, 0, none⟩) 4 4) 107 2 4 [(Value.int .i64 100), (Value.int .i64 200), (Value.int .i64 200), (Value.int .i64 300), (Value.int .i64 300), (Value.int .i64 500), (Value.int .i64 400), (Value.int .i64 600)]), (row (Value.slice (some ⟨E, 0, none⟩) 2 2) 107 2 2 [(Value.int .i64 250), (Value.int .i64 90), (Value.int .i64 350), (Value.int .i64 50)]), (row (Value.slice (some ⟨D, 0, none⟩) 1 1) 3 1 1 [(Value.int .i64 2)]), (row (Value.slice (some ⟨F, 0, none⟩) 2 2) 106 5 2 [(Value.int .i64 0), (Value.int .i64 1), (Value.slice (some ⟨C, 0, none⟩) 4 4), (Value.slice (some ⟨D, 0, none⟩) 1 1), (Value.int .i64 2), (Value.int .i64 1), (Value.int .i64 2), (Value.slice (some ⟨E, 0, none⟩) 2 2), (Value.slice none 0 0), (Value.int .i64 0)]), (row (Value.slice (some ⟨A, 0, none⟩) 2 2) 100 3 2 [(Value.int .i64 150), (Value.int .i64 154), (Value.int .i64 160), (Value.int .i64 240), (Value.int .i64 246), (Value.int .i64 249)]), (row (Value.slice (some ⟨B, 0, none⟩) 1 1) 100 3 1 [(Value.int .i64 300), (Value.int .i64 300), (Value.int .i64 299)]), (row (Value.slice (some ⟨G, 0, none⟩) 2 2) 103 2 2 [(Value.int .i64 0), (Value.slice (some ⟨A, 0, none⟩) 2 2), (Value.int .i64 1), (Value.slice (some ⟨B, 0, none⟩) 1 1)])] := Aw.keep [6, 4, 5, 3, 2, 1, 0] (by decide) _ rfl rfl
 have Ay : Sep NoB w H [(slsR true 0 (fun _ => Value.slice none 0 0) 2 (m_1 e_1.tabs) (m_0 e_1.tabs)), (row (Value.slice (some ⟨C, 0, none⟩) 4 4) 107 2 4 [(Value.int .i64 100), (Value.int .i64 200), (Value.int .i64 200), (Value.int .i64 300), (Value.int .i64 300), (Value.int .i64 500), (Value.int .i64 400), (Value.int .i64 600)]), (row (Value.slice (some ⟨E, 0, none⟩) 2 2) 107 2 2 [(Value.int .i64 250), (Value.int .i64 90), (Value.int .i64 350), (Value.int .i64 50)]), (row (Value.slice (some ⟨D, 0, none⟩) 1 1) 3 1 1 [(Value.int .i64 2)]), (row (Value.slice (some ⟨F, 0, none⟩) 2 2) 106 5 2 [(Value.int .i64 0), (Value.int .i64 1), (Value.slice (some ⟨C, 0, none⟩) 4 4), (Value.slice (some ⟨D, 0, none⟩) 1 1), (Value.int .i64 2), (Value.int .i64 1), (Value.int .i64 2), (Value.slice (some ⟨E, 0, none⟩) 2 2), (Value.slice none 0 0), (Value.int .i64 0)]), (row (Value.slice (some ⟨A, 0, none⟩) 2 2) 100 3 2 [(Value.int .i64 150), (Value.int .i64 154), (Value.int .i64 160), (Value.int .i64 240), (Value.int .i64 246), (Value.int .i64 249)]), (row (Value.slice (some ⟨B, 0, none⟩) 1 1) 100 3 1 [(Value.int .i64 300), (Value.int .i64 300), (Value.int .i64 299)]), (row (Value.slice (some ⟨G, 0, none⟩) 2 2) 103 2 2 [(Value.int .i64 0), (Value.slice (some ⟨A, 0, none⟩) 2 2), (Value.int .i64 1), (Value.slice (some ⟨B, 0, none⟩) 1 1)])] := p_4 Ax (fun _ => Value.slice none 0 0) 2 (m_1 e_1.tabs) (m_0 e_1.tabs)
 have Az : Sep NoB w H [(row (Value.slice (some ⟨C, 0, none⟩) 4 4) 107 2 4 [(Value.int .i64 100), (Value.int .i64 200), (Value.int .i64 200), (Value.int .i64 300), (Value.int .i64 300), (Value.int .i64 500), (Value.int .i64 400), (Value.int .i64 600)]), (slsR true 0 (fun _ => Value.slice none 0 0) 2 (m_1 e_1.tabs) (m_0 e_1.tabs)), (row (Value.slice (some ⟨E, 0, none⟩) 2 2) 107 2 2 [(Value.int .i64 250), (Value.int .i64 90), (Value.int .i64 350), (Value.int .i64 50)]), (row (Value.slice (some ⟨D, 0, none⟩) 1 1) 3 1 1 [(Value.int .i64 2)]), (row (Value.slice (some ⟨F, 0, none⟩) 2 2) 106 5 2 [(Value.int .i64 0), (Value.int .i64 1), (Value.slice (some ⟨C, 0, none⟩) 4 4), (Value.slice (some ⟨D, 0, none⟩) 1 1), (Value.int .i64 2), (Value.int .i64 1), (Value.int .i64 2), (Value.slice (some ⟨E, 0, none⟩) 2 2), (Value.slice none 0 0), (Value.int .i64 0)]), (row (Value.slice (some ⟨A, 0, none⟩) 2 2) 100 3 2 [(Value.int .i64 150), (Value.int .i64 154), (Value.int .i64 160), (Value.int .i64 240), (Value.int .i64 246), (Value.int .i64 249)]), (row (Value.slice (some ⟨B, 0, none⟩) 1 1) 100 3 1 [(Value.int .i64 300), (Value.int .i64 300), (Value.int .i64 299)]), (row (Value.slice (some ⟨G, 0, none⟩) 2 2) 103 2 2 [(Value.int .i64 0), (Value.slice (some ⟨A, 0, none⟩) 2 2), (Value.int .i64 1), (Value.slice (some ⟨B, 0, none⟩) 1 1)])] := Ay.keep [1, 0, 2, 3, 4, 5, 6, 7] (by decide) _ rfl rfl
 have A0 : Sep NoB w H [(slsR true 1 (putV 0 (fun _ => Value.slice none 0 0) (Value.slice (some ⟨C, 0, none⟩) 4 4)) 2 (m_1 e_1.tabs) (m_0 e_1.tabs)), (row (Value.slice (some ⟨E, 0, none⟩) 2 2) 107 2 2 [(Value.int .i64 250), (Value.int .i64 90), (Value.int .i64 350), (Value.int .i64 50)]), (row (Value.slice (some ⟨D, 0, none⟩) 1 1) 3 1 1 [(Value.int .i64 2)]), (row (Value.slice (some ⟨F, 0, none⟩) 2 2) 106 5 2 [(Value.int .i64 0), (Value.int .i64 1), (Value.slice (some ⟨C, 0, none⟩) 4 4), (Value.slice (some ⟨D, 0, none⟩) 1 1), (Value.int .i64 2), (Value.int .i64 1), (Value.int .i64 2), (Value.slice (some ⟨E, 0, none⟩) 2 2), (Value.slice none 0 0), (Value.int .i64 0)]), (row (Value.slice (some ⟨A, 0, none⟩) 2 2) 100 3 2 [(Value.int .i64 150), (Value.int .i64 154), (Value.int .i64 160), (Value.int .i64 240), (Value.int .i64 246), (Value.int .i64 249)]), (row (Value.slice (some ⟨B, 0, none⟩) 1 1) 100 3 1 [(Value.int .i64 300), (Value.int .i64 300), (Value.int .i64 299)]), (row (Value.slice (some ⟨G, 0, none⟩) 2 2) 103 2 2 [(Value.int .i64 0), (Value.slice (some ⟨A, 0, none⟩) 2 2), (Value.int .i64 1), (Value.slice (some ⟨B, 0, none⟩) 1 1)])] := k_5 (k' := m_1 e_1.tabs) (c' := m_0 e_1.tabs) Az rfl rfl (fun i hi => absurd hi (Nat.not_lt_zero _))
 have A1 : Sep NoB w H [(row (Value.slice (some ⟨E, 0, none⟩) 2 2) 107 2 2 [(Value.int .i64 250), (Value.int .i64 90), (Value.int .i64 350), (Value.int .i64 50)]), (slsR true 1 (putV 0 (fun _ => Value.slice none 0 0) (Value.slice (some ⟨C, 0, none⟩) 4 4)) 2 (m_1 e_1.tabs) (m_0 e_1.tabs)), (row (Value.slice (some ⟨D, 0, none⟩) 1 1) 3 1 1 [(Value.int .i64 2)]), (row (Value.slice (some ⟨F, 0, none⟩) 2 2) 106 5 2 [(Value.int .i64 0), (Value.int .i64 1), (Value.slice (some ⟨C, 0, none⟩) 4 4), (Value.slice (some ⟨D, 0, none⟩) 1 1), (Value.int .i64 2), (Value.int .i64 1), (Value.int .i64 2), (Value.slice (some ⟨E, 0, none⟩) 2 2), (Value.slice none 0 0), (Value.int .i64 0)]), (row (Value.slice (some ⟨A, 0, none⟩) 2 2) 100 3 2 [(Value.int .i64 150), (Value.int .i64 154), (Value.int .i64 160), (Value.int .i64 240), (Value.int .i64 246), (Value.int .i64 249)]), (row (Value.slice (some ⟨B, 0, none⟩) 1 1) 100 3 1 [(Value.int .i64 300), (Value.int .i64 300), (Value.int .i64 299)]), (row (Value.slice (some ⟨G, 0, none⟩) 2 2) 103 2 2 [(Value.int .i64 0), (Value.slice (some ⟨A, 0, none⟩) 2 2), (Value.int .i64 1), (Value.slice (some ⟨B, 0, none⟩) 1 1)])] := A0.keep [1, 0, 2, 3, 4, 5, 6] (by decide) _ rfl rfl
 have A2 : Sep NoB w H [(slsR true 2 (putV 1 (putV 0 (fun _ => Value.slice none 0 0) (Value.slice (some ⟨C, 0, none⟩) 4 4)) (Value.slice (some ⟨E, 0, none⟩) 2 2)) 2 (m_1 e_1.tabs) (m_0 e_1.tabs)), (row (Value.slice (some ⟨D, 0, none⟩) 1 1) 3 1 1 [(Value.int .i64 2)]), (row (Value.slice (some ⟨F, 0, none⟩) 2 2) 106 5 2 [(Value.int .i64 0), (Value.int .i64 1), (Value.slice (some ⟨C, 0, none⟩) 4 4), (Value.slice (some ⟨D, 0, none⟩) 1 1), (Value.int .i64 2), (Value.int .i64 1), (Value.int .i64 2), (Value.slice (some ⟨E, 0, none⟩) 2 2), (Value.slice none 0 0), (Value.int .i64 0)]), (row (Value.slice (some ⟨A, 0, none⟩) 2 2) 100 3 2 [(Value.int .i64 150), (Value.int .i64 154), (Value.int .i64 160), (Value.int .i64 240), (Value.int .i64 246), (Value.int .i64 249)]), (row (Value.slice (some ⟨B, 0, none⟩) 1 1) 100 3 1 [(Value.int .i64 300), (Value.int .i64 300), (Value.int .i64 299)]), (row (Value.slice (some ⟨G, 0, none⟩) 2 2) 103 2 2 [(Value.int .i64 0), (Value.slice (some ⟨A, 0, none⟩) 2 2), (Value.int .i64 1), (Value.slice (some ⟨B, 0, none⟩) 1 1)])] := k_5 (k' := m_1 e_1.tabs) (c' := m_0 e_1.tabs) A1 rfl rfl (fun _ _ => ⟨rfl, rfl⟩)
 have A3 : Sep NoB w H [(row (Value.slice none 0 0) 3 1 0 []), (slsR true 2 (putV 1 (putV 0 (fun _ => Value.slice none 0 0) (Value.slice (some ⟨C, 0, none⟩) 4 4)) (Value.slice (some ⟨E, 0, none⟩) 2 2)) 2 (m_1 e_1.tabs) (m_0 e_1.tabs)), (row (Value.slice (some ⟨D, 0, none⟩) 1 1) 3 1 1 [(Value.int .i64 2)]), (row (Value.slice (some ⟨F, 0, none⟩) 2 2) 106 5 2 [(Value.int .i64 0), (Value.int .i64 1), (Value.slice (some ⟨C, 0, none⟩) 4 4), (Value.slice (some ⟨D, 0, none⟩) 1 1), (Value.int .i64 2), (Value.int .i64 1), (Value.int .i64 2), (Value.slice (some ⟨E, 0, none⟩) 2 2), (Value.slice none 0 0), (Value.int .i64 0)]), (row (Value.slice (some ⟨A, 0, none⟩) 2 2) 100 3 2 [(Value.int .i64 150), (Value.int .i64 154), (Value.int .i64 160), (Value.int .i64 240), (Value.int .i64 246), (Value.int .i64 249)]), (row (Value.slice (some ⟨B, 0, none⟩) 1 1) 100 3 1 [(Value.int .i64 300), (Value.int .i64 300), (Value.int .i64 299)]), (row (Value.slice (some ⟨G, 0, none⟩) 2 2) 103 2 2 [(Value.int .i64 0), (Value.slice (some ⟨A, 0, none⟩) 2 2), (Value.int .i64 1), (Value.slice (some ⟨B, 0, none⟩) 1 1)])] := A2.y_3 3 1
 have A4 : Sep NoB w H [(slsR true 0 (fun _ => Value.slice none 0 0) 1 (brkN e_1.tabs) (brkC e_1.tabs)), (row (Value.slice none 0 0) 3 1 0 []), (slsR true 2 (putV 1 (putV 0 (fun _ => Value.slice none 0 0) (Value.slice (some ⟨C, 0, none⟩) 4 4)) (Value.slice (some ⟨E, 0, none⟩) 2 2)) 2 (m_1 e_1.tabs) (m_0 e_1.tabs)), (row (Value.slice (some ⟨D, 0, none⟩) 1 1) 3 1 1 [(Value.int .i64 2)]), (row (Value.slice (some ⟨F, 0, none⟩) 2 2) 106 5 2 [(Value.int .i64 0), (Value.int .i64 1), (Value.slice (some ⟨C, 0, none⟩) 4 4), (Value.slice (some ⟨D, 0, none⟩) 1 1), (Value.int .i64 2), (Value.int .i64 1), (Value.int .i64 2), (Value.slice (some ⟨E, 0, none⟩) 2 2), (Value.slice none 0 0), (Value.int .i64 0)]), (row (Value.slice (some ⟨A, 0, none⟩) 2 2) 100 3 2 [(Value.int .i64 150), (Value.int .i64 154), (Value.int .i64 160), (Value.int .i64 240), (Value.int .i64 246), (Value.int .i64 249)]), (row (Value.slice (some ⟨B, 0, none⟩) 1 1) 100 3 1 [(Value.int .i64 300), (Value.int .i64 300), (Value.int .i64 299)]), (row (Value.slice (some ⟨G, 0, none⟩) 2 2) 103 2 2 [(Value.int .i64 0), (Value.slice (some ⟨A, 0, none⟩) 2 2), (Value.int .i64 1), (Value.slice (some ⟨B, 0, none⟩) 1 1)])] := p_4 A3 (fun _ => Value.slice none 0 0) 1 (brkN e_1.tabs) (brkC e_1.tabs)
 have A5 : Sep NoB w H [(row (Value.slice (some ⟨D, 0, none⟩) 1 1) 3 1 1 [(Value.int .i64 2)]), (slsR true 0 (fun _ => Value.slice none 0 0) 1 (brkN e_1.tabs) (brkC e_1.tabs)), (row (Value.slice none 0 0) 3 1 0 []), (slsR true 2 (putV 1 (putV 0 (fun _ => Value.slice none 0 0) (Value.slice (some ⟨C, 0, none⟩) 4 4)) (Value.slice (some ⟨E, 0, none⟩) 2 2)) 2 (m_1 e_1.tabs) (m_0 e_1.tabs)), (row (Value.slice (some ⟨F, 0, none⟩) 2 2) 106 5 2 [(Value.int .i64 0), (Value.int .i64 1), (Value.slice (some ⟨C, 0, none⟩) 4 4), (Value.slice (some ⟨D, 0, none⟩) 1 1), (Value.int .i64 2), (Value.int .i64 1), (Value.int .i64 2), (Value.slice (some ⟨E, 0, none⟩) 2 2), (Value.slice none 0 0), (Value.int .i64 0)]), (row (Value.slice (some ⟨A, 0, none⟩) 2 2) 100 3 2 [(Value.int .i64 150), (Value.int .i64 154), (Value.int .i64 160), (Value.int .i64 240), (Value.int .i64 246), (Value.int .i64 249)]), (row (Value.slice (some ⟨B, 0, none⟩) 1 1) 100 3 1 [(Value.int .i64 300), (Value.int .i64 300), (Value.int .i64 299)]), (row (Value.slice (some ⟨G, 0, none⟩) 2 2) 103 2 2 [(Value.int .i64 0), (Value.slice (some ⟨A, 0, none⟩) 2 2), (Value.int .i64 1), (Value.slice (some ⟨B, 0, none⟩) 1 1)])] := A4.keep [3, 0, 1, 2, 4, 5, 6, 7] (by decide) _ rfl rfl
 have AF : Sep NoB w H [(slsR true 1 (putV 0 (fun _ => Value.slice none 0 0) (Value.slice (some ⟨D, 0, none⟩) 1 1)) 1 (brkN e_1.tabs) (brkC e_1.tabs)), (row (Value.slice none 0 0) 3 1 0 []), (slsR true 2 (putV 1 (putV 0 (fun _ => Value.slice none 0 0) (Value.slice (some ⟨C, 0, none⟩) 4 4)) (Value.slice (some ⟨E, 0, none⟩) 2 2)) 2 (m_1 e_1.tabs) (m_0 e_1.tabs)), (row (Value.slice (some ⟨F, 0, none⟩) 2 2) 106 5 2 [(Value.int .i64 0), (Value.int .i64 1), (Value.slice (some ⟨C, 0, none⟩) 4 4), (Value.slice (some ⟨D, 0, none⟩) 1 1), (Value.int .i64 2), (Value.int .i64 1), (Value.int .i64 2), (Value.slice (some ⟨E, 0, none⟩) 2 2), (Value.slice none 0 0), (Value.int .i64 0)]), (row (Value.slice (some ⟨A, 0, none⟩) 2 2) 100 3 2 [(Value.int .i64 150), (Value.int .i64 154), (Value.int .i64 160), (Value.int .i64 240), (Value.int .i64 246), (Value.int .i64 249)]), (row (Value.slice (some ⟨B, 0, none⟩) 1 1) 100 3 1 [(Value.int .i64 300), (Value.int .i64 300), (Value.int .i64 299)]), (row (Value.slice (some ⟨G, 0, none⟩) 2 2) 103 2 2 [(Value.int .i64 0), (Value.slice (some ⟨A, 0, none⟩) 2 2), (Value.int .i64 1), (Value.slice (some ⟨B, 0, none⟩) 1 1)])] := k_5 (k' := brkN e_1.tabs) (c' := brkC e_1.tabs) A5 rfl rfl (fun i hi => absurd hi (Nat.not_lt_zero _))
 have AG : Sep NoB w H [(row (Value.slice none 0 0) 3 1 0 []), (slsR true 1 (putV 0 (fun _ => Value.slice none 0 0) (Value.slice (some ⟨D, 0, none⟩) 1 1)) 1 (brkN e_1.tabs) (brkC e_1.tabs)), (slsR true 2 (putV 1 (putV 0 (fun _ => Value.slice none 0 0) (Value.slice (some ⟨C, 0, none⟩) 4 4)) (Value.slice (some ⟨E, 0, none⟩) 2 2)) 2 (m_1 e_1.tabs) (m_0 e_1.tabs)), (row (Value.slice (some ⟨F, 0, none⟩) 2 2) 106 5 2 [(Value.int .i64 0), (Value.int .i64 1), (Value.slice (some ⟨C, 0, none⟩) 4 4), (Value.slice (some ⟨D, 0, none⟩) 1 1), (Value.int .i64 2), (Value.int .i64 1), (Value.int .i64 2), (Value.slice (some ⟨E, 0, none⟩) 2 2), (Value.slice none 0 0), (Value.int .i64 0)]), (row (Value.slice (some ⟨A, 0, none⟩) 2 2) 100 3 2 [(Value.int .i64 150), (Value.int .i64 154), (Value.int .i64 160), (Value.int .i64 240), (Value.int .i64 246), (Value.int .i64 249)]), (row (Value.slice (some ⟨B, 0, none⟩) 1 1) 100 3 1 [(Value.int .i64 300), (Value.int .i64 300), (Value.int .i64 299)]), (row (Value.slice (some ⟨G, 0, none⟩) 2 2) 103 2 2 [(Value.int .i64 0), (Value.slice (some ⟨A, 0, none⟩) 2 2), (Value.int .i64 1), (Value.slice (some ⟨B, 0, none⟩) 1 1)])] := AF.keep [1, 0, 2, 3, 4, 5, 6] (by decide) _ rfl rfl
 have AH : Sep NoB w H [(slsR true 2 (putV 1 (putV 0 (fun _ => Value.slice none 0 0) (Value.slice (some ⟨D, 0, none⟩) 1 1)) (Value.slice none 0 0)) 1 (brkN e_1.tabs) (brkC e_1.tabs)), (slsR true 2 (putV 1 (putV 0 (fun _ => Value.slice none 0 0) (Value.slice (some ⟨C, 0, none⟩) 4 4)) (Value.slice (some ⟨E, 0, none⟩) 2 2)) 2 (m_1 e_1.tabs) (m_0 e_1.tabs)), (row (Value.slice (some ⟨F, 0, none⟩) 2 2) 106 5 2 [(Value.int .i64 0), (Value.int .i64 1), (Value.slice (some ⟨C, 0, none⟩) 4 4), (Value.slice (some ⟨D, 0, none⟩) 1 1), (Value.int .i64 2), (Value.int .i64 1), (Value.int .i64 2), (Value.slice (some ⟨E, 0, none⟩) 2 2), (Value.slice none 0 0), (Value.int .i64 0)]), (row (Value.slice (some ⟨A, 0, none⟩) 2 2) 100 3 2 [(Value.int .i64 150), (Value.int .i64 154), (Value.int .i64 160), (Value.int .i64 240), (Value.int .i64 246), (Value.int .i64 249)]), (row (Value.slice (some ⟨B, 0, none⟩) 1 1) 100 3 1 [(Value.int .i64 300), (Value.int .i64 300), (Value.int .i64 299)]), (row (Value.slice (some ⟨G, 0, none⟩) 2 2) 103 2 2 [(Value.int .i64 0), (Value.slice (some ⟨A, 0, none⟩) 2 2), (Value.int .i64 1), (Value.slice (some ⟨B, 0, none⟩) 1 1)])] := k_5 (k' := brkN e_1.tabs) (c' := brkC e_1.tabs) AG rfl rfl (fun _ _ => ⟨rfl, rfl⟩)
 have AI : Sep NoB w H [(row (Value.slice (some ⟨F, 0, none⟩) 2 2) 106 5 2 [(Value.int .i64 0), (Value.int .i64 1), (Value.slice (some ⟨C, 0, none⟩) 4 4), (Value.slice (some ⟨D, 0, none⟩) 1 1), (Value.int .i64 2), (Value.int .i64 1), (Value.int .i64 2), (Value.slice (some ⟨E, 0, none⟩) 2 2), (Value.slice none 0 0), (Value.int .i64 0)]), (slsR true 2 (putV 1 (putV 0 (fun _ => Value.slice none 0 0) (Value.slice (some ⟨C, 0, none⟩) 4 4)) (Value.slice (some ⟨E, 0, none⟩) 2 2)) 2 (m_1 e_1.tabs) (m_0 e_1.tabs)), (slsR true 2 (putV 1 (putV 0 (fun _ => Value.slice none 0 0) (Value.slice (some ⟨D, 0, none⟩) 1 1)) (Value.slice none 0 0)) 1 (brkN e_1.tabs) (brkC e_1.tabs)), (row (Value.slice (some ⟨A, 0, none⟩) 2 2) 100 3 2 [(Value.int .i64 150), (Value.int .i64 154), (Value.int .i64 160), (Value.int .i64 240), (Value.int .i64 246), (Value.int .i64 249)]), (row (Value.slice (some ⟨B, 0, none⟩) 1 1) 100 3 1 [(Value.int .i64 300), (Value.int .i64 300), (Value.int .i64 299)]), (row (Value.slice (some ⟨G, 0, none⟩) 2 2) 103 2 2 [(Value.int .i64 0), (Value.slice (some ⟨A, 0, none⟩) 2 2), (Value.int .i64 1), (Value.slice (some ⟨B, 0, none⟩) 1 1)])] := AH.keep [2, 1, 0, 3, 4, 5] (by decide) _ rfl rfl
 have AJ : Sep NoB w H [(row (Value.slice (some ⟨F, 0, none⟩) 2 2) 106 5 e_1.tabs.length (n_4 (putV 1 (putV 0 (fun _ => Value.slice none 0 0) (Value.slice (some ⟨C, 0, none⟩) 4 4)) (Value.slice (some ⟨E, 0, none⟩) 2 2)) (putV 1 (putV 0 (fun _ => Value.slice none 0 0) (Value.slice (some ⟨D, 0, none⟩) 1 1)) (Value.slice none 0 0)) e_1.tabs)), (slsR true 2 (putV 1 (putV 0 (fun _ => Value.slice none 0 0) (Value.slice (some ⟨C, 0, none⟩) 4 4)) (Value.slice (some ⟨E, 0, none⟩) 2 2)) 2 (m_1 e_1.tabs) (m_0 e_1.tabs)), (slsR true 2 (putV 1 (putV 0 (fun _ => Value.slice none 0 0) (Value.slice (some ⟨D, 0, none⟩) 1 1)) (Value.slice none 0 0)) 1 (brkN e_1.tabs) (brkC e_1.tabs)), (row (Value.slice (some ⟨A, 0, none⟩) 2 2) 100 3 2 [(Value.int .i64 150), (Value.int .i64 154), (Value.int .i64 160), (Value.int .i64 240), (Value.int .i64 246), (Value.int .i64 249)]), (row (Value.slice (some ⟨B, 0, none⟩) 1 1) 100 3 1 [(Value.int .i64 300), (Value.int .i64 300), (Value.int .i64 299)]), (row (Value.slice (some ⟨G, 0, none⟩) 2 2) 103 2 2 [(Value.int .i64 0), (Value.slice (some ⟨A, 0, none⟩) 2 2), (Value.int .i64 1), (Value.slice (some ⟨B, 0, none⟩) 1 1)])] := AI.k_4 (i := 0) rfl rfl (kept_tabsC _ _ _ _).symm
 have AK : Sep NoB w H [(b_6 true (Value.slice (some ⟨F, 0, none⟩) 2 2) (putV 1 (putV 0 (fun _ => Value.slice none 0 0) (Value.slice (some ⟨C, 0, none⟩) 4 4)) (Value.slice (some ⟨E, 0, none⟩) 2 2)) (putV 1 (putV 0 (fun _ => Value.slice none 0 0) (Value.slice (some ⟨D, 0, none⟩) 1 1)) (Value.slice none 0 0)) e_1.tabs), (row (Value.slice (some ⟨A, 0, none⟩) 2 2) 100 3 2 [(Value.int .i64 150), (Value.int .i64 154), (Value.int .i64 160), (Value.int .i64 240), (Value.int .i64 246), (Value.int .i64 249)]), (row (Value.slice (some ⟨B, 0, none⟩) 1 1) 100 3 1 [(Value.int .i64 300), (Value.int .i64 300), (Value.int .i64 299)]), (row (Value.slice (some ⟨G, 0, none⟩) 2 2) 103 2 2 [(Value.int .i64 0), (Value.slice (some ⟨A, 0, none⟩) 2 2), (Value.int .i64 1), (Value.slice (some ⟨B, 0, none⟩) 1 1)])] := sep_tabs_join AJ
 have AL : Sep NoB w H [(slsR true 0 (fun _ => Value.slice none 0 0) 3 (blkN e_1.macs) (blkC e_1.macs)), (b_6 true (Value.slice (some ⟨F, 0, none⟩) 2 2) (putV 1 (putV 0 (fun _ => Value.slice none 0 0) (Value.slice (some ⟨C, 0, none⟩) 4 4)) (Value.slice (some ⟨E, 0, none⟩) 2 2)) (putV 1 (putV 0 (fun _ => Value.slice none 0 0) (Value.slice (some ⟨D, 0, none⟩) 1 1)) (Value.slice none 0 0)) e_1.tabs), (row (Value.slice (some ⟨A, 0, none⟩) 2 2) 100 3 2 [(Value.int .i64 150), (Value.int .i64 154), (Value.int .i64 160), (Value.int .i64 240), (Value.int .i64 246), (Value.int .i64 249)]), (row (Value.slice (some ⟨B, 0, none⟩) 1 1) 100 3 1 [(Value.int .i64 300), (Value.int .i64 300), (Value.int .i64 299)]), (row (Value.slice (some ⟨G, 0, none⟩) 2 2) 103 2 2 [(Value.int .i64 0), (Value.slice (some ⟨A, 0, none⟩) 2 2), (Value.int .i64 1), (Value.slice (some ⟨B, 0, none⟩) 1 1)])] := p_4 AK (fun _ => Value.slice none 0 0) 3 (blkN e_1.macs) (blkC e_1.macs)
 have AM : Sep NoB w H [(row (Value.slice (some ⟨A, 0, none⟩) 2 2) 100 3 2 [(Value.int .i64 150), (Value.int .i64 154), (Value.int .i64 160), (Value.int .i64 240), (Value.int .i64 246), (Value.int .i64 249)]), (slsR true 0 (fun _ => Value.slice none 0 0) 3 (blkN e_1.macs) (blkC e_1.macs)), (b_6 true (Value.slice (some ⟨F, 0, none⟩) 2 2) (putV 1 (putV 0 (fun _ => Value.slice none 0 0) (Value.slice (some ⟨C, 0, none⟩) 4 4)) (Value.slice (some ⟨E, 0, none⟩) 2 2)) (putV 1 (putV 0 (fun _ => Value.slice none 0 0) (Value.slice (some ⟨D, 0, none⟩) 1 1)) (Value.slice none 0 0)) e_1.tabs), (row (Value.slice (some ⟨B, 0, none⟩) 1 1) 100 3 1 [(Value.int .i64 300), (Value.int .i64 300), (Value.int .i64 299)]), (row (Value.slice (some ⟨G, 0, none⟩) 2 2) 103 2 2 [(Value.int .i64 0), (Value.slice (some ⟨A, 0, none⟩) 2 2), (Value.int .i64 1), (Value.slice (some ⟨B, 0, none⟩) 1 1)])] := AL.keep [2, 0, 1, 3, 4] (by decide) _ rfl rfl
 have AN : Sep NoB w H [(slsR true 1 (putV 0 (fun _ => Value.slice none 0 0) (Value.slice (some ⟨A, 0, none⟩) 2 2)) 3 (blkN e_1.macs) (blkC e_1.macs)), (b_6 true (Value.slice (some ⟨F, 0, none⟩) 2 2) (putV 1 (putV 0 (fun _ => Value.slice none 0 0) (Value.slice (some ⟨C, 0, none⟩) 4 4)) (Value.slice (some ⟨E, 0, none⟩) 2 2)) (putV 1 (putV 0 (fun _ => Value.slice none 0 0) (Value.slice (some ⟨D, 0, none⟩) 1 1)) (Value.slice none 0 0)) e_1.tabs), (row (Value.slice (some ⟨B, 0, none⟩) 1 1) 100 3 1 [(Value.int .i64 300), (Value.int .i64 300), (Value.int .i64 299)]), (row (Value.slice (some ⟨G, 0, none⟩) 2 2) 103 2 2 [(Value.int .i64 0), (Value.slice (some ⟨A, 0, none⟩) 2 2), (Value.int .i64 1), (Value.slice (some ⟨B, 0, none⟩) 1 1)])] := k_5 (k' := blkN e_1.macs) (c' := blkC e_1.macs) AM rfl rfl (fun i hi => absurd hi (Nat.not_lt_zero _))
 have AO : Sep NoB w H [(row (Value.slice (some ⟨B, 0, none⟩) 1 1) 100 3 1 [(Value.int .i64 300), (Value.int .i64 300), (Value.int .i64 299)]), (slsR true 1 (putV 0 (fun _ => Value.slice none 0 0) (Value.slice (some ⟨A, 0, none⟩) 2 2)) 3 (blkN e_1.macs) (blkC e_1.macs)), (b_6 true (Value.slice (some ⟨F, 0, none⟩) 2 2) (putV 1 (putV 0 (fun _ => Value.slice none 0 0) (Value.slice (some ⟨C, 0, none⟩) 4 4)) (Value.slice (some ⟨E, 0, none⟩) 2 2)) (putV 1 (putV 0 (fun _ => Value.slice none 0 0) (Value.slice (some ⟨D, 0, none⟩) 1 1)) (Value.slice none 0 0)) e_1.tabs), (row (Value.slice (some ⟨G, 0, none⟩) 2 2) 103 2 2 [(Value.int .i64 0), (Value.slice (some ⟨A, 0, none⟩) 2 2), (Value.int .i64 1), (Value.slice (some ⟨B, 0, none⟩) 1 1)])] := AN.keep [2, 0, 1, 3] (by decide) _ rfl rfl
 have AP : Sep NoB w H [(slsR true 2 (putV 1 (putV 0 (fun _ => Value.slice none 0 0) (Value.slice (some ⟨A, 0, none⟩) 2 2)) (Value.slice (some ⟨B, 0, none⟩) 1 1)) 3 (blkN e_1.macs) (blkC e_1.macs)), (b_6 true (Value.slice (some ⟨F, 0, none⟩) 2 2) (putV 1 (putV 0 (fun _ => Value.slice none 0 0) (Value.slice (some ⟨C, 0, none⟩) 4 4)) (Value.slice (some ⟨E, 0, none⟩) 2 2)) (putV 1 (putV 0 (fun _ => Value.slice none 0 0) (Value.slice (some ⟨D, 0, none⟩) 1 1)) (Value.slice none 0 0)) e_1.tabs), (row (Value.slice (some ⟨G, 0, none⟩) 2 2) 103 2 2 [(Value.int .i64 0), (Value.slice (some ⟨A, 0, none⟩) 2 2), (Value.int .i64 1), (Value.slice (some ⟨B, 0, none⟩) 1 1)])] := k_5 (k' := blkN e_1.macs) (c' := blkC e_1.macs) AO rfl rfl (fun _ _ => ⟨rfl, rfl⟩)
 have AQ : Sep NoB w H [(row (Value.slice (some ⟨G, 0, none⟩) 2 2) 103 2 2 [(Value.int .i64 0), (Value.slice (some ⟨A, 0, none⟩) 2 2), (Value.int .i64 1), (Value.slice (some ⟨B, 0, none⟩) 1 1)]), (slsR true 2 (putV 1 (putV 0 (fun _ => Value.slice none 0 0) (Value.slice (some ⟨A, 0, none⟩) 2 2)) (Value.slice (some ⟨B, 0, none⟩) 1 1)) 3 (blkN e_1.macs) (blkC e_1.macs)), (b_6 true (Value.slice (some ⟨F, 0, none⟩) 2 2) (putV 1 (putV 0 (fun _ => Value.slice none 0 0) (Value.slice (some ⟨C, 0, none⟩) 4 4)) (Value.slice (some ⟨E, 0, none⟩) 2 2)) (putV 1 (putV 0 (fun _ => Value.slice none 0 0) (Value.slice (some ⟨D, 0, none⟩) 1 1)) (Value.slice none 0 0)) e_1.tabs)] := AP.keep [2, 0, 1] (by decide) _ rfl rfl
 have AR : Sep NoB w H [(row (Value.slice (some ⟨G, 0, none⟩) 2 2) 103 2 e_1.macs.length (o_4 (putV 1 (putV 0 (fun _ => Value.slice none 0 0) (Value.slice (some ⟨A, 0, none⟩) 2 2)) (Value.slice (some ⟨B, 0, none⟩) 1 1)) e_1.macs)), (slsR true 2 (putV 1 (putV 0 (fun _ => Value.slice none 0 0) (Value.slice (some ⟨A, 0, none⟩) 2 2)) (Value.slice (some ⟨B, 0, none⟩) 1 1)) 3 (blkN e_1.macs) (blkC e_1.macs)), (b_6 true (Value.slice (some ⟨F, 0, none⟩) 2 2) (putV 1 (putV 0 (fun _ => Value.slice none 0 0) (Value.slice (some ⟨C, 0, none⟩) 4 4)) (Value.slice (some ⟨E, 0, none⟩) 2 2)) (putV 1 (putV 0 (fun _ => Value.slice none 0 0) (Value.slice (some ⟨D, 0, none⟩) 1 1)) (Value.slice none 0 0)) e_1.tabs)] := AQ.k_4 (i := 0) rfl rfl (kept_macsC _ _).symm
 have AS : Sep NoB w H [(c_0 true (Value.slice (some ⟨G, 0, none⟩) 2 2) (putV 1 (putV 0 (fun _ => Value.slice none 0 0) (Value.slice (some ⟨A, 0, none⟩) 2 2)) (Value.slice (some ⟨B, 0, none⟩) 1 1)) e_1.macs), (b_6 true (Value.slice (some ⟨F, 0, none⟩) 2 2) (putV 1 (putV 0 (fun _ => Value.slice none 0 0) (Value.slice (some ⟨C, 0, none⟩) 4 4)) (Value.slice (some ⟨E, 0, none⟩) 2 2)) (putV 1 (putV 0 (fun _ => Value.slice none 0 0) (Value.slice (some ⟨D, 0, none⟩) 1 1)) (Value.slice none 0 0)) e_1.tabs)] := sep_macs_join AR
 have AT : Sep NoB w H [(b_6 true (Value.slice (some ⟨F, 0, none⟩) 2 2) (putV 1 (putV 0 (fun _ => Value.slice none 0 0) (Value.slice (some ⟨C, 0, none⟩) 4 4)) (Value.slice (some ⟨E, 0, none⟩) 2 2)) (putV 1 (putV 0 (fun _ => Value.slice none 0 0) (Value.slice (some ⟨D, 0, none⟩) 1 1)) (Value.slice none 0 0)) e_1.tabs), (c_0 true (Value.slice (some ⟨G, 0, none⟩) 2 2) (putV 1 (putV 0 (fun _ => Value.slice none 0 0) (Value.slice (some ⟨A, 0, none⟩) 2 2)) (Value.slice (some ⟨B, 0, none⟩) 1 1)) e_1.macs)] := AS.keep [1, 0] (by decide) _ rfl rfl
 exact ⟨_, _, _, _, _, rfl, AT⟩
end Go.Proofs.Ytohgladndklciaa

namespace Go.Proofs.Ytohgladndklciaa
open Go.RowKit Go.Shelf Go.Eng Go.Hard
theorem en_46 : ∀ args w, (callFunc 46 args).run Try.prog w = .ok (.enter 46 args) w := enters_of Try.func46 (by kernel_rfl) rfl
theorem en_33 : ∀ args w, (callFunc 33 args).run Try.prog w = .ok (.enter 33 args) w := enters_of Try.func33 (by kernel_rfl) rfl
theorem aa_7 : ∀ args w, (callFunc 18 args).run Try.prog w = .ok (.enter 18 args) w := enters_of Try.func18 (by kernel_rfl) rfl
theorem en_25 : ∀ args w, (callFunc 25 args).run Try.prog w = .ok (.enter 25 args) w := enters_of Try.func25 (by kernel_rfl) rfl
theorem l_5 (w : World) :
  Calls Try.prog 17 #[] w (Ret fun v w' => v = .bool true ∧ Ext NoB w w') := by
 refine a_9 Try.func17 rfl fun a0 Z => ?_
 replace Z : Fr 71 [] [] a0 := Z
 have AS : Sep NoB w w [] := Sep.start _ _
 refine m2 ?_
 refine s1 Z (a_0 rfl (evc _ _)) fun a1 AR => ?_; clear Z a0
 refine n4 ?_
 refine s2 AR (b_0 rfl en_46 ev0 (kept_ok _)) ?_
 rintro a3 _ w5 ⟨vt6, vm7, lr8, lb9, lk10, rfl, AM⟩ r; have L := AS.y_7 AM rfl; clear AM AR AS a1
 refine s2 r (b_0 rfl en_33 (ev2 (r.ev rfl) (evc _ _)) (Bias_ok e_1 vt6 vm7 lr8 lb9 lk10 _ (a_6 (L.ok 0 _ rfl)) (c_3 (L.ok 1 _ rfl)) kept_thin 0)) ?_
 rintro AY _ BG ⟨rfl, y⟩ O; have AB := L.step y; clear y r L a3
 refine s1 O (a_1 rfl (O.ev rfl)) fun AZ P => ?_; clear O AY
 refine s1 P (c_6 rfl (P.ev rfl) rfl) fun Aa Q => ?_; clear P AZ
 refine s1 Q (c_6 rfl (Q.ev rfl) rfl) fun Ab n => ?_; clear Q Aa
 refine s2 n (e_3 AB rfl t_5 (cs := [(Value.int .i64 0), (Value.int .i64 0)]) rfl) ?_
 rintro Ac _ BH ⟨B, rfl, AC⟩ H; clear n AB Ab
 refine s7 H (c_1 AC rfl f_5 (H.ev rfl) (H.ev rfl) (i := 0) rfl (vs := [(Value.int .i64 ((x_9 e_1 0).1)), (Value.int .i64 ((x_9 e_1 0).2))]) rfl rfl rfl (Nat.le_of_ble_eq_true rfl)) ?_
 intro _ A3 AD R; clear H
 have AE : Sep NoB w A3 [(blk B 30 [(Value.int .i64 ((x_9 e_1 0).1)), (Value.int .i64 ((x_9 e_1 0).2))]), (b_6 true vt6 lr8 lb9 e_1.tabs), (c_0 true vm7 lk10 e_1.macs)] := AD; clear AD AC
 refine s1 R (a_0 rfl (R.ev rfl)) fun Ad o => ?_; clear R Ac
 refine n2 ?_
 have p := o.as [(2, (Value.int .i64 (x_8 e_1 0))), (1, (bptr B 0))] rfl; clear o
 refine a_5 ?_
 refine s2 p (b_0 rfl en_46 ev0 (kept_ok _)) ?_
 rintro Ae _ BI ⟨vt39, vm40, lr41, lb42, lk43, rfl, AN⟩ q; have AF := AE.y_7 AN rfl; clear AN p AE Ad
 refine s2 q (b_0 rfl v_2 (ev2 (evc _ _) (evc _ _)) (g_4 _ _ _)) ?_
 rintro Af _ BJ ⟨rfl, z⟩ I; have M := AF.step z; clear z q AF Ae
 refine s2 I (b_0 rfl aa_7 (ev3 (I.ev rfl) (evc _ _) (I.ev rfl)) (k_7 e_1 vt39 vm40 lr41 lb42 lk43 _ (a_6 (M.ok 0 _ rfl)) (c_3 (M.ok 1 _ rfl)) kept_thin 0 150 180)) ?_
 rintro Ag _ BK ⟨rfl, AA⟩ S; have AG := M.step AA; clear AA I M Af
 refine s1 S (a_1 rfl (S.ev rfl)) fun Ah T => ?_; clear S Ag
 refine s1 T (c_6 rfl (T.ev rfl) rfl) fun Ai U => ?_; clear T Ah
 refine s1 U (c_6 rfl (U.ev rfl) rfl) fun Aj s => ?_; clear U Ai
 refine s2 s (e_3 AG rfl t_5 (cs := [(Value.int .i64 0), (Value.int .i64 0)]) rfl) ?_
 rintro Ak _ BL ⟨N, rfl, AH⟩ J; clear s AG Aj
 refine s7 J (c_1 AH rfl f_5 (J.ev rfl) (J.ev rfl) (i := 0) rfl (vs := [(Value.int .i64 ((b_7 e_1 0 (150, 180)).1)), (Value.int .i64 ((b_7 e_1 0 (150, 180)).2))]) rfl rfl rfl (Nat.le_of_ble_eq_true rfl)) ?_
 intro _ A4 AI V; clear J
 have AJ : Sep NoB w A4 [(blk N 30 [(Value.int .i64 ((b_7 e_1 0 (150, 180)).1)), (Value.int .i64 ((b_7 e_1 0 (150, 180)).2))]), (b_6 true vt39 lr41 lb42 e_1.tabs), (c_0 true vm40 lk43 e_1.macs), (blk B 30 [(Value.int .i64 ((x_9 e_1 0).1)), (Value.int .i64 ((x_9 e_1 0).2))]), (b_6 true vt6 lr8 lb9 e_1.tabs), (c_0 true vm7 lk10 e_1.macs)] := AI; clear AI AH
 refine s1 V (a_0 rfl (V.ev rfl)) fun Al t => ?_; clear V Ak
 refine n2 ?_
 have u := t.as [(4, (Value.int .i64 (e_0 e_1 0 (150, 180)))), (3, (bptr N 0)), (2, (Value.int .i64 (x_8 e_1 0))), (1, (bptr B 0))] rfl; clear t
 refine a_5 ?_
 refine s2 u (b_0 rfl en_46 ev0 (kept_ok _)) ?_
 rintro Am _ BM ⟨vt77, vm78, lr79, lb80, lk81, rfl, AO⟩ x; have AK := AJ.y_7 AO rfl; clear AO u AJ Al
 refine s1 x (e_6 rfl (pv2 (evc _ _) (evc _ _)) (bd_98_0i_1i _ _)) fun An W => ?_; clear x Am
 refine s2 W (h_3 AK rfl (pv1 (W.ev rfl)) un_53 ty_98 ze_98 (by decide) (cs := [(Value.int .i64 0), (Value.int .i64 170)]) (bs_98_1_0iia _ _)) ?_
 rintro Ao _ BN ⟨As, rfl, C⟩ K; clear W AK An
 refine s2 K (b_0 rfl en_25 (ev2 (K.ev rfl) (K.ev rfl)) (Spans_ok e_1 vt77 vm78 lr79 lb80 lk81 _ (a_6 (C.ok 1 _ rfl)) (c_3 (C.ok 2 _ rfl)) kept_thin ([(0, 170)]) _ (SlAt.of_blk (C.bk 0 rfl) rfl (Nat.le_of_ble_eq_true rfl)) (by decide) ([(161, 164), (259, 266), (83, 87)]) kept_read kept_spans)) ?_
 rintro Ap _ A5 ⟨A, rfl, AP⟩ X
 have AL : Sep NoB w A5 [(row A 30 2 ([(161, 164), (259, 266), (83, 87)].length) (pairs ([(161, 164), (259, 266), (83, 87)]))), (blk As 98 [(Value.int .i64 0), (Value.int .i64 170)]), (b_6 true vt77 lr79 lb80 e_1.tabs), (c_0 true vm78 lk81 e_1.macs), (blk N 30 [(Value.int .i64 ((b_7 e_1 0 (150, 180)).1)), (Value.int .i64 ((b_7 e_1 0 (150, 180)).2))]), (b_6 true vt39 lr41 lb42 e_1.tabs), (c_0 true vm40 lk43 e_1.macs), (blk B 30 [(Value.int .i64 ((x_9 e_1 0).1)), (Value.int .i64 ((x_9 e_1 0).2))]), (b_6 true vt6 lr8 lb9 e_1.tabs), (c_0 true vm7 lk10 e_1.macs)] := C.y_7 AP rfl; clear AP K C Ao
 refine s1 X (a_1 rfl (X.ev rfl)) fun Aq Y => ?_; clear X Ap
 refine s1 Y (c_6 rfl (Y.ev rfl) rfl) fun Ar D => ?_; clear Y Aq
 refine s1 D (c_6 rfl (D.ev rfl) rfl) fun AT E => ?_; clear D Ar
 refine s1 E (a_0 rfl (E.ev rfl)) fun AU F => ?_; clear E AT
 refine s1 F (a_0 rfl (F.ev rfl)) fun A7 b => ?_; clear F AU
 refine n2 ?_
 have c := b.as [(6, (Value.int .i64 0)), (5, A), (4, (Value.int .i64 (e_0 e_1 0 (150, 180)))), (3, (bptr N 0)), (2, (Value.int .i64 (x_8 e_1 0))), (1, (bptr B 0))] rfl; clear b
 have d := c.as [(6, (Value.int .i64 0)), (5, A), (4, (Value.int .i64 (e_0 e_1 0 (150, 180)))), (3, (bptr N 0)), (2, (Value.int .i64 (x_8 e_1 0))), (1, (bptr B 0))] rfl; clear c
 refine g_6 mixed d AL 46 [[], [0], [1], [2], [2], [2, 3, 4], [2, 5], [6], [7], [7, 8], [7, 9], [10], [11], [11], [11, 12, 13], [11, 14], [15], [16], [16, 17], [16, 18], [19], [20], [20, 21], [20, 22], [20, 23], [24], [25], [25, 26], [25, 27], [25], [25, 28, 29], [25, 30], [31], [32], [32, 33], [32, 34], [32], [32, 35, 36], [32, 37], [38], [39], [39, 40], [39, 41], [39], [39, 42, 43], [39, 44]] [(Yd.val (Value.int .i64 (x_8 e_1 0))), (Yd.val (Value.bool true)), (Yd.val (Value.bool true)), (Yd.val (Value.agg #[(Value.int .i64 ((x_9 e_1 0).1)), (Value.int .i64 ((x_9 e_1 0).2))])), (Yd.val (Value.agg #[(Value.int .i64 6), (Value.int .i64 9)])), (Yd.val (Value.bool true)), (Yd.val (Value.bool true)), (Yd.val (Value.bool true)), (Yd.val (Value.int .i64 (e_0 e_1 0 (150, 180)))), (Yd.val (Value.bool true)), (Yd.val (Value.bool true)), (Yd.val (Value.bool true)), (Yd.val (Value.agg #[(Value.int .i64 ((b_7 e_1 0 (150, 180)).1)), (Value.int .i64 ((b_7 e_1 0 (150, 180)).2))])), (Yd.val (Value.agg #[(Value.int .i64 248), (Value.int .i64 282)])), (Yd.val (Value.bool true)), (Yd.val (Value.bool true)), (Yd.val (Value.bool true)), (Yd.val (Value.int .i64 0)), (Yd.val (Value.bool true)), (Yd.val (Value.bool true)), (Yd.val (Value.bool true)), (Yd.val A), (Yd.val (Value.int .i64 ([(161, 164), (259, 266), (83, 87)].length : Int))), (Yd.val (Value.bool true)), (Yd.val (Value.bool true)), (Yd.val (Value.bool true)), (Yd.val A), (Yd.val (eptr A (0 * 2))), (Yd.val (Value.agg #[(Value.int .i64 ((([(161, 164), (259, 266), (83, 87)]).getD 0 (0, 0)).1)), (Value.int .i64 ((([(161, 164), (259, 266), (83, 87)]).getD 0 (0, 0)).2))])), (Yd.val (Value.agg #[(Value.int .i64 161), (Value.int .i64 164)])), (Yd.val (Value.bool true)), (Yd.val (Value.bool true)), (Yd.val (Value.bool true)), (Yd.val A), (Yd.val (eptr A (1 * 2))), (Yd.val (Value.agg #[(Value.int .i64 ((([(161, 164), (259, 266), (83, 87)]).getD 1 (0, 0)).1)), (Value.int .i64 ((([(161, 164), (259, 266), (83, 87)]).getD 1 (0, 0)).2))])), (Yd.val (Value.agg #[(Value.int .i64 259), (Value.int .i64 266)])), (Yd.val (Value.bool true)), (Yd.val (Value.bool true)), (Yd.val (Value.bool true)), (Yd.val A), (Yd.val (eptr A (2 * 2))), (Yd.val (Value.agg #[(Value.int .i64 ((([(161, 164), (259, 266), (83, 87)]).getD 2 (0, 0)).1)), (Value.int .i64 ((([(161, 164), (259, 266), (83, 87)]).getD 2 (0, 0)).2))])), (Yd.val (Value.agg #[(Value.int .i64 83), (Value.int .i64 87)])), (Yd.val (Value.bool true)), (Yd.val (Value.bool true))] (by decide +kernel) rfl rfl ?_ ?_
 ·skip
  refine dq (fun a w hA hS hd => a_1 rfl (hA.ev rfl)) ?_
  refine ⟨fun a w hA hS hd => by have e0 := hx hd 0; exact d_6 rfl (dv (i_8 rfl (c_9 e0) (evc _ _)) hS (by show Value.bool _ = _; simp only [decide_eq_true (show (x_8 e_1 0) = 0 from (by decide)), decide_true, decide_false, Bool.not_true, Bool.not_false])), ?_⟩
  refine dq (fun a w hA hS hd => a_1 rfl (hq hd 1)) ?_
  refine dy 2 (fun a w hA hS hd => c_5 rfl f_5 (hA.ev rfl) (hS.bk 7 rfl) (l := [(Value.int .i64 ((x_9 e_1 0).1)), (Value.int .i64 ((x_9 e_1 0).2))]) rfl rfl) ?_
  refine ⟨fun a w hA hS hd => by have e2 := hx hd 2; exact i_1 rfl rfl e2 (dx (b_0 rfl v_2 (ev2 (evc _ _) (evc _ _)) (g_4 _ _ _)) hS (fun _ => rfl)), ?_⟩
  refine ⟨fun a w hA hS hd => by have e2 := hx hd 2; have e3 := hx hd 3; have e4 := hx hd 4; exact i_1 rfl rfl e2 (dv (op_eqlP tw_30 rfl (c_9 e3) (c_9 e4)) hS (by show Value.bool _ = _; simp only [(show (decide ((((x_9 e_1 0).1) : Int) = 6) && decide ((((x_9 e_1 0).2) : Int) = 9)) = true from (by decide)), decide_true, decide_false, Bool.not_true, Bool.not_false])), ?_⟩
  refine dq (fun a w hA hS hd => b_4 rfl (hq hd 2) (hq hd 5)) ?_
  refine dq (fun a w hA hS hd => a_1 rfl (hq hd 6)) ?_
  refine dy 7 (fun a w hA hS hd => a_1 rfl (hA.ev rfl)) ?_
  refine ⟨fun a w hA hS hd => by have e7 := hx hd 7; have e8 := hx hd 8; exact i_1 rfl rfl e7 (dv (i_8 rfl (c_9 e8) (evc _ _)) hS (by show Value.bool _ = _; simp only [decide_eq_true (show (e_0 e_1 0 (150, 180)) = 0 from (by decide)), decide_true, decide_false, Bool.not_true, Bool.not_false])), ?_⟩
  refine dq (fun a w hA hS hd => b_4 rfl (hq hd 7) (hq hd 9)) ?_
  refine dq (fun a w hA hS hd => a_1 rfl (hq hd 10)) ?_
  refine dy 11 (fun a w hA hS hd => c_5 rfl f_5 (hA.ev rfl) (hS.bk 4 rfl) (l := [(Value.int .i64 ((b_7 e_1 0 (150, 180)).1)), (Value.int .i64 ((b_7 e_1 0 (150, 180)).2))]) rfl rfl) ?_
  refine ⟨fun a w hA hS hd => by have h := hx hd 11; exact i_1 rfl rfl h (dx (b_0 rfl v_2 (ev2 (evc _ _) (evc _ _)) (g_4 _ _ _)) hS (fun _ => rfl)), ?_⟩
  refine ⟨fun a w hA hS hd => by have h := hx hd 11; have At := hx hd 12; have Au := hx hd 13; exact i_1 rfl rfl h (dv (op_eqlP tw_30 rfl (c_9 At) (c_9 Au)) hS (by show Value.bool _ = _; simp only [(show (decide ((((b_7 e_1 0 (150, 180)).1) : Int) = 248) && decide ((((b_7 e_1 0 (150, 180)).2) : Int) = 282)) = true from (by decide)), decide_true, decide_false, Bool.not_true, Bool.not_false])), ?_⟩
  refine dq (fun a w hA hS hd => b_4 rfl (hq hd 11) (hq hd 14)) ?_
  refine dq (fun a w hA hS hd => a_1 rfl (hq hd 15)) ?_
  refine dy 16 (fun a w hA hS hd => a_1 rfl (hA.ev rfl)) ?_
  refine dy 16 (fun a w hA hS hd => i_8 rfl (hq hd 17) (evc _ _)) ?_
  refine dq (fun a w hA hS hd => b_4 rfl (hq hd 16) (hq hd 18)) ?_
  refine dq (fun a w hA hS hd => a_1 rfl (hq hd 19)) ?_
  refine dy 20 (fun a w hA hS hd => a_1 rfl (hA.ev rfl)) ?_
  refine dy 20 (fun a w hA hS hd => d_5 rfl aa_4 (hq hd 21) (SlAt.h_7 (hS.j_4 0 rfl))) ?_
  refine ⟨fun a w hA hS hd => by have Av := hx hd 20; have Aw := hx hd 22; exact i_1 rfl rfl Av (dv (i_8 rfl (c_9 Aw) (evc _ _)) hS (by show Value.bool _ = _; simp only [decide_eq_true (show ([(161, 164), (259, 266), (83, 87)].length : Int) = 3 from (by decide)), decide_true, decide_false, Bool.not_true, Bool.not_false])), ?_⟩
  refine dq (fun a w hA hS hd => b_4 rfl (hq hd 20) (hq hd 23)) ?_
  refine dq (fun a w hA hS hd => a_1 rfl (hq hd 24)) ?_
  refine dy 25 (fun a w hA hS hd => a_1 rfl (hA.ev rfl)) ?_
  refine dy 25 (fun a w hA hS hd => b_3 rfl aa_4 f_5 (hq hd 26) (i := 0) (show _ = Value.int .i64 ((0 : Nat) : Int) from (evc _ _)) (SlAt.h_7 (hS.j_4 0 rfl)) (by decide) (by decide)) ?_
  refine dy 25 (fun a w hA hS hd => f_1 rfl f_5 (hq hd 27) (SlAt.h_7 (hS.j_4 0 rfl)) (i_5 (by decide)) rfl (by decide)) ?_
  refine ⟨fun a w hA hS hd => by have j := hx hd 25; exact i_1 rfl rfl j (dx (b_0 rfl v_2 (ev2 (evc _ _) (evc _ _)) (g_4 _ _ _)) hS (fun _ => rfl)), ?_⟩
  refine ⟨fun a w hA hS hd => by have j := hx hd 25; have Ax := hx hd 28; have Ay := hx hd 29; exact i_1 rfl rfl j (dv (op_eqlP tw_30 rfl (c_9 Ax) (c_9 Ay)) hS (by show Value.bool _ = _; simp only [(show (decide ((((([(161, 164), (259, 266), (83, 87)]).getD 0 (0, 0)).1) : Int) = 161) && decide ((((([(161, 164), (259, 266), (83, 87)]).getD 0 (0, 0)).2) : Int) = 164)) = true from (by decide)), decide_true, decide_false, Bool.not_true, Bool.not_false])), ?_⟩
  refine dq (fun a w hA hS hd => b_4 rfl (hq hd 25) (hq hd 30)) ?_
  refine dq (fun a w hA hS hd => a_1 rfl (hq hd 31)) ?_
  refine dy 32 (fun a w hA hS hd => a_1 rfl (hA.ev rfl)) ?_
  refine dy 32 (fun a w hA hS hd => b_3 rfl aa_4 f_5 (hq hd 33) (i := 1) (show _ = Value.int .i64 ((1 : Nat) : Int) from (evc _ _)) (SlAt.h_7 (hS.j_4 0 rfl)) (by decide) (by decide)) ?_
  refine dy 32 (fun a w hA hS hd => f_1 rfl f_5 (hq hd 34) (SlAt.h_7 (hS.j_4 0 rfl)) (i_5 (by decide)) rfl (by decide)) ?_
  refine ⟨fun a w hA hS hd => by have k := hx hd 32; exact i_1 rfl rfl k (dx (b_0 rfl v_2 (ev2 (evc _ _) (evc _ _)) (g_4 _ _ _)) hS (fun _ => rfl)), ?_⟩
  refine ⟨fun a w hA hS hd => by have k := hx hd 32; have Az := hx hd 35; have A0 := hx hd 36; exact i_1 rfl rfl k (dv (op_eqlP tw_30 rfl (c_9 Az) (c_9 A0)) hS (by show Value.bool _ = _; simp only [(show (decide ((((([(161, 164), (259, 266), (83, 87)]).getD 1 (0, 0)).1) : Int) = 259) && decide ((((([(161, 164), (259, 266), (83, 87)]).getD 1 (0, 0)).2) : Int) = 266)) = true from (by decide)), decide_true, decide_false, Bool.not_true, Bool.not_false])), ?_⟩
  refine dq (fun a w hA hS hd => b_4 rfl (hq hd 32) (hq hd 37)) ?_
  refine dq (fun a w hA hS hd => a_1 rfl (hq hd 38)) ?_
  refine dy 39 (fun a w hA hS hd => a_1 rfl (hA.ev rfl)) ?_
  refine dy 39 (fun a w hA hS hd => b_3 rfl aa_4 f_5 (hq hd 40) (i := 2) (show _ = Value.int .i64 ((2 : Nat) : Int) from (evc _ _)) (SlAt.h_7 (hS.j_4 0 rfl)) (by decide) (by decide)) ?_
  refine dy 39 (fun a w hA hS hd => f_1 rfl f_5 (hq hd 41) (SlAt.h_7 (hS.j_4 0 rfl)) (i_5 (by decide)) rfl (by decide)) ?_
  refine ⟨fun a w hA hS hd => by have m := hx hd 39; exact i_1 rfl rfl m (dx (b_0 rfl v_2 (ev2 (evc _ _) (evc _ _)) (g_4 _ _ _)) hS (fun _ => rfl)), ?_⟩
  refine ⟨fun a w hA hS hd => by have m := hx hd 39; have A1 := hx hd 42; have A2 := hx hd 43; exact i_1 rfl rfl m (dv (op_eqlP tw_30 rfl (c_9 A1) (c_9 A2)) hS (by show Value.bool _ = _; simp only [(show (decide ((((([(161, 164), (259, 266), (83, 87)]).getD 2 (0, 0)).1) : Int) = 83) && decide ((((([(161, 164), (259, 266), (83, 87)]).getD 2 (0, 0)).2) : Int) = 87)) = true from (by decide)), decide_true, decide_false, Bool.not_true, Bool.not_false])), ?_⟩
  refine dq (fun a w hA hS hd => b_4 rfl (hq hd 39) (hq hd 44)) ?_
  trivial
 intro AV BF e AQ g; clear d AL
 have G := e.add (hz g 45); clear e
 clear g
 refine s1 G (a_0 rfl (G.ev rfl)) fun A8 f => ?_; clear G AV
 refine n1 ?_
 refine c_4 ?_
 refine a_8 f (.inl rfl) (a_2 f rfl (.tmp rfl)) ?_
 exact ⟨rfl, AQ.ext⟩
end Go.Proofs.Ytohgladndklciaa

namespace Go.Proofs.Ytohgladndklciaa
open Go.RowKit Go.Shelf Go.Eng Go.Hard
theorem en_16 : ∀ args w, (callFunc 16 args).run Try.prog w = .ok (.enter 16 args) w := enters_of Try.func16 (by kernel_rfl) rfl
theorem y_8 : ∀ args w, (callFunc 17 args).run Try.prog w = .ok (.enter 17 args) w := enters_of Try.func17 (by kernel_rfl) rfl
theorem aa_2 : ∀ args w, (callFunc 19 args).run Try.prog w = .ok (.enter 19 args) w := enters_of Try.func19 (by kernel_rfl) rfl
theorem en_26 : ∀ args w, (callFunc 26 args).run Try.prog w = .ok (.enter 26 args) w := enters_of Try.func26 (by kernel_rfl) rfl
theorem en_27 : ∀ args w, (callFunc 27 args).run Try.prog w = .ok (.enter 27 args) w := enters_of Try.func27 (by kernel_rfl) rfl
theorem en_29 : ∀ args w, (callFunc 29 args).run Try.prog w = .ok (.enter 29 args) w := enters_of Try.func29 (by kernel_rfl) rfl
theorem un_5 : Try.prog.underlying 5 = some (.int .u8) := by kernel_rfl
theorem un_3 : Try.prog.underlying 3 = some (.int .i64) := by kernel_rfl
end Go.Proofs.Ytohgladndklciaa

namespace Go.Hard
def x_4 (b : h_2) (l : List (Int × Int)) : Bool := aa_3 b l.length && decide (o_7 b l = 0)
theorem ready_is {b : h_2} {l : List (Int × Int)} (h : x_4 b l = true) : q_4 b ∧ l.length ≤ 12 ∧ o_7 b l = 0 := by
  unfold x_4 at h
  rw [Bool.and_eq_true, decide_eq_true_eq, thin_iff] at h
  exact ⟨h.1.1, h.1.2, h.2⟩
section
variable {s t : g_5} {e f : Int} {k : Nat}
end
theorem rem_nat {n : Int} {m : Nat} (h0 : 0 ≤ n) (hm : 0 < m) : ∃ b : Nat, n.tmod (m : Int) = (b : Int) ∧ b < m := by
  have h1 := Int.tmod_nonneg (m : Int) h0
  have h2 := Int.tmod_lt_of_pos n (show (0 : Int) < (m : Int) by omega)
  exact ⟨(n.tmod (m : Int)).toNat, by omega, by omega⟩
theorem rem_bd {y d : Int} (h : 0 ≤ y) (hd : 0 < d) : 0 ≤ y.tmod d ∧ y.tmod d < d := ⟨Int.tmod_nonneg d h, Int.tmod_lt_of_pos y hd⟩
theorem sp_len {b : h_2} {l : List (Int × Int)} {t : g_5} (hb : o_3 b) (hl : x_7 b l) (h : m_9 b l = some t) : t.length = b.scales.toNat ∧ t.length ≤ 4 := by
  have := spans_is hb hl
  rw [h] at this
  have h4 := hb.four
  exact ⟨this.1, by rw [this.1]; exact h4⟩
def frU (b : h_2) (k : Nat) : Nat → Bool
  | 0 => true
  | j + 1 => frU b k j && !decide ((b.tabs.getD j tab0).dst = (k : Int))
def fmU (b : h_2) (l : List (Int × Int)) (k : Nat) : Nat → Bool
  | 0 => frU b k b.tabs.length
  | j + 1 => fmU b l k j && !decide ((b.macs.getD (l.getD j (0, 0)).1.toNat mac0).scale = (k : Int))
section
variable {b : h_2} {l : List (Int × Int)} {k j : Nat}
theorem frU_t (h : frU b k j = true) : frU b k (j + 1) = !decide ((b.tabs.getD j tab0).dst = (k : Int)) := by rw [frU, h, Bool.true_and]
theorem frU_f (h : frU b k j = false) : frU b k (j + 1) = false := by rw [frU, h, Bool.false_and]
theorem fmU_t (h : fmU b l k j = true) : fmU b l k (j + 1) = !decide ((b.macs.getD (l.getD j (0, 0)).1.toNat mac0).scale = (k : Int)) := by rw [fmU, h, Bool.true_and]
theorem fmU_f (h : fmU b l k j = false) : fmU b l k (j + 1) = false := by rw [fmU, h, Bool.false_and]
theorem frU_is : ∀ j, frU b k j = true → ∀ i, i < j → (b.tabs.getD i tab0).dst ≠ (k : Int)
  | 0, _, _, hi => absurd hi (Nat.not_lt_zero _)
  | j + 1, h, i, hi => by
    rw [frU, Bool.and_eq_true] at h
    rcases Nat.lt_succ_iff_lt_or_eq.1 hi with hi | rfl
    · exact frU_is j h.1 i hi
    · simpa using h.2
theorem fmU_is : ∀ j, fmU b l k j = true → frU b k b.tabs.length = true ∧ ∀ i, i < j → (b.macs.getD (l.getD i (0, 0)).1.toNat mac0).scale ≠ (k : Int)
  | 0, h => ⟨h, fun _ hi => absurd hi (Nat.not_lt_zero _)⟩
  | j + 1, h => by
    rw [fmU, Bool.and_eq_true] at h
    have ih := fmU_is j h.1
    refine ⟨ih.1, fun i hi => ?_⟩
    rcases Nat.lt_succ_iff_lt_or_eq.1 hi with hi | rfl
    · exact ih.2 i hi
    · simpa using h.2
theorem start_free (hb : o_3 b) (hl : x_7 b l) (hk : k < b.scales.toNat) (h : ∀ i, i < l.length → (b.macs.getD (l.getD i (0, 0)).1.toNat mac0).scale ≠ (k : Int)) : ∀ j, j ≤ l.length → at' (d_3 b l e_7 j) k = rng0
  | 0, _ => by
    have := hb.four
    have : k < 4 := by omega
    match k, this with
    | 0, _ => rfl
    | 1, _ => rfl
    | 2, _ => rfl
    | 3, _ => rfl
  | j + 1, hj => by
    have ih := start_free hb hl hk h j (by omega)
    have hs := t_2 b l e_7 j
    have h4 : e_7.length = 4 := rfl
    have hsc := (hl.macV hb (k := j) (by omega)).scale
    have hne := h j (by omega)
    have hn := hb.four
    have hlt := scale_lt hb hl (k := j) (by omega)
    rw [startU_succ, at_set (by omega), if_neg]
    · exact ih
    · unfold o_1; omega
theorem allow_free {s : g_5} (hb : o_3 b) (hl : x_7 b l) (hs : m_9 b l = some s) (hk : k < s.length) (h : fmU b l k l.length = true) : s.getD k (0, 0) = (0, 100000) := by
  have hw := spans_is hb hl
  rw [hs] at hw
  have hlen := hw.1
  have hf := fmU_is _ h
  have hd := frU_is _ hf.1
  refine hw.free (fun t ht => hb.natV t ht) (by omega) (start_free hb hl (by omega) hf.2 _ (Nat.le_refl _)) fun t ht => ?_
  obtain ⟨i, hi, rfl⟩ := List.getElem_of_mem ht
  have := hd i hi
  simpa only [List.getD, List.getElem?_eq_getElem hi, Option.getD_some] using this
theorem allow_all {s : g_5} (hb : o_3 b) (hl : x_7 b l) (hs : m_9 b l = some s) (hk : k < s.length) (hj : j = l.length) (h : fmU b l k j = true) : (decide ((s.getD k (0, 0)).1 = 0) && decide ((s.getD k (0, 0)).2 = 100000)) = true := by
  subst hj; rw [allow_free hb hl hs hk h]; decide
theorem span_y {r : Rng} (h0 : 0 ≤ r.1) (h1 : r.1 ≤ r.2) (h2 : r.2 ≤ 100000) : u_7 r = true := by
  unfold u_7 inB; simp only [Bool.and_eq_true, decide_eq_true_eq]; omega
theorem not_conv {t : TabD} {r : Rng} (h : ¬ (tx t 0 ≤ r.1 ∧ r.2 ≤ tx t (t.rows.length - 1) ∧ ∀ b ∈ t.brk, r.2 ≤ tx t b.toNat ∨ tx t (b.toNat + 1) ≤ r.1)) : p_0 t r = false := by
  cases hc : p_0 t r with
  | false => rfl
  | true => exact absurd (q_5.1 hc) h
theorem m_4 (hc : f_9 b = 0) (hk : k < b.tabs.length) : e_0 b (k : Int) (((b.tabs.getD k tab0).rows.getD 0 (0, 0)).1 - 1, ((b.tabs.getD k tab0).rows.getD 0 (0, 0)).1) = 10 := by
  have hb := q_0 hc
  have hv := hb.tab hk
  have hln := hv.len
  have h0 := hv.bnd 0 (by omega)
  unfold tx ty at h0
  refine convE_10 hc (i_0.2 (by omega)) (span_y (by dsimp only; omega) (by dsimp only; omega) (by dsimp only; omega)) ?_
  rw [Int.toNat_natCast]
  refine not_conv fun h => ?_
  have := h.1
  unfold tx at this; dsimp only at this; omega
variable {i : Nat}
theorem brk_nat {n : Int} {t : TabD} (hv : TabV n t) (hj : j < t.brk.length) : ∃ i : Nat, t.brk.getD j 0 = (i : Int) ∧ i + 1 < t.rows.length ∧ (i : Int) ∈ t.brk := by
  have hm := getD_mem' (d := 0) hj
  have := hv.brk _ hm
  have hln := hv.len
  refine ⟨(t.brk.getD j 0).toNat, by omega, by omega, ?_⟩
  rwa [show ((t.brk.getD j 0).toNat : Int) = t.brk.getD j 0 by omega]
theorem m_3 (hc : f_9 b = 0) (hk : k < b.tabs.length) (hi : i + 1 < (b.tabs.getD k tab0).rows.length) (hm : (i : Int) ∈ (b.tabs.getD k tab0).brk) : e_0 b (k : Int) (((b.tabs.getD k tab0).rows.getD i (0, 0)).1, ((b.tabs.getD k tab0).rows.getD i (0, 0)).1 + 1) = 10 := by
  have hb := q_0 hc
  have hv := hb.tab hk
  have h0 := hv.bnd i (by omega)
  have h1 := hv.bnd (i + 1) (by omega)
  have hx := hv.rows.x i hi
  unfold tx ty at h0 h1
  unfold tx at hx
  refine convE_10 hc (i_0.2 (by omega)) (span_y (by dsimp only; omega) (by dsimp only; omega) (by dsimp only; omega)) ?_
  rw [Int.toNat_natCast]
  refine not_conv fun h => ?_
  have := h.2.2 _ hm
  unfold tx at this; rw [Int.toNat_natCast] at this; dsimp only at this; omega
theorem t_6 (hc : f_9 b = 0) (hk : k < b.tabs.length) (hi : i + 1 < (b.tabs.getD k tab0).rows.length) : e_0 b (k : Int) (((b.tabs.getD k tab0).rows.getD i (0, 0)).1, ((b.tabs.getD k tab0).rows.getD i (0, 0)).1) = 0 := by
  have hb := q_0 hc
  have hv := hb.tab hk
  have h0 := hv.bnd i (by omega)
  unfold tx ty at h0
  refine convE_0 hc (i_0.2 (by omega)) (span_y (by dsimp only; omega) (by dsimp only; omega) (by dsimp only; omega)) ?_
  rw [Int.toNat_natCast]
  refine q_5.2 ⟨n_3 hv.rows.x (Nat.zero_le _) (by omega), n_3 hv.rows.x (by omega) (by omega), fun c hcm => ?_⟩
  have hcb := hv.brk c hcm
  dsimp only
  rcases Nat.lt_or_ge c.toNat i with h | h
  · exact .inr (n_3 hv.rows.x (by omega) (by omega))
  · exact .inl (n_3 hv.rows.x h (by omega))
end
end Go.Hard

namespace Go.Proofs.Ytohgladndklciaa
open Go.RowKit Go.Shelf Go.Eng Go.Hard
theorem ready_ok (b : h_2) (vt vm : Value) (lr lb lk : Nat → Value) (w : World) (hT : j_5 w vt lr lb b.tabs) (hM : k_8 w vm lk b.macs) (l : List (Int × Int)) (xl : Value) (hxl : SlAt w xl 2 l.length (pairs l)) :
  Calls Try.prog 29 #[(Value.agg #[(Value.int .i64 b.scales), vt, vm]), xl] w (Ret fun v w' => v = .bool (x_4 b l) ∧ Ext NoB w w') := by
 refine a_9 Try.func29 rfl fun c H => ?_
 replace H : Fr 14 [] [(0, (Value.agg #[(Value.int .i64 b.scales), vt, vm])), (1, xl)] c := H
 have Z : Sep NoB w w [(b_6 false vt lr lb b.tabs), (c_0 false vm lk b.macs), (sl xl 2 l.length (pairs l))] := f_2 ⟨rfl, hT, rfl, hM, rfl, hxl, trivial⟩
 refine m2 ?_
 refine s2 H (f_3 Z rfl (H.ev rfl) (cs := [(Value.int .i64 b.scales), vt, vm]) rfl) ?_
 rintro q _ w3 ⟨z, rfl, C⟩ Y; clear H Z c
 refine s1 Y (a_0 rfl (evc _ _)) fun r T => ?_; clear Y q
 refine n4 ?_
 refine s1 T (c_5 rfl x_0 (T.ev rfl) (C.bk 0 rfl) (l := [(Value.int .i64 b.scales), vt, vm]) rfl rfl) fun s U => ?_; clear T r
 refine s1 U (a_1 rfl (U.ev rfl)) fun d D => ?_; clear U s
 refine s2 D (b_0 rfl en_16 (ev2 (D.ev rfl) (D.ev rfl)) (thin_ok b vt vm lr lb lk _ (a_6 (C.ok 1 _ rfl)) (c_3 (C.ok 2 _ rfl)) l _ (C.sk 3 rfl))) ?_
 rintro e _ x ⟨rfl, V⟩ I; have B := C.step V; clear V D C d
 refine s1 I (a_1 rfl (I.ev rfl)) fun X A => ?_; clear I e
 rcases Bool.eq_false_or_eq_true ((aa_3 b l.length)) with G | G
 ·skip
  rw [G] at A
  have hthl := thin_iff.1 G; have hth := hthl.1
  refine s5 A (c_5 rfl x_0 (A.ev rfl) (B.bk 0 rfl) (l := [(Value.int .i64 b.scales), vt, vm]) rfl rfl) fun f J => ?_; clear A X
  refine s5 J (a_1 rfl (J.ev rfl)) fun g E => ?_; clear J f
  refine s6 E (b_0 rfl en_27 (ev2 (E.ev rfl) (E.ev rfl)) (fault_ok b vt vm lr lb lk _ (a_6 (B.ok 1 _ rfl)) (c_3 (B.ok 2 _ rfl)) hth l _ (B.sk 3 rfl) (by omega))) ?_
  rintro h _ y ⟨rfl, W⟩ K; have a := B.step W; clear W E B g
  refine s5 K (i_8 rfl (K.ev rfl) (evc _ _)) fun i F => ?_; clear K h
  refine s1 F (b_4 rfl (F.ev rfl) (F.ev rfl)) fun j L => ?_; clear F i
  refine s1 L (a_0 rfl (L.ev rfl)) fun t O => ?_; clear L j
  refine n1 ?_
  refine c_4 ?_
  refine a_8 O (.inl rfl) (a_2 O rfl (.tmp rfl)) ?_
  exact ⟨congrArg Value.bool (by unfold x_4; simp [*]), a.ext⟩
 skip
 rw [G] at A
 refine s3 A fun k P => ?_; clear A X
 refine s3 P fun m Q => ?_; clear P k
 refine s3 Q fun n R => ?_; clear Q m
 refine s3 R fun o M => ?_; clear R n
 refine s1 M (d_8 rfl (M.ev rfl) (evc _ _)) fun p N => ?_; clear M o
 refine s1 N (a_0 rfl (N.ev rfl)) fun u S => ?_; clear N p
 refine n1 ?_
 refine c_4 ?_
 refine a_8 S (.inl rfl) (a_2 S rfl (.tmp rfl)) ?_
 exact ⟨congrArg Value.bool (by unfold x_4; simp [*]), B.ext⟩
end Go.Proofs.Ytohgladndklciaa
