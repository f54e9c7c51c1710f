/-
  Walks through the functions of the seat, printed by a program of ours (gowalk), a theorem a function: what the call returns and what it leaves in memory.
-/
import Derived.Test.YtohgladndklciaaBd
import Derived.Test.YtohgladndklciaaEngb
import Derived.Test.YtohgladndklciaaEnga
set_option linter.unusedSimpArgs false
set_option linter.unusedVariables false
namespace Go.Proofs.Ytohgladndklciaa
open Go.RowKit Go.Shelf Go.Eng Go.Hard
set_option maxHeartbeats 4000000 in
theorem HardMore_ok (b : g_3) (vt vm : Value) (lr lb lk : Nat → Value) (w : World) (hT : j_1 w vt lr lb b.tabs) (hM : k_3 w vm lk b.macs) (l : List (Int × Int)) (xl : Value) (hxl : SlAt w xl 2 l.length (pairs l)) (wa : Int) (hA_ : 0 ≤ wa ∧ wa ≤ 255) (ra rb ka kb kc : Int) (tb : TabD) (vq vg : Value) (hvq : SlAt w vq 2 tb.rows.length (pairs tb.rows)) (hvg : SlAt w vg 1 tb.brk.length (ints tb.brk)) (NC : b.tabs.length * 72 ≤ 140737488351232) (ND : b.macs.length * 32 ≤ 140737488351232) (Lt : ∀ i, (b.macs.getD i mac0).blocks.length * 24 ≤ 140737488351232) (NE : l.length * 16 ≤ 140737488351232) :
  Calls Try.prog 6 #[(Value.agg #[(iv b.scales), vt, vm]), xl, (Value.int .u8 wa), (Value.agg #[(iv ra), (iv rb)]), (Value.agg #[(iv ka), (iv kb), (iv kc)]), (Value.agg #[(iv tb.frm), (iv tb.dst), vq, vg, (iv tb.err)])] w (Ret fun v w' => v = .bool true ∧ Ext NoB w w') := by
 refine a_8 Try.func6 rfl fun a0 Dl => ?_
 replace Dl : Fr 129 [] [(0, (Value.agg #[(iv b.scales), vt, vm])), (1, xl), (2, (Value.int .u8 wa)), (3, (Value.agg #[(iv ra), (iv rb)])), (4, (Value.agg #[(iv ka), (iv kb), (iv kc)])), (5, (Value.agg #[(iv tb.frm), (iv tb.dst), vq, vg, (iv tb.err)]))] a0 := Dl
 have Hm : Sep NoB w w [(d_9 false vt lr lb b.tabs), (e_1 false vm lk b.macs), (sl xl 2 l.length (pairs l)), (sl vq 2 tb.rows.length (pairs tb.rows)), (sl vg 1 tb.brk.length (ints tb.brk))] := e_6 ⟨rfl, hT, rfl, hM, rfl, hxl, rfl, hvq, rfl, hvg, trivial⟩
 refine m2 (s2 Dl (e_8 Hm rfl Dl.e (cs := [(iv b.scales), vt, vm]) rfl) ?_)
 rintro a1 _ w3 ⟨F, rfl, Hn⟩ Gq; clear Dl Hm a0
 refine s2 Gq (e_8 Hn rfl Gq.e (cs := [(iv ra), (iv rb)]) rfl) ?_
 rintro a6 _ w8 ⟨S, rfl, Gy⟩ Gx; clear Gq Hn a1
 refine s2 Gx (e_8 Gy rfl Gx.e (cs := [(iv ka), (iv kb), (iv kc)]) rfl) ?_
 rintro LP _ NG ⟨I, rfl, Gz⟩ Ds; clear Gx Gy a6
 refine s2 Ds (e_8 Gz rfl Ds.e (cs := [(iv tb.frm), (iv tb.dst), vq, vg, (iv tb.err)]) rfl) ?_
 rintro LQ _ NH ⟨E, rfl, G0⟩ Gp; clear Ds Gz LP
 refine s1 Gp (a_0 rfl (evc _ _)) fun M5 Gr => ?_; clear Gp LQ
 refine n2 ?_
 have Gs := Gr.as [(11, (bptr E 0)), (10, (bptr I 0)), (9, (bptr S 0)), (6, (bptr F 0)), (1, xl), (2, (Value.int .u8 wa))] rfl; clear Gr
 refine c_drawCC mixed Gs G0 5 [(3, 1)] [[], [], [], [1, 2], []] [(yw (Value.agg #[(iv b.scales), vt, vm])), (fun (A : Nat → Value) (v_ : Value) (rs_ : List Res) => ∃ (b1_ : Nat), v_ = (Value.slice (some ⟨b1_, 0, none⟩) 0 0) ∧ rs_ = [(blk b1_ 67 [])]), (yw xl), (fun (A : Nat → Value) (v_ : Value) (rs_ : List Res) => True ∧ rs_ = [(row v_ 67 2 l.length (pairs l))]), (fun (A : Nat → Value) (v_ : Value) (rs_ : List Res) => ∃ (b4_ : Nat), v_ = (bptr b4_ 0) ∧ rs_ = [(blk b4_ 25 [(iv 0), (Value.slice none 0 0), (Value.slice none 0 0)])])] (by decide +kernel) (by decide +kernel) (by decide +kernel) (by decide +kernel) rfl rfl ⟨dw, (fun _ _ _ _ _ h_ => h_), dw, (fun _ _ _ _ _ h_ => h_), (fun _ _ _ _ _ h_ => h_), trivial⟩ (by decide +kernel) ?_ ?_ ?_
 ·skip
  refine ⟨fun hj_ a w A hA hS hd => gv1 (c_0 rfl y_9 (hA.ev rfl) (hS.bk 3 rfl) (l := [(iv b.scales), vt, vm]) rfl rfl), ?_⟩
  refine ⟨fun hj_ a w A hA hS hd => d_2 rfl (vblz rfl pv0 z_1 ty_67 ze_67 bs_67_0_ (fun b_ => ⟨b_, rfl, rfl⟩)), ?_⟩
  refine ⟨fun hj_ a w A hA hS hd => gv1 (a_1 rfl hA.e), ?_⟩
  refine ⟨fun hj_ => absurd hj_ (by decide), ?_⟩
  refine ⟨fun hj_ a w A hA hS hd => d_2 rfl (valloc rfl ze_25 (cs := [(iv 0), (Value.slice none 0 0), (Value.slice none 0 0)]) rfl (fun b_ => ⟨b_, rfl, rfl⟩)), ?_⟩
  trivial
 ·skip
  refine ⟨fun o_ ho_ => ?_, ?_⟩
  ·skip
   obtain rfl := Option.some.inj ho_; clear ho_
   intro a w A Gg Lr hA T AM hd hL hS
   obtain ⟨b1_, Lo, Ll⟩ := AM; subst Ll
   rw [Lo] at T
   replace hS := hS.o_3 (i := 0) (sz := 2) (n := 0) rfl rfl (by decide)
   obtain ⟨e2, Hq, Dn, Hp⟩ := hd 2 (by decide) (by decide)
   obtain ⟨Dm, N⟩ := Dn; subst N
   rw [Dm] at e2
   exact d_2 rfl (m_3 (i_8 hS rfl z_1 el_67 (c_3 (g_4 T rfl)) (c_3 (g_4 e2 rfl)) (i := 0) rfl (hL.sk 6 rfl) (l_2 _) (by simp only [maxLen]; omega) (by omega)) fun v_ w_ h_ => ⟨_, And.intro trivial rfl, h_.h_1 (i := 0) rfl (n' := l.length) (xs' := (pairs l)) (by simp only [Nat.zero_add]) (List.nil_append _)⟩)
  trivial
 skip
 intro Gj Lu A rsf30 Gt AN hrq EA; clear Gs G0
 have hrq_1 := hrq (3, 1) (by decide)
 obtain ⟨g, A7⟩ := AN 3 (by decide) (by decide)
 obtain ⟨A6, f⟩ := A7
 obtain ⟨EE, LG⟩ := AN 4 (by decide) (by decide)
 obtain ⟨b4_, HC, HA⟩ := LG
 have DX : Sep NoB w Lu [(row (A 3) 67 2 l.length (pairs l)), (blk b4_ 25 [(iv 0), (Value.slice none 0 0), (Value.slice none 0 0)]), (blk E 46 [(iv tb.frm), (iv tb.dst), vq, vg, (iv tb.err)]), (blk I 63 [(iv ka), (iv kb), (iv kc)]), (blk S 67 [(iv ra), (iv rb)]), (blk F 25 [(iv b.scales), vt, vm]), (d_9 false vt lr lb b.tabs), (e_1 false vm lk b.macs), (sl xl 2 l.length (pairs l)), (sl vq 2 tb.rows.length (pairs tb.rows)), (sl vg 1 tb.brk.length (ints tb.brk))] := by rw [show catR rsf30 0 5 = ([(row (A 3) 67 2 l.length (pairs l)), (blk b4_ 25 [(iv 0), (Value.slice none 0 0), (Value.slice none 0 0)])] : List Res) by (try simp only [catR, gr (AN 0 (by decide) (by decide)), gr (AN 2 (by decide) (by decide)), f, HA, hrq_1]); (try rfl)] at EA; exact EA
 have Gu := Gt.add (gs (AN 0 (by decide) (by decide))); clear Gt
 have Gv : Fr 129 [] [(23, (A 3)), (20, (Value.agg #[(iv b.scales), vt, vm])), (11, (bptr E 0)), (10, (bptr I 0)), (9, (bptr S 0)), (6, (bptr F 0)), (1, xl), (2, (Value.int .u8 wa))] Gj := Gu.add (g_4 g rfl); clear Gu
 rw [HC] at EE
 have Bh : Fr 129 [] [(13, (bptr b4_ 0)), (23, (A 3)), (20, (Value.agg #[(iv b.scales), vt, vm])), (11, (bptr E 0)), (10, (bptr I 0)), (9, (bptr S 0)), (6, (bptr F 0)), (1, xl), (2, (Value.int .u8 wa))] Gj := Gv.add (g_4 EE rfl); clear Gv
 clear AN EA g EE hrq hrq_1
 clear f
 clear A6
 clear HA
 clear HC
 refine s7 Bh (b_9 DX rfl y_9 Bh.e Bh.e (i := 1) rfl (vs := [(iv b.scales), vt, vm]) rfl rfl (h_6 rfl (h_6 (SlAt.one (b_5 (DX.ok 6 _ rfl)).tabs) (h_6 (SlAt.one (b_8 (DX.ok 7 _ rfl)).macs) s_6))) (Nat.le_of_ble_eq_true rfl)) ?_
 intro _ Lv G1 Dt; clear Bh
 have M : Sep NoB w Lv [(row (A 3) 67 2 l.length (pairs l)), (blk b4_ 25 [(iv b.scales), vt, vm]), (blk E 46 [(iv tb.frm), (iv tb.dst), vq, vg, (iv tb.err)]), (blk I 63 [(iv ka), (iv kb), (iv kc)]), (blk S 67 [(iv ra), (iv rb)]), (blk F 25 [(iv b.scales), vt, vm]), (d_9 false vt lr lb b.tabs), (e_1 false vm lk b.macs), (sl xl 2 l.length (pairs l)), (sl vq 2 tb.rows.length (pairs tb.rows)), (sl vg 1 tb.brk.length (ints tb.brk))] := G1; clear G1 DX
 refine s1 Dt (a_0 rfl Dt.e) fun Hi Gw => ?_; clear Dt Gj
 refine n1 ?_
 have By := Gw.as [(14, (A 3)), (13, (bptr b4_ 0)), (11, (bptr E 0)), (10, (bptr I 0)), (9, (bptr S 0)), (6, (bptr F 0)), (1, xl), (2, (Value.int .u8 wa))] rfl; clear Gw
 refine c_seqI (fun a_ w_ => ∃ vtx : Value, ∃ lrx : Nat → Value, ∃ lbx : Nat → Value, ∃ tsx : List TabD, ∃ vmx : Value, ∃ lkx : Nat → Value, ∃ msx : List MacD, ∃ vox : Value, ∃ ox : List (Int × Int), Fr 129 [] [(14, vox), (13, (bptr b4_ 0)), (6, (bptr F 0)), (1, xl)] a_ ∧ Sep NoB w w_ [(d_9 false vt lr lb b.tabs), (e_1 false vm lk b.macs), (sl xl 2 l.length (pairs l)), (blk F 25 [(iv b.scales), vt, vm]), (blk b4_ 25 [(iv b.scales), vtx, vmx]), (d_9 false vtx lrx lbx tsx), (e_1 false vmx lkx msx), (row vox 67 2 ox.length (pairs ox))] ∧ (MoreI b l ox tsx msx)) ?_ ?_
 ·skip
  refine c_6 (m2 (s1 By (a_1 rfl By.e) fun LR Du => ?_)); clear By Hi
  refine s1 Du (op_rem rfl Du.e (evc _ _) (by omega)) fun LS Dv => ?_; clear Du LR
  refine s1 Dv (o_0 rfl Dv.e (evc _ _)) fun LT Dw => ?_; clear Dv LS
  refine s1 Dw (a_0 rfl Dw.e) fun Hj Y => ?_; clear Dw LT
  refine n1 ?_
  by_cases G6 : ((wa).tmod 3) = 0
  ·skip
   rw [decide_eq_true G6] at Y
   refine c_1 Y rfl ?_
   have Dx := Y.as [(14, (A 3)), (13, (bptr b4_ 0)), (9, (bptr S 0)), (6, (bptr F 0)), (1, xl)] rfl; clear Y
   refine a_5 (s1 Dx (a_1 rfl Dx.e) fun LU Dy => ?_); clear Dx Hj
   refine s1 Dy (c_0 rfl ty_67 (Dy.ev rfl) (M.bk 4 rfl) (l := [(iv ra), (iv rb)]) rfl rfl) fun LV Dz => ?_; clear Dy LU
   refine s2 Dz (g_2 M rfl (pv1 Dz.e) z_1 ty_67 ze_67 (by decide) (cs := [(iv ra), (iv rb)]) (bs_67_1_0iia _ _)) ?_
   rintro LW _ NI ⟨Hl, rfl, EB⟩ CW; clear Dz M LV
   refine s2 CW (i_8 EB rfl z_1 el_67 CW.e CW.e (i := 1) rfl (SlAt.of_blk (EB.bk 0 rfl) rfl (Nat.le_of_ble_eq_true rfl)) rfl (by simp only [maxLen]; omega) (by omega)) ?_
   intro LX HF Hr G2 D0
   have EC := G2.h_1 (i := 1) rfl (n' := (l ++ [(ra, rb)]).length) (xs' := (pairs (l ++ [(ra, rb)]))) (by simp) (by simp [pairs]); clear G2 CW EB LW
   refine s1 D0 (a_0 rfl D0.e) fun M6 LA => ?_; clear D0 LX
   refine e_9 (h_0 ((b_1 ?_)))
   have G3 : Sep NoB w Hr [(d_9 false vt lr lb b.tabs), (blk Hl 67 [(iv ra), (iv rb)]), (row HF 67 2 ((l ++ [(ra, rb)]).length) (pairs (l ++ [(ra, rb)]))), (blk b4_ 25 [(iv b.scales), vt, vm]), (blk E 46 [(iv tb.frm), (iv tb.dst), vq, vg, (iv tb.err)]), (blk I 63 [(iv ka), (iv kb), (iv kc)]), (blk S 67 [(iv ra), (iv rb)]), (blk F 25 [(iv b.scales), vt, vm]), (d_9 false vt lr lb b.tabs), (e_1 false vm lk b.macs), (sl xl 2 l.length (pairs l)), (sl vq 2 tb.rows.length (pairs tb.rows)), (sl vg 1 tb.brk.length (ints tb.brk))] := t_6 EC rfl (EC.ok 7 _ rfl) (fun b hb => ⟨7, _, rfl, rfl, hb⟩); clear EC
   have ED := G3.gkp (gpc 1 (gpc 2 (gpc 3 (gpc 4 (gpc 5 (gpc 6 (gpc 7 (gpc 8 (gpc 9 (gpc 10 (gpc 11 (gpc 12 (gpc 0 gpn))))))))))))); clear G3
   have G4 : Sep NoB w Hr [(e_1 false vm lk b.macs), (blk Hl 67 [(iv ra), (iv rb)]), (row HF 67 2 ((l ++ [(ra, rb)]).length) (pairs (l ++ [(ra, rb)]))), (blk b4_ 25 [(iv b.scales), vt, vm]), (blk E 46 [(iv tb.frm), (iv tb.dst), vq, vg, (iv tb.err)]), (blk I 63 [(iv ka), (iv kb), (iv kc)]), (blk S 67 [(iv ra), (iv rb)]), (blk F 25 [(iv b.scales), vt, vm]), (d_9 false vt lr lb b.tabs), (e_1 false vm lk b.macs), (sl xl 2 l.length (pairs l)), (sl vq 2 tb.rows.length (pairs tb.rows)), (sl vg 1 tb.brk.length (ints tb.brk)), (d_9 false vt lr lb b.tabs)] := t_6 ED rfl (ED.ok 8 _ rfl) (fun b hb => ⟨8, _, rfl, rfl, hb⟩); clear ED
   have G5 := G4.gkp (gpc 1 (gpc 2 (gpc 3 (gpc 4 (gpc 5 (gpc 6 (gpc 7 (gpc 8 (gpc 9 (gpc 10 (gpc 11 (gpc 12 (gpc 13 (gpc 0 gpn)))))))))))))); clear G4
   have LB := G5.gkp (gpc 7 (gpc 8 (gpc 9 (gpc 6 (gpc 2 (gpc 12 (gpc 13 (gpc 1 gpn)))))))); clear G5
   exact ⟨vt, lr, lb, b.tabs, vm, lk, b.macs, HF, (l ++ [(ra, rb)]), LA.as _ rfl, LB, (.inl ⟨rfl, rfl, _, rfl⟩)⟩
  skip
  rw [decide_eq_false G6] at Y
  refine b_7 Y rfl (m2 (s1 Y (a_1 rfl Y.e) fun LY D1 => ?_)); clear Y Hj
  refine s1 D1 (op_rem rfl D1.e (evc _ _) (by omega)) fun LZ D2 => ?_; clear D1 LY
  refine s1 D2 (o_0 rfl D2.e (evc _ _)) fun La D3 => ?_; clear D2 LZ
  refine s1 D3 (a_1 rfl D3.e) fun Hk AC => ?_; clear D3 La
  by_cases G7 : ((wa).tmod 3) = 1
  ·skip
   rw [decide_eq_true G7] at AC
   refine s5 AC (a_3 rfl l_9 AC.e) fun Lb D4 => ?_; clear AC Hk
   refine s5 D4 (a_4 rfl x_3 D4.e (M.bk 5 rfl) rfl) fun Lc D5 => ?_; clear D4 Lb
   refine s5 D5 (d_4 rfl x_5 D5.e (b_8 (M.ok 7 _ rfl)).macs) fun Ld D6 => ?_; clear D5 Lc
   refine s5 D6 (j_6 rfl D6.e (evc _ _)) fun Le DM => ?_; clear D6 Ld
   refine s1 DM (b_2 rfl DM.e DM.e) fun Lf D7 => ?_; clear DM Le
   refine s1 D7 (a_0 rfl D7.e) fun Lg d => ?_; clear D7 Lf
   refine n1 ?_
   by_cases G8 : 0 < (b.macs.length : Int)
   ·skip
    rw [decide_eq_true G8] at d
    refine c_1 d rfl (b_6 ?_)
    have D8 := d.as [(14, (A 3)), (13, (bptr b4_ 0)), (10, (bptr I 0)), (6, (bptr F 0)), (1, xl), (2, (Value.int .u8 wa))] rfl; clear d
    obtain ⟨mm, hz_mm, hb_mm⟩ := rem_nat (n := wa.tdiv 3) (m := b.macs.length) (Int.tdiv_nonneg hA_.1 (by decide)) (by omega); have M8 := Lt mm; have hdq := Int.tdiv_eq_ediv_of_nonneg (b := 3) hA_.1
    refine a_5 (s1 D8 (a_1 rfl D8.e) fun Lh D9 => ?_); clear D8 Lg
    refine s1 D9 (op_conv un_5 un_3 rfl D9.e (v := wa) (wrap_i64 (by omega) (by omega))) fun Li A8 => ?_; clear D9 Lh
    refine s1 A8 (op_quo rfl A8.e (evc _ _) (by omega) (by omega) (by omega)) fun Hs A9 => ?_; clear A8 Li
    refine s1 A9 (a_3 rfl l_9 A9.e) fun Ht BA => ?_; clear A9 Hs
    refine s1 BA (a_4 rfl x_3 BA.e (M.bk 5 rfl) rfl) fun Hu BB => ?_; clear BA Ht
    refine s1 BB (d_4 rfl x_5 BB.e (b_8 (M.ok 7 _ rfl)).macs) fun Hv AP => ?_; clear BB Hu
    refine st AP (opY_int (op_rem rfl AP.e AP.e (by omega)) hz_mm) rfl rfl (by decide) fun Hw BC => ?_; clear AP Hv
    refine s1 BC (a_0 rfl BC.e) fun Hx EJ => ?_; clear BC Hw
    refine n2 ?_
    have EK := EJ.as [(15, (iv (mm : Int))), (14, (A 3)), (13, (bptr b4_ 0)), (10, (bptr I 0)), (6, (bptr F 0)), (1, xl)] rfl; clear EJ
    refine a_5 (s2 EK (g_2 M rfl pv0 x_5 z_7 ze_61 (by decide) (cs := []) bs_61_0_) ?_)
    rintro Hy _ MO ⟨MD, rfl, DN⟩ BD; clear EK M Hx
    refine s1 BD (a_3 rfl l_9 BD.e) fun Hz BE => ?_; clear BD Hy
    refine s1 BE (a_4 rfl x_3 BE.e (DN.bk 6 rfl) rfl) fun H0 AQ => ?_; clear BE Hz
    have Aw := DN.o_3 (i := 0) (sz := 2) (n := 0) rfl rfl (by decide); clear DN
    refine s2 AQ (i_8 Aw rfl x_5 el_61 AQ.e AQ.e (i := 0) rfl (b_8 (Aw.ok 8 _ rfl)).macs (macs_one (b_8 (Aw.ok 8 _ rfl))) (by simp only [maxLen]; omega) (by omega)) ?_
    intro H1 K MP F6 BF
    have Ax := F6.h_1 (i := 0) rfl (n' := b.macs.length) (xs' := (l_1 lk b.macs)) (by simp only [Nat.zero_add]) (List.nil_append _); clear F6 AQ Aw H0
    refine s1 BF (a_3 rfl l_9 BF.e) fun Lx AR => ?_; clear BF H1
    refine s7 AR (b_9 Ax rfl x_3 AR.e AR.e (i := 2) rfl (vs := [K]) (n_9 (SlAt.isSl (SlAt.e_5 (Ax.f_2 0 rfl)))) rfl (h_6 (SlAt.one (SlAt.e_5 (Ax.f_2 0 rfl))) s_6) (Nat.le_of_ble_eq_true rfl)) ?_
    intro _ LI F7 EL; clear AR
    have F8 : Sep NoB w LI [(row K 61 2 b.macs.length (l_1 lk b.macs)), (row (A 3) 67 2 l.length (pairs l)), (blk b4_ 25 [(iv b.scales), vt, K]), (blk E 46 [(iv tb.frm), (iv tb.dst), vq, vg, (iv tb.err)]), (blk I 63 [(iv ka), (iv kb), (iv kc)]), (blk S 67 [(iv ra), (iv rb)]), (blk F 25 [(iv b.scales), vt, vm]), (d_9 false vt lr lb b.tabs), (e_1 false vm lk b.macs), (sl xl 2 l.length (pairs l)), (sl vq 2 tb.rows.length (pairs tb.rows)), (sl vg 1 tb.brk.length (ints tb.brk))] := F7; clear F7 Ax
    refine n1 ?_
    have EM := EL.as [(15, (iv (mm : Int))), (14, (A 3)), (13, (bptr b4_ 0)), (10, (bptr I 0)), (6, (bptr F 0)), (1, xl)] rfl; clear EL
    refine c_drawCC mixed EM F8 14 [(10, 3), (13, 10)] [[], [0], [], [], [], [4], [], [5, 6], [7], [8], [3, 9], [], [11], [10, 12]] [(yw (bptr b4_ 2)), (yw K), (yw (iv (mm : Int))), (fun (B : Nat → Value) (v_ : Value) (rs_ : List Res) => ∃ (b3_ : Nat), v_ = (Value.slice (some ⟨b3_, 0, none⟩) 0 0) ∧ rs_ = [(blk b3_ 63 [])]), (yw (bptr b4_ 2)), (yw K), (yw (iv (mm : Int))), (yw (eptr K (mm * 2))), (yw (eptr K (mm * 2 + 1))), (yw (lk mm)), (fun (B : Nat → Value) (v_ : Value) (rs_ : List Res) => True ∧ rs_ = [(row v_ 63 3 ((b.macs.getD mm mac0).blocks.length) (trips ((b.macs.getD mm mac0).blocks)))]), (yw (Value.agg #[(iv ka), (iv kb), (iv kc)])), (fun (B : Nat → Value) (v_ : Value) (rs_ : List Res) => True ∧ rs_ = [(row v_ 63 3 1 [(iv ka), (iv kb), (iv kc)])]), (fun (B : Nat → Value) (v_ : Value) (rs_ : List Res) => True ∧ rs_ = [(row v_ 63 3 (((b.macs.getD mm mac0).blocks ++ [(ka, kb, kc)]).length) (trips ((b.macs.getD mm mac0).blocks ++ [(ka, kb, kc)])))])] (by decide +kernel) (by decide +kernel) (by decide +kernel) (by decide +kernel) rfl rfl ⟨dw, dw, dw, (fun _ _ _ _ _ h_ => h_), dw, dw, dw, dw, dw, dw, (fun _ _ _ _ _ h_ => h_), dw, (fun _ _ _ _ _ h_ => h_), (fun _ _ _ _ _ h_ => h_), trivial⟩ (by decide +kernel) ?_ ?_ ?_
    ·skip
     refine ⟨fun hj_ a w B hA hS hd => gv1 (a_3 rfl l_9 hA.e), ?_⟩
     refine ⟨fun hj_ a w B hA hS hd => gv1 (a_4 rfl x_3 (gu hd 0) (hS.bk 2 rfl) rfl), ?_⟩
     refine ⟨fun hj_ a w B hA hS hd => gv1 (a_1 rfl hA.e), ?_⟩
     refine ⟨fun hj_ a w B hA hS hd => d_2 rfl (vblz rfl pv0 aa_5 ty_63 ze_63 bs_63_0_ (fun b_ => ⟨b_, rfl, rfl⟩)), ?_⟩
     refine ⟨fun hj_ a w B hA hS hd => gv1 (a_3 rfl l_9 hA.e), ?_⟩
     refine ⟨fun hj_ a w B hA hS hd => gv1 (a_4 rfl x_3 (gu hd 4) (hS.bk 2 rfl) rfl), ?_⟩
     refine ⟨fun hj_ a w B hA hS hd => gv1 (a_1 rfl hA.e), ?_⟩
     refine ⟨fun hj_ a w B hA hS hd => gv1 (b_3 rfl x_5 z_7 (gu hd 5) (i := mm) (gu hd 6) (SlAt.e_5 (hS.f_2 0 rfl)) (by decide) (by first | omega | (simp only [List.length_set]; omega))), ?_⟩
     refine ⟨fun hj_ a w B hA hS hd => gv1 (c_9 rfl r_0 (gu hd 7) (SlAt.e_5 (hS.f_2 0 rfl)) (by rw [((SlAt.e_5 (hS.f_2 0 rfl))).1]; first | omega | (simp only [List.length_set]; omega))), ?_⟩
     refine ⟨fun hj_ a w B hA hS hd => gv1 (c_5 rfl ab_0 (gu hd 8) (SlAt.e_5 (hS.f_2 0 rfl)) (macs_at1 (by first | omega | (simp only [List.length_set]; omega)))), ?_⟩
     refine ⟨fun hj_ => absurd hj_ (by decide), ?_⟩
     refine ⟨fun hj_ a w B hA hS hd => gv1 (c_0 rfl ty_63 (hA.ev rfl) (hS.bk 4 rfl) (l := [(iv ka), (iv kb), (iv kc)]) rfl rfl), ?_⟩
     refine ⟨fun hj_ a w B hA hS hd => d_2 rfl (vblt rfl (pv1 (gu hd 11)) aa_5 ty_63 ze_63 (by decide) (cs := [(iv ka), (iv kb), (iv kc)]) (bs_63_1_0iiia _ _ _) rfl (by decide) (fun _ => And.intro trivial rfl)), ?_⟩
     refine ⟨fun hj_ => absurd hj_ (by decide), ?_⟩
     trivial
    ·skip
     refine ⟨fun o_ ho_ => ?_, ?_⟩
     ·skip
      obtain rfl := Option.some.inj ho_; clear ho_
      intro a w B Gg Lr hA T AM hd hL hS
      obtain ⟨b3_, Lp, Lm⟩ := AM; subst Lm
      rw [Lp] at T
      replace hS := hS.o_3 (i := 0) (sz := 3) (n := 0) rfl rfl (by decide)
      obtain ⟨e9, NF, Ls, NA⟩ := hd 9 (by decide) (by decide)
      obtain ⟨Lq, Ln⟩ := Ls; subst Ln
      rw [Lq] at e9
      exact d_2 rfl (m_3 (i_8 hS rfl aa_5 el_63 (c_3 (g_4 T rfl)) (c_3 (g_4 e9 rfl)) (i := 0) rfl ((b_8 (hL.ok 8 _ rfl)).blk (i := mm) (by omega)) (trips_one _) (by simp only [maxLen]; omega) (by omega)) fun v_ w_ h_ => ⟨_, And.intro trivial rfl, h_.h_1 (i := 0) rfl (n' := (b.macs.getD mm mac0).blocks.length) (xs' := (trips ((b.macs.getD mm mac0).blocks))) (by simp only [Nat.zero_add]) (List.nil_append _)⟩)
     refine ⟨fun o_ ho_ => ?_, ?_⟩
     ·skip
      obtain rfl := Option.some.inj ho_; clear ho_
      intro a w B Gg Lr hA T AM hd hL hS
      obtain ⟨MF, LD⟩ := AM; subst LD
      obtain ⟨Lj, MI, LF, LC⟩ := hd 12 (by decide) (by decide)
      obtain ⟨MG, LE⟩ := LF; subst LE
      have hp12_0 := LC _ (List.mem_of_getElem? (i := 0) rfl)
      exact d_2 rfl (m_3 (i_8 hS rfl aa_5 el_63 (c_3 (g_4 T rfl)) (c_3 (g_4 Lj rfl)) (i := 0) rfl (SlAt.e_5 hp12_0) rfl (by simp only [maxLen]; omega) (by omega)) fun v_ w_ h_ => ⟨_, And.intro trivial rfl, h_.h_1 (i := 0) rfl (n' := ((b.macs.getD mm mac0).blocks ++ [(ka, kb, kc)]).length) (xs' := (trips ((b.macs.getD mm mac0).blocks ++ [(ka, kb, kc)]))) (by simp) (by simp [trips])⟩)
     trivial
    skip
    intro Gh LJ B rsf143 EN G hrq DO; clear EM F8
    have hrq_3 := hrq (10, 3) (by decide)
    have hrq_10 := hrq (13, 10) (by decide)
    obtain ⟨Hd, Hg⟩ := G 12 (by decide) (by decide)
    obtain ⟨He, Gd⟩ := Hg
    obtain ⟨Gf, Hh⟩ := G 13 (by decide) (by decide)
    obtain ⟨Hf, Ge⟩ := Hh
    have Z : Sep NoB w LJ [(row (B 12) 63 3 1 [(iv ka), (iv kb), (iv kc)]), (row (B 13) 63 3 (((b.macs.getD mm mac0).blocks ++ [(ka, kb, kc)]).length) (trips ((b.macs.getD mm mac0).blocks ++ [(ka, kb, kc)]))), (row K 61 2 b.macs.length (l_1 lk b.macs)), (row (A 3) 67 2 l.length (pairs l)), (blk b4_ 25 [(iv b.scales), vt, K]), (blk E 46 [(iv tb.frm), (iv tb.dst), vq, vg, (iv tb.err)]), (blk I 63 [(iv ka), (iv kb), (iv kc)]), (blk S 67 [(iv ra), (iv rb)]), (blk F 25 [(iv b.scales), vt, vm]), (d_9 false vt lr lb b.tabs), (e_1 false vm lk b.macs), (sl xl 2 l.length (pairs l)), (sl vq 2 tb.rows.length (pairs tb.rows)), (sl vg 1 tb.brk.length (ints tb.brk))] := by rw [show catR rsf143 0 14 = ([(row (B 12) 63 3 1 [(iv ka), (iv kb), (iv kc)]), (row (B 13) 63 3 (((b.macs.getD mm mac0).blocks ++ [(ka, kb, kc)]).length) (trips ((b.macs.getD mm mac0).blocks ++ [(ka, kb, kc)])))] : List Res) by (try simp only [catR, gr (G 0 (by decide) (by decide)), gr (G 1 (by decide) (by decide)), gr (G 2 (by decide) (by decide)), gr (G 4 (by decide) (by decide)), gr (G 5 (by decide) (by decide)), gr (G 6 (by decide) (by decide)), gr (G 7 (by decide) (by decide)), gr (G 8 (by decide) (by decide)), gr (G 9 (by decide) (by decide)), gr (G 11 (by decide) (by decide)), Gd, Ge, hrq_3, hrq_10]); (try rfl)] at DO; exact DO
    have EO := EN.add (gs (G 1 (by decide) (by decide))); clear EN
    have EP := EO.add (gs (G 2 (by decide) (by decide))); clear EO
    have AS : Fr 129 [] [(75, (B 13)), (64, (iv (mm : Int))), (63, K), (15, (iv (mm : Int))), (14, (A 3)), (13, (bptr b4_ 0)), (10, (bptr I 0)), (6, (bptr F 0)), (1, xl)] Gh := EP.add (g_4 Gf rfl); clear EP
    clear G DO Hd Gf hrq hrq_3 hrq_10
    clear Gd
    clear He
    clear Ge
    clear Hf
    refine s1 AS (b_3 rfl x_5 z_7 AS.e (i := mm) AS.e (SlAt.e_5 (Z.f_2 2 rfl)) (by decide) (by first | omega | (simp only [List.length_set]; omega))) fun H2 BG => ?_; clear AS Gh
    refine s1 BG (c_9 rfl r_0 BG.e (SlAt.e_5 (Z.f_2 2 rfl)) (by rw [((SlAt.e_5 (Z.f_2 2 rfl))).1]; first | omega | (simp only [List.length_set]; omega))) fun Ly AT => ?_; clear BG H2
    refine s7 AT (op_storeE Z rfl ab_0 AT.e AT.e (i := 2) rfl (vs := [(B 13)]) (n_9 (SlAt.isSl (SlAt.e_5 (Z.f_2 1 rfl)))) rfl (h_6 (SlAt.one (SlAt.e_5 (Z.f_2 1 rfl))) s_6) (by first | (rw [macs_len]; omega) | (rw [tabs_len]; omega) | (rw [trips_length]; omega)) (by decide)) ?_
    intro _ HG F9 HH; have GA := F9.h_1 (i := 2) rfl (n' := (b.macs.set mm ⟨(b.macs.getD mm mac0).scale, ((b.macs.getD mm mac0).blocks ++ [(ka, kb, kc)])⟩).length) (xs' := (l_1 (putV mm lk (B 13)) (b.macs.set mm ⟨(b.macs.getD mm mac0).scale, ((b.macs.getD mm mac0).blocks ++ [(ka, kb, kc)])⟩))) (by rw [List.length_set]) (macs_setB (by omega)); clear F9 AT Z
    refine e_9 (h_0 ((b_1 ?_)))
    have GB := sep_row_sl GA (i := 1) rfl; clear GA
    have DP := GB.gkp (gpc 2 (gpc 0 (gpc 1 (gpc 3 (gpc 4 (gpc 5 (gpc 6 (gpc 7 (gpc 8 (gpc 9 (gpc 10 (gpc 11 (gpc 12 (gpc 13 gpn)))))))))))))); clear GB
    have HK := setB_ro (m := ⟨(b.macs.getD mm mac0).scale, ((b.macs.getD mm mac0).blocks ++ [(ka, kb, kc)])⟩) DP.tail (i := 9) (j := 1) rfl rfl hb_mm
    have DQ : Sep NoB w HG [(e_1 false K (putV mm lk (B 13)) (b.macs.set mm ⟨(b.macs.getD mm mac0).scale, ((b.macs.getD mm mac0).blocks ++ [(ka, kb, kc)])⟩)), (row (B 12) 63 3 1 [(iv ka), (iv kb), (iv kc)]), (sl (B 13) 3 (((b.macs.getD mm mac0).blocks ++ [(ka, kb, kc)]).length) (trips ((b.macs.getD mm mac0).blocks ++ [(ka, kb, kc)]))), (row (A 3) 67 2 l.length (pairs l)), (blk b4_ 25 [(iv b.scales), vt, K]), (blk E 46 [(iv tb.frm), (iv tb.dst), vq, vg, (iv tb.err)]), (blk I 63 [(iv ka), (iv kb), (iv kc)]), (blk S 67 [(iv ra), (iv rb)]), (blk F 25 [(iv b.scales), vt, vm]), (d_9 false vt lr lb b.tabs), (e_1 false vm lk b.macs), (sl xl 2 l.length (pairs l)), (sl vq 2 tb.rows.length (pairs tb.rows)), (sl vg 1 tb.brk.length (ints tb.brk))] := sep_macs_ro DP HK; clear DP
    have GC : Sep NoB w HG [(d_9 false vt lr lb b.tabs), (e_1 false K (putV mm lk (B 13)) (b.macs.set mm ⟨(b.macs.getD mm mac0).scale, ((b.macs.getD mm mac0).blocks ++ [(ka, kb, kc)])⟩)), (row (B 12) 63 3 1 [(iv ka), (iv kb), (iv kc)]), (sl (B 13) 3 (((b.macs.getD mm mac0).blocks ++ [(ka, kb, kc)]).length) (trips ((b.macs.getD mm mac0).blocks ++ [(ka, kb, kc)]))), (row (A 3) 67 2 l.length (pairs l)), (blk b4_ 25 [(iv b.scales), vt, K]), (blk E 46 [(iv tb.frm), (iv tb.dst), vq, vg, (iv tb.err)]), (blk I 63 [(iv ka), (iv kb), (iv kc)]), (blk S 67 [(iv ra), (iv rb)]), (blk F 25 [(iv b.scales), vt, vm]), (d_9 false vt lr lb b.tabs), (e_1 false vm lk b.macs), (sl xl 2 l.length (pairs l)), (sl vq 2 tb.rows.length (pairs tb.rows)), (sl vg 1 tb.brk.length (ints tb.brk))] := t_6 DQ rfl (DQ.ok 9 _ rfl) (fun b hb => ⟨9, _, rfl, rfl, hb⟩); clear DQ
    have GD := GC.gkp (gpc 1 (gpc 2 (gpc 3 (gpc 4 (gpc 5 (gpc 6 (gpc 7 (gpc 8 (gpc 9 (gpc 10 (gpc 11 (gpc 12 (gpc 13 (gpc 14 (gpc 0 gpn))))))))))))))); clear GC
    have HL := GD.gkp (gpc 9 (gpc 10 (gpc 11 (gpc 8 (gpc 4 (gpc 14 (gpc 0 (gpc 3 gpn)))))))); clear GD
    exact ⟨vt, lr, lb, b.tabs, K, (putV mm lk (B 13)), (b.macs.set mm ⟨(b.macs.getD mm mac0).scale, ((b.macs.getD mm mac0).blocks ++ [(ka, kb, kc)])⟩), (A 3), l, HH.as _ rfl, HL, (.inr (.inl ⟨rfl, rfl, mm, _, hb_mm, rfl⟩))⟩
   skip
   rw [decide_eq_false G8] at d
   refine b_7 d rfl ?_
   have EQ := d.as [(14, (A 3)), (13, (bptr b4_ 0)), (11, (bptr E 0)), (6, (bptr F 0)), (1, xl)] rfl; clear d
   have ER := EQ.as [(14, (A 3)), (13, (bptr b4_ 0)), (11, (bptr E 0)), (6, (bptr F 0)), (1, xl)] rfl; clear EQ
   refine c_drawCC mixed ER M 6 [(3, 0)] [[], [], [1], [0, 2], [], [4]] [(fun (C : Nat → Value) (v_ : Value) (rs_ : List Res) => ∃ (b0_ : Nat), v_ = (Value.slice (some ⟨b0_, 0, none⟩) 0 0) ∧ rs_ = [(blk b0_ 46 [])]), (yw (bptr F 1)), (yw vt), (fun (C : Nat → Value) (v_ : Value) (rs_ : List Res) => True ∧ rs_ = [(row v_ 46 5 b.tabs.length (j_5 lr lb b.tabs))]), (yw (Value.agg #[(iv tb.frm), (iv tb.dst), vq, vg, (iv tb.err)])), (fun (C : Nat → Value) (v_ : Value) (rs_ : List Res) => True ∧ rs_ = [(row v_ 46 5 1 [(iv tb.frm), (iv tb.dst), vq, vg, (iv tb.err)])])] (by decide +kernel) (by decide +kernel) (by decide +kernel) (by decide +kernel) rfl rfl ⟨(fun _ _ _ _ _ h_ => h_), dw, dw, (fun _ _ _ _ _ h_ => h_), dw, (fun _ _ _ _ _ h_ => h_), trivial⟩ (by decide +kernel) ?_ ?_ ?_
   ·skip
    refine ⟨fun hj_ a w C hA hS hd => d_2 rfl (vblz rfl pv0 x_4 aa_3 ze_46 bs_46_0_ (fun b_ => ⟨b_, rfl, rfl⟩)), ?_⟩
    refine ⟨fun hj_ a w C hA hS hd => gv1 (a_3 rfl n_5 hA.e), ?_⟩
    refine ⟨fun hj_ a w C hA hS hd => gv1 (a_4 rfl z_6 (gu hd 1) (hS.bk 5 rfl) rfl), ?_⟩
    refine ⟨fun hj_ => absurd hj_ (by decide), ?_⟩
    refine ⟨fun hj_ a w C hA hS hd => gv1 (c_0 rfl aa_3 (hA.ev rfl) (hS.bk 2 rfl) (l := [(iv tb.frm), (iv tb.dst), vq, vg, (iv tb.err)]) rfl rfl), ?_⟩
    refine ⟨fun hj_ a w C hA hS hd => d_2 rfl (vblt rfl (pv1 (gu hd 4)) x_4 aa_3 ze_46 (by decide) (cs := [(iv tb.frm), (iv tb.dst), vq, vg, (iv tb.err)]) (bs_46_1_0iivvia _ _ _ _ _) rfl (by decide) (fun _ => And.intro trivial rfl)), ?_⟩
    trivial
   ·skip
    refine ⟨fun o_ ho_ => ?_, ?_⟩
    ·skip
     obtain rfl := Option.some.inj ho_; clear ho_
     intro a w C Gg Lr hA T AM hd hL hS
     obtain ⟨b0_, HB, G9⟩ := AM; subst G9
     rw [HB] at T
     replace hS := hS.o_3 (i := 0) (sz := 5) (n := 0) rfl rfl (by decide)
     obtain ⟨e2, Hq, Dn, Hp⟩ := hd 2 (by decide) (by decide)
     obtain ⟨Dm, N⟩ := Dn; subst N
     rw [Dm] at e2
     exact d_2 rfl (m_3 (i_8 hS rfl x_4 el_46 (c_3 (g_4 T rfl)) (c_3 (g_4 e2 rfl)) (i := 0) rfl (b_5 (hL.ok 6 _ rfl)).tabs (tabs_one (b_5 (hL.ok 6 _ rfl))) (by simp only [maxLen]; omega) (by omega)) fun v_ w_ h_ => ⟨_, And.intro trivial rfl, h_.h_1 (i := 0) rfl (n' := b.tabs.length) (xs' := (j_5 lr lb b.tabs)) (by simp only [Nat.zero_add]) (List.nil_append _)⟩)
    trivial
   skip
   intro Do LK C rsf171 ES z hrq DR; clear ER M
   have hrq_0 := hrq (3, 0) (by decide)
   obtain ⟨g, A7⟩ := z 3 (by decide) (by decide)
   obtain ⟨A6, f⟩ := A7
   obtain ⟨A5, EG⟩ := z 5 (by decide) (by decide)
   obtain ⟨EF, A3⟩ := EG
   have AD : Sep NoB w LK [(row (C 3) 46 5 b.tabs.length (j_5 lr lb b.tabs)), (row (C 5) 46 5 1 [(iv tb.frm), (iv tb.dst), vq, vg, (iv tb.err)]), (row (A 3) 67 2 l.length (pairs l)), (blk b4_ 25 [(iv b.scales), vt, vm]), (blk E 46 [(iv tb.frm), (iv tb.dst), vq, vg, (iv tb.err)]), (blk I 63 [(iv ka), (iv kb), (iv kc)]), (blk S 67 [(iv ra), (iv rb)]), (blk F 25 [(iv b.scales), vt, vm]), (d_9 false vt lr lb b.tabs), (e_1 false vm lk b.macs), (sl xl 2 l.length (pairs l)), (sl vq 2 tb.rows.length (pairs tb.rows)), (sl vg 1 tb.brk.length (ints tb.brk))] := by rw [show catR rsf171 0 6 = ([(row (C 3) 46 5 b.tabs.length (j_5 lr lb b.tabs)), (row (C 5) 46 5 1 [(iv tb.frm), (iv tb.dst), vq, vg, (iv tb.err)])] : List Res) by (try simp only [catR, gr (z 1 (by decide) (by decide)), gr (z 2 (by decide) (by decide)), f, gr (z 4 (by decide) (by decide)), A3, hrq_0]); (try rfl)] at DR; exact DR
   have ET : Fr 129 [] [(27, (C 3)), (14, (A 3)), (13, (bptr b4_ 0)), (11, (bptr E 0)), (6, (bptr F 0)), (1, xl)] Do := ES.add (g_4 g rfl); clear ES
   have AU : Fr 129 [] [(29, (C 5)), (27, (C 3)), (14, (A 3)), (13, (bptr b4_ 0)), (11, (bptr E 0)), (6, (bptr F 0)), (1, xl)] Do := ET.add (g_4 A5 rfl); clear ET
   clear z DR g A5 hrq hrq_0
   clear f
   clear A6
   clear A3
   clear EF
   refine s2 AU (i_8 AD rfl x_4 el_46 AU.e AU.e (i := 0) rfl (SlAt.e_5 (AD.f_2 1 rfl)) (tabs_one1 (SlAt.one (AD.sk 11 rfl)) (SlAt.one (AD.sk 12 rfl))) (by simp only [maxLen]; omega) (by omega)) ?_
   intro H3 h MQ GE BH
   have Ay := GE.h_1 (i := 0) rfl (n' := (b.tabs ++ [tb]).length) (xs' := (j_5 (putV b.tabs.length lr vq) (putV b.tabs.length lb vg) (b.tabs ++ [tb]))) (by simp) (tabs_snoc tb vq vg); clear GE AU AD Do
   refine s1 BH (a_3 rfl n_5 BH.e) fun Lz AV => ?_; clear BH H3
   refine s7 AV (b_9 Ay rfl z_6 AV.e AV.e (i := 3) rfl (vs := [h]) (n_9 (SlAt.isSl (SlAt.e_5 (Ay.f_2 0 rfl)))) rfl (h_6 (SlAt.one (SlAt.e_5 (Ay.f_2 0 rfl))) s_6) (Nat.le_of_ble_eq_true rfl)) ?_
   intro _ EH GF HI; clear AV
   have DS : Sep NoB w EH [(row h 46 5 ((b.tabs ++ [tb]).length) (j_5 (putV b.tabs.length lr vq) (putV b.tabs.length lb vg) (b.tabs ++ [tb]))), (row (C 5) 46 5 1 [(iv tb.frm), (iv tb.dst), vq, vg, (iv tb.err)]), (row (A 3) 67 2 l.length (pairs l)), (blk b4_ 25 [(iv b.scales), h, vm]), (blk E 46 [(iv tb.frm), (iv tb.dst), vq, vg, (iv tb.err)]), (blk I 63 [(iv ka), (iv kb), (iv kc)]), (blk S 67 [(iv ra), (iv rb)]), (blk F 25 [(iv b.scales), vt, vm]), (d_9 false vt lr lb b.tabs), (e_1 false vm lk b.macs), (sl xl 2 l.length (pairs l)), (sl vq 2 tb.rows.length (pairs tb.rows)), (sl vg 1 tb.brk.length (ints tb.brk))] := GF; clear GF Ay
   refine e_9 (h_0 ((b_1 ?_)))
   have F4 := snoc_ro (tb := tb) DS.tail (i := 7) (j := 10) (k := 11) rfl rfl rfl
   have DT : Sep NoB w EH [(d_9 false h (putV b.tabs.length lr vq) (putV b.tabs.length lb vg) (b.tabs ++ [tb])), (row (C 5) 46 5 1 [(iv tb.frm), (iv tb.dst), vq, vg, (iv tb.err)]), (row (A 3) 67 2 l.length (pairs l)), (blk b4_ 25 [(iv b.scales), h, vm]), (blk E 46 [(iv tb.frm), (iv tb.dst), vq, vg, (iv tb.err)]), (blk I 63 [(iv ka), (iv kb), (iv kc)]), (blk S 67 [(iv ra), (iv rb)]), (blk F 25 [(iv b.scales), vt, vm]), (d_9 false vt lr lb b.tabs), (e_1 false vm lk b.macs), (sl xl 2 l.length (pairs l)), (sl vq 2 tb.rows.length (pairs tb.rows)), (sl vg 1 tb.brk.length (ints tb.brk))] := sep_tabs_ro DS F4.1 F4.2; clear DS
   have GG : Sep NoB w EH [(e_1 false vm lk b.macs), (d_9 false h (putV b.tabs.length lr vq) (putV b.tabs.length lb vg) (b.tabs ++ [tb])), (row (C 5) 46 5 1 [(iv tb.frm), (iv tb.dst), vq, vg, (iv tb.err)]), (row (A 3) 67 2 l.length (pairs l)), (blk b4_ 25 [(iv b.scales), h, vm]), (blk E 46 [(iv tb.frm), (iv tb.dst), vq, vg, (iv tb.err)]), (blk I 63 [(iv ka), (iv kb), (iv kc)]), (blk S 67 [(iv ra), (iv rb)]), (blk F 25 [(iv b.scales), vt, vm]), (d_9 false vt lr lb b.tabs), (e_1 false vm lk b.macs), (sl xl 2 l.length (pairs l)), (sl vq 2 tb.rows.length (pairs tb.rows)), (sl vg 1 tb.brk.length (ints tb.brk))] := t_6 DT rfl (DT.ok 9 _ rfl) (fun b hb => ⟨9, _, rfl, rfl, hb⟩); clear DT
   have GH := GG.gkp (gpc 1 (gpc 2 (gpc 3 (gpc 4 (gpc 5 (gpc 6 (gpc 7 (gpc 8 (gpc 9 (gpc 10 (gpc 11 (gpc 12 (gpc 13 (gpc 0 gpn)))))))))))))); clear GG
   have HM := GH.gkp (gpc 8 (gpc 9 (gpc 10 (gpc 7 (gpc 3 (gpc 0 (gpc 13 (gpc 2 gpn)))))))); clear GH
   exact ⟨h, (putV b.tabs.length lr vq), (putV b.tabs.length lb vg), (b.tabs ++ [tb]), vm, lk, b.macs, (A 3), l, HI.as _ rfl, HM, (.inr (.inr ⟨rfl, rfl, _, rfl⟩))⟩
  skip
  rw [decide_eq_false G7] at AC
  refine s3 AC fun H4 EU => ?_; clear AC Hk
  refine s3 EU fun H5 EV => ?_; clear EU H4
  refine s3 EV fun H6 EW => ?_; clear EV H5
  refine s3 EW fun H7 BI => ?_; clear EW H6
  refine s1 BI (c_7 rfl BI.e (evc _ _)) fun H8 BJ => ?_; clear BI H7
  refine s1 BJ (a_0 rfl BJ.e) fun L0 BK => ?_; clear BJ H8
  refine n1 (b_7 BK rfl ?_)
  have EX := BK.as [(14, (A 3)), (13, (bptr b4_ 0)), (11, (bptr E 0)), (6, (bptr F 0)), (1, xl)] rfl; clear BK
  have EY := EX.as [(14, (A 3)), (13, (bptr b4_ 0)), (11, (bptr E 0)), (6, (bptr F 0)), (1, xl)] rfl; clear EX
  refine c_drawCC mixed EY M 6 [(3, 0)] [[], [], [1], [0, 2], [], [4]] [(fun (D : Nat → Value) (v_ : Value) (rs_ : List Res) => ∃ (b0_ : Nat), v_ = (Value.slice (some ⟨b0_, 0, none⟩) 0 0) ∧ rs_ = [(blk b0_ 46 [])]), (yw (bptr F 1)), (yw vt), (fun (D : Nat → Value) (v_ : Value) (rs_ : List Res) => True ∧ rs_ = [(row v_ 46 5 b.tabs.length (j_5 lr lb b.tabs))]), (yw (Value.agg #[(iv tb.frm), (iv tb.dst), vq, vg, (iv tb.err)])), (fun (D : Nat → Value) (v_ : Value) (rs_ : List Res) => True ∧ rs_ = [(row v_ 46 5 1 [(iv tb.frm), (iv tb.dst), vq, vg, (iv tb.err)])])] (by decide +kernel) (by decide +kernel) (by decide +kernel) (by decide +kernel) rfl rfl ⟨(fun _ _ _ _ _ h_ => h_), dw, dw, (fun _ _ _ _ _ h_ => h_), dw, (fun _ _ _ _ _ h_ => h_), trivial⟩ (by decide +kernel) ?_ ?_ ?_
  ·skip
   refine ⟨fun hj_ a w D hA hS hd => d_2 rfl (vblz rfl pv0 x_4 aa_3 ze_46 bs_46_0_ (fun b_ => ⟨b_, rfl, rfl⟩)), ?_⟩
   refine ⟨fun hj_ a w D hA hS hd => gv1 (a_3 rfl n_5 hA.e), ?_⟩
   refine ⟨fun hj_ a w D hA hS hd => gv1 (a_4 rfl z_6 (gu hd 1) (hS.bk 5 rfl) rfl), ?_⟩
   refine ⟨fun hj_ => absurd hj_ (by decide), ?_⟩
   refine ⟨fun hj_ a w D hA hS hd => gv1 (c_0 rfl aa_3 (hA.ev rfl) (hS.bk 2 rfl) (l := [(iv tb.frm), (iv tb.dst), vq, vg, (iv tb.err)]) rfl rfl), ?_⟩
   refine ⟨fun hj_ a w D hA hS hd => d_2 rfl (vblt rfl (pv1 (gu hd 4)) x_4 aa_3 ze_46 (by decide) (cs := [(iv tb.frm), (iv tb.dst), vq, vg, (iv tb.err)]) (bs_46_1_0iivvia _ _ _ _ _) rfl (by decide) (fun _ => And.intro trivial rfl)), ?_⟩
   trivial
  ·skip
   refine ⟨fun o_ ho_ => ?_, ?_⟩
   ·skip
    obtain rfl := Option.some.inj ho_; clear ho_
    intro a w D Gg Lr hA T AM hd hL hS
    obtain ⟨b0_, HB, G9⟩ := AM; subst G9
    rw [HB] at T
    replace hS := hS.o_3 (i := 0) (sz := 5) (n := 0) rfl rfl (by decide)
    obtain ⟨e2, Hq, Dn, Hp⟩ := hd 2 (by decide) (by decide)
    obtain ⟨Dm, N⟩ := Dn; subst N
    rw [Dm] at e2
    exact d_2 rfl (m_3 (i_8 hS rfl x_4 el_46 (c_3 (g_4 T rfl)) (c_3 (g_4 e2 rfl)) (i := 0) rfl (b_5 (hL.ok 6 _ rfl)).tabs (tabs_one (b_5 (hL.ok 6 _ rfl))) (by simp only [maxLen]; omega) (by omega)) fun v_ w_ h_ => ⟨_, And.intro trivial rfl, h_.h_1 (i := 0) rfl (n' := b.tabs.length) (xs' := (j_5 lr lb b.tabs)) (by simp only [Nat.zero_add]) (List.nil_append _)⟩)
   trivial
  skip
  intro Dp LL D rsf212 EZ AA hrq DU; clear EY M
  have hrq_0 := hrq (3, 0) (by decide)
  obtain ⟨g, A7⟩ := AA 3 (by decide) (by decide)
  obtain ⟨A6, f⟩ := A7
  obtain ⟨A5, EG⟩ := AA 5 (by decide) (by decide)
  obtain ⟨EF, A3⟩ := EG
  have AE : Sep NoB w LL [(row (D 3) 46 5 b.tabs.length (j_5 lr lb b.tabs)), (row (D 5) 46 5 1 [(iv tb.frm), (iv tb.dst), vq, vg, (iv tb.err)]), (row (A 3) 67 2 l.length (pairs l)), (blk b4_ 25 [(iv b.scales), vt, vm]), (blk E 46 [(iv tb.frm), (iv tb.dst), vq, vg, (iv tb.err)]), (blk I 63 [(iv ka), (iv kb), (iv kc)]), (blk S 67 [(iv ra), (iv rb)]), (blk F 25 [(iv b.scales), vt, vm]), (d_9 false vt lr lb b.tabs), (e_1 false vm lk b.macs), (sl xl 2 l.length (pairs l)), (sl vq 2 tb.rows.length (pairs tb.rows)), (sl vg 1 tb.brk.length (ints tb.brk))] := by rw [show catR rsf212 0 6 = ([(row (D 3) 46 5 b.tabs.length (j_5 lr lb b.tabs)), (row (D 5) 46 5 1 [(iv tb.frm), (iv tb.dst), vq, vg, (iv tb.err)])] : List Res) by (try simp only [catR, gr (AA 1 (by decide) (by decide)), gr (AA 2 (by decide) (by decide)), f, gr (AA 4 (by decide) (by decide)), A3, hrq_0]); (try rfl)] at DU; exact DU
  have Ea : Fr 129 [] [(27, (D 3)), (14, (A 3)), (13, (bptr b4_ 0)), (11, (bptr E 0)), (6, (bptr F 0)), (1, xl)] Dp := EZ.add (g_4 g rfl); clear EZ
  have AW : Fr 129 [] [(29, (D 5)), (27, (D 3)), (14, (A 3)), (13, (bptr b4_ 0)), (11, (bptr E 0)), (6, (bptr F 0)), (1, xl)] Dp := Ea.add (g_4 A5 rfl); clear Ea
  clear AA DU g A5 hrq hrq_0
  clear f
  clear A6
  clear A3
  clear EF
  refine s2 AW (i_8 AE rfl x_4 el_46 AW.e AW.e (i := 0) rfl (SlAt.e_5 (AE.f_2 1 rfl)) (tabs_one1 (SlAt.one (AE.sk 11 rfl)) (SlAt.one (AE.sk 12 rfl))) (by simp only [maxLen]; omega) (by omega)) ?_
  intro H9 o MR GI BL
  have Az := GI.h_1 (i := 0) rfl (n' := (b.tabs ++ [tb]).length) (xs' := (j_5 (putV b.tabs.length lr vq) (putV b.tabs.length lb vg) (b.tabs ++ [tb]))) (by simp) (tabs_snoc tb vq vg); clear GI AW AE Dp
  refine s1 BL (a_3 rfl n_5 BL.e) fun L1 AX => ?_; clear BL H9
  refine s7 AX (b_9 Az rfl z_6 AX.e AX.e (i := 3) rfl (vs := [o]) (n_9 (SlAt.isSl (SlAt.e_5 (Az.f_2 0 rfl)))) rfl (h_6 (SlAt.one (SlAt.e_5 (Az.f_2 0 rfl))) s_6) (Nat.le_of_ble_eq_true rfl)) ?_
  intro _ EI GJ HJ; clear AX
  have DV : Sep NoB w EI [(row o 46 5 ((b.tabs ++ [tb]).length) (j_5 (putV b.tabs.length lr vq) (putV b.tabs.length lb vg) (b.tabs ++ [tb]))), (row (D 5) 46 5 1 [(iv tb.frm), (iv tb.dst), vq, vg, (iv tb.err)]), (row (A 3) 67 2 l.length (pairs l)), (blk b4_ 25 [(iv b.scales), o, vm]), (blk E 46 [(iv tb.frm), (iv tb.dst), vq, vg, (iv tb.err)]), (blk I 63 [(iv ka), (iv kb), (iv kc)]), (blk S 67 [(iv ra), (iv rb)]), (blk F 25 [(iv b.scales), vt, vm]), (d_9 false vt lr lb b.tabs), (e_1 false vm lk b.macs), (sl xl 2 l.length (pairs l)), (sl vq 2 tb.rows.length (pairs tb.rows)), (sl vg 1 tb.brk.length (ints tb.brk))] := GJ; clear GJ Az
  refine e_9 (h_0 ((b_1 ?_)))
  have F5 := snoc_ro (tb := tb) DV.tail (i := 7) (j := 10) (k := 11) rfl rfl rfl
  have DW : Sep NoB w EI [(d_9 false o (putV b.tabs.length lr vq) (putV b.tabs.length lb vg) (b.tabs ++ [tb])), (row (D 5) 46 5 1 [(iv tb.frm), (iv tb.dst), vq, vg, (iv tb.err)]), (row (A 3) 67 2 l.length (pairs l)), (blk b4_ 25 [(iv b.scales), o, vm]), (blk E 46 [(iv tb.frm), (iv tb.dst), vq, vg, (iv tb.err)]), (blk I 63 [(iv ka), (iv kb), (iv kc)]), (blk S 67 [(iv ra), (iv rb)]), (blk F 25 [(iv b.scales), vt, vm]), (d_9 false vt lr lb b.tabs), (e_1 false vm lk b.macs), (sl xl 2 l.length (pairs l)), (sl vq 2 tb.rows.length (pairs tb.rows)), (sl vg 1 tb.brk.length (ints tb.brk))] := sep_tabs_ro DV F5.1 F5.2; clear DV
  have GK : Sep NoB w EI [(e_1 false vm lk b.macs), (d_9 false o (putV b.tabs.length lr vq) (putV b.tabs.length lb vg) (b.tabs ++ [tb])), (row (D 5) 46 5 1 [(iv tb.frm), (iv tb.dst), vq, vg, (iv tb.err)]), (row (A 3) 67 2 l.length (pairs l)), (blk b4_ 25 [(iv b.scales), o, vm]), (blk E 46 [(iv tb.frm), (iv tb.dst), vq, vg, (iv tb.err)]), (blk I 63 [(iv ka), (iv kb), (iv kc)]), (blk S 67 [(iv ra), (iv rb)]), (blk F 25 [(iv b.scales), vt, vm]), (d_9 false vt lr lb b.tabs), (e_1 false vm lk b.macs), (sl xl 2 l.length (pairs l)), (sl vq 2 tb.rows.length (pairs tb.rows)), (sl vg 1 tb.brk.length (ints tb.brk))] := t_6 DW rfl (DW.ok 9 _ rfl) (fun b hb => ⟨9, _, rfl, rfl, hb⟩); clear DW
  have GL := GK.gkp (gpc 1 (gpc 2 (gpc 3 (gpc 4 (gpc 5 (gpc 6 (gpc 7 (gpc 8 (gpc 9 (gpc 10 (gpc 11 (gpc 12 (gpc 13 (gpc 0 gpn)))))))))))))); clear GK
  have HN := GL.gkp (gpc 8 (gpc 9 (gpc 10 (gpc 7 (gpc 3 (gpc 0 (gpc 13 (gpc 2 gpn)))))))); clear GL
  exact ⟨o, (putV b.tabs.length lr vq), (putV b.tabs.length lb vg), (b.tabs ++ [tb]), vm, lk, b.macs, (A 3), l, HJ.as _ rfl, HN, (.inr (.inr ⟨rfl, rfl, _, rfl⟩))⟩
 skip
 clear By M Hi
 rintro IA MS ⟨vtx, lrx, lbx, tsx, vmx, lkx, msx, vox, ox, BM, AB, hmo⟩
 have hxl := more_len hmo
 refine b_6 (m2 (s1 BM (c_0 rfl y_9 (BM.ev rfl) (AB.bk 3 rfl) (l := [(iv b.scales), vt, vm]) rfl rfl) fun IB BN => ?_)); clear BM IA
 refine s1 BN (a_1 rfl BN.e) fun IC AY => ?_; clear BN IB
 refine s2 AY (b_0 rfl en_29 (ev2 AY.e AY.e) (ready_ok b vt vm lr lb lk _ (b_5 (AB.ok 0 _ rfl)) (b_8 (AB.ok 1 _ rfl)) l _ (AB.sk 2 rfl))) ?_
 rintro ID _ MT ⟨rfl, FY⟩ BO; have R := AB.step FY; clear FY AY AB IC
 refine s1 BO (f_3 rfl BO.e) fun IE BP => ?_; clear BO ID
 refine s1 BP (a_1 rfl BP.e) fun Gi U => ?_; clear BP IE
 rcases Bool.eq_false_or_eq_true ((readyB b l)) with A1 | A1
 ·skip
  rw [A1] at U
  have hf := A1; have hrd := ready_is hf; have hth := hrd.1; have ME := hrd.2.1; have hr := hrd.2.2; have htl9 := hth.tl; have hml9 := hth.ml; have hc := read_check hr; have hbl := t_3 hr; have hb := hbl.1; have hl := hbl.2; have M9 := hb.scales
  refine s5 U (c_0 rfl y_9 (U.ev rfl) (R.bk 4 rfl) (l := [(iv b.scales), vtx, vmx]) rfl rfl) fun IF BQ => ?_; clear U Gi
  refine s5 BQ (a_1 rfl BQ.e) fun IG AZ => ?_; clear BQ IF
  refine s6 AZ (b_0 rfl en_16 (ev2 AZ.e AZ.e) (thin_ok (finB b tsx msx) vtx vmx lrx lbx lkx _ (b_5 (R.ok 5 _ rfl)) (b_8 (R.ok 6 _ rfl)) ox _ (SlAt.e_5 (R.f_2 7 rfl)))) ?_
  rintro IH _ MU ⟨rfl, FZ⟩ BR; have c := R.step FZ; clear FZ AZ R IG
  refine s5 BR (f_3 rfl BR.e) fun II Aa => ?_; clear BR IH
  refine s1 Aa (c_7 rfl Aa.e Aa.e) fun IJ BS => ?_; clear Aa II
  refine s1 BS (a_1 rfl BS.e) fun Gk V => ?_; clear BS IJ
  rcases Bool.eq_false_or_eq_true ((aa_8 (finB b tsx msx) ox.length)) with A2 | A2
  ·skip
   rw [A2] at V
   have hthl := thin_iff.1 A2; have hth2 := hthl.1; have MH := hthl.2
   refine s5 V (c_0 rfl y_9 (V.ev rfl) (c.bk 4 rfl) (l := [(iv b.scales), vtx, vmx]) rfl rfl) fun IK BT => ?_; clear V Gk
   refine s6 BT (b_0 rfl en_21 (ev1 BT.e) (rfault_ok (finB b tsx msx) vtx vmx lrx lbx lkx _ (b_5 (c.ok 5 _ rfl)) (b_8 (c.ok 6 _ rfl)) hth2)) ?_
   rintro IL _ MV ⟨rfl, Fa⟩ BU; have L := c.step Fa; clear Fa BT c IK
   refine s5 BU (v_6 rfl BU.e (evc _ _)) fun IM Ab => ?_; clear BU IL
   refine s1 Ab (c_7 rfl Ab.e Ab.e) fun IN BV => ?_; clear Ab IM
   refine s1 BV (a_1 rfl BV.e) fun Gl W => ?_; clear BV IN
   by_cases Dh : (f_1 (finB b tsx msx)) = 0
   ·skip
    rw [decide_eq_true Dh] at W
    have Ho := Dh
    refine s5 W (a_1 rfl W.e) fun IOa BW => ?_; clear W Gl
    refine s5 BW (d_4 rfl z_1 BW.e (SlAt.e_5 (L.f_2 7 rfl))) fun IP BX => ?_; clear BW IOa
    refine s5 BX (j_6 rfl BX.e (evc _ _)) fun IQ Ac => ?_; clear BX IP
    refine s1 Ac (c_7 rfl Ac.e Ac.e) fun IR BY => ?_; clear Ac IQ
    refine s1 BY (a_1 rfl BY.e) fun Gm X => ?_; clear BY IR
    by_cases Gc : 8 < (ox.length : Int)
    ·skip
     rw [decide_eq_true Gc] at X
     refine s3 X fun IS Eb => ?_; clear X Gm
     refine s3 Eb fun IT Ec => ?_; clear Eb IS
     refine s3 Ec fun IU Ed => ?_; clear Ec IT
     refine s3 Ed fun IV BZ => ?_; clear Ed IU
     refine s1 BZ (b_2 rfl BZ.e (evc _ _)) fun IW Ba => ?_; clear BZ IV
     refine n1 (c_1 Ba rfl (b_6 ?_))
     have Ee := Ba.as [] rfl; clear Ba
     refine a_5 (s2 Ee (b_0 rfl en_17 ev0 (p_2 _)) ?_)
     rintro IX _ MW ⟨rfl, Fb⟩ Bb; have HO := L.step Fb; clear Fb Ee L IW
     refine s1 Bb (a_0 rfl Bb.e) fun L2 Ef => ?_; clear Bb IX
     exact n1 (c_2 (a_6 (a_7 Ef (.inl rfl) (a_2 Ef rfl (.tmp rfl)) (⟨rfl, HO.ext⟩))))
    skip
    rw [decide_eq_false Gc] at X
    refine s5 X (c_0 rfl y_9 (X.ev rfl) (L.bk 4 rfl) (l := [(iv b.scales), vtx, vmx]) rfl rfl) fun IY Bc => ?_; clear X Gm
    refine s5 Bc (a_1 rfl Bc.e) fun IZ Ad => ?_; clear Bc IY
    refine s6 Ad (b_0 rfl en_27 (ev2 Ad.e Ad.e) (fault_ok (finB b tsx msx) vtx vmx lrx lbx lkx _ (b_5 (L.ok 5 _ rfl)) (b_8 (L.ok 6 _ rfl)) hth2 ox _ (SlAt.e_5 (L.f_2 7 rfl)) (by omega))) ?_
    rintro Ia _ MX ⟨rfl, Fc⟩ Bd; have J := L.step Fc; clear Fc Ad L IZ
    refine s5 Bd (o_0 rfl Bd.e (evc _ _)) fun Ib Ae => ?_; clear Bd Ia
    refine s1 Ae (c_7 rfl Ae.e Ae.e) fun Dq Q => ?_; clear Ae Ib
    refine n1 ?_
    by_cases Di : (h_8 (finB b tsx msx) ox) = 2
    ·skip
     rw [decide_eq_true Di] at Q
     refine c_1 Q rfl (b_6 ?_)
     have Eg := Q.as [] rfl; clear Q
     refine a_5 (s2 Eg (b_0 rfl en_17 ev0 (p_2 _)) ?_)
     rintro Ic _ MY ⟨rfl, Fd⟩ Be; have HP := J.step Fd; clear Fd Eg J Dq
     refine s1 Be (a_0 rfl Be.e) fun L3 Eh => ?_; clear Be Ic
     exact n1 (c_2 (a_6 (a_7 Eh (.inl rfl) (a_2 Eh rfl (.tmp rfl)) (⟨rfl, HP.ext⟩))))
    skip
    rw [decide_eq_false Di] at Q
    have Go := more_read Ho (by omega) Di
    refine b_7 Q rfl (d_1 (b_1 (b_6 ?_)))
    have p := Q.as [(14, vox), (13, (bptr b4_ 0)), (6, (bptr F 0)), (1, xl)] rfl; clear Q
    have M7 := r_4 Ho; have hll := hl.len
    rcases spans_or b l with hs | ⟨t, hs⟩
    ·skip
     refine a_5 (s1 p (c_0 rfl y_9 (p.ev rfl) (J.bk 3 rfl) (l := [(iv b.scales), vt, vm]) rfl rfl) fun Id Bf => ?_); clear p Dq
     refine s2 Bf (b_0 rfl en_19 (ev1 Bf.e) (Book_ok b vt vm lr lb lk _ (b_5 (J.ok 0 _ rfl)) (b_8 (J.ok 1 _ rfl)) hth)) ?_
     rintro Ie _ MZ ⟨vt338, vm339, lr340, lb341, lk342, rfl, GT⟩ Bg; have DY := J.s_7 GT rfl; clear GT Bf J Id
     refine s1 Bg (a_1 rfl Bg.e) fun If Bi => ?_; clear Bg Ie
     refine s2 Bi (b_0 rfl en_26 (ev1 Bi.e) (n_3 l _ _ (DY.sk 4 rfl) (by omega))) ?_
     rintro Ig MJ Ma ⟨Fe, hO351⟩ Af; have AF := DY.w_6 Fe hO351; clear Fe hO351 Bi DY If
     refine s2 Af (b_0 rfl en_25 (ev2 Af.e Af.e) (Spans_none b vt338 vm339 lr340 lb341 lk342 _ (b_5 (AF.ok 1 _ rfl)) (b_8 (AF.ok 2 _ rfl)) hth l _ (SlAt.e_5 (AF.f_2 0 rfl)) (by omega) hr hs)) ?_
     rintro Ih _ Mb ⟨rfl, Ff⟩ Bj; have O := AF.step Ff; clear Ff Af AF Ig
     refine s1 Bj (a_1 rfl Bj.e) fun Ii Bk => ?_; clear Bj Ih
     refine s1 Bk (d_6 rfl Bk.e rfl) fun Ij Bl => ?_; clear Bk Ii
     refine s1 Bl (d_6 rfl Bl.e rfl) fun Ik Bm => ?_; clear Bl Ij
     refine s1 Bm (a_0 rfl Bm.e) fun Il Bn => ?_; clear Bm Ik
     refine s1 Bn (a_0 rfl Bn.e) fun Gn Ei => ?_; clear Bn Il
     refine n2 ?_
     have q := Ei.as [(17, (iv (spE b l))), (16, (Value.slice none 0 0)), (14, vox), (13, (bptr b4_ 0))] rfl; clear Ei
     rcases less_none (b2 := (finB b tsx msx)) (l2 := ox) hr Go rfl (more_less hmo) hs with Dk | ⟨N, A4⟩
     ·skip
      have N : h_8 (finB b tsx msx) ox ≠ 0 := (by rw [Dk]; decide)
      refine a_5 (s1 q (c_0 rfl y_9 (q.ev rfl) (O.bk 7 rfl) (l := [(iv b.scales), vtx, vmx]) rfl rfl) fun Im Bo => ?_); clear q Gn
      refine s2 Bo (b_0 rfl en_19 (ev1 Bo.e) (Book_ok (finB b tsx msx) vtx vmx lrx lbx lkx _ (b_5 (O.ok 8 _ rfl)) (b_8 (O.ok 9 _ rfl)) hth2)) ?_
      rintro In _ Mc ⟨vt375, vm376, lr377, lb378, lk379, rfl, GU⟩ Bp; have DZ := O.s_7 GU rfl; clear GU Bo O Im
      refine s1 Bp (a_1 rfl Bp.e) fun Io Bq => ?_; clear Bp In
      refine s2 Bq (b_0 rfl en_26 (ev1 Bq.e) (n_3 ox _ _ (SlAt.e_5 (DZ.f_2 12 rfl)) (by omega))) ?_
      rintro Ip MK Md ⟨Fg, hO388⟩ Ag; have AG := DZ.w_6 Fg hO388; clear Fg hO388 Bq DZ Io
      refine s2 Ag (b_0 rfl en_25 (ev2 Ag.e Ag.e) (Spans_bad (finB b tsx msx) vt375 vm376 lr377 lb378 lk379 _ (b_5 (AG.ok 1 _ rfl)) (b_8 (AG.ok 2 _ rfl)) hth2 ox _ (SlAt.e_5 (AG.f_2 0 rfl)) (by omega) N)) ?_
      rintro Iq _ Me ⟨rfl, Fh⟩ Br; have GM := AG.step Fh; clear Fh Ag AG Ip
      refine s1 Br (a_1 rfl Br.e) fun Ir Bs => ?_; clear Br Iq
      refine s1 Bs (d_6 rfl Bs.e rfl) fun Is Bt => ?_; clear Bs Ir
      refine s1 Bt (d_6 rfl Bt.e rfl) fun It Bu => ?_; clear Bt Is
      refine s1 Bu (a_0 rfl Bu.e) fun Iu Bv => ?_; clear Bu It
      refine s1 Bv (a_0 rfl Bv.e) fun Iv Ej => ?_; clear Bv Iu
      refine n2 ?_
      have Bw := Ej.as [(19, (iv (spE (finB b tsx msx) ox))), (18, (Value.slice none 0 0)), (17, (iv (spE b l))), (16, (Value.slice none 0 0))] rfl; clear Ej
      refine a_5 (s1 Bw (a_1 rfl Bw.e) fun Iw Bx => ?_); clear Bw Iv
      refine s1 Bx (a_1 rfl Bx.e) fun Ix Bz => ?_; clear Bx Iw
      refine s1 Bz (a_1 rfl Bz.e) fun Iy B0 => ?_; clear Bz Ix
      refine s1 B0 (a_1 rfl B0.e) fun Iz r => ?_; clear B0 Iy
      refine s2 r (b_0 rfl en_30 (ev4 r.e r.e r.e r.e) (t_1 ([]) _ (spE (finB b tsx msx) ox) ([]) _ (spE b l) _ (q_1 _ 2) (q_1 _ 2) (by first | omega | (simp only [List.length_nil]; omega)))) ?_
      rintro I0 _ Mf ⟨rfl, Fi⟩ Ah; have GN := GM.step Fi; clear Fi r GM Iz
      have HY : (narB ([]) (spE (finB b tsx msx) ox) ([]) (spE b l)) = true := (nar_err (.inr ((spE_r N).trans Dk)))
      rw [HY] at Ah
      refine s1 Ah (a_1 rfl Ah.e) fun I1 Ek => ?_; clear Ah I0
      refine s6 Ek (b_0 rfl en_17 ev0 (p_2 _)) ?_
      rintro I2 _ Mg ⟨rfl, Fj⟩ Ai; have HQ := GN.step Fj; clear Fj Ek GN I1
      refine s1 Ai (b_2 rfl Ai.e Ai.e) fun I3 B1 => ?_; clear Ai I2
      refine s1 B1 (a_0 rfl B1.e) fun L4 El => ?_; clear B1 I3
      exact n1 (c_2 (a_7 El (.inl rfl) (a_2 El rfl (.tmp rfl)) (⟨rfl, HQ.ext⟩)))
     skip
     refine a_5 (s1 q (c_0 rfl y_9 (q.ev rfl) (O.bk 7 rfl) (l := [(iv b.scales), vtx, vmx]) rfl rfl) fun I4 B2 => ?_); clear q Gn
     refine s2 B2 (b_0 rfl en_19 (ev1 B2.e) (Book_ok (finB b tsx msx) vtx vmx lrx lbx lkx _ (b_5 (O.ok 8 _ rfl)) (b_8 (O.ok 9 _ rfl)) hth2)) ?_
     rintro I5 _ Mh ⟨vt437, vm438, lr439, lb440, lk441, rfl, GV⟩ B3; have Da := O.s_7 GV rfl; clear GV B2 O I4
     refine s1 B3 (a_1 rfl B3.e) fun I6 B4 => ?_; clear B3 I5
     refine s2 B4 (b_0 rfl en_26 (ev1 B4.e) (n_3 ox _ _ (SlAt.e_5 (Da.f_2 12 rfl)) (by omega))) ?_
     rintro I7 ML Mi ⟨Fk, hO450⟩ Aj; have AH := Da.w_6 Fk hO450; clear Fk hO450 B4 Da I6
     refine s2 Aj (b_0 rfl en_25 (ev2 Aj.e Aj.e) (Spans_none (finB b tsx msx) vt437 vm438 lr439 lb440 lk441 _ (b_5 (AH.ok 1 _ rfl)) (b_8 (AH.ok 2 _ rfl)) hth2 ox _ (SlAt.e_5 (AH.f_2 0 rfl)) (by omega) N A4)) ?_
     rintro I8 _ Mj ⟨rfl, Fl⟩ B5; have GO := AH.step Fl; clear Fl Aj AH I7
     refine s1 B5 (a_1 rfl B5.e) fun I9 B6 => ?_; clear B5 I8
     refine s1 B6 (d_6 rfl B6.e rfl) fun JA B7 => ?_; clear B6 I9
     refine s1 B7 (d_6 rfl B7.e rfl) fun JB B8 => ?_; clear B7 JA
     refine s1 B8 (a_0 rfl B8.e) fun JC B9 => ?_; clear B8 JB
     refine s1 B9 (a_0 rfl B9.e) fun JD Em => ?_; clear B9 JC
     refine n2 ?_
     have CA := Em.as [(19, (iv (spE (finB b tsx msx) ox))), (18, (Value.slice none 0 0)), (17, (iv (spE b l))), (16, (Value.slice none 0 0))] rfl; clear Em
     refine a_5 (s1 CA (a_1 rfl CA.e) fun JE CB => ?_); clear CA JD
     refine s1 CB (a_1 rfl CB.e) fun JF CC => ?_; clear CB JE
     refine s1 CC (a_1 rfl CC.e) fun JG CD => ?_; clear CC JF
     refine s1 CD (a_1 rfl CD.e) fun JH s => ?_; clear CD JG
     refine s2 s (b_0 rfl en_30 (ev4 s.e s.e s.e s.e) (t_1 ([]) _ (spE (finB b tsx msx) ox) ([]) _ (spE b l) _ (q_1 _ 2) (q_1 _ 2) (by first | omega | (simp only [List.length_nil]; omega)))) ?_
     rintro JI _ Mk ⟨rfl, Fm⟩ Ak; have GP := GO.step Fm; clear Fm s GO JH
     have HZ : (narB ([]) (spE (finB b tsx msx) ox) ([]) (spE b l)) = true := (nar_err (.inl (spE_9 N A4)))
     rw [HZ] at Ak
     refine s1 Ak (a_1 rfl Ak.e) fun JJ En => ?_; clear Ak JI
     refine s6 En (b_0 rfl en_17 ev0 (p_2 _)) ?_
     rintro JK _ Ml ⟨rfl, Fn⟩ Al; have HR := GP.step Fn; clear Fn En GP JJ
     refine s1 Al (b_2 rfl Al.e Al.e) fun JL CE => ?_; clear Al JK
     refine s1 CE (a_0 rfl CE.e) fun L5 Eo => ?_; clear CE JL
     exact n1 (c_2 (a_7 Eo (.inl rfl) (a_2 Eo rfl (.tmp rfl)) (⟨rfl, HR.ext⟩)))
    skip
    have htln := sp_len hb hl hs
    refine a_5 (s1 p (c_0 rfl y_9 (p.ev rfl) (J.bk 3 rfl) (l := [(iv b.scales), vt, vm]) rfl rfl) fun JM CF => ?_); clear p Dq
    refine s2 CF (b_0 rfl en_19 (ev1 CF.e) (Book_ok b vt vm lr lb lk _ (b_5 (J.ok 0 _ rfl)) (b_8 (J.ok 1 _ rfl)) hth)) ?_
    rintro JN _ Mm ⟨vt499, vm500, lr501, lb502, lk503, rfl, GW⟩ CG; have Db := J.s_7 GW rfl; clear GW CF J JM
    refine s1 CG (a_1 rfl CG.e) fun JO CH => ?_; clear CG JN
    refine s2 CH (b_0 rfl en_26 (ev1 CH.e) (n_3 l _ _ (Db.sk 4 rfl) (by omega))) ?_
    rintro JP HE Mn ⟨Fo, hO512⟩ Am; have AI := Db.w_6 Fo hO512; clear Fo hO512 CH Db JO
    refine s2 Am (b_0 rfl en_25 (ev2 Am.e Am.e) (Spans_ok b vt499 vm500 lr501 lb502 lk503 _ (b_5 (AI.ok 1 _ rfl)) (b_8 (AI.ok 2 _ rfl)) hth l _ (SlAt.e_5 (AI.f_2 0 rfl)) (by omega) t hr hs)) ?_
    rintro JQ _ LM ⟨AO, rfl, GX⟩ CI
    have H : Sep NoB w LM [(row AO 30 2 t.length (pairs t)), (row HE 98 2 l.length (pairs l)), (d_9 true vt499 lr501 lb502 b.tabs), (e_1 true vm500 lk503 b.macs), (d_9 false vt lr lb b.tabs), (e_1 false vm lk b.macs), (sl xl 2 l.length (pairs l)), (blk F 25 [(iv b.scales), vt, vm]), (blk b4_ 25 [(iv b.scales), vtx, vmx]), (d_9 false vtx lrx lbx tsx), (e_1 false vmx lkx msx), (row vox 67 2 ox.length (pairs ox))] := AI.s_7 GX rfl; clear GX Am AI JP
    refine s1 CI (a_1 rfl CI.e) fun JR CJ => ?_; clear CI JQ
    refine s1 CJ (d_6 rfl CJ.e rfl) fun JS CK => ?_; clear CJ JR
    refine s1 CK (d_6 rfl CK.e rfl) fun JT CL => ?_; clear CK JS
    refine s1 CL (a_0 rfl CL.e) fun JU CM => ?_; clear CL JT
    refine s1 CM (a_0 rfl CM.e) fun Dr Ep => ?_; clear CM JU
    refine n2 ?_
    have P := Ep.as [(17, (iv 0)), (16, AO), (14, vox), (13, (bptr b4_ 0))] rfl; clear Ep
    rcases less_some (b2 := (finB b tsx msx)) (l2 := ox) hr Go rfl (more_less hmo) hs with Dk | ⟨N, A4⟩ | ⟨t', N, A4, hnr, NB⟩
    ·skip
     have N : h_8 (finB b tsx msx) ox ≠ 0 := (by rw [Dk]; decide)
     refine a_5 (s1 P (c_0 rfl y_9 (P.ev rfl) (H.bk 8 rfl) (l := [(iv b.scales), vtx, vmx]) rfl rfl) fun JV CN => ?_); clear P Dr
     refine s2 CN (b_0 rfl en_19 (ev1 CN.e) (Book_ok (finB b tsx msx) vtx vmx lrx lbx lkx _ (b_5 (H.ok 9 _ rfl)) (b_8 (H.ok 10 _ rfl)) hth2)) ?_
     rintro JW _ Mo ⟨vt537, vm538, lr539, lb540, lk541, rfl, GY⟩ CO; have Dc := H.s_7 GY rfl; clear GY CN H JV
     refine s1 CO (a_1 rfl CO.e) fun JX CP => ?_; clear CO JW
     refine s2 CP (b_0 rfl en_26 (ev1 CP.e) (n_3 ox _ _ (SlAt.e_5 (Dc.f_2 13 rfl)) (by omega))) ?_
     rintro JY MM Mp ⟨Fp, hO550⟩ An; have AJ := Dc.w_6 Fp hO550; clear Fp hO550 CP Dc JX
     refine s2 An (b_0 rfl en_25 (ev2 An.e An.e) (Spans_bad (finB b tsx msx) vt537 vm538 lr539 lb540 lk541 _ (b_5 (AJ.ok 1 _ rfl)) (b_8 (AJ.ok 2 _ rfl)) hth2 ox _ (SlAt.e_5 (AJ.f_2 0 rfl)) (by omega) N)) ?_
     rintro JZ _ Mq ⟨rfl, Fq⟩ CQ; have Dd := AJ.step Fq; clear Fq An AJ JY
     refine s1 CQ (a_1 rfl CQ.e) fun Ja CR => ?_; clear CQ JZ
     refine s1 CR (d_6 rfl CR.e rfl) fun Jb CS => ?_; clear CR Ja
     refine s1 CS (d_6 rfl CS.e rfl) fun Jc CT => ?_; clear CS Jb
     refine s1 CT (a_0 rfl CT.e) fun Jd CU => ?_; clear CT Jc
     refine s1 CU (a_0 rfl CU.e) fun Je Eq => ?_; clear CU Jd
     refine n2 ?_
     have CV := Eq.as [(19, (iv (spE (finB b tsx msx) ox))), (18, (Value.slice none 0 0)), (17, (iv 0)), (16, AO)] rfl; clear Eq
     refine a_5 (s1 CV (a_1 rfl CV.e) fun Jf CX => ?_); clear CV Je
     refine s1 CX (a_1 rfl CX.e) fun Jg CY => ?_; clear CX Jf
     refine s1 CY (a_1 rfl CY.e) fun Jh CZ => ?_; clear CY Jg
     refine s1 CZ (a_1 rfl CZ.e) fun Ji u => ?_; clear CZ Jh
     refine s2 u (b_0 rfl en_30 (ev4 u.e u.e u.e u.e) (t_1 ([]) _ (spE (finB b tsx msx) ox) t _ 0 _ (q_1 _ 2) (SlAt.e_5 (Dd.f_2 3 rfl)) (by first | omega | (simp only [List.length_nil]; omega)))) ?_
     rintro Jj _ Mr ⟨rfl, Fs⟩ Ao; have GQ := Dd.step Fs; clear Fs u Dd Ji
     have Ha : (narB ([]) (spE (finB b tsx msx) ox) t 0) = true := (nar_err (.inr ((spE_r N).trans Dk)))
     rw [Ha] at Ao
     refine s1 Ao (a_1 rfl Ao.e) fun Jk Er => ?_; clear Ao Jj
     refine s6 Er (b_0 rfl en_17 ev0 (p_2 _)) ?_
     rintro Jl _ Ms ⟨rfl, Ft⟩ Ap; have HS := GQ.step Ft; clear Ft Er GQ Jk
     refine s1 Ap (b_2 rfl Ap.e Ap.e) fun Jm Ca => ?_; clear Ap Jl
     refine s1 Ca (a_0 rfl Ca.e) fun L6 Es => ?_; clear Ca Jm
     exact n1 (c_2 (a_7 Es (.inl rfl) (a_2 Es rfl (.tmp rfl)) (⟨rfl, HS.ext⟩)))
    ·skip
     refine a_5 (s1 P (c_0 rfl y_9 (P.ev rfl) (H.bk 8 rfl) (l := [(iv b.scales), vtx, vmx]) rfl rfl) fun Jn Cb => ?_); clear P Dr
     refine s2 Cb (b_0 rfl en_19 (ev1 Cb.e) (Book_ok (finB b tsx msx) vtx vmx lrx lbx lkx _ (b_5 (H.ok 9 _ rfl)) (b_8 (H.ok 10 _ rfl)) hth2)) ?_
     rintro Jo _ Mt ⟨vt599, vm600, lr601, lb602, lk603, rfl, GZ⟩ Cc; have De := H.s_7 GZ rfl; clear GZ Cb H Jn
     refine s1 Cc (a_1 rfl Cc.e) fun Jp Cd => ?_; clear Cc Jo
     refine s2 Cd (b_0 rfl en_26 (ev1 Cd.e) (n_3 ox _ _ (SlAt.e_5 (De.f_2 13 rfl)) (by omega))) ?_
     rintro Jq MN Mu ⟨Fu, hO612⟩ Aq; have AK := De.w_6 Fu hO612; clear Fu hO612 Cd De Jp
     refine s2 Aq (b_0 rfl en_25 (ev2 Aq.e Aq.e) (Spans_none (finB b tsx msx) vt599 vm600 lr601 lb602 lk603 _ (b_5 (AK.ok 1 _ rfl)) (b_8 (AK.ok 2 _ rfl)) hth2 ox _ (SlAt.e_5 (AK.f_2 0 rfl)) (by omega) N A4)) ?_
     rintro Jr _ Mv ⟨rfl, Fv⟩ Ce; have Df := AK.step Fv; clear Fv Aq AK Jq
     refine s1 Ce (a_1 rfl Ce.e) fun Js Cf => ?_; clear Ce Jr
     refine s1 Cf (d_6 rfl Cf.e rfl) fun Jt Cg => ?_; clear Cf Js
     refine s1 Cg (d_6 rfl Cg.e rfl) fun Ju Ch => ?_; clear Cg Jt
     refine s1 Ch (a_0 rfl Ch.e) fun Jv Ci => ?_; clear Ch Ju
     refine s1 Ci (a_0 rfl Ci.e) fun Jw Et => ?_; clear Ci Jv
     refine n2 ?_
     have Cj := Et.as [(19, (iv (spE (finB b tsx msx) ox))), (18, (Value.slice none 0 0)), (17, (iv 0)), (16, AO)] rfl; clear Et
     refine a_5 (s1 Cj (a_1 rfl Cj.e) fun Jx Ck => ?_); clear Cj Jw
     refine s1 Ck (a_1 rfl Ck.e) fun Jy Cl => ?_; clear Ck Jx
     refine s1 Cl (a_1 rfl Cl.e) fun Jz Cm => ?_; clear Cl Jy
     refine s1 Cm (a_1 rfl Cm.e) fun J0 x => ?_; clear Cm Jz
     refine s2 x (b_0 rfl en_30 (ev4 x.e x.e x.e x.e) (t_1 ([]) _ (spE (finB b tsx msx) ox) t _ 0 _ (q_1 _ 2) (SlAt.e_5 (Df.f_2 3 rfl)) (by first | omega | (simp only [List.length_nil]; omega)))) ?_
     rintro J1 _ Mw ⟨rfl, Fw⟩ Ar; have GR := Df.step Fw; clear Fw x Df J0
     have Hb : (narB ([]) (spE (finB b tsx msx) ox) t 0) = true := (nar_err (.inl (spE_9 N A4)))
     rw [Hb] at Ar
     refine s1 Ar (a_1 rfl Ar.e) fun J2 Eu => ?_; clear Ar J1
     refine s6 Eu (b_0 rfl en_17 ev0 (p_2 _)) ?_
     rintro J3 _ Mx ⟨rfl, Fx⟩ As; have HT := GR.step Fx; clear Fx Eu GR J2
     refine s1 As (b_2 rfl As.e As.e) fun J4 Cn => ?_; clear As J3
     refine s1 Cn (a_0 rfl Cn.e) fun L8 Ev => ?_; clear Cn J4
     exact n1 (c_2 (a_7 Ev (.inl rfl) (a_2 Ev rfl (.tmp rfl)) (⟨rfl, HT.ext⟩)))
    skip
    refine a_5 (s1 P (c_0 rfl y_9 (P.ev rfl) (H.bk 8 rfl) (l := [(iv b.scales), vtx, vmx]) rfl rfl) fun J5 Co => ?_); clear P Dr
    refine s2 Co (b_0 rfl en_19 (ev1 Co.e) (Book_ok (finB b tsx msx) vtx vmx lrx lbx lkx _ (b_5 (H.ok 9 _ rfl)) (b_8 (H.ok 10 _ rfl)) hth2)) ?_
    rintro J6 _ My ⟨vt661, vm662, lr663, lb664, lk665, rfl, Ga⟩ Cp; have Dg := H.s_7 Ga rfl; clear Ga Co H J5
    refine s1 Cp (a_1 rfl Cp.e) fun J7 Cq => ?_; clear Cp J6
    refine s2 Cq (b_0 rfl en_26 (ev1 Cq.e) (n_3 ox _ _ (SlAt.e_5 (Dg.f_2 13 rfl)) (by omega))) ?_
    rintro J8 LH Mz ⟨Fy, hO674⟩ At; have AL := Dg.w_6 Fy hO674; clear Fy hO674 Cq Dg J7
    refine s2 At (b_0 rfl en_25 (ev2 At.e At.e) (Spans_ok (finB b tsx msx) vt661 vm662 lr663 lb664 lk665 _ (b_5 (AL.ok 1 _ rfl)) (b_8 (AL.ok 2 _ rfl)) hth2 ox _ (SlAt.e_5 (AL.f_2 0 rfl)) (by omega) t' N A4)) ?_
    rintro J9 _ LN ⟨HD, rfl, Gb⟩ Cr
    have A0 : Sep NoB w LN [(row HD 30 2 t'.length (pairs t')), (row LH 98 2 ox.length (pairs ox)), (d_9 true vt661 lr663 lb664 (finB b tsx msx).tabs), (e_1 true vm662 lk665 (finB b tsx msx).macs), (row AO 30 2 t.length (pairs t)), (row HE 98 2 l.length (pairs l)), (d_9 true vt499 lr501 lb502 b.tabs), (e_1 true vm500 lk503 b.macs), (d_9 false vt lr lb b.tabs), (e_1 false vm lk b.macs), (sl xl 2 l.length (pairs l)), (blk F 25 [(iv b.scales), vt, vm]), (blk b4_ 25 [(iv b.scales), vtx, vmx]), (d_9 false vtx lrx lbx tsx), (e_1 false vmx lkx msx), (row vox 67 2 ox.length (pairs ox))] := AL.s_7 Gb rfl; clear Gb At AL J8
    refine s1 Cr (a_1 rfl Cr.e) fun KA Cs => ?_; clear Cr J9
    refine s1 Cs (d_6 rfl Cs.e rfl) fun KB Ct => ?_; clear Cs KA
    refine s1 Ct (d_6 rfl Ct.e rfl) fun KC Cu => ?_; clear Ct KB
    refine s1 Cu (a_0 rfl Cu.e) fun KD Cv => ?_; clear Cu KC
    refine s1 Cv (a_0 rfl Cv.e) fun KE Ew => ?_; clear Cv KD
    refine n2 ?_
    have Cw := Ew.as [(19, (iv 0)), (18, HD), (17, (iv 0)), (16, AO)] rfl; clear Ew
    refine a_5 (s1 Cw (a_1 rfl Cw.e) fun KF Cx => ?_); clear Cw KE
    refine s1 Cx (a_1 rfl Cx.e) fun KG Cy => ?_; clear Cx KF
    refine s1 Cy (a_1 rfl Cy.e) fun KH Cz => ?_; clear Cy KG
    refine s1 Cz (a_1 rfl Cz.e) fun KI y => ?_; clear Cz KH
    refine s2 y (b_0 rfl en_30 (ev4 y.e y.e y.e y.e) (t_1 t' _ 0 t _ 0 _ (SlAt.e_5 (A0.f_2 0 rfl)) (SlAt.e_5 (A0.f_2 4 rfl)) (by first | omega | (simp only [List.length_nil]; omega)))) ?_
    rintro KJ _ M0 ⟨rfl, Fz⟩ Au; have GS := A0.step Fz; clear Fz y A0 KI
    have Hc : (narB t' 0 t 0) = true := hnr
    rw [Hc] at Au
    refine s1 Au (a_1 rfl Au.e) fun KK Ex => ?_; clear Au KJ
    refine s6 Ex (b_0 rfl en_17 ev0 (p_2 _)) ?_
    rintro KL _ M1 ⟨rfl, F0⟩ Av; have HU := GS.step F0; clear F0 Ex GS KK
    refine s1 Av (b_2 rfl Av.e Av.e) fun KM C0 => ?_; clear Av KL
    refine s1 C0 (a_0 rfl C0.e) fun L9 Ey => ?_; clear C0 KM
    exact n1 (c_2 (a_7 Ey (.inl rfl) (a_2 Ey rfl (.tmp rfl)) (⟨rfl, HU.ext⟩)))
   skip
   rw [decide_eq_false Dh] at W
   refine s3 W fun KN Ez => ?_; clear W Gl
   refine s3 Ez fun KO E0 => ?_; clear Ez KN
   refine s3 E0 fun KP C1 => ?_; clear E0 KO
   refine s1 C1 (b_2 rfl C1.e (evc _ _)) fun KQ C2 => ?_; clear C1 KP
   refine s1 C2 (a_1 rfl C2.e) fun KR E1 => ?_; clear C2 KQ
   refine s3 E1 fun KS E2 => ?_; clear E1 KR
   refine s3 E2 fun KT E3 => ?_; clear E2 KS
   refine s3 E3 fun KU E4 => ?_; clear E3 KT
   refine s3 E4 fun KV C3 => ?_; clear E4 KU
   refine s1 C3 (b_2 rfl C3.e (evc _ _)) fun KW C4 => ?_; clear C3 KV
   refine n1 (c_1 C4 rfl (b_6 ?_))
   have E5 := C4.as [] rfl; clear C4
   refine a_5 (s2 E5 (b_0 rfl en_17 ev0 (p_2 _)) ?_)
   rintro KX _ M2 ⟨rfl, F1⟩ C5; have HV := L.step F1; clear F1 E5 L KW
   refine s1 C5 (a_0 rfl C5.e) fun MA E6 => ?_; clear C5 KX
   exact n1 (c_2 (a_6 (a_7 E6 (.inl rfl) (a_2 E6 rfl (.tmp rfl)) (⟨rfl, HV.ext⟩))))
  skip
  rw [A2] at V
  refine s3 V fun KY E7 => ?_; clear V Gk
  refine s3 E7 fun KZ E8 => ?_; clear E7 KY
  refine s3 E8 fun Ka C6 => ?_; clear E8 KZ
  refine s1 C6 (b_2 rfl C6.e (evc _ _)) fun Kb C7 => ?_; clear C6 Ka
  refine s1 C7 (a_1 rfl C7.e) fun Kc E9 => ?_; clear C7 Kb
  refine s3 E9 fun Kd FA => ?_; clear E9 Kc
  refine s3 FA fun Ke FB => ?_; clear FA Kd
  refine s3 FB fun Kf C8 => ?_; clear FB Ke
  refine s1 C8 (b_2 rfl C8.e (evc _ _)) fun Kg C9 => ?_; clear C8 Kf
  refine s1 C9 (a_1 rfl C9.e) fun Kh FC => ?_; clear C9 Kg
  refine s3 FC fun Ki FD => ?_; clear FC Kh
  refine s3 FD fun Kj FE => ?_; clear FD Ki
  refine s3 FE fun Kk FF => ?_; clear FE Kj
  refine s3 FF fun Kl DA => ?_; clear FF Kk
  refine s1 DA (b_2 rfl DA.e (evc _ _)) fun Km DB => ?_; clear DA Kl
  refine n1 (c_1 DB rfl (b_6 ?_))
  have FG := DB.as [] rfl; clear DB
  refine a_5 (s2 FG (b_0 rfl en_17 ev0 (p_2 _)) ?_)
  rintro Kn _ M3 ⟨rfl, F2⟩ DC; have HW := c.step F2; clear F2 FG c Km
  refine s1 DC (a_0 rfl DC.e) fun MB FH => ?_; clear DC Kn
  exact n1 (c_2 (a_6 (a_7 FH (.inl rfl) (a_2 FH rfl (.tmp rfl)) (⟨rfl, HW.ext⟩))))
 skip
 rw [A1] at U
 refine s3 U fun Ko FI => ?_; clear U Gi
 refine s3 FI fun Kp FJ => ?_; clear FI Ko
 refine s3 FJ fun Kq FK => ?_; clear FJ Kp
 refine s3 FK fun Kr DD => ?_; clear FK Kq
 refine s1 DD (b_2 rfl DD.e (evc _ _)) fun Ks DE => ?_; clear DD Kr
 refine s1 DE (a_1 rfl DE.e) fun Kt FL => ?_; clear DE Ks
 refine s3 FL fun Ku FM => ?_; clear FL Kt
 refine s3 FM fun Kv FN => ?_; clear FM Ku
 refine s3 FN fun Kw DF => ?_; clear FN Kv
 refine s1 DF (b_2 rfl DF.e (evc _ _)) fun Kx DG => ?_; clear DF Kw
 refine s1 DG (a_1 rfl DG.e) fun Ky FO => ?_; clear DG Kx
 refine s3 FO fun Kz FP => ?_; clear FO Ky
 refine s3 FP fun K0 FQ => ?_; clear FP Kz
 refine s3 FQ fun K1 DH => ?_; clear FQ K0
 refine s1 DH (b_2 rfl DH.e (evc _ _)) fun K2 DI => ?_; clear DH K1
 refine s1 DI (a_1 rfl DI.e) fun K3 FSa => ?_; clear DI K2
 refine s3 FSa fun K4 FT => ?_; clear FSa K3
 refine s3 FT fun K5 FU => ?_; clear FT K4
 refine s3 FU fun K6 FV => ?_; clear FU K5
 refine s3 FV fun K7 DJ => ?_; clear FV K6
 refine s1 DJ (b_2 rfl DJ.e (evc _ _)) fun K8 DK => ?_; clear DJ K7
 refine n1 (c_1 DK rfl (b_6 ?_))
 have FW := DK.as [] rfl; clear DK
 refine a_5 (s2 FW (b_0 rfl en_17 ev0 (p_2 _)) ?_)
 rintro K9 _ M4 ⟨rfl, F3⟩ DL; have HX := R.step F3; clear F3 FW R K8
 refine s1 DL (a_0 rfl DL.e) fun MC FX => ?_; clear DL K9
 exact n1 (c_2 (a_6 (a_7 FX (.inl rfl) (a_2 FX rfl (.tmp rfl)) (⟨rfl, HX.ext⟩))))
end Go.Proofs.Ytohgladndklciaa
