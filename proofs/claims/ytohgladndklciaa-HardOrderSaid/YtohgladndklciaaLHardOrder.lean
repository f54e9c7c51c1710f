/-
  Walks through the functions of the seat, printed by a program of ours (gowalk), a theorem a function: what the call returns and what it leaves in memory.
-/
import Derived.Test.YtohgladndklciaaBd
import Derived.Test.YtohgladndklciaaEngb
import Derived.Test.YtohgladndklciaaEnga
set_option linter.unusedSimpArgs false
set_option linter.unusedVariables false
namespace Go.Proofs.Ytohgladndklciaa
open Go.RowKit Go.Shelf Go.Eng Go.Hard
set_option maxHeartbeats 4000000 in
theorem HardOrder_a (b : h_3) (vt vm : Value) (lr lb lk : Nat → Value) (w : World) (hT : l_1 w vt lr lb b.tabs) (hM : n_0 w vm lk b.macs) (l : List (Int × Int)) (xl : Value) (hxl : SlAt w xl 2 l.length (pairs l)) (wa wb : Int) (hA_ : 0 ≤ wa ∧ wa ≤ 255) (hB_ : 0 ≤ wb ∧ wb ≤ 255) (hf : ab_6 b l = false) :
  Calls Try.prog 5 #[(Value.agg #[(iv b.scales), vt, vm]), xl, (Value.int .u8 wa), (Value.int .u8 wb)] w (Ret fun v w' => v = .bool true ∧ Ext NoB w w') := by
 refine b_4 Try.func5 rfl fun R D => ?_
 replace D : Fr 174 [] [(0, (Value.agg #[(iv b.scales), vt, vm])), (1, xl), (2, (Value.int .u8 wa)), (3, (Value.int .u8 wb))] R := D
 have O : Sep NoB w w [(d_2 false vt lr lb b.tabs), (d_4 false vm lk b.macs), (sl xl 2 l.length (pairs l))] := f_4 ⟨rfl, hT, rfl, hM, rfl, hxl, trivial⟩
 refine m2 (s2 D (f_5 O rfl D.e (cs := [(iv b.scales), vt, vm]) rfl) ?_)
 rintro W _ f ⟨d, rfl, A⟩ N; clear D O R
 refine s1 N (a_1 rfl (evc _ _)) fun X I => ?_; clear N W
 refine n2 (m2 (s1 I (b_8 rfl k_7 (I.ev rfl) (A.bk 0 rfl) (l := [(iv b.scales), vt, vm]) rfl rfl) fun Y J => ?_)); clear I X
 refine s1 J (a_0 rfl J.e) fun S B => ?_; clear J Y
 refine s2 B (a_6 rfl en_29 (ev2 B.e B.e) (ready_ok b vt vm lr lb lk _ (b_1 (A.ok 1 _ rfl)) (a_8 (A.ok 2 _ rfl)) l _ (A.sk 3 rfl))) ?_
 rintro T _ a ⟨rfl, K⟩ C; have M := A.step K; clear K B A S
 have Q : (ab_6 b l) = false := hf
 rw [Q] at C
 refine s1 C (g_3 rfl C.e) fun U E => ?_; clear C T
 refine n1 (c_7 E rfl (c_1 ?_))
 have G := E.as [] rfl; clear E
 refine a_5 (s2 G (a_6 rfl v_5 ev0 (j_2 _)) ?_)
 rintro V _ c ⟨rfl, L⟩ F; have P := M.step L; clear L G M U
 refine s1 F (a_1 rfl F.e) fun Z H => ?_; clear F V
 exact n1 (c_5 (a_9 (b_0 H (.inl rfl) (a_2 H rfl (.tmp rfl)) (⟨rfl, P.ext⟩))))
set_option maxHeartbeats 4000000 in
theorem HardOrder_b (b : h_3) (vt vm : Value) (lr lb lk : Nat → Value) (w : World) (hT : l_1 w vt lr lb b.tabs) (hM : n_0 w vm lk b.macs) (l : List (Int × Int)) (xl : Value) (hxl : SlAt w xl 2 l.length (pairs l)) (wa wb : Int) (hA_ : 0 ≤ wa ∧ wa ≤ 255) (hB_ : 0 ≤ wb ∧ wb ≤ 255) (hf : ab_6 b l = true) :
  Calls Try.prog 5 #[(Value.agg #[(iv b.scales), vt, vm]), xl, (Value.int .u8 wa), (Value.int .u8 wb)] w (Ret fun v w' => v = .bool true ∧ Ext NoB w w') := by
 refine b_4 Try.func5 rfl fun a0 XL => ?_
 replace XL : Fr 174 [] [(0, (Value.agg #[(iv b.scales), vt, vm])), (1, xl), (2, (Value.int .u8 wa)), (3, (Value.int .u8 wb))] a0 := XL
 have hrd := ready_is hf; have hth := hrd.1; have AjX := hrd.2.1; have hr := hrd.2.2; have htl9 := hth.tl; have hml9 := hth.ml; have hc := l_2 hr; have hbl := read_ok hr; have hb := hbl.1; have hl := hbl.2; have hn4 := hb.scales; have hll := hl.len
 have hS0 : Sep NoB w w [(d_2 false vt lr lb b.tabs), (d_4 false vm lk b.macs), (sl xl 2 l.length (pairs l))] := f_4 ⟨rfl, hT, rfl, hM, rfl, hxl, trivial⟩
 refine m2 (s2 XL (f_5 hS0 rfl XL.e (cs := [(iv b.scales), vt, vm]) rfl) ?_)
 rintro a1 _ w3 ⟨C, rfl, TL⟩ hA2; clear XL hS0 a0
 refine s1 hA2 (a_1 rfl (evc _ _)) fun a6 hA7 => ?_; clear hA2 a1
 refine n2 (m2 (s1 hA7 (b_8 rfl k_7 (hA7.ev rfl) (TL.bk 0 rfl) (l := [(iv b.scales), vt, vm]) rfl rfl) fun a8 hA9 => ?_)); clear hA7 a6
 refine s1 hA9 (a_0 rfl hA9.e) fun a10 TR => ?_; clear hA9 a8
 refine s2 TR (a_6 rfl en_29 (ev2 TR.e TR.e) (ready_ok b vt vm lr lb lk _ (b_1 (TL.ok 1 _ rfl)) (a_8 (TL.ok 2 _ rfl)) l _ (TL.sk 3 rfl))) ?_
 rintro a12 _ w14 ⟨rfl, AHe⟩ TY; have AHm := TL.step AHe; clear AHe TR TL a10
 have Afj : (ab_6 b l) = true := hf
 rw [Afj] at TY
 refine s1 TY (g_3 rfl TY.e) fun a18 AEU => ?_; clear TY a12
 refine n1 (c_2 AEU rfl (d_7 (b_5 (c_1 ?_))))
 have AHT := AEU.as [(4, (bptr C 0)), (1, xl), (2, (Value.int .u8 wa)), (3, (Value.int .u8 wb))] rfl; clear AEU
 have AHU := AHT.as [(4, (bptr C 0)), (1, xl), (2, (Value.int .u8 wa)), (3, (Value.int .u8 wb))] rfl; clear AHT
 refine c_drawCC mixed AHU AHm 5 [(3, 1)] [[], [], [], [1, 2], []] [(yw (Value.agg #[(iv b.scales), vt, vm])), (fun (A : Nat → Value) (v_ : Value) (rs_ : List Res) => ∃ (b1_ : Nat), v_ = (Value.slice (some ⟨b1_, 0, none⟩) 0 0) ∧ rs_ = [(blk b1_ 67 [])]), (yw xl), (fun (A : Nat → Value) (v_ : Value) (rs_ : List Res) => True ∧ rs_ = [(row v_ 67 2 l.length (pairs l))]), (fun (A : Nat → Value) (v_ : Value) (rs_ : List Res) => ∃ (b4_ : Nat), v_ = (bptr b4_ 0) ∧ rs_ = [(blk b4_ 25 [(iv 0), (Value.slice none 0 0), (Value.slice none 0 0)])])] (by decide +kernel) (by decide +kernel) (by decide +kernel) (by decide +kernel) rfl rfl ⟨dw, (fun _ _ _ _ _ h_ => h_), dw, (fun _ _ _ _ _ h_ => h_), (fun _ _ _ _ _ h_ => h_), trivial⟩ (by decide +kernel) ?_ ?_ ?_
 ·skip
  refine ⟨fun hj_ a w A hA hS hd => gv1 (b_8 rfl k_7 (hA.ev rfl) (hS.bk 0 rfl) (l := [(iv b.scales), vt, vm]) rfl rfl), ?_⟩
  refine ⟨fun hj_ a w A hA hS hd => d_9 rfl (vblz rfl pv0 y_5 ty_67 ze_67 bs_67_0_ (fun b_ => ⟨b_, rfl, rfl⟩)), ?_⟩
  refine ⟨fun hj_ a w A hA hS hd => gv1 (a_0 rfl hA.e), ?_⟩
  refine ⟨fun hj_ => absurd hj_ (by decide), ?_⟩
  refine ⟨fun hj_ a w A hA hS hd => d_9 rfl (valloc rfl ze_25 (cs := [(iv 0), (Value.slice none 0 0), (Value.slice none 0 0)]) rfl (fun b_ => ⟨b_, rfl, rfl⟩)), ?_⟩
  trivial
 ·skip
  refine ⟨fun o_ ho_ => ?_, ?_⟩
  ·skip
   obtain rfl := Option.some.inj ho_; clear ho_
   intro a w A rs0 Lr hA Bv TK hd hL hS
   obtain ⟨b1_, hv1, hr1⟩ := TK; subst hr1
   rw [hv1] at Bv
   replace hS := hS.o_9 (i := 0) (sz := 2) (n := 0) rfl rfl (by decide)
   obtain ⟨e2, rs2, hy2, hp2⟩ := hd 2 (by decide) (by decide)
   obtain ⟨hv2, E⟩ := hy2; subst E
   rw [hv2] at e2
   exact d_9 rfl (p_5 (h_6 hS rfl y_5 el_67 (c_8 (i_0 Bv rfl)) (c_8 (i_0 e2 rfl)) (i := 0) rfl (hL.sk 3 rfl) (l_6 _) (by simp only [maxLen, List.length_drop, List.length_take]; omega) (by first | omega | (simp only [List.length_drop, List.length_take]; omega))) fun v_ w_ h_ => ⟨_, And.intro trivial rfl, h_.f_2 (i := 0) rfl (n' := l.length) (xs' := (pairs l)) (by simp only [Nat.zero_add]) (List.nil_append _)⟩)
  trivial
 skip
 intro a23 w24 A rsf28 AHV Fh hrq AEm; clear AHU AHm
 have hrq_1 := hrq (3, 1) (by decide)
 obtain ⟨AIS, Afl⟩ := Fh 3 (by decide) (by decide)
 obtain ⟨Afk, AIR⟩ := Afl
 obtain ⟨Fi, AEq⟩ := Fh 4 (by decide) (by decide)
 obtain ⟨b4_, XI, TH⟩ := AEq
 have W6 : Sep NoB w w24 [(row (A 3) 67 2 l.length (pairs l)), (blk b4_ 25 [(iv 0), (Value.slice none 0 0), (Value.slice none 0 0)]), (blk C 25 [(iv b.scales), vt, vm]), (d_2 false vt lr lb b.tabs), (d_4 false vm lk b.macs), (sl xl 2 l.length (pairs l))] := by rw [show catR rsf28 0 5 = ([(row (A 3) 67 2 l.length (pairs l)), (blk b4_ 25 [(iv 0), (Value.slice none 0 0), (Value.slice none 0 0)])] : List Res) by (try simp only [catR, gr (Fh 0 (by decide) (by decide)), gr (Fh 2 (by decide) (by decide)), AIR, TH, hrq_1]); (try rfl)] at AEm; exact AEm
 have AHW := AHV.add (gs (Fh 0 (by decide) (by decide))); clear AHV
 have AHX : Fr 174 [] [(28, (A 3)), (25, (Value.agg #[(iv b.scales), vt, vm])), (4, (bptr C 0)), (1, xl), (2, (Value.int .u8 wa)), (3, (Value.int .u8 wb))] a23 := AHW.add (i_0 AIS rfl); clear AHW
 rw [XI] at Fi
 have UC : Fr 174 [] [(9, (bptr b4_ 0)), (28, (A 3)), (25, (Value.agg #[(iv b.scales), vt, vm])), (4, (bptr C 0)), (1, xl), (2, (Value.int .u8 wa)), (3, (Value.int .u8 wb))] a23 := AHX.add (i_0 Fi rfl); clear AHX
 clear Fh AEm AIS Fi hrq hrq_1
 clear AIR
 clear Afk
 clear TH
 clear XI
 refine s7 UC (c_4 W6 rfl k_7 UC.e UC.e (i := 1) rfl (vs := [(iv b.scales), vt, vm]) rfl rfl (i_1 rfl (i_1 (SlAt.one (b_1 (W6.ok 3 _ rfl)).tabs) (i_1 (SlAt.one (a_8 (W6.ok 4 _ rfl)).macs) q_6))) (Nat.le_of_ble_eq_true rfl)) ?_
 intro _ w33 AHz AEV; clear UC
 have B : Sep NoB w w33 [(row (A 3) 67 2 l.length (pairs l)), (blk b4_ 25 [(iv b.scales), vt, vm]), (blk C 25 [(iv b.scales), vt, vm]), (d_2 false vt lr lb b.tabs), (d_4 false vm lk b.macs), (sl xl 2 l.length (pairs l))] := AHz; clear AHz W6
 refine s1 AEV (a_1 rfl AEV.e) fun a37 AEW => ?_; clear AEV a23
 refine n2 (d_1 (m2 (s1 AEW (a_0 rfl AEW.e) fun a39 AEX => ?_))); clear AEW a37
 refine s1 AEX (ab_0 rfl AEX.e (evc _ _) (by omega)) fun a41 AEY => ?_; clear AEX a39
 refine s1 AEY (e_9 rfl AEY.e (evc _ _)) fun a43 AEZ => ?_; clear AEY a41
 refine s1 AEZ (a_0 rfl AEZ.e) fun a45 B2 => ?_; clear AEZ a43
 by_cases AH7 : ((wa).tmod 3) = 0
 ·skip
  rw [decide_eq_true AH7] at B2
  refine s5 B2 (a_0 rfl B2.e) fun a48 AEa => ?_; clear B2 a45
  refine s5 AEa (d_3 rfl y_5 AEa.e (B.sk 5 rfl)) fun a50 AEb => ?_; clear AEa a48
  refine s5 AEb (k_0 rfl AEb.e (evc _ _)) fun a52 U5 => ?_; clear AEb a50
  refine s1 U5 (a_7 rfl U5.e U5.e) fun a54 AEc => ?_; clear U5 a52
  refine s1 AEc (a_1 rfl AEc.e) fun a56 A5 => ?_; clear AEc a54
  refine n1 ?_
  by_cases AH9 : 0 < (l.length : Int)
  ·skip
   rw [decide_eq_true AH9] at A5
   refine c_7 A5 rfl (c_1 ?_)
   have AEd := A5.as [(9, (bptr b4_ 0)), (4, (bptr C 0)), (1, xl), (3, (Value.int .u8 wb))] rfl; clear A5
   refine a_5 (s1 AEd (a_0 rfl AEd.e) fun a60 AEe => ?_); clear AEd a56
   refine s1 AEe (op_conv un_5 un_3 rfl AEe.e (v := wb) (wrap_i64 (by omega) (by omega))) fun a62 AEf => ?_; clear AEe a60
   refine s1 AEf (a_0 rfl AEf.e) fun a64 AEg => ?_; clear AEf a62
   refine s1 AEg (d_3 rfl y_5 AEg.e (B.sk 5 rfl)) fun a66 VX => ?_; clear AEg a64
   refine s1 VX (ab_0 rfl VX.e VX.e (by omega)) fun a68 AEh => ?_; clear VX a66
   refine s1 AEh (a_1 rfl AEh.e) fun a70 AHZ => ?_; clear AEh a68
   refine n1 ?_
   have AEi := AHZ.as [(11, (iv ((wb).tmod (l.length : Int)))), (9, (bptr b4_ 0)), (4, (bptr C 0)), (1, xl)] rfl; clear AHZ
   obtain ⟨kk, hz_kk, hb_kk⟩ := rem_nat (n := wb) (m := l.length) hB_.1 (by omega); rw [hz_kk] at AEi
   have AHa := AEi.as [(11, (iv (kk : Int))), (9, (bptr b4_ 0)), (4, (bptr C 0)), (1, xl)] rfl; clear AEi
   refine c_drawCC mixed AHa B 8 [(4, 0)] [[], [], [], [1, 2], [0, 3], [], [], [5, 6]] [(fun (r : Nat → Value) (v_ : Value) (rs_ : List Res) => ∃ (b0_ : Nat), v_ = (Value.slice (some ⟨b0_, 0, none⟩) 0 0) ∧ rs_ = [(blk b0_ 67 [])]), (yw xl), (yw (iv (kk : Int))), (yw (slcut xl kk l.length 2)), (fun (r : Nat → Value) (v_ : Value) (rs_ : List Res) => True ∧ rs_ = [(row v_ 67 2 ((l.drop kk).length) (pairs (l.drop kk)))]), (yw xl), (yw (iv (kk : Int))), (yw (slcut xl 0 kk 2))] (by decide +kernel) (by decide +kernel) (by decide +kernel) (by decide +kernel) rfl rfl ⟨(fun _ _ _ _ _ h_ => h_), dw, dw, dw, (fun _ _ _ _ _ h_ => h_), dw, dw, dw, trivial⟩ (by decide +kernel) ?_ ?_ ?_
   ·skip
    refine ⟨fun hj_ a w r hA hS hd => d_9 rfl (vblz rfl pv0 y_5 ty_67 ze_67 bs_67_0_ (fun b_ => ⟨b_, rfl, rfl⟩)), ?_⟩
    refine ⟨fun hj_ a w r hA hS hd => gv1 (a_0 rfl hA.e), ?_⟩
    refine ⟨fun hj_ a w r hA hS hd => gv1 (a_0 rfl hA.e), ?_⟩
    refine ⟨fun hj_ a w r hA hS hd => gv1 (y_1 rfl y_5 ty_67 (gu hd 1) (l := kk) (gu hd 2) (hS.sk 5 rfl) (by omega)), ?_⟩
    refine ⟨fun hj_ => absurd hj_ (by decide), ?_⟩
    refine ⟨fun hj_ a w r hA hS hd => gv1 (a_0 rfl hA.e), ?_⟩
    refine ⟨fun hj_ a w r hA hS hd => gv1 (a_0 rfl hA.e), ?_⟩
    refine ⟨fun hj_ a w r hA hS hd => gv1 (op_sliceHi rfl y_5 ty_67 (gu hd 5) (h := kk) (gu hd 6) (hS.sk 5 rfl) (by omega)), ?_⟩
    trivial
   ·skip
    refine ⟨fun o_ ho_ => ?_, ?_⟩
    ·skip
     obtain rfl := Option.some.inj ho_; clear ho_
     intro a w r rs0 Lr hA Bv TK hd hL hS
     obtain ⟨b0_, hv0, hr0⟩ := TK; subst hr0
     rw [hv0] at Bv
     replace hS := hS.o_9 (i := 0) (sz := 2) (n := 0) rfl rfl (by decide)
     obtain ⟨e3, rs3, hy3, hp3⟩ := hd 3 (by decide) (by decide)
     obtain ⟨hv3, hr3⟩ := hy3; subst hr3
     rw [hv3] at e3
     exact d_9 rfl (p_5 (h_6 hS rfl y_5 el_67 (c_8 (i_0 Bv rfl)) (c_8 (i_0 e3 rfl)) (i := 0) rfl (SlAt.say (n' := (l.drop kk).length) (cs' := (pairs (l.drop kk))) (SlAt.cut (hL.sk 5 rfl) (by omega) (Nat.le_refl _)) (by rw [List.length_drop]) (pairs_lo (by omega))) (l_6 _) (by simp only [maxLen, List.length_drop, List.length_take]; omega) (by first | omega | (simp only [List.length_drop, List.length_take]; omega))) fun v_ w_ h_ => ⟨_, And.intro trivial rfl, h_.f_2 (i := 0) rfl (n' := (l.drop kk).length) (xs' := (pairs (l.drop kk))) (by simp only [Nat.zero_add]) (List.nil_append _)⟩)
    trivial
   skip
   intro a75 w76 r rsf80 AHb An hrq AEn; clear AHa B
   have hrq_0 := hrq (4, 0) (by decide)
   obtain ⟨Fi, AEq⟩ := An 4 (by decide) (by decide)
   obtain ⟨XI, TH⟩ := AEq
   have AEo : Sep NoB w w76 [(row (r 4) 67 2 ((l.drop kk).length) (pairs (l.drop kk))), (row (A 3) 67 2 l.length (pairs l)), (blk b4_ 25 [(iv b.scales), vt, vm]), (blk C 25 [(iv b.scales), vt, vm]), (d_2 false vt lr lb b.tabs), (d_4 false vm lk b.macs), (sl xl 2 l.length (pairs l))] := by rw [show catR rsf80 0 8 = ([(row (r 4) 67 2 ((l.drop kk).length) (pairs (l.drop kk)))] : List Res) by (try simp only [catR, gr (An 1 (by decide) (by decide)), gr (An 2 (by decide) (by decide)), gr (An 3 (by decide) (by decide)), TH, gr (An 5 (by decide) (by decide)), gr (An 6 (by decide) (by decide)), gr (An 7 (by decide) (by decide)), hrq_0]); (try rfl)] at AEn; exact AEn
   have AHc : Fr 174 [] [(47, (r 4)), (11, (iv (kk : Int))), (9, (bptr b4_ 0)), (4, (bptr C 0)), (1, xl)] a75 := AHb.add (i_0 Fi rfl); clear AHb
   have WK := AHc.add (gs (An 7 (by decide) (by decide))); clear AHc
   clear An AEn Fi hrq hrq_0
   clear TH
   clear XI
   refine s2 WK (h_6 AEo rfl y_5 el_67 WK.e WK.e (i := 0) rfl (SlAt.say (n' := (l.take kk).length) (cs' := (pairs (l.take kk))) (SlAt.cut (AEo.sk 6 rfl) (Nat.zero_le _) (by omega)) (by rw [List.length_take, Nat.sub_zero, Nat.min_eq_left (by omega)]) (pairs_hi (by omega))) (l_6 _) (by simp only [maxLen, List.length_drop, List.length_take]; omega) (by first | omega | (simp only [List.length_drop, List.length_take]; omega))) ?_
   intro a84 v87 w86 AH5 AEj
   have AH6 := AH5.f_2 (i := 0) rfl (n' := ((l.drop kk) ++ (l.take kk)).length) (xs' := (pairs ((l.drop kk) ++ (l.take kk)))) (by simp) (by simp [pairs]); clear AH5 WK AEo a75
   refine s1 AEj (a_1 rfl AEj.e) fun a90 Fg => ?_; clear AEj a84
   refine e_6 (h_0 (b_5 (c_1 ?_)))
   have Z := order_reads hr (k := kk) (by omega); have E := Z.1; have F := Z.2; have Al := l_2 E; have TM := m_5 Al; have hrl := rot_len (l := l) (k := kk) (by omega)
   have AK := AH6.gkp (gpc 0 (gpc 2 (gpc 3 (gpc 4 (gpc 5 (gpc 6 gpn)))))); clear AH6
   rcases r_0 b l with hs | ⟨t, hs⟩
   ·skip
    have D := F.trans hs
    refine a_5 (s1 Fg (b_8 rfl k_7 (Fg.ev rfl) (AK.bk 2 rfl) (l := [(iv b.scales), vt, vm]) rfl rfl) fun a93 AEk => ?_); clear Fg a90
    refine s2 AEk (a_6 rfl m_6 (ev1 AEk.e) (g_2 b vt vm lr lb lk _ (b_1 (AK.ok 3 _ rfl)) (a_8 (AK.ok 4 _ rfl)) hth)) ?_
    rintro a95 _ w97 ⟨vt98, vm99, lr100, lb101, lk102, rfl, AGb⟩ AEl; have W2 := AK.h_1 AGb rfl; clear AGb AEk AK a93
    refine s1 AEl (a_0 rfl AEl.e) fun Aaq TQ => ?_; clear AEl a95
    refine s2 TQ (a_6 rfl m_7 (ev1 TQ.e) (d_5 l _ _ (W2.sk 7 rfl) (by omega))) ?_
    rintro Aar AjY Aje ⟨AFx, hO111⟩ Fj; have E1 := W2.f_7 AFx hO111; clear AFx hO111 TQ W2 Aaq
    refine s2 Fj (a_6 rfl m_1 (ev2 Fj.e Fj.e) (g_9 b vt98 vm99 lr100 lb101 lk102 _ (b_1 (E1.ok 1 _ rfl)) (a_8 (E1.ok 2 _ rfl)) hth l _ (SlAt.b_9 (E1.c_0 0 rfl)) (by omega) hr hs)) ?_
    rintro Aas _ Ajf ⟨rfl, AFy⟩ TS; have E3 := E1.step AFy; clear AFy Fj E1 Aar
    refine s1 TS (a_0 rfl TS.e) fun Aat TT => ?_; clear TS Aas
    refine s1 TT (b_2 rfl TT.e rfl) fun Aau TU => ?_; clear TT Aat
    refine s1 TU (b_2 rfl TU.e rfl) fun Aav TV => ?_; clear TU Aau
    refine s1 TV (a_1 rfl TV.e) fun Aaw TW => ?_; clear TV Aav
    refine s1 TW (a_1 rfl TW.e) fun Aax AE2 => ?_; clear TW Aaw
    refine n2 ?_
    have TX := AE2.as [(17, (iv (spE b l))), (16, (Value.slice none 0 0)), (10, v87), (9, (bptr b4_ 0))] rfl; clear AE2
    refine a_5 (s1 TX (b_8 rfl k_7 (TX.ev rfl) (E3.bk 4 rfl) (l := [(iv b.scales), vt, vm]) rfl rfl) fun Aay TZ => ?_); clear TX Aax
    refine s2 TZ (a_6 rfl m_6 (ev1 TZ.e) (g_2 b vt vm lr lb lk _ (b_1 (E3.ok 6 _ rfl)) (a_8 (E3.ok 7 _ rfl)) hth)) ?_
    rintro Aaz _ Ajg ⟨vt135, vm136, lr137, lb138, lk139, rfl, AGc⟩ Ta; have W3 := E3.h_1 AGc rfl; clear AGc TZ E3 Aay
    refine s1 Ta (a_0 rfl Ta.e) fun Aa0 Tb => ?_; clear Ta Aaz
    refine s2 Tb (a_6 rfl m_7 (ev1 Tb.e) (d_5 ((l.drop kk) ++ (l.take kk)) _ _ (SlAt.b_9 (W3.c_0 5 rfl)) (by omega))) ?_
    rintro Aa1 AjZ Ajh ⟨AFz, hO148⟩ Fk; have E6 := W3.f_7 AFz hO148; clear AFz hO148 Tb W3 Aa0
    refine s2 Fk (a_6 rfl m_1 (ev2 Fk.e Fk.e) (g_9 b vt135 vm136 lr137 lb138 lk139 _ (b_1 (E6.ok 1 _ rfl)) (a_8 (E6.ok 2 _ rfl)) hth ((l.drop kk) ++ (l.take kk)) _ (SlAt.b_9 (E6.c_0 0 rfl)) (by omega) E D)) ?_
    rintro Aa2 _ Aji ⟨rfl, AF0⟩ Tc; have AGM := E6.step AF0; clear AF0 Fk E6 Aa1
    refine s1 Tc (a_0 rfl Tc.e) fun Aa3 Td => ?_; clear Tc Aa2
    refine s1 Td (b_2 rfl Td.e rfl) fun Aa4 Te => ?_; clear Td Aa3
    refine s1 Te (b_2 rfl Te.e rfl) fun Aa5 Tf => ?_; clear Te Aa4
    refine s1 Tf (a_1 rfl Tf.e) fun Aa6 Tg => ?_; clear Tf Aa5
    refine s1 Tg (a_1 rfl Tg.e) fun Aa7 AE3 => ?_; clear Tg Aa6
    refine n2 ?_
    have Th := AE3.as [(19, (iv (spE b ((l.drop kk) ++ (l.take kk))))), (18, (Value.slice none 0 0)), (17, (iv (spE b l))), (16, (Value.slice none 0 0))] rfl; clear AE3
    refine a_5 (s1 Th (a_0 rfl Th.e) fun Aa8 Ti => ?_); clear Th Aa7
    refine s1 Ti (a_0 rfl Ti.e) fun Aa9 Fl => ?_; clear Ti Aa8
    refine s1 Fl (e_9 rfl Fl.e Fl.e) fun AbA Fm => ?_; clear Fl Aa9
    have AZ6 : (spE b l) = (spE b ((l.drop kk) ++ (l.take kk))) := (by rw [o_4 hr hs, o_4 E D])
    rw [decide_eq_true AZ6] at Fm
    refine s1 Fm (a_0 rfl Fm.e) fun AbB Tj => ?_; clear Fm AbA
    refine s5 Tj (a_0 rfl Tj.e) fun AbC Tk => ?_; clear Tj AbB
    refine s5 Tk (e_9 rfl Tk.e (evc _ _)) fun AbD Fn => ?_; clear Tk AbC
    have AGt : ¬ ((spE b l) = 0) := (by rw [o_4 hr hs]; decide)
    rw [decide_eq_false AGt] at Fn
    refine s5 Fn (a_0 rfl Fn.e) fun AbE Tl => ?_; clear Fn AbD
    refine s5 Tl (a_0 rfl Tl.e) fun AbF Tm => ?_; clear Tl AbE
    refine s5 Tm (e_9 rfl Tm.e (evc _ _)) fun AbG Cp => ?_; clear Tm AbF
    have AZ7 : (spE b l) = 9 := (o_4 hr hs)
    rw [decide_eq_true AZ7] at Cp
    refine s5 Cp (c_3 rfl Cp.e Cp.e) fun AbH Fo => ?_; clear Cp AbG
    refine s1 Fo (a_7 rfl Fo.e Fo.e) fun AbI Tn => ?_; clear Fo AbH
    refine s1 Tn (a_0 rfl Tn.e) fun AbJ To => ?_; clear Tn AbI
    refine s5 To (a_0 rfl To.e) fun AbK Tp => ?_; clear To AbJ
    refine s5 Tp (l_5 rfl Tp.e (evc _ _)) fun AbL Fp => ?_; clear Tp AbK
    rw [decide_eq_false AGt] at Fp
    refine s5 Fp (a_0 rfl Fp.e) fun AbM AE4 => ?_; clear Fp AbL
    refine s3 AE4 fun AbN AE5 => ?_; clear AE4 AbM
    refine s3 AE5 fun AbO AE6 => ?_; clear AE5 AbN
    refine s3 AE6 fun AbP AE7 => ?_; clear AE6 AbO
    refine s3 AE7 fun AbQ AE8 => ?_; clear AE7 AbP
    refine s3 AE8 fun AbR AE9 => ?_; clear AE8 AbQ
    refine s3 AE9 fun AbS AFA => ?_; clear AE9 AbR
    refine s4 AFA fun AbT AFB => ?_; clear AFA AbS
    refine s4 AFB fun AbU AFC => ?_; clear AFB AbT
    refine s4 AFC fun AbV AFD => ?_; clear AFC AbU
    refine s4 AFD fun AbW AFE => ?_; clear AFD AbV
    refine s4 AFE fun AbX AFF => ?_; clear AFE AbW
    refine s3 AFF fun AbY Tq => ?_; clear AFF AbX
    refine s5 Tq (a_7 rfl Tq.e (evc _ _)) fun AbZ Fq => ?_; clear Tq AbY
    refine s1 Fq (a_7 rfl Fq.e Fq.e) fun Aba Tr => ?_; clear Fq AbZ
    refine s1 Tr (a_0 rfl Tr.e) fun Abb AFG => ?_; clear Tr Aba
    refine s6 AFG (a_6 rfl v_5 ev0 (j_2 _)) ?_
    rintro Abc _ Ajj ⟨rfl, AF1⟩ Fs; have AZ1 := AGM.step AF1; clear AF1 AFG AGM Abb
    refine s1 Fs (a_7 rfl Fs.e Fs.e) fun Abd Ts => ?_; clear Fs Abc
    refine s1 Ts (a_1 rfl Ts.e) fun AjN AFH => ?_; clear Ts Abd
    exact n1 (c_5 (b_0 AFH (.inl rfl) (a_2 AFH rfl (.tmp rfl)) (⟨rfl, AZ1.ext⟩)))
   skip
   have D := F.trans hs; have htln := ab_1 hb hl hs
   refine a_5 (s1 Fg (b_8 rfl k_7 (Fg.ev rfl) (AK.bk 2 rfl) (l := [(iv b.scales), vt, vm]) rfl rfl) fun Abe Tt => ?_); clear Fg a90
   refine s2 Tt (a_6 rfl m_6 (ev1 Tt.e) (g_2 b vt vm lr lb lk _ (b_1 (AK.ok 3 _ rfl)) (a_8 (AK.ok 4 _ rfl)) hth)) ?_
   rintro Abf _ Ajk ⟨vt244, vm245, lr246, lb247, lk248, rfl, AGd⟩ Tu; have W4 := AK.h_1 AGd rfl; clear AGd Tt AK Abe
   refine s1 Tu (a_0 rfl Tu.e) fun Abg Tv => ?_; clear Tu Abf
   refine s2 Tv (a_6 rfl m_7 (ev1 Tv.e) (d_5 l _ _ (W4.sk 7 rfl) (by omega))) ?_
   rintro Abh AIY Ajl ⟨AF2, hO257⟩ Ft; have FG := W4.f_7 AF2 hO257; clear AF2 hO257 Tv W4 Abg
   refine s2 Ft (a_6 rfl m_1 (ev2 Ft.e Ft.e) (j_1 b vt244 vm245 lr246 lb247 lk248 _ (b_1 (FG.ok 1 _ rfl)) (a_8 (FG.ok 2 _ rfl)) hth l _ (SlAt.b_9 (FG.c_0 0 rfl)) (by omega) t hr hs)) ?_
   rintro Abi _ Afo ⟨XJ, rfl, AGe⟩ Tw
   have FI : Sep NoB w Afo [(row XJ 30 2 t.length (pairs t)), (row AIY 98 2 l.length (pairs l)), (d_2 true vt244 lr246 lb247 b.tabs), (d_4 true vm245 lk248 b.macs), (row v87 67 2 (((l.drop kk) ++ (l.take kk)).length) (pairs ((l.drop kk) ++ (l.take kk)))), (blk b4_ 25 [(iv b.scales), vt, vm]), (blk C 25 [(iv b.scales), vt, vm]), (d_2 false vt lr lb b.tabs), (d_4 false vm lk b.macs), (sl xl 2 l.length (pairs l))] := FG.h_1 AGe rfl; clear AGe Ft FG Abh
   refine s1 Tw (a_0 rfl Tw.e) fun Abj Tx => ?_; clear Tw Abi
   refine s1 Tx (b_2 rfl Tx.e rfl) fun Abk Ty => ?_; clear Tx Abj
   refine s1 Ty (b_2 rfl Ty.e rfl) fun Abl Tz => ?_; clear Ty Abk
   refine s1 Tz (a_1 rfl Tz.e) fun Abm T0 => ?_; clear Tz Abl
   refine s1 T0 (a_1 rfl T0.e) fun Abn AFI => ?_; clear T0 Abm
   refine n2 ?_
   have T1 := AFI.as [(17, (iv 0)), (16, XJ), (10, v87), (9, (bptr b4_ 0))] rfl; clear AFI
   refine a_5 (s1 T1 (b_8 rfl k_7 (T1.ev rfl) (FI.bk 5 rfl) (l := [(iv b.scales), vt, vm]) rfl rfl) fun Abo T2 => ?_); clear T1 Abn
   refine s2 T2 (a_6 rfl m_6 (ev1 T2.e) (g_2 b vt vm lr lb lk _ (b_1 (FI.ok 7 _ rfl)) (a_8 (FI.ok 8 _ rfl)) hth)) ?_
   rintro Abp _ Ajm ⟨vt282, vm283, lr284, lb285, lk286, rfl, AGf⟩ T3; have W5 := FI.h_1 AGf rfl; clear AGf T2 FI Abo
   refine s1 T3 (a_0 rfl T3.e) fun Abq T4 => ?_; clear T3 Abp
   refine s2 T4 (a_6 rfl m_7 (ev1 T4.e) (d_5 ((l.drop kk) ++ (l.take kk)) _ _ (SlAt.b_9 (W5.c_0 6 rfl)) (by omega))) ?_
   rintro Abr Afm Ajn ⟨AF3, hO295⟩ Fu; have FL := W5.f_7 AF3 hO295; clear AF3 hO295 T4 W5 Abq
   refine s2 Fu (a_6 rfl m_1 (ev2 Fu.e Fu.e) (j_1 b vt282 vm283 lr284 lb285 lk286 _ (b_1 (FL.ok 1 _ rfl)) (a_8 (FL.ok 2 _ rfl)) hth ((l.drop kk) ++ (l.take kk)) _ (SlAt.b_9 (FL.c_0 0 rfl)) (by omega) t E D)) ?_
   rintro Abs _ Afp ⟨AIW, rfl, AGg⟩ T5
   have Gb : Sep NoB w Afp [(row AIW 30 2 t.length (pairs t)), (row Afm 98 2 (((l.drop kk) ++ (l.take kk)).length) (pairs ((l.drop kk) ++ (l.take kk)))), (d_2 true vt282 lr284 lb285 b.tabs), (d_4 true vm283 lk286 b.macs), (row XJ 30 2 t.length (pairs t)), (row AIY 98 2 l.length (pairs l)), (d_2 true vt244 lr246 lb247 b.tabs), (d_4 true vm245 lk248 b.macs), (row v87 67 2 (((l.drop kk) ++ (l.take kk)).length) (pairs ((l.drop kk) ++ (l.take kk)))), (blk b4_ 25 [(iv b.scales), vt, vm]), (blk C 25 [(iv b.scales), vt, vm]), (d_2 false vt lr lb b.tabs), (d_4 false vm lk b.macs), (sl xl 2 l.length (pairs l))] := FL.h_1 AGg rfl; clear AGg Fu FL Abr
   refine s1 T5 (a_0 rfl T5.e) fun Abt T6 => ?_; clear T5 Abs
   refine s1 T6 (b_2 rfl T6.e rfl) fun Abu T7 => ?_; clear T6 Abt
   refine s1 T7 (b_2 rfl T7.e rfl) fun Abv T8 => ?_; clear T7 Abu
   refine s1 T8 (a_1 rfl T8.e) fun Abw T9 => ?_; clear T8 Abv
   refine s1 T9 (a_1 rfl T9.e) fun Abx AFJ => ?_; clear T9 Abw
   refine n2 ?_
   have UA := AFJ.as [(19, (iv 0)), (18, AIW), (17, (iv 0)), (16, XJ)] rfl; clear AFJ
   refine a_5 (s1 UA (a_0 rfl UA.e) fun Aby UB => ?_); clear UA Abx
   refine s1 UB (a_0 rfl UB.e) fun Abz Fv => ?_; clear UB Aby
   refine s1 Fv (e_9 rfl Fv.e Fv.e) fun Ab0 UD => ?_; clear Fv Abz
   refine s1 UD (a_0 rfl UD.e) fun Ab1 UE => ?_; clear UD Ab0
   refine s5 UE (a_0 rfl UE.e) fun Ab2 UF => ?_; clear UE Ab1
   refine s5 UF (e_9 rfl UF.e (evc _ _)) fun Ab3 UG => ?_; clear UF Ab2
   refine s5 UG (a_0 rfl UG.e) fun Ab4 AFK => ?_; clear UG Ab3
   refine s3 AFK fun Ab5 AFL => ?_; clear AFK Ab4
   refine s3 AFL fun Ab6 UH => ?_; clear AFL Ab5
   refine s5 UH (a_7 rfl UH.e (evc _ _)) fun Ab7 Fw => ?_; clear UH Ab6
   refine s1 Fw (a_7 rfl Fw.e Fw.e) fun Ab8 UI => ?_; clear Fw Ab7
   refine s1 UI (a_0 rfl UI.e) fun Ab9 UJ => ?_; clear UI Ab8
   refine s5 UJ (a_0 rfl UJ.e) fun AcA UK => ?_; clear UJ Ab9
   refine s5 UK (l_5 rfl UK.e (evc _ _)) fun AcB UL => ?_; clear UK AcA
   refine s5 UL (a_0 rfl UL.e) fun AcC UM => ?_; clear UL AcB
   refine s5 UM (a_0 rfl UM.e) fun AcD UN => ?_; clear UM AcC
   refine s5 UN (a_0 rfl UN.e) fun AcE UO => ?_; clear UN AcD
   refine s5 UO (a_0 rfl UO.e) fun AcF UP => ?_; clear UO AcE
   refine s5 UP (a_0 rfl UP.e) fun AcG Bw => ?_; clear UP AcF
   refine s6 Bw (a_6 rfl w_2 (ev4 Bw.e Bw.e Bw.e Bw.e) (g_0 t _ 0 t _ 0 _ (SlAt.b_9 (Gb.c_0 4 rfl)) (SlAt.b_9 (Gb.c_0 0 rfl)) (by omega))) ?_
   rintro AcH _ Ajo ⟨rfl, AF4⟩ Fx; have Gc := Gb.step AF4; clear AF4 Bw Gb AcG
   have AGu : (narB t 0 t 0) = true := (q_7 hb hl hs)
   rw [AGu] at Fx
   refine s5 Fx (a_0 rfl Fx.e) fun AcI UQ => ?_; clear Fx AcH
   refine s5 UQ (a_0 rfl UQ.e) fun AcJ UR => ?_; clear UQ AcI
   refine s5 UR (a_0 rfl UR.e) fun AcK US => ?_; clear UR AcJ
   refine s5 US (a_0 rfl US.e) fun AcL UT => ?_; clear US AcK
   refine s5 UT (a_0 rfl UT.e) fun AcM Bx => ?_; clear UT AcL
   refine s6 Bx (a_6 rfl w_2 (ev4 Bx.e Bx.e Bx.e Bx.e) (g_0 t _ 0 t _ 0 _ (SlAt.b_9 (Gc.c_0 0 rfl)) (SlAt.b_9 (Gc.c_0 4 rfl)) (by omega))) ?_
   rintro AcN _ Ajp ⟨rfl, AF5⟩ EY; have AGN := Gc.step AF5; clear AF5 Bx Gc AcM
   rw [AGu] at EY
   refine s5 EY (a_7 rfl EY.e EY.e) fun AcO Fy => ?_; clear EY AcN
   refine s5 Fy (c_3 rfl Fy.e Fy.e) fun AcP Fz => ?_; clear Fy AcO
   refine s1 Fz (a_7 rfl Fz.e Fz.e) fun AcQ UU => ?_; clear Fz AcP
   refine s1 UU (a_0 rfl UU.e) fun AcR AFM => ?_; clear UU AcQ
   refine s6 AFM (a_6 rfl v_5 ev0 (j_2 _)) ?_
   rintro AcS _ Ajq ⟨rfl, AF6⟩ F0; have AZ2 := AGN.step AF6; clear AF6 AFM AGN AcR
   refine s1 F0 (a_7 rfl F0.e F0.e) fun AcT UV => ?_; clear F0 AcS
   refine s1 UV (a_1 rfl UV.e) fun AjO AFN => ?_; clear UV AcT
   exact n1 (c_5 (b_0 AFN (.inl rfl) (a_2 AFN rfl (.tmp rfl)) (⟨rfl, AZ2.ext⟩)))
  skip
  rw [decide_eq_false AH9] at A5
  refine c_2 A5 rfl (c_1 ?_)
  have UW := A5.as [(10, (A 3)), (9, (bptr b4_ 0)), (4, (bptr C 0)), (1, xl), (2, (Value.int .u8 wa)), (3, (Value.int .u8 wb))] rfl; clear A5
  refine a_5 (s1 UW (a_0 rfl UW.e) fun AcU UX => ?_); clear UW a56
  refine s1 UX (ab_0 rfl UX.e (evc _ _) (by omega)) fun AcV UY => ?_; clear UX AcU
  refine s1 UY (e_9 rfl UY.e (evc _ _)) fun AcW UZ => ?_; clear UY AcV
  refine s1 UZ (a_0 rfl UZ.e) fun AHM Am => ?_; clear UZ AcW
  by_cases AGp : ((wa).tmod 3) = 1
  ·skip
   rw [decide_eq_true AGp] at Am
   refine s5 Am (a_3 rfl m_9 Am.e) fun AcX Ua => ?_; clear Am AHM
   refine s5 Ua (a_4 rfl x_4 Ua.e (B.bk 2 rfl) rfl) fun AcY Uc => ?_; clear Ua AcX
   refine s5 Uc (d_3 rfl t_9 Uc.e (b_1 (B.ok 3 _ rfl)).tabs) fun AcZ Ud => ?_; clear Uc AcY
   refine s5 Ud (k_0 rfl Ud.e (evc _ _)) fun Aca F1 => ?_; clear Ud AcZ
   refine s1 F1 (a_7 rfl F1.e F1.e) fun Acb Ue => ?_; clear F1 Aca
   refine s1 Ue (a_1 rfl Ue.e) fun AHN AH => ?_; clear Ue Acb
   refine n1 ?_
   by_cases AGq : 0 < (b.tabs.length : Int)
   ·skip
    rw [decide_eq_true AGq] at AH
    refine c_7 AH rfl (c_1 ?_)
    have Uf := AH.as [(10, (A 3)), (9, (bptr b4_ 0)), (4, (bptr C 0)), (1, xl), (3, (Value.int .u8 wb))] rfl; clear AH
    refine a_5 (s1 Uf (a_0 rfl Uf.e) fun Acc Ug => ?_); clear Uf AHN
    refine s1 Ug (op_conv un_5 un_3 rfl Ug.e (v := wb) (wrap_i64 (by omega) (by omega))) fun Acd Uh => ?_; clear Ug Acc
    refine s1 Uh (a_3 rfl m_9 Uh.e) fun Ace Ui => ?_; clear Uh Acd
    refine s1 Ui (a_4 rfl x_4 Ui.e (B.bk 2 rfl) rfl) fun Acf Uj => ?_; clear Ui Ace
    refine s1 Uj (d_3 rfl t_9 Uj.e (b_1 (B.ok 3 _ rfl)).tabs) fun Acg F2 => ?_; clear Uj Acf
    refine s1 F2 (ab_0 rfl F2.e F2.e (by omega)) fun Ach Uk => ?_; clear F2 Acg
    refine s1 Uk (a_1 rfl Uk.e) fun AjP AFO => ?_; clear Uk Ach
    refine n1 ?_
    have Ul := AFO.as [(12, (iv ((wb).tmod (b.tabs.length : Int)))), (10, (A 3)), (9, (bptr b4_ 0)), (4, (bptr C 0)), (1, xl)] rfl; clear AFO
    obtain ⟨kk, hz_kk, hb_kk⟩ := rem_nat (n := wb) (m := b.tabs.length) hB_.1 (by omega); rw [hz_kk] at Ul
    have AFP := Ul.as [(12, (iv (kk : Int))), (10, (A 3)), (9, (bptr b4_ 0)), (4, (bptr C 0)), (1, xl)] rfl; clear Ul
    refine c_drawCC mixed AFP B 10 [(5, 0)] [[], [], [1], [], [2, 3], [0, 4], [], [6], [], [7, 8]] [(fun (L : Nat → Value) (v_ : Value) (rs_ : List Res) => ∃ (b0_ : Nat), v_ = (Value.slice (some ⟨b0_, 0, none⟩) 0 0) ∧ rs_ = [(blk b0_ 46 [])]), (yw (bptr C 1)), (yw vt), (yw (iv (kk : Int))), (yw (slcut vt kk b.tabs.length 5)), (fun (L : Nat → Value) (v_ : Value) (rs_ : List Res) => True ∧ rs_ = [(row v_ 46 5 ((b.tabs.drop kk).length) (i_5 (shV kk lr) (shV kk lb) (b.tabs.drop kk)))]), (yw (bptr C 1)), (yw vt), (yw (iv (kk : Int))), (yw (slcut vt 0 kk 5))] (by decide +kernel) (by decide +kernel) (by decide +kernel) (by decide +kernel) rfl rfl ⟨(fun _ _ _ _ _ h_ => h_), dw, dw, dw, dw, (fun _ _ _ _ _ h_ => h_), dw, dw, dw, dw, trivial⟩ (by decide +kernel) ?_ ?_ ?_
    ·skip
     refine ⟨fun hj_ a w L hA hS hd => d_9 rfl (vblz rfl pv0 t_9 ac_3 ze_46 bs_46_0_ (fun b_ => ⟨b_, rfl, rfl⟩)), ?_⟩
     refine ⟨fun hj_ a w L hA hS hd => gv1 (a_3 rfl m_9 hA.e), ?_⟩
     refine ⟨fun hj_ a w L hA hS hd => gv1 (a_4 rfl x_4 (gu hd 1) (hS.bk 2 rfl) rfl), ?_⟩
     refine ⟨fun hj_ a w L hA hS hd => gv1 (a_0 rfl hA.e), ?_⟩
     refine ⟨fun hj_ a w L hA hS hd => gv1 (y_1 rfl t_9 ac_3 (gu hd 2) (l := kk) (gu hd 3) (b_1 (hS.ok 3 _ rfl)).tabs (by omega)), ?_⟩
     refine ⟨fun hj_ => absurd hj_ (by decide), ?_⟩
     refine ⟨fun hj_ a w L hA hS hd => gv1 (a_3 rfl m_9 hA.e), ?_⟩
     refine ⟨fun hj_ a w L hA hS hd => gv1 (a_4 rfl x_4 (gu hd 6) (hS.bk 2 rfl) rfl), ?_⟩
     refine ⟨fun hj_ a w L hA hS hd => gv1 (a_0 rfl hA.e), ?_⟩
     refine ⟨fun hj_ a w L hA hS hd => gv1 (op_sliceHi rfl t_9 ac_3 (gu hd 7) (h := kk) (gu hd 8) (b_1 (hS.ok 3 _ rfl)).tabs (by omega)), ?_⟩
     trivial
    ·skip
     refine ⟨fun o_ ho_ => ?_, ?_⟩
     ·skip
      obtain rfl := Option.some.inj ho_; clear ho_
      intro a w L rs0 Lr hA Bv TK hd hL hS
      obtain ⟨b0_, hv0, hr0⟩ := TK; subst hr0
      rw [hv0] at Bv
      replace hS := hS.o_9 (i := 0) (sz := 5) (n := 0) rfl rfl (by decide)
      obtain ⟨e4, rs4, hy4, hp4⟩ := hd 4 (by decide) (by decide)
      obtain ⟨hv4, hr4⟩ := hy4; subst hr4
      rw [hv4] at e4
      exact d_9 rfl (p_5 (h_6 hS rfl t_9 el_46 (c_8 (i_0 Bv rfl)) (c_8 (i_0 e4 rfl)) (i := 0) rfl (SlAt.say (n' := (b.tabs.drop kk).length) (cs' := (i_5 (shV kk lr) (shV kk lb) (b.tabs.drop kk))) (SlAt.cut (b_1 (hL.ok 3 _ rfl)).tabs (by omega) (Nat.le_refl _)) (by rw [List.length_drop]) (tabs_cutLo (by omega))) (tabs_oneS kk (b_1 (hL.ok 3 _ rfl))) (by simp only [maxLen, List.length_drop, List.length_take]; omega) (by first | omega | (simp only [List.length_drop, List.length_take]; omega))) fun v_ w_ h_ => ⟨_, And.intro trivial rfl, h_.f_2 (i := 0) rfl (n' := (b.tabs.drop kk).length) (xs' := (i_5 (shV kk lr) (shV kk lb) (b.tabs.drop kk))) (by simp only [Nat.zero_add]) (List.nil_append _)⟩)
     trivial
    skip
    intro AHO Afq L rsf437 AFQ o hrq W7; clear AFP B
    have hrq_0 := hrq (5, 0) (by decide)
    obtain ⟨TJ, AEr⟩ := o 5 (by decide) (by decide)
    obtain ⟨AEp, TI⟩ := AEr
    have Gd : Sep NoB w Afq [(row (L 5) 46 5 ((b.tabs.drop kk).length) (i_5 (shV kk lr) (shV kk lb) (b.tabs.drop kk))), (row (A 3) 67 2 l.length (pairs l)), (blk b4_ 25 [(iv b.scales), vt, vm]), (blk C 25 [(iv b.scales), vt, vm]), (d_2 false vt lr lb b.tabs), (d_4 false vm lk b.macs), (sl xl 2 l.length (pairs l))] := by rw [show catR rsf437 0 10 = ([(row (L 5) 46 5 ((b.tabs.drop kk).length) (i_5 (shV kk lr) (shV kk lb) (b.tabs.drop kk)))] : List Res) by (try simp only [catR, gr (o 1 (by decide) (by decide)), gr (o 2 (by decide) (by decide)), gr (o 3 (by decide) (by decide)), gr (o 4 (by decide) (by decide)), TI, gr (o 6 (by decide) (by decide)), gr (o 7 (by decide) (by decide)), gr (o 8 (by decide) (by decide)), gr (o 9 (by decide) (by decide)), hrq_0]); (try rfl)] at W7; exact W7
    have AFR : Fr 174 [] [(73, (L 5)), (12, (iv (kk : Int))), (10, (A 3)), (9, (bptr b4_ 0)), (4, (bptr C 0)), (1, xl)] AHO := AFQ.add (i_0 TJ rfl); clear AFQ
    have F3 := AFR.add (gs (o 9 (by decide) (by decide))); clear AFR
    clear o W7 TJ hrq hrq_0
    clear TI
    clear AEp
    refine s2 F3 (h_6 Gd rfl t_9 el_46 F3.e F3.e (i := 0) rfl (SlAt.say (n' := (b.tabs.take kk).length) (cs' := (i_5 lr lb (b.tabs.take kk))) (SlAt.cut (b_1 (Gd.ok 4 _ rfl)).tabs (Nat.zero_le _) (by omega)) (by rw [List.length_take, Nat.sub_zero, Nat.min_eq_left (by omega)]) (tabs_cutHi (by omega))) (tabs_oneT kk (b_1 (Gd.ok 4 _ rfl))) (by simp only [maxLen, List.length_drop, List.length_take]; omega) (by first | omega | (simp only [List.length_drop, List.length_take]; omega))) ?_
    intro Aci q Ajr AGO Um
    have Ge := AGO.f_2 (i := 0) rfl (n' := ((b.tabs.drop kk) ++ (b.tabs.take kk)).length) (xs' := (i_5 (apV (b.tabs.drop kk).length (shV kk lr) lr) (apV (b.tabs.drop kk).length (shV kk lb) lb) ((b.tabs.drop kk) ++ (b.tabs.take kk)))) (by rw [List.length_append]) tabs_append; clear AGO F3 Gd AHO
    refine s1 Um (a_3 rfl m_9 Um.e) fun AHP F4 => ?_; clear Um Aci
    refine s7 F4 (c_4 Ge rfl x_4 F4.e F4.e (i := 2) rfl (vs := [q]) (k_9 (SlAt.isSl (SlAt.b_9 (Ge.c_0 0 rfl)))) rfl (i_1 (SlAt.one (SlAt.b_9 (Ge.c_0 0 rfl))) q_6) (Nat.le_of_ble_eq_true rfl)) ?_
    intro _ AIb AGP By; clear F4
    have W8 : Sep NoB w AIb [(row q 46 5 (((b.tabs.drop kk) ++ (b.tabs.take kk)).length) (i_5 (apV (b.tabs.drop kk).length (shV kk lr) lr) (apV (b.tabs.drop kk).length (shV kk lb) lb) ((b.tabs.drop kk) ++ (b.tabs.take kk)))), (row (A 3) 67 2 l.length (pairs l)), (blk b4_ 25 [(iv b.scales), q, vm]), (blk C 25 [(iv b.scales), vt, vm]), (d_2 false vt lr lb b.tabs), (d_4 false vm lk b.macs), (sl xl 2 l.length (pairs l))] := AGP; clear AGP Ge
    refine e_6 (h_0 (b_5 (c_1 ?_)))
    have AGL := rot_ro W8.tail (i := 3) rfl (k := kk) (by omega)
    have u : Sep NoB w AIb [(d_2 false q (apV (b.tabs.drop kk).length (shV kk lr) lr) (apV (b.tabs.drop kk).length (shV kk lb) lb) ((rotT b kk).tabs)), (row (A 3) 67 2 l.length (pairs l)), (blk b4_ 25 [(iv b.scales), q, vm]), (blk C 25 [(iv b.scales), vt, vm]), (d_2 false vt lr lb b.tabs), (d_4 false vm lk b.macs), (sl xl 2 l.length (pairs l))] := sep_tabs_ro W8 AGL.1 AGL.2; clear W8
    have Z := order_tabs hr (k := kk) (by omega); have E := Z.1; have F := Z.2; have Al := l_2 E; have TM := m_5 Al; have hth2 := rotT_thin hth (k := kk) (by omega)
    rcases r_0 b l with hs | ⟨t, hs⟩
    ·skip
     have D := F.trans hs
     refine a_5 (s1 By (b_8 rfl k_7 (By.ev rfl) (u.bk 3 rfl) (l := [(iv b.scales), vt, vm]) rfl rfl) fun Acj Un => ?_); clear By AHP
     refine s2 Un (a_6 rfl m_6 (ev1 Un.e) (g_2 b vt vm lr lb lk _ (b_1 (u.ok 4 _ rfl)) (a_8 (u.ok 5 _ rfl)) hth)) ?_
     rintro Ack _ Ajs ⟨vt460, vm461, lr462, lb463, lk464, rfl, AGh⟩ Uo; have W9 := u.h_1 AGh rfl; clear AGh Un u Acj
     refine s1 Uo (a_0 rfl Uo.e) fun Acl Up => ?_; clear Uo Ack
     refine s2 Up (a_6 rfl m_7 (ev1 Up.e) (d_5 l _ _ (W9.sk 8 rfl) (by omega))) ?_
     rintro Acm Aja Ajt ⟨AF7, hO473⟩ F5; have FX := W9.f_7 AF7 hO473; clear AF7 hO473 Up W9 Acl
     refine s2 F5 (a_6 rfl m_1 (ev2 F5.e F5.e) (g_9 b vt460 vm461 lr462 lb463 lk464 _ (b_1 (FX.ok 1 _ rfl)) (a_8 (FX.ok 2 _ rfl)) hth l _ (SlAt.b_9 (FX.c_0 0 rfl)) (by omega) hr hs)) ?_
     rintro Acn _ Aju ⟨rfl, AF8⟩ Uq; have FY := FX.step AF8; clear AF8 F5 FX Acm
     refine s1 Uq (a_0 rfl Uq.e) fun Aco Ur => ?_; clear Uq Acn
     refine s1 Ur (b_2 rfl Ur.e rfl) fun Acp Us => ?_; clear Ur Aco
     refine s1 Us (b_2 rfl Us.e rfl) fun Acq Ut => ?_; clear Us Acp
     refine s1 Ut (a_1 rfl Ut.e) fun Acr Uu => ?_; clear Ut Acq
     refine s1 Uu (a_1 rfl Uu.e) fun Acs AFS => ?_; clear Uu Acr
     refine n2 ?_
     have Uv := AFS.as [(17, (iv (spE b l))), (16, (Value.slice none 0 0)), (10, (A 3)), (9, (bptr b4_ 0))] rfl; clear AFS
     refine a_5 (s1 Uv (b_8 rfl k_7 (Uv.ev rfl) (FY.bk 5 rfl) (l := [(iv b.scales), q, vm]) rfl rfl) fun Act Uw => ?_); clear Uv Acs
     refine s2 Uw (a_6 rfl m_6 (ev1 Uw.e) (g_2 (rotT b kk) q vm (apV (b.tabs.drop kk).length (shV kk lr) lr) (apV (b.tabs.drop kk).length (shV kk lb) lb) lk _ (b_1 (FY.ok 3 _ rfl)) (a_8 (FY.ok 8 _ rfl)) hth2)) ?_
     rintro Acu _ Ajv ⟨vt497, vm498, lr499, lb500, lk501, rfl, AGi⟩ Ux; have XA := FY.h_1 AGi rfl; clear AGi Uw FY Act
     refine s1 Ux (a_0 rfl Ux.e) fun Acv Uy => ?_; clear Ux Acu
     refine s2 Uy (a_6 rfl m_7 (ev1 Uy.e) (d_5 l _ _ (SlAt.b_9 (XA.c_0 6 rfl)) (by omega))) ?_
     rintro Acw Ajb Ajw ⟨AF9, hO510⟩ F6; have FZ := XA.f_7 AF9 hO510; clear AF9 hO510 Uy XA Acv
     refine s2 F6 (a_6 rfl m_1 (ev2 F6.e F6.e) (g_9 (rotT b kk) vt497 vm498 lr499 lb500 lk501 _ (b_1 (FZ.ok 1 _ rfl)) (a_8 (FZ.ok 2 _ rfl)) hth2 l _ (SlAt.b_9 (FZ.c_0 0 rfl)) (by omega) E D)) ?_
     rintro Acx _ Ajx ⟨rfl, AGA⟩ Uz; have AGQ := FZ.step AGA; clear AGA F6 FZ Acw
     refine s1 Uz (a_0 rfl Uz.e) fun Acy U0 => ?_; clear Uz Acx
     refine s1 U0 (b_2 rfl U0.e rfl) fun Acz U1 => ?_; clear U0 Acy
     refine s1 U1 (b_2 rfl U1.e rfl) fun Ac0 U2 => ?_; clear U1 Acz
     refine s1 U2 (a_1 rfl U2.e) fun Ac1 U3 => ?_; clear U2 Ac0
     refine s1 U3 (a_1 rfl U3.e) fun Ac2 AFT => ?_; clear U3 Ac1
     refine n2 ?_
     have U4 := AFT.as [(19, (iv (spE (rotT b kk) l))), (18, (Value.slice none 0 0)), (17, (iv (spE b l))), (16, (Value.slice none 0 0))] rfl; clear AFT
     refine a_5 (s1 U4 (a_0 rfl U4.e) fun Ac3 U6 => ?_); clear U4 Ac2
     refine s1 U6 (a_0 rfl U6.e) fun Ac4 F7 => ?_; clear U6 Ac3
     refine s1 F7 (e_9 rfl F7.e F7.e) fun Ac5 F8 => ?_; clear F7 Ac4
     have AZ8 : (spE b l) = (spE (rotT b kk) l) := (by rw [o_4 hr hs, o_4 E D])
     rw [decide_eq_true AZ8] at F8
     refine s1 F8 (a_0 rfl F8.e) fun Ac6 U7 => ?_; clear F8 Ac5
     refine s5 U7 (a_0 rfl U7.e) fun Ac7 U8 => ?_; clear U7 Ac6
     refine s5 U8 (e_9 rfl U8.e (evc _ _)) fun Ac8 F9 => ?_; clear U8 Ac7
     have AGv : ¬ ((spE b l) = 0) := (by rw [o_4 hr hs]; decide)
     rw [decide_eq_false AGv] at F9
     refine s5 F9 (a_0 rfl F9.e) fun Ac9 U9 => ?_; clear F9 Ac8
     refine s5 U9 (a_0 rfl U9.e) fun AdA VA => ?_; clear U9 Ac9
     refine s5 VA (e_9 rfl VA.e (evc _ _)) fun AdB Ex => ?_; clear VA AdA
     have AZ9 : (spE b l) = 9 := (o_4 hr hs)
     rw [decide_eq_true AZ9] at Ex
     refine s5 Ex (c_3 rfl Ex.e Ex.e) fun AdC GA => ?_; clear Ex AdB
     refine s1 GA (a_7 rfl GA.e GA.e) fun AdD VB => ?_; clear GA AdC
     refine s1 VB (a_0 rfl VB.e) fun AdE VC => ?_; clear VB AdD
     refine s5 VC (a_0 rfl VC.e) fun AdF VD => ?_; clear VC AdE
     refine s5 VD (l_5 rfl VD.e (evc _ _)) fun AdG GB => ?_; clear VD AdF
     rw [decide_eq_false AGv] at GB
     refine s5 GB (a_0 rfl GB.e) fun AdH AFU => ?_; clear GB AdG
     refine s3 AFU fun AdI AFV => ?_; clear AFU AdH
     refine s3 AFV fun AdJ AFW => ?_; clear AFV AdI
     refine s3 AFW fun AdK AFX => ?_; clear AFW AdJ
     refine s3 AFX fun AdL AFY => ?_; clear AFX AdK
     refine s3 AFY fun AdM AFZ => ?_; clear AFY AdL
     refine s3 AFZ fun AdN AFa => ?_; clear AFZ AdM
     refine s4 AFa fun AdO AFb => ?_; clear AFa AdN
     refine s4 AFb fun AdP AFc => ?_; clear AFb AdO
     refine s4 AFc fun AdQ AFd => ?_; clear AFc AdP
     refine s4 AFd fun AdR AFe => ?_; clear AFd AdQ
     refine s4 AFe fun AdS AFf => ?_; clear AFe AdR
     refine s3 AFf fun AdT VE => ?_; clear AFf AdS
     refine s5 VE (a_7 rfl VE.e (evc _ _)) fun AdU GC => ?_; clear VE AdT
     refine s1 GC (a_7 rfl GC.e GC.e) fun AdV VF => ?_; clear GC AdU
     refine s1 VF (a_0 rfl VF.e) fun AdW AFg => ?_; clear VF AdV
     refine s6 AFg (a_6 rfl v_5 ev0 (j_2 _)) ?_
     rintro AdX _ Ajy ⟨rfl, AGB⟩ GD; have AZ3 := AGQ.step AGB; clear AGB AFg AGQ AdW
     refine s1 GD (a_7 rfl GD.e GD.e) fun AdY VH => ?_; clear GD AdX
     refine s1 VH (a_1 rfl VH.e) fun AjQ AFh => ?_; clear VH AdY
     exact n1 (c_5 (b_0 AFh (.inl rfl) (a_2 AFh rfl (.tmp rfl)) (⟨rfl, AZ3.ext⟩)))
    skip
    have D := F.trans hs; have htln := ab_1 hb hl hs
    refine a_5 (s1 By (b_8 rfl k_7 (By.ev rfl) (u.bk 3 rfl) (l := [(iv b.scales), vt, vm]) rfl rfl) fun AdZ VI => ?_); clear By AHP
    refine s2 VI (a_6 rfl m_6 (ev1 VI.e) (g_2 b vt vm lr lb lk _ (b_1 (u.ok 4 _ rfl)) (a_8 (u.ok 5 _ rfl)) hth)) ?_
    rintro Ada _ Ajz ⟨vt606, vm607, lr608, lb609, lk610, rfl, AGj⟩ VJ; have XB := u.h_1 AGj rfl; clear AGj VI u AdZ
    refine s1 VJ (a_0 rfl VJ.e) fun Adb VK => ?_; clear VJ Ada
    refine s2 VK (a_6 rfl m_7 (ev1 VK.e) (d_5 l _ _ (XB.sk 8 rfl) (by omega))) ?_
    rintro Adc AIZ Aj0 ⟨AGC, hO619⟩ GE; have Fa := XB.f_7 AGC hO619; clear AGC hO619 VK XB Adb
    refine s2 GE (a_6 rfl m_1 (ev2 GE.e GE.e) (j_1 b vt606 vm607 lr608 lb609 lk610 _ (b_1 (Fa.ok 1 _ rfl)) (a_8 (Fa.ok 2 _ rfl)) hth l _ (SlAt.b_9 (Fa.c_0 0 rfl)) (by omega) t hr hs)) ?_
    rintro Add _ Afr ⟨XK, rfl, AGk⟩ VL
    have Fb : Sep NoB w Afr [(row XK 30 2 t.length (pairs t)), (row AIZ 98 2 l.length (pairs l)), (d_2 true vt606 lr608 lb609 b.tabs), (d_4 true vm607 lk610 b.macs), (d_2 false q (apV (b.tabs.drop kk).length (shV kk lr) lr) (apV (b.tabs.drop kk).length (shV kk lb) lb) ((rotT b kk).tabs)), (row (A 3) 67 2 l.length (pairs l)), (blk b4_ 25 [(iv b.scales), q, vm]), (blk C 25 [(iv b.scales), vt, vm]), (d_2 false vt lr lb b.tabs), (d_4 false vm lk b.macs), (sl xl 2 l.length (pairs l))] := Fa.h_1 AGk rfl; clear AGk GE Fa Adc
    refine s1 VL (a_0 rfl VL.e) fun Ade VM => ?_; clear VL Add
    refine s1 VM (b_2 rfl VM.e rfl) fun Adf VN => ?_; clear VM Ade
    refine s1 VN (b_2 rfl VN.e rfl) fun Adg VO => ?_; clear VN Adf
    refine s1 VO (a_1 rfl VO.e) fun Adh VP => ?_; clear VO Adg
    refine s1 VP (a_1 rfl VP.e) fun Adi AFi => ?_; clear VP Adh
    refine n2 ?_
    have VQ := AFi.as [(17, (iv 0)), (16, XK), (10, (A 3)), (9, (bptr b4_ 0))] rfl; clear AFi
    refine a_5 (s1 VQ (b_8 rfl k_7 (VQ.ev rfl) (Fb.bk 6 rfl) (l := [(iv b.scales), q, vm]) rfl rfl) fun Adj VR => ?_); clear VQ Adi
    refine s2 VR (a_6 rfl m_6 (ev1 VR.e) (g_2 (rotT b kk) q vm (apV (b.tabs.drop kk).length (shV kk lr) lr) (apV (b.tabs.drop kk).length (shV kk lb) lb) lk _ (b_1 (Fb.ok 4 _ rfl)) (a_8 (Fb.ok 9 _ rfl)) hth2)) ?_
    rintro Adk _ Aj1 ⟨vt644, vm645, lr646, lb647, lk648, rfl, AGl⟩ VS; have XC := Fb.h_1 AGl rfl; clear AGl VR Fb Adj
    refine s1 VS (a_0 rfl VS.e) fun Adl VT => ?_; clear VS Adk
    refine s2 VT (a_6 rfl m_7 (ev1 VT.e) (d_5 l _ _ (SlAt.b_9 (XC.c_0 7 rfl)) (by omega))) ?_
    rintro Adm Afn Aj2 ⟨AGD, hO657⟩ GF; have Fc := XC.f_7 AGD hO657; clear AGD hO657 VT XC Adl
    refine s2 GF (a_6 rfl m_1 (ev2 GF.e GF.e) (j_1 (rotT b kk) vt644 vm645 lr646 lb647 lk648 _ (b_1 (Fc.ok 1 _ rfl)) (a_8 (Fc.ok 2 _ rfl)) hth2 l _ (SlAt.b_9 (Fc.c_0 0 rfl)) (by omega) t E D)) ?_
    rintro Adn _ Afs ⟨AIX, rfl, AGm⟩ VU
    have Gf : Sep NoB w Afs [(row AIX 30 2 t.length (pairs t)), (row Afn 98 2 l.length (pairs l)), (d_2 true vt644 lr646 lb647 (rotT b kk).tabs), (d_4 true vm645 lk648 (rotT b kk).macs), (row XK 30 2 t.length (pairs t)), (row AIZ 98 2 l.length (pairs l)), (d_2 true vt606 lr608 lb609 b.tabs), (d_4 true vm607 lk610 b.macs), (d_2 false q (apV (b.tabs.drop kk).length (shV kk lr) lr) (apV (b.tabs.drop kk).length (shV kk lb) lb) ((rotT b kk).tabs)), (row (A 3) 67 2 l.length (pairs l)), (blk b4_ 25 [(iv b.scales), q, vm]), (blk C 25 [(iv b.scales), vt, vm]), (d_2 false vt lr lb b.tabs), (d_4 false vm lk b.macs), (sl xl 2 l.length (pairs l))] := Fc.h_1 AGm rfl; clear AGm GF Fc Adm
    refine s1 VU (a_0 rfl VU.e) fun Ado VV => ?_; clear VU Adn
    refine s1 VV (b_2 rfl VV.e rfl) fun Adp VW => ?_; clear VV Ado
    refine s1 VW (b_2 rfl VW.e rfl) fun Adq VY => ?_; clear VW Adp
    refine s1 VY (a_1 rfl VY.e) fun Adr VZ => ?_; clear VY Adq
    refine s1 VZ (a_1 rfl VZ.e) fun Ads AFj => ?_; clear VZ Adr
    refine n2 ?_
    have Va := AFj.as [(19, (iv 0)), (18, AIX), (17, (iv 0)), (16, XK)] rfl; clear AFj
    refine a_5 (s1 Va (a_0 rfl Va.e) fun Adt Vb => ?_); clear Va Ads
    refine s1 Vb (a_0 rfl Vb.e) fun Adu GG => ?_; clear Vb Adt
    refine s1 GG (e_9 rfl GG.e GG.e) fun Adv Vc => ?_; clear GG Adu
    refine s1 Vc (a_0 rfl Vc.e) fun Adw Vd => ?_; clear Vc Adv
    refine s5 Vd (a_0 rfl Vd.e) fun Adx Ve => ?_; clear Vd Adw
    refine s5 Ve (e_9 rfl Ve.e (evc _ _)) fun Ady Vf => ?_; clear Ve Adx
    refine s5 Vf (a_0 rfl Vf.e) fun Adz AFk => ?_; clear Vf Ady
    refine s3 AFk fun Ad0 AFl => ?_; clear AFk Adz
    refine s3 AFl fun Ad1 Vg => ?_; clear AFl Ad0
    refine s5 Vg (a_7 rfl Vg.e (evc _ _)) fun Ad2 GH => ?_; clear Vg Ad1
    refine s1 GH (a_7 rfl GH.e GH.e) fun Ad3 Vh => ?_; clear GH Ad2
    refine s1 Vh (a_0 rfl Vh.e) fun Ad4 Vi => ?_; clear Vh Ad3
    refine s5 Vi (a_0 rfl Vi.e) fun Ad5 Vj => ?_; clear Vi Ad4
    refine s5 Vj (l_5 rfl Vj.e (evc _ _)) fun Ad6 Vk => ?_; clear Vj Ad5
    refine s5 Vk (a_0 rfl Vk.e) fun Ad7 Vl => ?_; clear Vk Ad6
    refine s5 Vl (a_0 rfl Vl.e) fun Ad8 Vm => ?_; clear Vl Ad7
    refine s5 Vm (a_0 rfl Vm.e) fun Ad9 Vn => ?_; clear Vm Ad8
    refine s5 Vn (a_0 rfl Vn.e) fun AeA Vo => ?_; clear Vn Ad9
    refine s5 Vo (a_0 rfl Vo.e) fun AeB Bz => ?_; clear Vo AeA
    refine s6 Bz (a_6 rfl w_2 (ev4 Bz.e Bz.e Bz.e Bz.e) (g_0 t _ 0 t _ 0 _ (SlAt.b_9 (Gf.c_0 4 rfl)) (SlAt.b_9 (Gf.c_0 0 rfl)) (by omega))) ?_
    rintro AeC _ Aj3 ⟨rfl, AGE⟩ GI; have Gg := Gf.step AGE; clear AGE Bz Gf AeB
    have AGw : (narB t 0 t 0) = true := (q_7 hb hl hs)
    rw [AGw] at GI
    refine s5 GI (a_0 rfl GI.e) fun AeD Vp => ?_; clear GI AeC
    refine s5 Vp (a_0 rfl Vp.e) fun AeE Vq => ?_; clear Vp AeD
    refine s5 Vq (a_0 rfl Vq.e) fun AeF Vr => ?_; clear Vq AeE
    refine s5 Vr (a_0 rfl Vr.e) fun AeG Vs => ?_; clear Vr AeF
    refine s5 Vs (a_0 rfl Vs.e) fun AeH B0 => ?_; clear Vs AeG
    refine s6 B0 (a_6 rfl w_2 (ev4 B0.e B0.e B0.e B0.e) (g_0 t _ 0 t _ 0 _ (SlAt.b_9 (Gg.c_0 0 rfl)) (SlAt.b_9 (Gg.c_0 4 rfl)) (by omega))) ?_
    rintro AeI _ Aj4 ⟨rfl, AGF⟩ Ey; have AGR := Gg.step AGF; clear AGF B0 Gg AeH
    rw [AGw] at Ey
    refine s5 Ey (a_7 rfl Ey.e Ey.e) fun AeJ GJ => ?_; clear Ey AeI
    refine s5 GJ (c_3 rfl GJ.e GJ.e) fun AeK GK => ?_; clear GJ AeJ
    refine s1 GK (a_7 rfl GK.e GK.e) fun AeL Vt => ?_; clear GK AeK
    refine s1 Vt (a_0 rfl Vt.e) fun AeM AFm => ?_; clear Vt AeL
    refine s6 AFm (a_6 rfl v_5 ev0 (j_2 _)) ?_
    rintro AeN _ Aj5 ⟨rfl, AGG⟩ GL; have AZ4 := AGR.step AGG; clear AGG AFm AGR AeM
    refine s1 GL (a_7 rfl GL.e GL.e) fun AeO Vu => ?_; clear GL AeN
    refine s1 Vu (a_1 rfl Vu.e) fun AjS AFn => ?_; clear Vu AeO
    exact n1 (c_5 (b_0 AFn (.inl rfl) (a_2 AFn rfl (.tmp rfl)) (⟨rfl, AZ4.ext⟩)))
   skip
   rw [decide_eq_false AGq] at AH
   refine c_2 AH rfl (c_1 ?_)
   have Vv := AH.as [(10, (A 3)), (9, (bptr b4_ 0)), (4, (bptr C 0)), (1, xl), (3, (Value.int .u8 wb))] rfl; clear AH
   refine a_5 (s1 Vv (a_3 rfl g_6 Vv.e) fun AeP Vw => ?_); clear Vv AHN
   refine s1 Vw (a_4 rfl n_6 Vw.e (B.bk 2 rfl) rfl) fun AeQ Vx => ?_; clear Vw AeP
   refine s1 Vx (d_3 rfl n_7 Vx.e (a_8 (B.ok 4 _ rfl)).macs) fun AeR Vy => ?_; clear Vx AeQ
   refine s1 Vy (k_0 rfl Vy.e (evc _ _)) fun AeS Vz => ?_; clear Vy AeR
   refine s1 Vz (a_1 rfl Vz.e) fun AET AF => ?_; clear Vz AeS
   refine n1 ?_
   by_cases AGr : 0 < (b.macs.length : Int)
   ·skip
    rw [decide_eq_true AGr] at AF
    refine c_7 AF rfl (m2 (s1 AF (a_0 rfl AF.e) fun AeT V0 => ?_)); clear AF AET
    refine s1 V0 (op_conv un_5 un_3 rfl V0.e (v := wb) (wrap_i64 (by omega) (by omega))) fun AeU V1 => ?_; clear V0 AeT
    refine s1 V1 (a_3 rfl g_6 V1.e) fun AeV V2 => ?_; clear V1 AeU
    refine s1 V2 (a_4 rfl n_6 V2.e (B.bk 2 rfl) rfl) fun AeW V3 => ?_; clear V2 AeV
    refine s1 V3 (d_3 rfl n_7 V3.e (a_8 (B.ok 4 _ rfl)).macs) fun AeX GM => ?_; clear V3 AeW
    refine s1 GM (ab_0 rfl GM.e GM.e (by omega)) fun AeY V4 => ?_; clear GM AeX
    refine s1 V4 (a_1 rfl V4.e) fun AeZ AFo => ?_; clear V4 AeY
    refine n2 ?_
    have V5 := AFo.as [(13, (iv ((wb).tmod (b.macs.length : Int)))), (10, (A 3)), (9, (bptr b4_ 0)), (4, (bptr C 0)), (1, xl)] rfl; clear AFo
    obtain ⟨kk, hz_kk, hb_kk⟩ := rem_nat (n := wb) (m := b.macs.length) hB_.1 (by omega); rw [hz_kk] at V5
    have hmk := hth.mac kk; have hb5 := hb.blks _ (mac_mem hb_kk)
    refine a_5 (s2 V5 (f_1 B rfl pv0 n_7 r_2 ze_61 (by decide) (cs := []) bs_61_0_) ?_)
    rintro Aea _ Aj6 ⟨AjV, rfl, XD⟩ V6; clear V5 B AeZ
    refine s1 V6 (a_3 rfl g_6 V6.e) fun Aeb V7 => ?_; clear V6 Aea
    refine s1 V7 (a_4 rfl n_6 V7.e (XD.bk 3 rfl) rfl) fun Aec GN => ?_; clear V7 Aeb
    have Gh := XD.o_9 (i := 0) (sz := 2) (n := 0) rfl rfl (by decide); clear XD
    refine s2 GN (h_6 Gh rfl n_7 el_61 GN.e GN.e (i := 0) rfl (a_8 (Gh.ok 5 _ rfl)).macs (macs_one (a_8 (Gh.ok 5 _ rfl))) (by simp only [maxLen, List.length_drop, List.length_take]; omega) (by first | omega | (simp only [List.length_drop, List.length_take]; omega))) ?_
    intro Aed Y Aj7 AGS V8
    have Gi := AGS.f_2 (i := 0) rfl (n' := b.macs.length) (xs' := (k_6 lk b.macs)) (by simp only [Nat.zero_add]) (List.nil_append _); clear AGS GN Gh Aec
    refine s1 V8 (a_3 rfl g_6 V8.e) fun Aee GO => ?_; clear V8 Aed
    refine s7 GO (c_4 Gi rfl n_6 GO.e GO.e (i := 2) rfl (vs := [Y]) (k_9 (SlAt.isSl (SlAt.b_9 (Gi.c_0 0 rfl)))) rfl (i_1 (SlAt.one (SlAt.b_9 (Gi.c_0 0 rfl))) q_6) (Nat.le_of_ble_eq_true rfl)) ?_
    intro _ Aft AGT AFp; clear GO
    have AGU : Sep NoB w Aft [(row Y 61 2 b.macs.length (k_6 lk b.macs)), (row (A 3) 67 2 l.length (pairs l)), (blk b4_ 25 [(iv b.scales), vt, Y]), (blk C 25 [(iv b.scales), vt, vm]), (d_2 false vt lr lb b.tabs), (d_4 false vm lk b.macs), (sl xl 2 l.length (pairs l))] := AGT; clear AGT Gi
    refine n4 (s1 AFp (a_1 rfl (evc _ _)) fun Aef V9 => ?_); clear AFp Aee
    have AI := AGU.t_8 63 3; clear AGU
    refine n2 (m2 (s1 V9 (a_3 rfl g_6 V9.e) fun Aeg WA => ?_)); clear V9 Aef
    refine s1 WA (a_4 rfl n_6 WA.e (AI.bk 4 rfl) rfl) fun Aeh WB => ?_; clear WA Aeg
    refine s1 WB (a_0 rfl WB.e) fun Aei GP => ?_; clear WB Aeh
    refine s1 GP (b_6 rfl n_7 r_2 GP.e (i := kk) GP.e (a_8 (AI.ok 6 _ rfl)).macs (by decide) (by omega)) fun Aej WD => ?_; clear GP Aei
    refine s1 WD (d_0 rfl m_2 WD.e (a_8 (AI.ok 6 _ rfl)).macs (by rw [((a_8 (AI.ok 6 _ rfl)).macs).1]; omega)) fun Aek WE => ?_; clear WD Aej
    refine s1 WE (c_6 rfl w_4 WE.e (a_8 (AI.ok 6 _ rfl)).macs (s_5 (by omega))) fun Ael WF => ?_; clear WE Aek
    refine s1 WF (d_3 rfl t_4 WF.e ((a_8 (AI.ok 6 _ rfl)).blk (i := kk) (by omega))) fun Aem WG => ?_; clear WF Ael
    refine s1 WG (i_3 rfl WG.e (evc _ _) (by omega) (by omega)) fun Aen WH => ?_; clear WG Aem
    refine s1 WH (a_1 rfl WH.e) fun Aeo AFq => ?_; clear WH Aen
    refine n1 (d_1 ?_)
    have AFr := AFq.as [(15, (iv (((b.macs.getD kk mac0).blocks.length : Int) - 1))), (14, (Value.slice none 0 0)), (13, (iv (kk : Int))), (10, (A 3)), (9, (bptr b4_ 0)), (4, (bptr C 0)), (1, xl)] rfl; clear AFq
    refine h_9 (G := Nat) (fun (s : Nat) a_ w_ => ∃ v14_ : Value, Fr 174 [] [(15, (iv (((b.macs.getD kk mac0).blocks.length : Int) - ((s + 1 : Nat) : Int)))), (14, v14_), (13, (iv (kk : Int))), (10, (A 3)), (9, (bptr b4_ 0)), (4, (bptr C 0)), (1, xl)] a_ ∧ Sep NoB w w_ [(row v14_ 63 3 (((b.macs.getD kk mac0).blocks.reverse.take s).length) (trips ((b.macs.getD kk mac0).blocks.reverse.take s))), (row Y 61 2 b.macs.length (k_6 lk b.macs)), (row (A 3) 67 2 l.length (pairs l)), (blk b4_ 25 [(iv b.scales), vt, Y]), (blk C 25 [(iv b.scales), vt, vm]), (d_2 false vt lr lb b.tabs), (d_4 false vm lk b.macs), (sl xl 2 l.length (pairs l))] ∧ (s ≤ (b.macs.getD kk mac0).blocks.length)) (fun s => (b.macs.getD kk mac0).blocks.length - s) 0 ⟨(Value.slice none 0 0), AFr.as _ (by rfl), (AI.f_2 (i := 0) rfl (by rfl) (by rfl)), by omega⟩ ?_
    clear AFr AI Aeo
    rintro s Aep Aj8 ⟨v14_, WI, p, hks⟩
    have hrt : ((b.macs.getD kk mac0).blocks.reverse.take s).length ≤ 8 := (by rw [List.length_take, List.length_reverse]; omega)
    refine c_1 (m2 (s1 WI (a_0 rfl WI.e) fun Aeq WJ => ?_)); clear WI Aep
    refine s1 WJ (v_6 rfl WJ.e (evc _ _)) fun AHQ g => ?_; clear WJ Aeq
    refine n1 ?_
    by_cases AGs : 0 ≤ (((b.macs.getD kk mac0).blocks.length : Int) - ((s + 1 : Nat) : Int))
    ·skip
     rw [decide_eq_true AGs] at g
     refine c_7 g rfl (d_7 (b_5 (c_1 (d_1 ?_))))
     rw [show (((b.macs.getD kk mac0).blocks.length : Int) - ((s + 1 : Nat) : Int)) = (((b.macs.getD kk mac0).blocks.length - 1 - s : Nat) : Int) from by omega] at g
     refine a_5 (s1 g (a_0 rfl g.e) fun Aer WM => ?_); clear g AHQ
     refine s1 WM (a_3 rfl g_6 WM.e) fun Aes WN => ?_; clear WM Aer
     refine s1 WN (a_4 rfl n_6 WN.e (p.bk 4 rfl) rfl) fun Aet WO => ?_; clear WN Aes
     refine s1 WO (a_0 rfl WO.e) fun Aeu GQ => ?_; clear WO Aet
     refine s1 GQ (b_6 rfl n_7 r_2 GQ.e (i := kk) GQ.e (a_8 (p.ok 6 _ rfl)).macs (by decide) (by omega)) fun Aev WP => ?_; clear GQ Aeu
     refine s1 WP (d_0 rfl m_2 WP.e (a_8 (p.ok 6 _ rfl)).macs (by rw [((a_8 (p.ok 6 _ rfl)).macs).1]; omega)) fun Aew WQ => ?_; clear WP Aev
     refine s1 WQ (c_6 rfl w_4 WQ.e (a_8 (p.ok 6 _ rfl)).macs (s_5 (by omega))) fun Aex WR => ?_; clear WQ Aew
     refine s1 WR (a_0 rfl WR.e) fun Aey GR => ?_; clear WR Aex
     refine s1 GR (b_6 rfl t_4 z_7 GR.e (i := ((b.macs.getD kk mac0).blocks.length - 1 - s : Nat)) GR.e ((a_8 (p.ok 6 _ rfl)).blk (i := kk) (by omega)) (by decide) (by omega)) fun Aez WS => ?_; clear GR Aey
     refine s1 WS (f_0 rfl z_7 WS.e ((a_8 (p.ok 6 _ rfl)).blk (i := kk) (by omega)) (p_8 (by omega)) rfl (by decide)) fun Ae0 WT => ?_; clear WS Aez
     refine s2 WT (f_1 p rfl (pv1 WT.e) t_4 z_7 ze_63 (by decide) (cs := [(iv ((((b.macs.getD kk mac0).blocks).getD ((b.macs.getD kk mac0).blocks.length - 1 - s : Nat) (0, 0, 0)).1)), (iv ((((b.macs.getD kk mac0).blocks).getD ((b.macs.getD kk mac0).blocks.length - 1 - s : Nat) (0, 0, 0)).2.1)), (iv ((((b.macs.getD kk mac0).blocks).getD ((b.macs.getD kk mac0).blocks.length - 1 - s : Nat) (0, 0, 0)).2.2))]) (u_3 _ _ _)) ?_
     rintro Ae1 _ Aj9 ⟨AjW, rfl, XE⟩ GS; clear WT p Ae0
     refine s2 GS (h_6 XE rfl t_4 el_63 GS.e GS.e (i := 1) rfl (SlAt.of_blk (XE.bk 0 rfl) rfl (Nat.le_of_ble_eq_true rfl)) rfl (by simp only [maxLen, List.length_drop, List.length_take]; omega) (by first | omega | (simp only [List.length_drop, List.length_take]; omega))) ?_
     intro Ae2 AIa AkA AGV WU
     have AGW := AGV.f_2 (i := 1) rfl (n' := (((b.macs.getD kk mac0).blocks.reverse.take s) ++ [((((b.macs.getD kk mac0).blocks).getD ((b.macs.getD kk mac0).blocks.length - 1 - s : Nat) (0, 0, 0)).1, (((b.macs.getD kk mac0).blocks).getD ((b.macs.getD kk mac0).blocks.length - 1 - s : Nat) (0, 0, 0)).2.1, (((b.macs.getD kk mac0).blocks).getD ((b.macs.getD kk mac0).blocks.length - 1 - s : Nat) (0, 0, 0)).2.2)]).length) (xs' := (trips (((b.macs.getD kk mac0).blocks.reverse.take s) ++ [((((b.macs.getD kk mac0).blocks).getD ((b.macs.getD kk mac0).blocks.length - 1 - s : Nat) (0, 0, 0)).1, (((b.macs.getD kk mac0).blocks).getD ((b.macs.getD kk mac0).blocks.length - 1 - s : Nat) (0, 0, 0)).2.1, (((b.macs.getD kk mac0).blocks).getD ((b.macs.getD kk mac0).blocks.length - 1 - s : Nat) (0, 0, 0)).2.2)]))) (by simp) (by simp [trips]); clear AGV GS XE Ae1
     refine s1 WU (a_1 rfl WU.e) fun Ae3 AFs => ?_; clear WU Ae2
     refine e_6 (h_0 (b_5 ?_))
     have WV := AFs.as [(14, AIa), (15, (iv (((b.macs.getD kk mac0).blocks.length - 1 - s : Nat) : Int))), (13, (iv (kk : Int))), (10, (A 3)), (9, (bptr b4_ 0)), (4, (bptr C 0)), (1, xl)] rfl; clear AFs
     refine a_5 (s1 WV (a_0 rfl WV.e) fun Ae4 WW => ?_); clear WV Ae3
     refine s1 WW (i_3 rfl WW.e (evc _ _) (by omega) (by omega)) fun Ae5 WX => ?_; clear WW Ae4
     refine s1 WX (a_1 rfl WX.e) fun AjU AFt => ?_; clear WX Ae5
     refine e_6 ?_
     rw [show (((b.macs.getD kk mac0).blocks.length - 1 - s : Nat) : Int) - 1 = (((b.macs.getD kk mac0).blocks.length : Int) - ((s + 1 + 1 : Nat) : Int)) from by omega] at AFt
     have AZ5 := AGW.gkp (gpc 1 (gpc 2 (gpc 3 (gpc 4 (gpc 5 (gpc 6 (gpc 7 (gpc 8 gpn)))))))); clear AGW
     exact b_5 ⟨s + 1, ⟨AIa, AFt.as _ rfl, (AZ5.f_2 (i := 0) rfl (n' := ((b.macs.getD kk mac0).blocks.reverse.take (s + 1)).length) (xs' := trips ((b.macs.getD kk mac0).blocks.reverse.take (s + 1))) (by rw [w_7 (by omega)]) (by rw [w_7 (by omega)])), by omega⟩, by omega⟩
    skip
    rw [decide_eq_false AGs] at g
    refine c_2 g rfl (h_8 (b_7 (b_7 (f_9 (b_5 ?_)))))
    have AJ := p.f_2 (i := 0) rfl (n' := ((b.macs.getD kk mac0).blocks.reverse).length) (xs' := trips ((b.macs.getD kk mac0).blocks.reverse)) (by rw [List.take_of_length_le (by rw [List.length_reverse]; omega)]) (by rw [List.take_of_length_le (by rw [List.length_reverse]; omega)]); clear p
    refine a_5 (s1 g (a_3 rfl g_6 g.e) fun Ae6 WY => ?_); clear g AHQ
    refine s1 WY (a_4 rfl n_6 WY.e (AJ.bk 3 rfl) rfl) fun Ae7 WZ => ?_; clear WY Ae6
    refine s1 WZ (a_0 rfl WZ.e) fun Ae8 Wa => ?_; clear WZ Ae7
    refine s1 Wa (a_0 rfl Wa.e) fun Ae9 GT => ?_; clear Wa Ae8
    refine s1 GT (b_6 rfl n_7 r_2 GT.e (i := kk) GT.e (SlAt.b_9 (AJ.c_0 1 rfl)) (by decide) (by omega)) fun AfA Wb => ?_; clear GT Ae9
    refine s1 Wb (d_0 rfl m_2 Wb.e (SlAt.b_9 (AJ.c_0 1 rfl)) (by rw [((SlAt.b_9 (AJ.c_0 1 rfl))).1]; omega)) fun AHR GU => ?_; clear Wb AfA
    refine s7 GU (op_storeE AJ rfl w_4 GU.e GU.e (i := 1) rfl (vs := [v14_]) (k_9 (SlAt.isSl (SlAt.b_9 (AJ.c_0 0 rfl)))) rfl (i_1 (SlAt.one (SlAt.b_9 (AJ.c_0 0 rfl))) q_6) (by rw [macs_len]; omega) (by decide)) ?_
    intro _ Afu AGX AFu; have AGY := AGX.f_2 (i := 1) rfl (n' := (b.macs.set kk ⟨(b.macs.getD kk mac0).scale, (b.macs.getD kk mac0).blocks.reverse⟩).length) (xs' := (k_6 (putV kk lk v14_) (b.macs.set kk ⟨(b.macs.getD kk mac0).scale, (b.macs.getD kk mac0).blocks.reverse⟩))) (by rw [List.length_set]) (macs_setB (by omega)); clear AGX GU AJ
    refine e_6 (h_0 (b_5 (c_1 ?_)))
    have B1 := AFu.as [(10, (A 3)), (9, (bptr b4_ 0)), (4, (bptr C 0)), (1, xl)] rfl; clear AFu
    have AGZ := v_2 AGY (i := 0) rfl; clear AGY
    have XF := AGZ.gkp (gpc 1 (gpc 0 (gpc 2 (gpc 3 (gpc 4 (gpc 5 (gpc 6 (gpc 7 gpn)))))))); clear AGZ
    have AZ0 := setB_ro (m := ⟨(b.macs.getD kk mac0).scale, (b.macs.getD kk mac0).blocks.reverse⟩) XF.tail (i := 5) (j := 0) rfl rfl hb_kk
    have x : Sep NoB w Afu [(d_4 false Y (putV kk lk v14_) ((putM b kk (b.macs.getD kk mac0).blocks.reverse).macs)), (sl v14_ 3 (((b.macs.getD kk mac0).blocks.reverse).length) (trips ((b.macs.getD kk mac0).blocks.reverse))), (row (A 3) 67 2 l.length (pairs l)), (blk b4_ 25 [(iv b.scales), vt, Y]), (blk C 25 [(iv b.scales), vt, vm]), (d_2 false vt lr lb b.tabs), (d_4 false vm lk b.macs), (sl xl 2 l.length (pairs l))] := sep_macs_ro XF AZ0; clear XF
    have Z := order_rev hr (k := kk) hb_kk; have E := Z.1; have F := Z.2; have Al := l_2 E; have TM := m_5 Al; have hth2 := putM_thin (bl := (b.macs.getD kk mac0).blocks.reverse) hth (by rw [List.length_reverse]; omega) hb_kk
    rcases r_0 b l with hs | ⟨t, hs⟩
    ·skip
     have D := F.trans hs
     refine a_5 (s1 B1 (b_8 rfl k_7 (B1.ev rfl) (x.bk 4 rfl) (l := [(iv b.scales), vt, vm]) rfl rfl) fun AfB Wc => ?_); clear B1 AHR
     refine s2 Wc (a_6 rfl m_6 (ev1 Wc.e) (g_2 b vt vm lr lb lk _ (b_1 (x.ok 5 _ rfl)) (a_8 (x.ok 6 _ rfl)) hth)) ?_
     rintro AfC _ AkB ⟨vt901, vm902, lr903, lb904, lk905, rfl, AGn⟩ Wd; have XG := x.h_1 AGn rfl; clear AGn Wc x AfB
     refine s1 Wd (a_0 rfl Wd.e) fun AfD We => ?_; clear Wd AfC
     refine s2 We (a_6 rfl m_7 (ev1 We.e) (d_5 l _ _ (XG.sk 9 rfl) (by omega))) ?_
     rintro AfE Ajc AkC ⟨AGH, hO914⟩ GV; have Fd := XG.f_7 AGH hO914; clear AGH hO914 We XG AfD
     refine s2 GV (a_6 rfl m_1 (ev2 GV.e GV.e) (g_9 b vt901 vm902 lr903 lb904 lk905 _ (b_1 (Fd.ok 1 _ rfl)) (a_8 (Fd.ok 2 _ rfl)) hth l _ (SlAt.b_9 (Fd.c_0 0 rfl)) (by omega) hr hs)) ?_
     rintro AfF _ AkD ⟨rfl, AGI⟩ Wf; have Fe := Fd.step AGI; clear AGI GV Fd AfE
     refine s1 Wf (a_0 rfl Wf.e) fun AfG Wg => ?_; clear Wf AfF
     refine s1 Wg (b_2 rfl Wg.e rfl) fun AfH Wh => ?_; clear Wg AfG
     refine s1 Wh (b_2 rfl Wh.e rfl) fun AfI Wi => ?_; clear Wh AfH
     refine s1 Wi (a_1 rfl Wi.e) fun AfJ Wj => ?_; clear Wi AfI
     refine s1 Wj (a_1 rfl Wj.e) fun AfK AFv => ?_; clear Wj AfJ
     refine n2 ?_
     have Wk := AFv.as [(17, (iv (spE b l))), (16, (Value.slice none 0 0)), (10, (A 3)), (9, (bptr b4_ 0))] rfl; clear AFv
     refine a_5 (s1 Wk (b_8 rfl k_7 (Wk.ev rfl) (Fe.bk 6 rfl) (l := [(iv b.scales), vt, Y]) rfl rfl) fun AfL Wl => ?_); clear Wk AfK
     refine s2 Wl (a_6 rfl m_6 (ev1 Wl.e) (g_2 (putM b kk (b.macs.getD kk mac0).blocks.reverse) vt Y lr lb (putV kk lk v14_) _ (b_1 (Fe.ok 8 _ rfl)) (a_8 (Fe.ok 3 _ rfl)) hth2)) ?_
     rintro AfM _ AkE ⟨vt938, vm939, lr940, lb941, lk942, rfl, AGo⟩ Wm; have XH := Fe.h_1 AGo rfl; clear AGo Wl Fe AfL
     refine s1 Wm (a_0 rfl Wm.e) fun AfN Wn => ?_; clear Wm AfM
     refine s2 Wn (a_6 rfl m_7 (ev1 Wn.e) (d_5 l _ _ (SlAt.b_9 (XH.c_0 7 rfl)) (by omega))) ?_
     rintro AfO Ajd AkF ⟨AGJ, hO951⟩ GW; have Ff := XH.f_7 AGJ hO951; clear AGJ hO951 Wn XH AfN
     refine s2 GW (a_6 rfl m_1 (ev2 GW.e GW.e) (g_9 (putM b kk (b.macs.getD kk mac0).blocks.reverse) vt938 vm939 lr940 lb941 lk942 _ (b_1 (Ff.ok 1 _ rfl)) (a_8 (Ff.ok 2 _ rfl)) hth2 l _ (SlAt.b_9 (Ff.c_0 0 rfl)) (by omega) E D)) ?_
     rintro AfP _ AkG ⟨rfl, AGK⟩ Wo; have AGa := Ff.step AGK; clear AGK GW Ff AfO
     refine s1 Wo (a_0 rfl Wo.e) fun AfQ Wp => ?_; clear Wo AfP
     refine s1 Wp (b_2 rfl Wp.e rfl) fun AfR Wq => ?_; clear Wp AfQ
     refine s1 Wq (b_2 rfl Wq.e rfl) fun AfS Wr => ?_; clear Wq AfR
     refine s1 Wr (a_1 rfl Wr.e) fun AfT Ws => ?_; clear Wr AfS
     refine s1 Ws (a_1 rfl Ws.e) fun AfU AFw => ?_; clear Ws AfT
     refine n2 ?_
     have Wt := AFw.as [(19, (iv (spE (putM b kk (b.macs.getD kk mac0).blocks.reverse) l))), (18, (Value.slice none 0 0)), (17, (iv (spE b l))), (16, (Value.slice none 0 0))] rfl; clear AFw
     refine a_5 (s1 Wt (a_0 rfl Wt.e) fun AfV Wu => ?_); clear Wt AfU
     refine s1 Wu (a_0 rfl Wu.e) fun AfW GX => ?_; clear Wu AfV
     refine s1 GX (e_9 rfl GX.e GX.e) fun AfX GY => ?_; clear GX AfW
     have AaA : (spE b l) = (spE (putM b kk (b.macs.getD kk mac0).blocks.reverse) l) := (by rw [o_4 hr hs, o_4 E D])
     rw [decide_eq_true AaA] at GY
     refine s1 GY (a_0 rfl GY.e) fun AfY Wv => ?_; clear GY AfX
     refine s5 Wv (a_0 rfl Wv.e) fun AfZ Ww => ?_; clear Wv AfY
     refine s5 Ww (e_9 rfl Ww.e (evc _ _)) fun Afa GZ => ?_; clear Ww AfZ
     have AGx : ¬ ((spE b l) = 0) := (by rw [o_4 hr hs]; decide)
     rw [decide_eq_false AGx] at GZ
     refine s5 GZ (a_0 rfl GZ.e) fun Afb Wx => ?_; clear GZ Afa
     refine s5 Wx (a_0 rfl Wx.e) fun Afc Wy => ?_; clear Wx Afb
     refine s5 Wy (e_9 rfl Wy.e (evc _ _)) fun Afd Ez => ?_; clear Wy Afc
     have AaB : (spE b l) = 9 := (o_4 hr hs)
     rw [decide_eq_true AaB] at Ez
     refine s5 Ez (c_3 rfl Ez.e Ez.e) fun Afe Ga => ?_; clear Ez Afd
     refine s1 Ga (a_7 rfl Ga.e Ga.e) fun Aff Wz => ?_; clear Ga Afe
     refine s1 Wz (a_0 rfl Wz.e) fun Afg W0 => ?_; clear Wz Aff
     refine s5 W0 (a_0 rfl W0.e) fun Afh W1 => ?_; clear W0 Afg
     refine s5 W1 (l_5 rfl W1.e (evc _ _)) fun Afi B3 => ?_; clear W1 Afh
     rw [decide_eq_false AGx] at B3
     refine s5 B3 (a_0 rfl B3.e) fun AIc XM => ?_; clear B3 Afi
     refine s3 XM fun AId XN => ?_; clear XM AIc
     refine s3 XN fun AIe XO => ?_; clear XN AId
     refine s3 XO fun AIf XP => ?_; clear XO AIe
     refine s3 XP fun AIg XQ => ?_; clear XP AIf
     refine s3 XQ fun AIh XR => ?_; clear XQ AIg
     refine s3 XR fun AIi XS => ?_; clear XR AIh
     refine s4 XS fun AIj XT => ?_; clear XS AIi
     refine s4 XT fun AIk XU => ?_; clear XT AIj
     refine s4 XU fun AIl XV => ?_; clear XU AIk
     refine s4 XV fun AIm XW => ?_; clear XV AIl
     refine s4 XW fun AIn XX => ?_; clear XW AIm
     refine s3 XX fun AIo Gs => ?_; clear XX AIn
     refine s5 Gs (a_7 rfl Gs.e (evc _ _)) fun AIp B4 => ?_; clear Gs AIo
     refine s1 B4 (a_7 rfl B4.e B4.e) fun AIq Gt => ?_; clear B4 AIp
     refine s1 Gt (a_0 rfl Gt.e) fun AIr XY => ?_; clear Gt AIq
     refine s6 XY (a_6 rfl v_5 ev0 (j_2 _)) ?_
     rintro AIs _ AhA ⟨rfl, AA6⟩ B5; have AHi := AGa.step AA6; clear AA6 XY AGa AIr
     refine s1 B5 (a_7 rfl B5.e B5.e) fun AIt Gu => ?_; clear B5 AIs
     refine s1 Gu (a_1 rfl Gu.e) fun AgS XZ => ?_; clear Gu AIt
     exact n1 (c_5 (b_0 XZ (.inl rfl) (a_2 XZ rfl (.tmp rfl)) (⟨rfl, AHi.ext⟩)))
    skip
    have D := F.trans hs; have htln := ab_1 hb hl hs
    refine a_5 (s1 B1 (b_8 rfl k_7 (B1.ev rfl) (x.bk 4 rfl) (l := [(iv b.scales), vt, vm]) rfl rfl) fun AIu Gv => ?_); clear B1 AHR
    refine s2 Gv (a_6 rfl m_6 (ev1 Gv.e) (g_2 b vt vm lr lb lk _ (b_1 (x.ok 5 _ rfl)) (a_8 (x.ok 6 _ rfl)) hth)) ?_
    rintro AIv _ AhB ⟨vt1047, vm1048, lr1049, lb1050, lk1051, rfl, ADC⟩ Gw; have SY := x.h_1 ADC rfl; clear ADC Gv x AIu
    refine s1 Gw (a_0 rfl Gw.e) fun AIw Gx => ?_; clear Gw AIv
    refine s2 Gx (a_6 rfl m_7 (ev1 Gx.e) (d_5 l _ _ (SY.sk 9 rfl) (by omega))) ?_
    rintro AIx AG7 AhC ⟨AA7, hO1060⟩ B6; have A6 := SY.f_7 AA7 hO1060; clear AA7 hO1060 Gx SY AIw
    refine s2 B6 (a_6 rfl m_1 (ev2 B6.e B6.e) (j_1 b vt1047 vm1048 lr1049 lb1050 lk1051 _ (b_1 (A6.ok 1 _ rfl)) (a_8 (A6.ok 2 _ rfl)) hth l _ (SlAt.b_9 (A6.c_0 0 rfl)) (by omega) t hr hs)) ?_
    rintro AIy _ AaL ⟨Gj, rfl, ADD⟩ Gy
    have A7 : Sep NoB w AaL [(row Gj 30 2 t.length (pairs t)), (row AG7 98 2 l.length (pairs l)), (d_2 true vt1047 lr1049 lb1050 b.tabs), (d_4 true vm1048 lk1051 b.macs), (d_4 false Y (putV kk lk v14_) ((putM b kk (b.macs.getD kk mac0).blocks.reverse).macs)), (sl v14_ 3 (((b.macs.getD kk mac0).blocks.reverse).length) (trips ((b.macs.getD kk mac0).blocks.reverse))), (row (A 3) 67 2 l.length (pairs l)), (blk b4_ 25 [(iv b.scales), vt, Y]), (blk C 25 [(iv b.scales), vt, vm]), (d_2 false vt lr lb b.tabs), (d_4 false vm lk b.macs), (sl xl 2 l.length (pairs l))] := A6.h_1 ADD rfl; clear ADD B6 A6 AIx
    refine s1 Gy (a_0 rfl Gy.e) fun AIz Gz => ?_; clear Gy AIy
    refine s1 Gz (b_2 rfl Gz.e rfl) fun AI0 G0 => ?_; clear Gz AIz
    refine s1 G0 (b_2 rfl G0.e rfl) fun AI1 G1 => ?_; clear G0 AI0
    refine s1 G1 (a_1 rfl G1.e) fun AI2 G2 => ?_; clear G1 AI1
    refine s1 G2 (a_1 rfl G2.e) fun AI3 Xa => ?_; clear G2 AI2
    refine n2 ?_
    have G3 := Xa.as [(17, (iv 0)), (16, Gj), (10, (A 3)), (9, (bptr b4_ 0))] rfl; clear Xa
    refine a_5 (s1 G3 (b_8 rfl k_7 (G3.ev rfl) (A7.bk 7 rfl) (l := [(iv b.scales), vt, Y]) rfl rfl) fun AI4 G4 => ?_); clear G3 AI3
    refine s2 G4 (a_6 rfl m_6 (ev1 G4.e) (g_2 (putM b kk (b.macs.getD kk mac0).blocks.reverse) vt Y lr lb (putV kk lk v14_) _ (b_1 (A7.ok 9 _ rfl)) (a_8 (A7.ok 4 _ rfl)) hth2)) ?_
    rintro AI5 _ AhD ⟨vt1085, vm1086, lr1087, lb1088, lk1089, rfl, ADE⟩ G5; have SZ := A7.h_1 ADE rfl; clear ADE G4 A7 AI4
    refine s1 G5 (a_0 rfl G5.e) fun AI6 G6 => ?_; clear G5 AI5
    refine s2 G6 (a_6 rfl m_7 (ev1 G6.e) (d_5 l _ _ (SlAt.b_9 (SZ.c_0 8 rfl)) (by omega))) ?_
    rintro AI7 AaC AhE ⟨AA8, hO1098⟩ B7; have A8 := SZ.f_7 AA8 hO1098; clear AA8 hO1098 G6 SZ AI6
    refine s2 B7 (a_6 rfl m_1 (ev2 B7.e B7.e) (j_1 (putM b kk (b.macs.getD kk mac0).blocks.reverse) vt1085 vm1086 lr1087 lb1088 lk1089 _ (b_1 (A8.ok 1 _ rfl)) (a_8 (A8.ok 2 _ rfl)) hth2 l _ (SlAt.b_9 (A8.c_0 0 rfl)) (by omega) t E D)) ?_
    rintro AI8 _ AaM ⟨AGy, rfl, ADF⟩ G7
    have E0 : Sep NoB w AaM [(row AGy 30 2 t.length (pairs t)), (row AaC 98 2 l.length (pairs l)), (d_2 true vt1085 lr1087 lb1088 (putM b kk (b.macs.getD kk mac0).blocks.reverse).tabs), (d_4 true vm1086 lk1089 (putM b kk (b.macs.getD kk mac0).blocks.reverse).macs), (row Gj 30 2 t.length (pairs t)), (row AG7 98 2 l.length (pairs l)), (d_2 true vt1047 lr1049 lb1050 b.tabs), (d_4 true vm1048 lk1051 b.macs), (d_4 false Y (putV kk lk v14_) ((putM b kk (b.macs.getD kk mac0).blocks.reverse).macs)), (sl v14_ 3 (((b.macs.getD kk mac0).blocks.reverse).length) (trips ((b.macs.getD kk mac0).blocks.reverse))), (row (A 3) 67 2 l.length (pairs l)), (blk b4_ 25 [(iv b.scales), vt, Y]), (blk C 25 [(iv b.scales), vt, vm]), (d_2 false vt lr lb b.tabs), (d_4 false vm lk b.macs), (sl xl 2 l.length (pairs l))] := A8.h_1 ADF rfl; clear ADF B7 A8 AI7
    refine s1 G7 (a_0 rfl G7.e) fun AI9 G8 => ?_; clear G7 AI8
    refine s1 G8 (b_2 rfl G8.e rfl) fun AJA G9 => ?_; clear G8 AI9
    refine s1 G9 (b_2 rfl G9.e rfl) fun AJB HA => ?_; clear G9 AJA
    refine s1 HA (a_1 rfl HA.e) fun AJC HB => ?_; clear HA AJB
    refine s1 HB (a_1 rfl HB.e) fun AJD Xb => ?_; clear HB AJC
    refine n2 ?_
    have HC := Xb.as [(19, (iv 0)), (18, AGy), (17, (iv 0)), (16, Gj)] rfl; clear Xb
    refine a_5 (s1 HC (a_0 rfl HC.e) fun AJE HD => ?_); clear HC AJD
    refine s1 HD (a_0 rfl HD.e) fun AJF B8 => ?_; clear HD AJE
    refine s1 B8 (e_9 rfl B8.e B8.e) fun AJG HE => ?_; clear B8 AJF
    refine s1 HE (a_0 rfl HE.e) fun AJH HF => ?_; clear HE AJG
    refine s5 HF (a_0 rfl HF.e) fun AJI HG => ?_; clear HF AJH
    refine s5 HG (e_9 rfl HG.e (evc _ _)) fun AJJ HH => ?_; clear HG AJI
    refine s5 HH (a_0 rfl HH.e) fun AJK Xc => ?_; clear HH AJJ
    refine s3 Xc fun AJL Xd => ?_; clear Xc AJK
    refine s3 Xd fun AJM HI => ?_; clear Xd AJL
    refine s5 HI (a_7 rfl HI.e (evc _ _)) fun AJN B9 => ?_; clear HI AJM
    refine s1 B9 (a_7 rfl B9.e B9.e) fun AJO HJ => ?_; clear B9 AJN
    refine s1 HJ (a_0 rfl HJ.e) fun AJP HK => ?_; clear HJ AJO
    refine s5 HK (a_0 rfl HK.e) fun AJQ HL => ?_; clear HK AJP
    refine s5 HL (l_5 rfl HL.e (evc _ _)) fun AJR HM => ?_; clear HL AJQ
    refine s5 HM (a_0 rfl HM.e) fun AJS HN => ?_; clear HM AJR
    refine s5 HN (a_0 rfl HN.e) fun AJT HO => ?_; clear HN AJS
    refine s5 HO (a_0 rfl HO.e) fun AJU HP => ?_; clear HO AJT
    refine s5 HP (a_0 rfl HP.e) fun AJV HQ => ?_; clear HP AJU
    refine s5 HQ (a_0 rfl HQ.e) fun AJW AL => ?_; clear HQ AJV
    refine s6 AL (a_6 rfl w_2 (ev4 AL.e AL.e AL.e AL.e) (g_0 t _ 0 t _ 0 _ (SlAt.b_9 (E0.c_0 4 rfl)) (SlAt.b_9 (E0.c_0 0 rfl)) (by omega))) ?_
    rintro AJX _ AhF ⟨rfl, AA9⟩ CA; have E2 := E0.step AA9; clear AA9 AL E0 AJW
    have AEA : (narB t 0 t 0) = true := (q_7 hb hl hs)
    rw [AEA] at CA
    refine s5 CA (a_0 rfl CA.e) fun AJY HR => ?_; clear CA AJX
    refine s5 HR (a_0 rfl HR.e) fun AJZ HS => ?_; clear HR AJY
    refine s5 HS (a_0 rfl HS.e) fun AJa HT => ?_; clear HS AJZ
    refine s5 HT (a_0 rfl HT.e) fun AJb HU => ?_; clear HT AJa
    refine s5 HU (a_0 rfl HU.e) fun AJc AM => ?_; clear HU AJb
    refine s6 AM (a_6 rfl w_2 (ev4 AM.e AM.e AM.e AM.e) (g_0 t _ 0 t _ 0 _ (SlAt.b_9 (E2.c_0 0 rfl)) (SlAt.b_9 (E2.c_0 4 rfl)) (by omega))) ?_
    rintro AJd _ AhG ⟨rfl, ABA⟩ Ao; have ACV := E2.step ABA; clear ABA AM E2 AJc
    rw [AEA] at Ao
    refine s5 Ao (a_7 rfl Ao.e Ao.e) fun AJe CB => ?_; clear Ao AJd
    refine s5 CB (c_3 rfl CB.e CB.e) fun AJf CC => ?_; clear CB AJe
    refine s1 CC (a_7 rfl CC.e CC.e) fun AJg HV => ?_; clear CC AJf
    refine s1 HV (a_0 rfl HV.e) fun AJh Xe => ?_; clear HV AJg
    refine s6 Xe (a_6 rfl v_5 ev0 (j_2 _)) ?_
    rintro AJi _ AhH ⟨rfl, ABB⟩ CD; have AHj := ACV.step ABB; clear ABB Xe ACV AJh
    refine s1 CD (a_7 rfl CD.e CD.e) fun AJj HW => ?_; clear CD AJi
    refine s1 HW (a_1 rfl HW.e) fun AgT Xf => ?_; clear HW AJj
    exact n1 (c_5 (b_0 Xf (.inl rfl) (a_2 Xf rfl (.tmp rfl)) (⟨rfl, AHj.ext⟩)))
   skip
   rw [decide_eq_false AGr] at AF
   refine c_2 AF rfl (d_7 (h_0 (b_5 (c_1 ?_))))
   have AN := AF.as [(10, (A 3)), (9, (bptr b4_ 0)), (4, (bptr C 0)), (1, xl)] rfl; clear AF
   have F : j_0 b l = j_0 b l := rfl
   rcases r_0 b l with hs | ⟨t, hs⟩
   ·skip
    have D := F.trans hs
    refine a_5 (s1 AN (b_8 rfl k_7 (AN.ev rfl) (B.bk 2 rfl) (l := [(iv b.scales), vt, vm]) rfl rfl) fun AJk HX => ?_); clear AN AET
    refine s2 HX (a_6 rfl m_6 (ev1 HX.e) (g_2 b vt vm lr lb lk _ (b_1 (B.ok 3 _ rfl)) (a_8 (B.ok 4 _ rfl)) hth)) ?_
    rintro AJl _ AhI ⟨vt1200, vm1201, lr1202, lb1203, lk1204, rfl, ADG⟩ HY; have Sa := B.h_1 ADG rfl; clear ADG HX B AJk
    refine s1 HY (a_0 rfl HY.e) fun AJm HZ => ?_; clear HY AJl
    refine s2 HZ (a_6 rfl m_7 (ev1 HZ.e) (d_5 l _ _ (Sa.sk 7 rfl) (by omega))) ?_
    rintro AJn Agu AhJ ⟨ABC, hO1213⟩ CE; have A9 := Sa.f_7 ABC hO1213; clear ABC hO1213 HZ Sa AJm
    refine s2 CE (a_6 rfl m_1 (ev2 CE.e CE.e) (g_9 b vt1200 vm1201 lr1202 lb1203 lk1204 _ (b_1 (A9.ok 1 _ rfl)) (a_8 (A9.ok 2 _ rfl)) hth l _ (SlAt.b_9 (A9.c_0 0 rfl)) (by omega) hr hs)) ?_
    rintro AJo _ AhK ⟨rfl, ABD⟩ Ha; have BA := A9.step ABD; clear ABD CE A9 AJn
    refine s1 Ha (a_0 rfl Ha.e) fun AJp Hb => ?_; clear Ha AJo
    refine s1 Hb (b_2 rfl Hb.e rfl) fun AJq Hc => ?_; clear Hb AJp
    refine s1 Hc (b_2 rfl Hc.e rfl) fun AJr Hd => ?_; clear Hc AJq
    refine s1 Hd (a_1 rfl Hd.e) fun AJs He => ?_; clear Hd AJr
    refine s1 He (a_1 rfl He.e) fun AJt Xg => ?_; clear He AJs
    refine n2 ?_
    have Hf := Xg.as [(17, (iv (spE b l))), (16, (Value.slice none 0 0)), (10, (A 3)), (9, (bptr b4_ 0))] rfl; clear Xg
    refine a_5 (s1 Hf (b_8 rfl k_7 (Hf.ev rfl) (BA.bk 4 rfl) (l := [(iv b.scales), vt, vm]) rfl rfl) fun AJu Hg => ?_); clear Hf AJt
    refine s2 Hg (a_6 rfl m_6 (ev1 Hg.e) (g_2 b vt vm lr lb lk _ (b_1 (BA.ok 6 _ rfl)) (a_8 (BA.ok 7 _ rfl)) hth)) ?_
    rintro AJv _ AhL ⟨vt1237, vm1238, lr1239, lb1240, lk1241, rfl, ADH⟩ Hh; have Sb := BA.h_1 ADH rfl; clear ADH Hg BA AJu
    refine s1 Hh (a_0 rfl Hh.e) fun AJw Hi => ?_; clear Hh AJv
    refine s2 Hi (a_6 rfl m_7 (ev1 Hi.e) (d_5 l _ _ (SlAt.b_9 (Sb.c_0 5 rfl)) (by omega))) ?_
    rintro AJx Agv AhM ⟨ABE, hO1250⟩ CF; have BB := Sb.f_7 ABE hO1250; clear ABE hO1250 Hi Sb AJw
    refine s2 CF (a_6 rfl m_1 (ev2 CF.e CF.e) (g_9 b vt1237 vm1238 lr1239 lb1240 lk1241 _ (b_1 (BB.ok 1 _ rfl)) (a_8 (BB.ok 2 _ rfl)) hth l _ (SlAt.b_9 (BB.c_0 0 rfl)) (by omega) hr hs)) ?_
    rintro AJy _ AhN ⟨rfl, ABF⟩ Hj; have ACW := BB.step ABF; clear ABF CF BB AJx
    refine s1 Hj (a_0 rfl Hj.e) fun AJz Hk => ?_; clear Hj AJy
    refine s1 Hk (b_2 rfl Hk.e rfl) fun AJ0 Hl => ?_; clear Hk AJz
    refine s1 Hl (b_2 rfl Hl.e rfl) fun AJ1 Hm => ?_; clear Hl AJ0
    refine s1 Hm (a_1 rfl Hm.e) fun AJ2 Hn => ?_; clear Hm AJ1
    refine s1 Hn (a_1 rfl Hn.e) fun AJ3 Xh => ?_; clear Hn AJ2
    refine n2 ?_
    have Ho := Xh.as [(19, (iv (spE b l))), (18, (Value.slice none 0 0)), (17, (iv (spE b l))), (16, (Value.slice none 0 0))] rfl; clear Xh
    refine a_5 (s1 Ho (a_0 rfl Ho.e) fun AJ4 Hp => ?_); clear Ho AJ3
    refine s1 Hp (a_0 rfl Hp.e) fun AJ5 CG => ?_; clear Hp AJ4
    refine s1 CG (e_9 rfl CG.e CG.e) fun AJ6 CH => ?_; clear CG AJ5
    have AIA : (spE b l) = (spE b l) := rfl
    rw [decide_eq_true AIA] at CH
    refine s1 CH (a_0 rfl CH.e) fun AJ7 Hq => ?_; clear CH AJ6
    refine s5 Hq (a_0 rfl Hq.e) fun AJ8 Hr => ?_; clear Hq AJ7
    refine s5 Hr (e_9 rfl Hr.e (evc _ _)) fun AJ9 CI => ?_; clear Hr AJ8
    have AEB : ¬ ((spE b l) = 0) := (by rw [o_4 hr hs]; decide)
    rw [decide_eq_false AEB] at CI
    refine s5 CI (a_0 rfl CI.e) fun AKA Hs => ?_; clear CI AJ9
    refine s5 Hs (a_0 rfl Hs.e) fun AKB Ht => ?_; clear Hs AKA
    refine s5 Ht (e_9 rfl Ht.e (evc _ _)) fun AKC Ap => ?_; clear Ht AKB
    have AIB : (spE b l) = 9 := (o_4 hr hs)
    rw [decide_eq_true AIB] at Ap
    refine s5 Ap (c_3 rfl Ap.e Ap.e) fun AKD CJ => ?_; clear Ap AKC
    refine s1 CJ (a_7 rfl CJ.e CJ.e) fun AKE Hu => ?_; clear CJ AKD
    refine s1 Hu (a_0 rfl Hu.e) fun AKF Hv => ?_; clear Hu AKE
    refine s5 Hv (a_0 rfl Hv.e) fun AKG Hw => ?_; clear Hv AKF
    refine s5 Hw (l_5 rfl Hw.e (evc _ _)) fun AKH CK => ?_; clear Hw AKG
    rw [decide_eq_false AEB] at CK
    refine s5 CK (a_0 rfl CK.e) fun AKI Xi => ?_; clear CK AKH
    refine s3 Xi fun AKJ Xj => ?_; clear Xi AKI
    refine s3 Xj fun AKK Xk => ?_; clear Xj AKJ
    refine s3 Xk fun AKL Xl => ?_; clear Xk AKK
    refine s3 Xl fun AKM Xm => ?_; clear Xl AKL
    refine s3 Xm fun AKN Xn => ?_; clear Xm AKM
    refine s3 Xn fun AKO Xo => ?_; clear Xn AKN
    refine s4 Xo fun AKP Xp => ?_; clear Xo AKO
    refine s4 Xp fun AKQ Xq => ?_; clear Xp AKP
    refine s4 Xq fun AKR Xr => ?_; clear Xq AKQ
    refine s4 Xr fun AKS Xs => ?_; clear Xr AKR
    refine s4 Xs fun AKT Xt => ?_; clear Xs AKS
    refine s3 Xt fun AKU Hx => ?_; clear Xt AKT
    refine s5 Hx (a_7 rfl Hx.e (evc _ _)) fun AKV CL => ?_; clear Hx AKU
    refine s1 CL (a_7 rfl CL.e CL.e) fun AKW Hy => ?_; clear CL AKV
    refine s1 Hy (a_0 rfl Hy.e) fun AKX Xu => ?_; clear Hy AKW
    refine s6 Xu (a_6 rfl v_5 ev0 (j_2 _)) ?_
    rintro AKY _ AhO ⟨rfl, ABG⟩ CM; have AHk := ACW.step ABG; clear ABG Xu ACW AKX
    refine s1 CM (a_7 rfl CM.e CM.e) fun AKZ Hz => ?_; clear CM AKY
    refine s1 Hz (a_1 rfl Hz.e) fun AgU Xv => ?_; clear Hz AKZ
    exact n1 (c_5 (b_0 Xv (.inl rfl) (a_2 Xv rfl (.tmp rfl)) (⟨rfl, AHk.ext⟩)))
   skip
   have D := F.trans hs; have htln := ab_1 hb hl hs
   refine a_5 (s1 AN (b_8 rfl k_7 (AN.ev rfl) (B.bk 2 rfl) (l := [(iv b.scales), vt, vm]) rfl rfl) fun AKa H0 => ?_); clear AN AET
   refine s2 H0 (a_6 rfl m_6 (ev1 H0.e) (g_2 b vt vm lr lb lk _ (b_1 (B.ok 3 _ rfl)) (a_8 (B.ok 4 _ rfl)) hth)) ?_
   rintro AKb _ AhP ⟨vt1346, vm1347, lr1348, lb1349, lk1350, rfl, ADI⟩ H1; have Sc := B.h_1 ADI rfl; clear ADI H0 B AKa
   refine s1 H1 (a_0 rfl H1.e) fun AKc H2 => ?_; clear H1 AKb
   refine s2 H2 (a_6 rfl m_7 (ev1 H2.e) (d_5 l _ _ (Sc.sk 7 rfl) (by omega))) ?_
   rintro AKd AG8 AhQ ⟨ABH, hO1359⟩ CN; have BC := Sc.f_7 ABH hO1359; clear ABH hO1359 H2 Sc AKc
   refine s2 CN (a_6 rfl m_1 (ev2 CN.e CN.e) (j_1 b vt1346 vm1347 lr1348 lb1349 lk1350 _ (b_1 (BC.ok 1 _ rfl)) (a_8 (BC.ok 2 _ rfl)) hth l _ (SlAt.b_9 (BC.c_0 0 rfl)) (by omega) t hr hs)) ?_
   rintro AKe _ AaN ⟨Gk, rfl, ADJ⟩ H3
   have BD : Sep NoB w AaN [(row Gk 30 2 t.length (pairs t)), (row AG8 98 2 l.length (pairs l)), (d_2 true vt1346 lr1348 lb1349 b.tabs), (d_4 true vm1347 lk1350 b.macs), (row (A 3) 67 2 l.length (pairs l)), (blk b4_ 25 [(iv b.scales), vt, vm]), (blk C 25 [(iv b.scales), vt, vm]), (d_2 false vt lr lb b.tabs), (d_4 false vm lk b.macs), (sl xl 2 l.length (pairs l))] := BC.h_1 ADJ rfl; clear ADJ CN BC AKd
   refine s1 H3 (a_0 rfl H3.e) fun AKf H4 => ?_; clear H3 AKe
   refine s1 H4 (b_2 rfl H4.e rfl) fun AKg H5 => ?_; clear H4 AKf
   refine s1 H5 (b_2 rfl H5.e rfl) fun AKh H6 => ?_; clear H5 AKg
   refine s1 H6 (a_1 rfl H6.e) fun AKi H7 => ?_; clear H6 AKh
   refine s1 H7 (a_1 rfl H7.e) fun AKj Xw => ?_; clear H7 AKi
   refine n2 ?_
   have H8 := Xw.as [(17, (iv 0)), (16, Gk), (10, (A 3)), (9, (bptr b4_ 0))] rfl; clear Xw
   refine a_5 (s1 H8 (b_8 rfl k_7 (H8.ev rfl) (BD.bk 5 rfl) (l := [(iv b.scales), vt, vm]) rfl rfl) fun AKk H9 => ?_); clear H8 AKj
   refine s2 H9 (a_6 rfl m_6 (ev1 H9.e) (g_2 b vt vm lr lb lk _ (b_1 (BD.ok 7 _ rfl)) (a_8 (BD.ok 8 _ rfl)) hth)) ?_
   rintro AKl _ AhR ⟨vt1384, vm1385, lr1386, lb1387, lk1388, rfl, ADK⟩ IA; have Sd := BD.h_1 ADK rfl; clear ADK H9 BD AKk
   refine s1 IA (a_0 rfl IA.e) fun AKm IB => ?_; clear IA AKl
   refine s2 IB (a_6 rfl m_7 (ev1 IB.e) (d_5 l _ _ (SlAt.b_9 (Sd.c_0 6 rfl)) (by omega))) ?_
   rintro AKn AaD AhS ⟨ABI, hO1397⟩ CO; have BE := Sd.f_7 ABI hO1397; clear ABI hO1397 IB Sd AKm
   refine s2 CO (a_6 rfl m_1 (ev2 CO.e CO.e) (j_1 b vt1384 vm1385 lr1386 lb1387 lk1388 _ (b_1 (BE.ok 1 _ rfl)) (a_8 (BE.ok 2 _ rfl)) hth l _ (SlAt.b_9 (BE.c_0 0 rfl)) (by omega) t hr hs)) ?_
   rintro AKo _ AaO ⟨AGz, rfl, ADL⟩ IC
   have E4 : Sep NoB w AaO [(row AGz 30 2 t.length (pairs t)), (row AaD 98 2 l.length (pairs l)), (d_2 true vt1384 lr1386 lb1387 b.tabs), (d_4 true vm1385 lk1388 b.macs), (row Gk 30 2 t.length (pairs t)), (row AG8 98 2 l.length (pairs l)), (d_2 true vt1346 lr1348 lb1349 b.tabs), (d_4 true vm1347 lk1350 b.macs), (row (A 3) 67 2 l.length (pairs l)), (blk b4_ 25 [(iv b.scales), vt, vm]), (blk C 25 [(iv b.scales), vt, vm]), (d_2 false vt lr lb b.tabs), (d_4 false vm lk b.macs), (sl xl 2 l.length (pairs l))] := BE.h_1 ADL rfl; clear ADL CO BE AKn
   refine s1 IC (a_0 rfl IC.e) fun AKp ID => ?_; clear IC AKo
   refine s1 ID (b_2 rfl ID.e rfl) fun AKq IE => ?_; clear ID AKp
   refine s1 IE (b_2 rfl IE.e rfl) fun AKr IF => ?_; clear IE AKq
   refine s1 IF (a_1 rfl IF.e) fun AKs IG => ?_; clear IF AKr
   refine s1 IG (a_1 rfl IG.e) fun AKt Xx => ?_; clear IG AKs
   refine n2 ?_
   have IH := Xx.as [(19, (iv 0)), (18, AGz), (17, (iv 0)), (16, Gk)] rfl; clear Xx
   refine a_5 (s1 IH (a_0 rfl IH.e) fun AKu II => ?_); clear IH AKt
   refine s1 II (a_0 rfl II.e) fun AKv CP => ?_; clear II AKu
   refine s1 CP (e_9 rfl CP.e CP.e) fun AKw IJ => ?_; clear CP AKv
   refine s1 IJ (a_0 rfl IJ.e) fun AKx IK => ?_; clear IJ AKw
   refine s5 IK (a_0 rfl IK.e) fun AKy IL => ?_; clear IK AKx
   refine s5 IL (e_9 rfl IL.e (evc _ _)) fun AKz IM => ?_; clear IL AKy
   refine s5 IM (a_0 rfl IM.e) fun AK0 Xy => ?_; clear IM AKz
   refine s3 Xy fun AK1 Xz => ?_; clear Xy AK0
   refine s3 Xz fun AK2 IN => ?_; clear Xz AK1
   refine s5 IN (a_7 rfl IN.e (evc _ _)) fun AK3 CQ => ?_; clear IN AK2
   refine s1 CQ (a_7 rfl CQ.e CQ.e) fun AK4 IOa => ?_; clear CQ AK3
   refine s1 IOa (a_0 rfl IOa.e) fun AK5 IP => ?_; clear IOa AK4
   refine s5 IP (a_0 rfl IP.e) fun AK6 IQ => ?_; clear IP AK5
   refine s5 IQ (l_5 rfl IQ.e (evc _ _)) fun AK7 IR => ?_; clear IQ AK6
   refine s5 IR (a_0 rfl IR.e) fun AK8 IS => ?_; clear IR AK7
   refine s5 IS (a_0 rfl IS.e) fun AK9 IT => ?_; clear IS AK8
   refine s5 IT (a_0 rfl IT.e) fun ALA IU => ?_; clear IT AK9
   refine s5 IU (a_0 rfl IU.e) fun ALB IV => ?_; clear IU ALA
   refine s5 IV (a_0 rfl IV.e) fun ALC AO => ?_; clear IV ALB
   refine s6 AO (a_6 rfl w_2 (ev4 AO.e AO.e AO.e AO.e) (g_0 t _ 0 t _ 0 _ (SlAt.b_9 (E4.c_0 4 rfl)) (SlAt.b_9 (E4.c_0 0 rfl)) (by omega))) ?_
   rintro ALD _ AhT ⟨rfl, ABJ⟩ CR; have E5 := E4.step ABJ; clear ABJ AO E4 ALC
   have AEC : (narB t 0 t 0) = true := (q_7 hb hl hs)
   rw [AEC] at CR
   refine s5 CR (a_0 rfl CR.e) fun ALE IW => ?_; clear CR ALD
   refine s5 IW (a_0 rfl IW.e) fun ALF IX => ?_; clear IW ALE
   refine s5 IX (a_0 rfl IX.e) fun ALG IY => ?_; clear IX ALF
   refine s5 IY (a_0 rfl IY.e) fun ALH IZ => ?_; clear IY ALG
   refine s5 IZ (a_0 rfl IZ.e) fun ALI AP => ?_; clear IZ ALH
   refine s6 AP (a_6 rfl w_2 (ev4 AP.e AP.e AP.e AP.e) (g_0 t _ 0 t _ 0 _ (SlAt.b_9 (E5.c_0 0 rfl)) (SlAt.b_9 (E5.c_0 4 rfl)) (by omega))) ?_
   rintro ALJ _ AhU ⟨rfl, ABK⟩ Aq; have ACX := E5.step ABK; clear ABK AP E5 ALI
   rw [AEC] at Aq
   refine s5 Aq (a_7 rfl Aq.e Aq.e) fun ALK CS => ?_; clear Aq ALJ
   refine s5 CS (c_3 rfl CS.e CS.e) fun ALL CT => ?_; clear CS ALK
   refine s1 CT (a_7 rfl CT.e CT.e) fun ALM Ia => ?_; clear CT ALL
   refine s1 Ia (a_0 rfl Ia.e) fun ALN X0 => ?_; clear Ia ALM
   refine s6 X0 (a_6 rfl v_5 ev0 (j_2 _)) ?_
   rintro ALO _ AhV ⟨rfl, ABL⟩ CU; have AHl := ACX.step ABL; clear ABL X0 ACX ALN
   refine s1 CU (a_7 rfl CU.e CU.e) fun ALP Ib => ?_; clear CU ALO
   refine s1 Ib (a_1 rfl Ib.e) fun AgV X1 => ?_; clear Ib ALP
   exact n1 (c_5 (b_0 X1 (.inl rfl) (a_2 X1 rfl (.tmp rfl)) (⟨rfl, AHl.ext⟩)))
  skip
  rw [decide_eq_false AGp] at Am
  refine s3 Am fun ALQ X2 => ?_; clear Am AHM
  refine s3 X2 fun ALR X3 => ?_; clear X2 ALQ
  refine s3 X3 fun ALS X4 => ?_; clear X3 ALR
  refine s3 X4 fun ALT Ic => ?_; clear X4 ALS
  refine s1 Ic (c_3 rfl Ic.e (evc _ _)) fun ALU Id => ?_; clear Ic ALT
  refine s1 Id (a_1 rfl Id.e) fun ALV Ie => ?_; clear Id ALU
  refine n1 (c_2 Ie rfl (c_1 ?_))
  have If := Ie.as [(10, (A 3)), (9, (bptr b4_ 0)), (4, (bptr C 0)), (1, xl), (3, (Value.int .u8 wb))] rfl; clear Ie
  refine a_5 (s1 If (a_3 rfl g_6 If.e) fun ALW Ig => ?_); clear If ALV
  refine s1 Ig (a_4 rfl n_6 Ig.e (B.bk 2 rfl) rfl) fun ALX Ih => ?_; clear Ig ALW
  refine s1 Ih (d_3 rfl n_7 Ih.e (a_8 (B.ok 4 _ rfl)).macs) fun ALY Ii => ?_; clear Ih ALX
  refine s1 Ii (k_0 rfl Ii.e (evc _ _)) fun ALZ Ij => ?_; clear Ii ALY
  refine s1 Ij (a_1 rfl Ij.e) fun TN c => ?_; clear Ij ALZ
  refine n1 ?_
  by_cases AD2 : 0 < (b.macs.length : Int)
  ·skip
   rw [decide_eq_true AD2] at c
   refine c_7 c rfl (m2 (s1 c (a_0 rfl c.e) fun ALa Ik => ?_)); clear c TN
   refine s1 Ik (op_conv un_5 un_3 rfl Ik.e (v := wb) (wrap_i64 (by omega) (by omega))) fun ALb Il => ?_; clear Ik ALa
   refine s1 Il (a_3 rfl g_6 Il.e) fun ALc Im => ?_; clear Il ALb
   refine s1 Im (a_4 rfl n_6 Im.e (B.bk 2 rfl) rfl) fun ALd In => ?_; clear Im ALc
   refine s1 In (d_3 rfl n_7 In.e (a_8 (B.ok 4 _ rfl)).macs) fun ALe CV => ?_; clear In ALd
   refine s1 CV (ab_0 rfl CV.e CV.e (by omega)) fun ALf Io => ?_; clear CV ALe
   refine s1 Io (a_1 rfl Io.e) fun ALg X5 => ?_; clear Io ALf
   refine n2 ?_
   have Ip := X5.as [(13, (iv ((wb).tmod (b.macs.length : Int)))), (10, (A 3)), (9, (bptr b4_ 0)), (4, (bptr C 0)), (1, xl)] rfl; clear X5
   obtain ⟨kk, hz_kk, hb_kk⟩ := rem_nat (n := wb) (m := b.macs.length) hB_.1 (by omega); rw [hz_kk] at Ip
   have hmk := hth.mac kk; have hb5 := hb.blks _ (mac_mem hb_kk)
   refine a_5 (s2 Ip (f_1 B rfl pv0 n_7 r_2 ze_61 (by decide) (cs := []) bs_61_0_) ?_)
   rintro ALh _ AhW ⟨Ago, rfl, Se⟩ Iq; clear Ip B ALg
   refine s1 Iq (a_3 rfl g_6 Iq.e) fun ALi Ir => ?_; clear Iq ALh
   refine s1 Ir (a_4 rfl n_6 Ir.e (Se.bk 3 rfl) rfl) fun ALj CW => ?_; clear Ir ALi
   have E7 := Se.o_9 (i := 0) (sz := 2) (n := 0) rfl rfl (by decide); clear Se
   refine s2 CW (h_6 E7 rfl n_7 el_61 CW.e CW.e (i := 0) rfl (a_8 (E7.ok 5 _ rfl)).macs (macs_one (a_8 (E7.ok 5 _ rfl))) (by simp only [maxLen, List.length_drop, List.length_take]; omega) (by first | omega | (simp only [List.length_drop, List.length_take]; omega))) ?_
   intro ALk I AhX ACY Is
   have E8 := ACY.f_2 (i := 0) rfl (n' := b.macs.length) (xs' := (k_6 lk b.macs)) (by simp only [Nat.zero_add]) (List.nil_append _); clear ACY CW E7 ALj
   refine s1 Is (a_3 rfl g_6 Is.e) fun ALl CX => ?_; clear Is ALk
   refine s7 CX (c_4 E8 rfl n_6 CX.e CX.e (i := 2) rfl (vs := [I]) (k_9 (SlAt.isSl (SlAt.b_9 (E8.c_0 0 rfl)))) rfl (i_1 (SlAt.one (SlAt.b_9 (E8.c_0 0 rfl))) q_6) (Nat.le_of_ble_eq_true rfl)) ?_
   intro _ AaP ACZ X6; clear CX
   have ACa : Sep NoB w AaP [(row I 61 2 b.macs.length (k_6 lk b.macs)), (row (A 3) 67 2 l.length (pairs l)), (blk b4_ 25 [(iv b.scales), vt, I]), (blk C 25 [(iv b.scales), vt, vm]), (d_2 false vt lr lb b.tabs), (d_4 false vm lk b.macs), (sl xl 2 l.length (pairs l))] := ACZ; clear ACZ E8
   refine n4 (s1 X6 (a_1 rfl (evc _ _)) fun ALm It => ?_); clear X6 ALl
   have z := ACa.t_8 63 3; clear ACa
   refine n2 (m2 (s1 It (a_3 rfl g_6 It.e) fun ALn Iu => ?_)); clear It ALm
   refine s1 Iu (a_4 rfl n_6 Iu.e (z.bk 4 rfl) rfl) fun ALo Iv => ?_; clear Iu ALn
   refine s1 Iv (a_0 rfl Iv.e) fun ALp CY => ?_; clear Iv ALo
   refine s1 CY (b_6 rfl n_7 r_2 CY.e (i := kk) CY.e (a_8 (z.ok 6 _ rfl)).macs (by decide) (by omega)) fun ALq Iw => ?_; clear CY ALp
   refine s1 Iw (d_0 rfl m_2 Iw.e (a_8 (z.ok 6 _ rfl)).macs (by rw [((a_8 (z.ok 6 _ rfl)).macs).1]; omega)) fun ALr Ix => ?_; clear Iw ALq
   refine s1 Ix (c_6 rfl w_4 Ix.e (a_8 (z.ok 6 _ rfl)).macs (s_5 (by omega))) fun ALs Iy => ?_; clear Ix ALr
   refine s1 Iy (d_3 rfl t_4 Iy.e ((a_8 (z.ok 6 _ rfl)).blk (i := kk) (by omega))) fun ALt Iz => ?_; clear Iy ALs
   refine s1 Iz (i_3 rfl Iz.e (evc _ _) (by omega) (by omega)) fun ALu I0 => ?_; clear Iz ALt
   refine s1 I0 (a_1 rfl I0.e) fun ALv X7 => ?_; clear I0 ALu
   refine n1 (d_1 ?_)
   have X8 := X7.as [(15, (iv (((b.macs.getD kk mac0).blocks.length : Int) - 1))), (14, (Value.slice none 0 0)), (13, (iv (kk : Int))), (10, (A 3)), (9, (bptr b4_ 0)), (4, (bptr C 0)), (1, xl)] rfl; clear X7
   refine h_9 (G := Nat) (fun (s : Nat) a_ w_ => ∃ v14_ : Value, Fr 174 [] [(15, (iv (((b.macs.getD kk mac0).blocks.length : Int) - ((s + 1 : Nat) : Int)))), (14, v14_), (13, (iv (kk : Int))), (10, (A 3)), (9, (bptr b4_ 0)), (4, (bptr C 0)), (1, xl)] a_ ∧ Sep NoB w w_ [(row v14_ 63 3 (((b.macs.getD kk mac0).blocks.reverse.take s).length) (trips ((b.macs.getD kk mac0).blocks.reverse.take s))), (row I 61 2 b.macs.length (k_6 lk b.macs)), (row (A 3) 67 2 l.length (pairs l)), (blk b4_ 25 [(iv b.scales), vt, I]), (blk C 25 [(iv b.scales), vt, vm]), (d_2 false vt lr lb b.tabs), (d_4 false vm lk b.macs), (sl xl 2 l.length (pairs l))] ∧ (s ≤ (b.macs.getD kk mac0).blocks.length)) (fun s => (b.macs.getD kk mac0).blocks.length - s) 0 ⟨(Value.slice none 0 0), X8.as _ (by rfl), (z.f_2 (i := 0) rfl (by rfl) (by rfl)), by omega⟩ ?_
   clear X8 z ALv
   rintro s ALw AhY ⟨v14_, I1, Q, hks⟩
   have hrt : ((b.macs.getD kk mac0).blocks.reverse.take s).length ≤ 8 := (by rw [List.length_take, List.length_reverse]; omega)
   refine c_1 (m2 (s1 I1 (a_0 rfl I1.e) fun ALx I2 => ?_)); clear I1 ALw
   refine s1 I2 (v_6 rfl I2.e (evc _ _)) fun AEs M => ?_; clear I2 ALx
   refine n1 ?_
   by_cases AD3 : 0 ≤ (((b.macs.getD kk mac0).blocks.length : Int) - ((s + 1 : Nat) : Int))
   ·skip
    rw [decide_eq_true AD3] at M
    refine c_7 M rfl (d_7 (b_5 (c_1 (d_1 ?_))))
    rw [show (((b.macs.getD kk mac0).blocks.length : Int) - ((s + 1 : Nat) : Int)) = (((b.macs.getD kk mac0).blocks.length - 1 - s : Nat) : Int) from by omega] at M
    refine a_5 (s1 M (a_0 rfl M.e) fun ALy I3 => ?_); clear M AEs
    refine s1 I3 (a_3 rfl g_6 I3.e) fun ALz I4 => ?_; clear I3 ALy
    refine s1 I4 (a_4 rfl n_6 I4.e (Q.bk 4 rfl) rfl) fun AL0 I5 => ?_; clear I4 ALz
    refine s1 I5 (a_0 rfl I5.e) fun AL1 CZ => ?_; clear I5 AL0
    refine s1 CZ (b_6 rfl n_7 r_2 CZ.e (i := kk) CZ.e (a_8 (Q.ok 6 _ rfl)).macs (by decide) (by omega)) fun AL2 I6 => ?_; clear CZ AL1
    refine s1 I6 (d_0 rfl m_2 I6.e (a_8 (Q.ok 6 _ rfl)).macs (by rw [((a_8 (Q.ok 6 _ rfl)).macs).1]; omega)) fun AL3 I7 => ?_; clear I6 AL2
    refine s1 I7 (c_6 rfl w_4 I7.e (a_8 (Q.ok 6 _ rfl)).macs (s_5 (by omega))) fun AL4 I8 => ?_; clear I7 AL3
    refine s1 I8 (a_0 rfl I8.e) fun AL5 Ca => ?_; clear I8 AL4
    refine s1 Ca (b_6 rfl t_4 z_7 Ca.e (i := ((b.macs.getD kk mac0).blocks.length - 1 - s : Nat)) Ca.e ((a_8 (Q.ok 6 _ rfl)).blk (i := kk) (by omega)) (by decide) (by omega)) fun AL6 I9 => ?_; clear Ca AL5
    refine s1 I9 (f_0 rfl z_7 I9.e ((a_8 (Q.ok 6 _ rfl)).blk (i := kk) (by omega)) (p_8 (by omega)) rfl (by decide)) fun AL7 JA => ?_; clear I9 AL6
    refine s2 JA (f_1 Q rfl (pv1 JA.e) t_4 z_7 ze_63 (by decide) (cs := [(iv ((((b.macs.getD kk mac0).blocks).getD ((b.macs.getD kk mac0).blocks.length - 1 - s : Nat) (0, 0, 0)).1)), (iv ((((b.macs.getD kk mac0).blocks).getD ((b.macs.getD kk mac0).blocks.length - 1 - s : Nat) (0, 0, 0)).2.1)), (iv ((((b.macs.getD kk mac0).blocks).getD ((b.macs.getD kk mac0).blocks.length - 1 - s : Nat) (0, 0, 0)).2.2))]) (u_3 _ _ _)) ?_
    rintro AL8 _ AhZ ⟨Agp, rfl, Sf⟩ Cb; clear JA Q AL7
    refine s2 Cb (h_6 Sf rfl t_4 el_63 Cb.e Cb.e (i := 1) rfl (SlAt.of_blk (Sf.bk 0 rfl) rfl (Nat.le_of_ble_eq_true rfl)) rfl (by simp only [maxLen, List.length_drop, List.length_take]; omega) (by first | omega | (simp only [List.length_drop, List.length_take]; omega))) ?_
    intro AL9 AG9 Aha ACb JB
    have ACc := ACb.f_2 (i := 1) rfl (n' := (((b.macs.getD kk mac0).blocks.reverse.take s) ++ [((((b.macs.getD kk mac0).blocks).getD ((b.macs.getD kk mac0).blocks.length - 1 - s : Nat) (0, 0, 0)).1, (((b.macs.getD kk mac0).blocks).getD ((b.macs.getD kk mac0).blocks.length - 1 - s : Nat) (0, 0, 0)).2.1, (((b.macs.getD kk mac0).blocks).getD ((b.macs.getD kk mac0).blocks.length - 1 - s : Nat) (0, 0, 0)).2.2)]).length) (xs' := (trips (((b.macs.getD kk mac0).blocks.reverse.take s) ++ [((((b.macs.getD kk mac0).blocks).getD ((b.macs.getD kk mac0).blocks.length - 1 - s : Nat) (0, 0, 0)).1, (((b.macs.getD kk mac0).blocks).getD ((b.macs.getD kk mac0).blocks.length - 1 - s : Nat) (0, 0, 0)).2.1, (((b.macs.getD kk mac0).blocks).getD ((b.macs.getD kk mac0).blocks.length - 1 - s : Nat) (0, 0, 0)).2.2)]))) (by simp) (by simp [trips]); clear ACb Cb Sf AL8
    refine s1 JB (a_1 rfl JB.e) fun AMA X9 => ?_; clear JB AL9
    refine e_6 (h_0 (b_5 ?_))
    have JC := X9.as [(14, AG9), (15, (iv (((b.macs.getD kk mac0).blocks.length - 1 - s : Nat) : Int))), (13, (iv (kk : Int))), (10, (A 3)), (9, (bptr b4_ 0)), (4, (bptr C 0)), (1, xl)] rfl; clear X9
    refine a_5 (s1 JC (a_0 rfl JC.e) fun AMB JD => ?_); clear JC AMA
    refine s1 JD (i_3 rfl JD.e (evc _ _) (by omega) (by omega)) fun AMC JE => ?_; clear JD AMB
    refine s1 JE (a_1 rfl JE.e) fun AgW YA => ?_; clear JE AMC
    refine e_6 ?_
    rw [show (((b.macs.getD kk mac0).blocks.length - 1 - s : Nat) : Int) - 1 = (((b.macs.getD kk mac0).blocks.length : Int) - ((s + 1 + 1 : Nat) : Int)) from by omega] at YA
    have AHn := ACc.gkp (gpc 1 (gpc 2 (gpc 3 (gpc 4 (gpc 5 (gpc 6 (gpc 7 (gpc 8 gpn)))))))); clear ACc
    exact b_5 ⟨s + 1, ⟨AG9, YA.as _ rfl, (AHn.f_2 (i := 0) rfl (n' := ((b.macs.getD kk mac0).blocks.reverse.take (s + 1)).length) (xs' := trips ((b.macs.getD kk mac0).blocks.reverse.take (s + 1))) (by rw [w_7 (by omega)]) (by rw [w_7 (by omega)])), by omega⟩, by omega⟩
   skip
   rw [decide_eq_false AD3] at M
   refine c_2 M rfl (h_8 (b_7 (b_7 (f_9 (b_5 ?_)))))
   have AA := Q.f_2 (i := 0) rfl (n' := ((b.macs.getD kk mac0).blocks.reverse).length) (xs' := trips ((b.macs.getD kk mac0).blocks.reverse)) (by rw [List.take_of_length_le (by rw [List.length_reverse]; omega)]) (by rw [List.take_of_length_le (by rw [List.length_reverse]; omega)]); clear Q
   refine a_5 (s1 M (a_3 rfl g_6 M.e) fun AMD JF => ?_); clear M AEs
   refine s1 JF (a_4 rfl n_6 JF.e (AA.bk 3 rfl) rfl) fun AME JG => ?_; clear JF AMD
   refine s1 JG (a_0 rfl JG.e) fun AMF JH => ?_; clear JG AME
   refine s1 JH (a_0 rfl JH.e) fun AMG Cc => ?_; clear JH AMF
   refine s1 Cc (b_6 rfl n_7 r_2 Cc.e (i := kk) Cc.e (SlAt.b_9 (AA.c_0 1 rfl)) (by decide) (by omega)) fun AMH JI => ?_; clear Cc AMG
   refine s1 JI (d_0 rfl m_2 JI.e (SlAt.b_9 (AA.c_0 1 rfl)) (by rw [((SlAt.b_9 (AA.c_0 1 rfl))).1]; omega)) fun AEt Cd => ?_; clear JI AMH
   refine s7 Cd (op_storeE AA rfl w_4 Cd.e Cd.e (i := 1) rfl (vs := [v14_]) (k_9 (SlAt.isSl (SlAt.b_9 (AA.c_0 0 rfl)))) rfl (i_1 (SlAt.one (SlAt.b_9 (AA.c_0 0 rfl))) q_6) (by rw [macs_len]; omega) (by decide)) ?_
   intro _ AaQ ACd YB; have ACe := ACd.f_2 (i := 1) rfl (n' := (b.macs.set kk ⟨(b.macs.getD kk mac0).scale, (b.macs.getD kk mac0).blocks.reverse⟩).length) (xs' := (k_6 (putV kk lk v14_) (b.macs.set kk ⟨(b.macs.getD kk mac0).scale, (b.macs.getD kk mac0).blocks.reverse⟩))) (by rw [List.length_set]) (macs_setB (by omega)); clear ACd Cd AA
   refine e_6 (h_0 (b_5 (c_1 ?_)))
   have AQ := YB.as [(10, (A 3)), (9, (bptr b4_ 0)), (4, (bptr C 0)), (1, xl)] rfl; clear YB
   have ACf := v_2 ACe (i := 0) rfl; clear ACe
   have Sg := ACf.gkp (gpc 1 (gpc 0 (gpc 2 (gpc 3 (gpc 4 (gpc 5 (gpc 6 (gpc 7 gpn)))))))); clear ACf
   have AHf := setB_ro (m := ⟨(b.macs.getD kk mac0).scale, (b.macs.getD kk mac0).blocks.reverse⟩) Sg.tail (i := 5) (j := 0) rfl rfl hb_kk
   have U : Sep NoB w AaQ [(d_4 false I (putV kk lk v14_) ((putM b kk (b.macs.getD kk mac0).blocks.reverse).macs)), (sl v14_ 3 (((b.macs.getD kk mac0).blocks.reverse).length) (trips ((b.macs.getD kk mac0).blocks.reverse))), (row (A 3) 67 2 l.length (pairs l)), (blk b4_ 25 [(iv b.scales), vt, I]), (blk C 25 [(iv b.scales), vt, vm]), (d_2 false vt lr lb b.tabs), (d_4 false vm lk b.macs), (sl xl 2 l.length (pairs l))] := sep_macs_ro Sg AHf; clear Sg
   have Z := order_rev hr (k := kk) hb_kk; have E := Z.1; have F := Z.2; have Al := l_2 E; have TM := m_5 Al; have hth2 := putM_thin (bl := (b.macs.getD kk mac0).blocks.reverse) hth (by rw [List.length_reverse]; omega) hb_kk
   rcases r_0 b l with hs | ⟨t, hs⟩
   ·skip
    have D := F.trans hs
    refine a_5 (s1 AQ (b_8 rfl k_7 (AQ.ev rfl) (U.bk 4 rfl) (l := [(iv b.scales), vt, vm]) rfl rfl) fun AMI JJ => ?_); clear AQ AEt
    refine s2 JJ (a_6 rfl m_6 (ev1 JJ.e) (g_2 b vt vm lr lb lk _ (b_1 (U.ok 5 _ rfl)) (a_8 (U.ok 6 _ rfl)) hth)) ?_
    rintro AMJ _ Ahb ⟨vt1653, vm1654, lr1655, lb1656, lk1657, rfl, ADM⟩ JK; have Sh := U.h_1 ADM rfl; clear ADM JJ U AMI
    refine s1 JK (a_0 rfl JK.e) fun AMK JL => ?_; clear JK AMJ
    refine s2 JL (a_6 rfl m_7 (ev1 JL.e) (d_5 l _ _ (Sh.sk 9 rfl) (by omega))) ?_
    rintro AML Agw Ahc ⟨ABM, hO1666⟩ Ce; have BF := Sh.f_7 ABM hO1666; clear ABM hO1666 JL Sh AMK
    refine s2 Ce (a_6 rfl m_1 (ev2 Ce.e Ce.e) (g_9 b vt1653 vm1654 lr1655 lb1656 lk1657 _ (b_1 (BF.ok 1 _ rfl)) (a_8 (BF.ok 2 _ rfl)) hth l _ (SlAt.b_9 (BF.c_0 0 rfl)) (by omega) hr hs)) ?_
    rintro AMM _ Ahd ⟨rfl, ABN⟩ JM; have BG := BF.step ABN; clear ABN Ce BF AML
    refine s1 JM (a_0 rfl JM.e) fun AMN JN => ?_; clear JM AMM
    refine s1 JN (b_2 rfl JN.e rfl) fun AMO JO => ?_; clear JN AMN
    refine s1 JO (b_2 rfl JO.e rfl) fun AMP JP => ?_; clear JO AMO
    refine s1 JP (a_1 rfl JP.e) fun AMQ JQ => ?_; clear JP AMP
    refine s1 JQ (a_1 rfl JQ.e) fun AMR YC => ?_; clear JQ AMQ
    refine n2 ?_
    have JR := YC.as [(17, (iv (spE b l))), (16, (Value.slice none 0 0)), (10, (A 3)), (9, (bptr b4_ 0))] rfl; clear YC
    refine a_5 (s1 JR (b_8 rfl k_7 (JR.ev rfl) (BG.bk 6 rfl) (l := [(iv b.scales), vt, I]) rfl rfl) fun AMS JS => ?_); clear JR AMR
    refine s2 JS (a_6 rfl m_6 (ev1 JS.e) (g_2 (putM b kk (b.macs.getD kk mac0).blocks.reverse) vt I lr lb (putV kk lk v14_) _ (b_1 (BG.ok 8 _ rfl)) (a_8 (BG.ok 3 _ rfl)) hth2)) ?_
    rintro AMT _ Ahe ⟨vt1690, vm1691, lr1692, lb1693, lk1694, rfl, ADN⟩ JT; have Si := BG.h_1 ADN rfl; clear ADN JS BG AMS
    refine s1 JT (a_0 rfl JT.e) fun AMU JU => ?_; clear JT AMT
    refine s2 JU (a_6 rfl m_7 (ev1 JU.e) (d_5 l _ _ (SlAt.b_9 (Si.c_0 7 rfl)) (by omega))) ?_
    rintro AMV Agx Ahf ⟨ABO, hO1703⟩ Cf; have BH := Si.f_7 ABO hO1703; clear ABO hO1703 JU Si AMU
    refine s2 Cf (a_6 rfl m_1 (ev2 Cf.e Cf.e) (g_9 (putM b kk (b.macs.getD kk mac0).blocks.reverse) vt1690 vm1691 lr1692 lb1693 lk1694 _ (b_1 (BH.ok 1 _ rfl)) (a_8 (BH.ok 2 _ rfl)) hth2 l _ (SlAt.b_9 (BH.c_0 0 rfl)) (by omega) E D)) ?_
    rintro AMW _ Ahg ⟨rfl, ABP⟩ JV; have ACg := BH.step ABP; clear ABP Cf BH AMV
    refine s1 JV (a_0 rfl JV.e) fun AMX JW => ?_; clear JV AMW
    refine s1 JW (b_2 rfl JW.e rfl) fun AMY JX => ?_; clear JW AMX
    refine s1 JX (b_2 rfl JX.e rfl) fun AMZ JY => ?_; clear JX AMY
    refine s1 JY (a_1 rfl JY.e) fun AMa JZ => ?_; clear JY AMZ
    refine s1 JZ (a_1 rfl JZ.e) fun AMb YD => ?_; clear JZ AMa
    refine n2 ?_
    have Ja := YD.as [(19, (iv (spE (putM b kk (b.macs.getD kk mac0).blocks.reverse) l))), (18, (Value.slice none 0 0)), (17, (iv (spE b l))), (16, (Value.slice none 0 0))] rfl; clear YD
    refine a_5 (s1 Ja (a_0 rfl Ja.e) fun AMc Jb => ?_); clear Ja AMb
    refine s1 Jb (a_0 rfl Jb.e) fun AMd Cg => ?_; clear Jb AMc
    refine s1 Cg (e_9 rfl Cg.e Cg.e) fun AMe Ch => ?_; clear Cg AMd
    have AIC : (spE b l) = (spE (putM b kk (b.macs.getD kk mac0).blocks.reverse) l) := (by rw [o_4 hr hs, o_4 E D])
    rw [decide_eq_true AIC] at Ch
    refine s1 Ch (a_0 rfl Ch.e) fun AMf Jc => ?_; clear Ch AMe
    refine s5 Jc (a_0 rfl Jc.e) fun AMg Jd => ?_; clear Jc AMf
    refine s5 Jd (e_9 rfl Jd.e (evc _ _)) fun AMh Ci => ?_; clear Jd AMg
    have AED : ¬ ((spE b l) = 0) := (by rw [o_4 hr hs]; decide)
    rw [decide_eq_false AED] at Ci
    refine s5 Ci (a_0 rfl Ci.e) fun AMi Je => ?_; clear Ci AMh
    refine s5 Je (a_0 rfl Je.e) fun AMj Jf => ?_; clear Je AMi
    refine s5 Jf (e_9 rfl Jf.e (evc _ _)) fun AMk Ar => ?_; clear Jf AMj
    have AID : (spE b l) = 9 := (o_4 hr hs)
    rw [decide_eq_true AID] at Ar
    refine s5 Ar (c_3 rfl Ar.e Ar.e) fun AMl Cj => ?_; clear Ar AMk
    refine s1 Cj (a_7 rfl Cj.e Cj.e) fun AMm Jg => ?_; clear Cj AMl
    refine s1 Jg (a_0 rfl Jg.e) fun AMn Jh => ?_; clear Jg AMm
    refine s5 Jh (a_0 rfl Jh.e) fun AMo Ji => ?_; clear Jh AMn
    refine s5 Ji (l_5 rfl Ji.e (evc _ _)) fun AMp Ck => ?_; clear Ji AMo
    rw [decide_eq_false AED] at Ck
    refine s5 Ck (a_0 rfl Ck.e) fun AMq YE => ?_; clear Ck AMp
    refine s3 YE fun AMr YF => ?_; clear YE AMq
    refine s3 YF fun AMs YG => ?_; clear YF AMr
    refine s3 YG fun AMt YH => ?_; clear YG AMs
    refine s3 YH fun AMu YI => ?_; clear YH AMt
    refine s3 YI fun AMv YJ => ?_; clear YI AMu
    refine s3 YJ fun AMw YK => ?_; clear YJ AMv
    refine s4 YK fun AMx YL => ?_; clear YK AMw
    refine s4 YL fun AMy YM => ?_; clear YL AMx
    refine s4 YM fun AMz YN => ?_; clear YM AMy
    refine s4 YN fun AM0 YO => ?_; clear YN AMz
    refine s4 YO fun AM1 YP => ?_; clear YO AM0
    refine s3 YP fun AM2 Jj => ?_; clear YP AM1
    refine s5 Jj (a_7 rfl Jj.e (evc _ _)) fun AM3 Cl => ?_; clear Jj AM2
    refine s1 Cl (a_7 rfl Cl.e Cl.e) fun AM4 Jk => ?_; clear Cl AM3
    refine s1 Jk (a_0 rfl Jk.e) fun AM5 YQ => ?_; clear Jk AM4
    refine s6 YQ (a_6 rfl v_5 ev0 (j_2 _)) ?_
    rintro AM6 _ Ahh ⟨rfl, ABQ⟩ Cm; have AHo := ACg.step ABQ; clear ABQ YQ ACg AM5
    refine s1 Cm (a_7 rfl Cm.e Cm.e) fun AM7 Jl => ?_; clear Cm AM6
    refine s1 Jl (a_1 rfl Jl.e) fun AgX YR => ?_; clear Jl AM7
    exact n1 (c_5 (b_0 YR (.inl rfl) (a_2 YR rfl (.tmp rfl)) (⟨rfl, AHo.ext⟩)))
   skip
   have D := F.trans hs; have htln := ab_1 hb hl hs
   refine a_5 (s1 AQ (b_8 rfl k_7 (AQ.ev rfl) (U.bk 4 rfl) (l := [(iv b.scales), vt, vm]) rfl rfl) fun AM8 Jm => ?_); clear AQ AEt
   refine s2 Jm (a_6 rfl m_6 (ev1 Jm.e) (g_2 b vt vm lr lb lk _ (b_1 (U.ok 5 _ rfl)) (a_8 (U.ok 6 _ rfl)) hth)) ?_
   rintro AM9 _ Ahi ⟨vt1799, vm1800, lr1801, lb1802, lk1803, rfl, ADO⟩ Jn; have Sj := U.h_1 ADO rfl; clear ADO Jm U AM8
   refine s1 Jn (a_0 rfl Jn.e) fun ANA Jo => ?_; clear Jn AM9
   refine s2 Jo (a_6 rfl m_7 (ev1 Jo.e) (d_5 l _ _ (Sj.sk 9 rfl) (by omega))) ?_
   rintro ANB AHA Ahj ⟨ABR, hO1812⟩ Cn; have BI := Sj.f_7 ABR hO1812; clear ABR hO1812 Jo Sj ANA
   refine s2 Cn (a_6 rfl m_1 (ev2 Cn.e Cn.e) (j_1 b vt1799 vm1800 lr1801 lb1802 lk1803 _ (b_1 (BI.ok 1 _ rfl)) (a_8 (BI.ok 2 _ rfl)) hth l _ (SlAt.b_9 (BI.c_0 0 rfl)) (by omega) t hr hs)) ?_
   rintro ANC _ AaR ⟨Gl, rfl, ADP⟩ Jp
   have BJ : Sep NoB w AaR [(row Gl 30 2 t.length (pairs t)), (row AHA 98 2 l.length (pairs l)), (d_2 true vt1799 lr1801 lb1802 b.tabs), (d_4 true vm1800 lk1803 b.macs), (d_4 false I (putV kk lk v14_) ((putM b kk (b.macs.getD kk mac0).blocks.reverse).macs)), (sl v14_ 3 (((b.macs.getD kk mac0).blocks.reverse).length) (trips ((b.macs.getD kk mac0).blocks.reverse))), (row (A 3) 67 2 l.length (pairs l)), (blk b4_ 25 [(iv b.scales), vt, I]), (blk C 25 [(iv b.scales), vt, vm]), (d_2 false vt lr lb b.tabs), (d_4 false vm lk b.macs), (sl xl 2 l.length (pairs l))] := BI.h_1 ADP rfl; clear ADP Cn BI ANB
   refine s1 Jp (a_0 rfl Jp.e) fun AND Jq => ?_; clear Jp ANC
   refine s1 Jq (b_2 rfl Jq.e rfl) fun ANE Jr => ?_; clear Jq AND
   refine s1 Jr (b_2 rfl Jr.e rfl) fun ANF Js => ?_; clear Jr ANE
   refine s1 Js (a_1 rfl Js.e) fun ANG Jt => ?_; clear Js ANF
   refine s1 Jt (a_1 rfl Jt.e) fun ANH YS => ?_; clear Jt ANG
   refine n2 ?_
   have Ju := YS.as [(17, (iv 0)), (16, Gl), (10, (A 3)), (9, (bptr b4_ 0))] rfl; clear YS
   refine a_5 (s1 Ju (b_8 rfl k_7 (Ju.ev rfl) (BJ.bk 7 rfl) (l := [(iv b.scales), vt, I]) rfl rfl) fun ANI Jv => ?_); clear Ju ANH
   refine s2 Jv (a_6 rfl m_6 (ev1 Jv.e) (g_2 (putM b kk (b.macs.getD kk mac0).blocks.reverse) vt I lr lb (putV kk lk v14_) _ (b_1 (BJ.ok 9 _ rfl)) (a_8 (BJ.ok 4 _ rfl)) hth2)) ?_
   rintro ANJ _ Ahk ⟨vt1837, vm1838, lr1839, lb1840, lk1841, rfl, ADQ⟩ Jw; have Sk := BJ.h_1 ADQ rfl; clear ADQ Jv BJ ANI
   refine s1 Jw (a_0 rfl Jw.e) fun ANK Jx => ?_; clear Jw ANJ
   refine s2 Jx (a_6 rfl m_7 (ev1 Jx.e) (d_5 l _ _ (SlAt.b_9 (Sk.c_0 8 rfl)) (by omega))) ?_
   rintro ANL AaE Ahl ⟨ABS, hO1850⟩ Co; have BK := Sk.f_7 ABS hO1850; clear ABS hO1850 Jx Sk ANK
   refine s2 Co (a_6 rfl m_1 (ev2 Co.e Co.e) (j_1 (putM b kk (b.macs.getD kk mac0).blocks.reverse) vt1837 vm1838 lr1839 lb1840 lk1841 _ (b_1 (BK.ok 1 _ rfl)) (a_8 (BK.ok 2 _ rfl)) hth2 l _ (SlAt.b_9 (BK.c_0 0 rfl)) (by omega) t E D)) ?_
   rintro ANM _ AaS ⟨AG0, rfl, ADR⟩ Jy
   have E9 : Sep NoB w AaS [(row AG0 30 2 t.length (pairs t)), (row AaE 98 2 l.length (pairs l)), (d_2 true vt1837 lr1839 lb1840 (putM b kk (b.macs.getD kk mac0).blocks.reverse).tabs), (d_4 true vm1838 lk1841 (putM b kk (b.macs.getD kk mac0).blocks.reverse).macs), (row Gl 30 2 t.length (pairs t)), (row AHA 98 2 l.length (pairs l)), (d_2 true vt1799 lr1801 lb1802 b.tabs), (d_4 true vm1800 lk1803 b.macs), (d_4 false I (putV kk lk v14_) ((putM b kk (b.macs.getD kk mac0).blocks.reverse).macs)), (sl v14_ 3 (((b.macs.getD kk mac0).blocks.reverse).length) (trips ((b.macs.getD kk mac0).blocks.reverse))), (row (A 3) 67 2 l.length (pairs l)), (blk b4_ 25 [(iv b.scales), vt, I]), (blk C 25 [(iv b.scales), vt, vm]), (d_2 false vt lr lb b.tabs), (d_4 false vm lk b.macs), (sl xl 2 l.length (pairs l))] := BK.h_1 ADR rfl; clear ADR Co BK ANL
   refine s1 Jy (a_0 rfl Jy.e) fun ANN Jz => ?_; clear Jy ANM
   refine s1 Jz (b_2 rfl Jz.e rfl) fun ANO J0 => ?_; clear Jz ANN
   refine s1 J0 (b_2 rfl J0.e rfl) fun ANP J1 => ?_; clear J0 ANO
   refine s1 J1 (a_1 rfl J1.e) fun ANQ J2 => ?_; clear J1 ANP
   refine s1 J2 (a_1 rfl J2.e) fun ANR YU => ?_; clear J2 ANQ
   refine n2 ?_
   have J3 := YU.as [(19, (iv 0)), (18, AG0), (17, (iv 0)), (16, Gl)] rfl; clear YU
   refine a_5 (s1 J3 (a_0 rfl J3.e) fun ANS J4 => ?_); clear J3 ANR
   refine s1 J4 (a_0 rfl J4.e) fun ANT Cq => ?_; clear J4 ANS
   refine s1 Cq (e_9 rfl Cq.e Cq.e) fun ANU J5 => ?_; clear Cq ANT
   refine s1 J5 (a_0 rfl J5.e) fun ANV J6 => ?_; clear J5 ANU
   refine s5 J6 (a_0 rfl J6.e) fun ANW J7 => ?_; clear J6 ANV
   refine s5 J7 (e_9 rfl J7.e (evc _ _)) fun ANX J8 => ?_; clear J7 ANW
   refine s5 J8 (a_0 rfl J8.e) fun ANY YW => ?_; clear J8 ANX
   refine s3 YW fun ANZ YX => ?_; clear YW ANY
   refine s3 YX fun ANa J9 => ?_; clear YX ANZ
   refine s5 J9 (a_7 rfl J9.e (evc _ _)) fun ANb Cr => ?_; clear J9 ANa
   refine s1 Cr (a_7 rfl Cr.e Cr.e) fun ANc KA => ?_; clear Cr ANb
   refine s1 KA (a_0 rfl KA.e) fun ANd KB => ?_; clear KA ANc
   refine s5 KB (a_0 rfl KB.e) fun ANe KC => ?_; clear KB ANd
   refine s5 KC (l_5 rfl KC.e (evc _ _)) fun ANf KD => ?_; clear KC ANe
   refine s5 KD (a_0 rfl KD.e) fun ANg KE => ?_; clear KD ANf
   refine s5 KE (a_0 rfl KE.e) fun ANh KF => ?_; clear KE ANg
   refine s5 KF (a_0 rfl KF.e) fun ANi KG => ?_; clear KF ANh
   refine s5 KG (a_0 rfl KG.e) fun ANj KH => ?_; clear KG ANi
   refine s5 KH (a_0 rfl KH.e) fun ANk AR => ?_; clear KH ANj
   refine s6 AR (a_6 rfl w_2 (ev4 AR.e AR.e AR.e AR.e) (g_0 t _ 0 t _ 0 _ (SlAt.b_9 (E9.c_0 4 rfl)) (SlAt.b_9 (E9.c_0 0 rfl)) (by omega))) ?_
   rintro ANl _ Ahm ⟨rfl, ABT⟩ Cs; have FA := E9.step ABT; clear ABT AR E9 ANk
   have AEE : (narB t 0 t 0) = true := (q_7 hb hl hs)
   rw [AEE] at Cs
   refine s5 Cs (a_0 rfl Cs.e) fun ANm KI => ?_; clear Cs ANl
   refine s5 KI (a_0 rfl KI.e) fun ANn KJ => ?_; clear KI ANm
   refine s5 KJ (a_0 rfl KJ.e) fun ANo KK => ?_; clear KJ ANn
   refine s5 KK (a_0 rfl KK.e) fun ANp KL => ?_; clear KK ANo
   refine s5 KL (a_0 rfl KL.e) fun ANq AS => ?_; clear KL ANp
   refine s6 AS (a_6 rfl w_2 (ev4 AS.e AS.e AS.e AS.e) (g_0 t _ 0 t _ 0 _ (SlAt.b_9 (FA.c_0 0 rfl)) (SlAt.b_9 (FA.c_0 4 rfl)) (by omega))) ?_
   rintro ANr _ Ahn ⟨rfl, ABU⟩ As; have ACh := FA.step ABU; clear ABU AS FA ANq
   rw [AEE] at As
   refine s5 As (a_7 rfl As.e As.e) fun ANs Ct => ?_; clear As ANr
   refine s5 Ct (c_3 rfl Ct.e Ct.e) fun ANt Cu => ?_; clear Ct ANs
   refine s1 Cu (a_7 rfl Cu.e Cu.e) fun ANu KM => ?_; clear Cu ANt
   refine s1 KM (a_0 rfl KM.e) fun ANv YY => ?_; clear KM ANu
   refine s6 YY (a_6 rfl v_5 ev0 (j_2 _)) ?_
   rintro ANw _ Aho ⟨rfl, ABV⟩ Cv; have AHp := ACh.step ABV; clear ABV YY ACh ANv
   refine s1 Cv (a_7 rfl Cv.e Cv.e) fun ANx KN => ?_; clear Cv ANw
   refine s1 KN (a_1 rfl KN.e) fun AgY YZ => ?_; clear KN ANx
   exact n1 (c_5 (b_0 YZ (.inl rfl) (a_2 YZ rfl (.tmp rfl)) (⟨rfl, AHp.ext⟩)))
  skip
  rw [decide_eq_false AD2] at c
  refine c_2 c rfl (d_7 (h_0 (b_5 (c_1 ?_))))
  have AT := c.as [(10, (A 3)), (9, (bptr b4_ 0)), (4, (bptr C 0)), (1, xl)] rfl; clear c
  have F : j_0 b l = j_0 b l := rfl
  rcases r_0 b l with hs | ⟨t, hs⟩
  ·skip
   have D := F.trans hs
   refine a_5 (s1 AT (b_8 rfl k_7 (AT.ev rfl) (B.bk 2 rfl) (l := [(iv b.scales), vt, vm]) rfl rfl) fun ANy KO => ?_); clear AT TN
   refine s2 KO (a_6 rfl m_6 (ev1 KO.e) (g_2 b vt vm lr lb lk _ (b_1 (B.ok 3 _ rfl)) (a_8 (B.ok 4 _ rfl)) hth)) ?_
   rintro ANz _ Ahp ⟨vt1952, vm1953, lr1954, lb1955, lk1956, rfl, ADS⟩ KP; have Sl := B.h_1 ADS rfl; clear ADS KO B ANy
   refine s1 KP (a_0 rfl KP.e) fun AN0 KQ => ?_; clear KP ANz
   refine s2 KQ (a_6 rfl m_7 (ev1 KQ.e) (d_5 l _ _ (Sl.sk 7 rfl) (by omega))) ?_
   rintro AN1 Agy Ahq ⟨ABW, hO1965⟩ Cw; have BL := Sl.f_7 ABW hO1965; clear ABW hO1965 KQ Sl AN0
   refine s2 Cw (a_6 rfl m_1 (ev2 Cw.e Cw.e) (g_9 b vt1952 vm1953 lr1954 lb1955 lk1956 _ (b_1 (BL.ok 1 _ rfl)) (a_8 (BL.ok 2 _ rfl)) hth l _ (SlAt.b_9 (BL.c_0 0 rfl)) (by omega) hr hs)) ?_
   rintro AN2 _ Ahr ⟨rfl, ABX⟩ KR; have BM := BL.step ABX; clear ABX Cw BL AN1
   refine s1 KR (a_0 rfl KR.e) fun AN3 KS => ?_; clear KR AN2
   refine s1 KS (b_2 rfl KS.e rfl) fun AN4 KT => ?_; clear KS AN3
   refine s1 KT (b_2 rfl KT.e rfl) fun AN5 KU => ?_; clear KT AN4
   refine s1 KU (a_1 rfl KU.e) fun AN6 KV => ?_; clear KU AN5
   refine s1 KV (a_1 rfl KV.e) fun AN7 Ya => ?_; clear KV AN6
   refine n2 ?_
   have KW := Ya.as [(17, (iv (spE b l))), (16, (Value.slice none 0 0)), (10, (A 3)), (9, (bptr b4_ 0))] rfl; clear Ya
   refine a_5 (s1 KW (b_8 rfl k_7 (KW.ev rfl) (BM.bk 4 rfl) (l := [(iv b.scales), vt, vm]) rfl rfl) fun AN8 KX => ?_); clear KW AN7
   refine s2 KX (a_6 rfl m_6 (ev1 KX.e) (g_2 b vt vm lr lb lk _ (b_1 (BM.ok 6 _ rfl)) (a_8 (BM.ok 7 _ rfl)) hth)) ?_
   rintro AN9 _ Ahs ⟨vt1989, vm1990, lr1991, lb1992, lk1993, rfl, ADT⟩ KY; have Sm := BM.h_1 ADT rfl; clear ADT KX BM AN8
   refine s1 KY (a_0 rfl KY.e) fun AOA KZ => ?_; clear KY AN9
   refine s2 KZ (a_6 rfl m_7 (ev1 KZ.e) (d_5 l _ _ (SlAt.b_9 (Sm.c_0 5 rfl)) (by omega))) ?_
   rintro AOB Agz Aht ⟨ABY, hO2002⟩ Cx; have BN := Sm.f_7 ABY hO2002; clear ABY hO2002 KZ Sm AOA
   refine s2 Cx (a_6 rfl m_1 (ev2 Cx.e Cx.e) (g_9 b vt1989 vm1990 lr1991 lb1992 lk1993 _ (b_1 (BN.ok 1 _ rfl)) (a_8 (BN.ok 2 _ rfl)) hth l _ (SlAt.b_9 (BN.c_0 0 rfl)) (by omega) hr hs)) ?_
   rintro AOC _ Ahu ⟨rfl, ABZ⟩ Ka; have ACi := BN.step ABZ; clear ABZ Cx BN AOB
   refine s1 Ka (a_0 rfl Ka.e) fun AOD Kb => ?_; clear Ka AOC
   refine s1 Kb (b_2 rfl Kb.e rfl) fun AOE Kc => ?_; clear Kb AOD
   refine s1 Kc (b_2 rfl Kc.e rfl) fun AOF Kd => ?_; clear Kc AOE
   refine s1 Kd (a_1 rfl Kd.e) fun AOG Ke => ?_; clear Kd AOF
   refine s1 Ke (a_1 rfl Ke.e) fun AOH Yb => ?_; clear Ke AOG
   refine n2 ?_
   have Kf := Yb.as [(19, (iv (spE b l))), (18, (Value.slice none 0 0)), (17, (iv (spE b l))), (16, (Value.slice none 0 0))] rfl; clear Yb
   refine a_5 (s1 Kf (a_0 rfl Kf.e) fun AOI Kg => ?_); clear Kf AOH
   refine s1 Kg (a_0 rfl Kg.e) fun AOJ Cy => ?_; clear Kg AOI
   refine s1 Cy (e_9 rfl Cy.e Cy.e) fun AOK Cz => ?_; clear Cy AOJ
   have AIE : (spE b l) = (spE b l) := rfl
   rw [decide_eq_true AIE] at Cz
   refine s1 Cz (a_0 rfl Cz.e) fun AOL Kh => ?_; clear Cz AOK
   refine s5 Kh (a_0 rfl Kh.e) fun AOM Ki => ?_; clear Kh AOL
   refine s5 Ki (e_9 rfl Ki.e (evc _ _)) fun AON C0 => ?_; clear Ki AOM
   have AEF : ¬ ((spE b l) = 0) := (by rw [o_4 hr hs]; decide)
   rw [decide_eq_false AEF] at C0
   refine s5 C0 (a_0 rfl C0.e) fun AOO Kj => ?_; clear C0 AON
   refine s5 Kj (a_0 rfl Kj.e) fun AOP Kk => ?_; clear Kj AOO
   refine s5 Kk (e_9 rfl Kk.e (evc _ _)) fun AOQ At => ?_; clear Kk AOP
   have AIF : (spE b l) = 9 := (o_4 hr hs)
   rw [decide_eq_true AIF] at At
   refine s5 At (c_3 rfl At.e At.e) fun AOR C1 => ?_; clear At AOQ
   refine s1 C1 (a_7 rfl C1.e C1.e) fun AOS Kl => ?_; clear C1 AOR
   refine s1 Kl (a_0 rfl Kl.e) fun AOT Km => ?_; clear Kl AOS
   refine s5 Km (a_0 rfl Km.e) fun AOU Kn => ?_; clear Km AOT
   refine s5 Kn (l_5 rfl Kn.e (evc _ _)) fun AOV C2 => ?_; clear Kn AOU
   rw [decide_eq_false AEF] at C2
   refine s5 C2 (a_0 rfl C2.e) fun AOW Yc => ?_; clear C2 AOV
   refine s3 Yc fun AOX Ye => ?_; clear Yc AOW
   refine s3 Ye fun AOY Yf => ?_; clear Ye AOX
   refine s3 Yf fun AOZ Yg => ?_; clear Yf AOY
   refine s3 Yg fun AOa Yh => ?_; clear Yg AOZ
   refine s3 Yh fun AOb Yi => ?_; clear Yh AOa
   refine s3 Yi fun AOc Yj => ?_; clear Yi AOb
   refine s4 Yj fun AOd Yk => ?_; clear Yj AOc
   refine s4 Yk fun AOe Yl => ?_; clear Yk AOd
   refine s4 Yl fun AOf Ym => ?_; clear Yl AOe
   refine s4 Ym fun AOg Yn => ?_; clear Ym AOf
   refine s4 Yn fun AOh Yo => ?_; clear Yn AOg
   refine s3 Yo fun AOi Ko => ?_; clear Yo AOh
   refine s5 Ko (a_7 rfl Ko.e (evc _ _)) fun AOj C3 => ?_; clear Ko AOi
   refine s1 C3 (a_7 rfl C3.e C3.e) fun AOk Kp => ?_; clear C3 AOj
   refine s1 Kp (a_0 rfl Kp.e) fun AOl Yp => ?_; clear Kp AOk
   refine s6 Yp (a_6 rfl v_5 ev0 (j_2 _)) ?_
   rintro AOm _ Ahv ⟨rfl, ABa⟩ C4; have AHq := ACi.step ABa; clear ABa Yp ACi AOl
   refine s1 C4 (a_7 rfl C4.e C4.e) fun AOn Kq => ?_; clear C4 AOm
   refine s1 Kq (a_1 rfl Kq.e) fun AgZ Yq => ?_; clear Kq AOn
   exact n1 (c_5 (b_0 Yq (.inl rfl) (a_2 Yq rfl (.tmp rfl)) (⟨rfl, AHq.ext⟩)))
  skip
  have D := F.trans hs; have htln := ab_1 hb hl hs
  refine a_5 (s1 AT (b_8 rfl k_7 (AT.ev rfl) (B.bk 2 rfl) (l := [(iv b.scales), vt, vm]) rfl rfl) fun AOo Kr => ?_); clear AT TN
  refine s2 Kr (a_6 rfl m_6 (ev1 Kr.e) (g_2 b vt vm lr lb lk _ (b_1 (B.ok 3 _ rfl)) (a_8 (B.ok 4 _ rfl)) hth)) ?_
  rintro AOp _ Ahw ⟨vt2098, vm2099, lr2100, lb2101, lk2102, rfl, ADU⟩ Ks; have Sn := B.h_1 ADU rfl; clear ADU Kr B AOo
  refine s1 Ks (a_0 rfl Ks.e) fun AOq Kt => ?_; clear Ks AOp
  refine s2 Kt (a_6 rfl m_7 (ev1 Kt.e) (d_5 l _ _ (Sn.sk 7 rfl) (by omega))) ?_
  rintro AOr AHB Ahx ⟨ABb, hO2111⟩ C5; have BO := Sn.f_7 ABb hO2111; clear ABb hO2111 Kt Sn AOq
  refine s2 C5 (a_6 rfl m_1 (ev2 C5.e C5.e) (j_1 b vt2098 vm2099 lr2100 lb2101 lk2102 _ (b_1 (BO.ok 1 _ rfl)) (a_8 (BO.ok 2 _ rfl)) hth l _ (SlAt.b_9 (BO.c_0 0 rfl)) (by omega) t hr hs)) ?_
  rintro AOs _ AaT ⟨Gm, rfl, ADV⟩ Ku
  have BP : Sep NoB w AaT [(row Gm 30 2 t.length (pairs t)), (row AHB 98 2 l.length (pairs l)), (d_2 true vt2098 lr2100 lb2101 b.tabs), (d_4 true vm2099 lk2102 b.macs), (row (A 3) 67 2 l.length (pairs l)), (blk b4_ 25 [(iv b.scales), vt, vm]), (blk C 25 [(iv b.scales), vt, vm]), (d_2 false vt lr lb b.tabs), (d_4 false vm lk b.macs), (sl xl 2 l.length (pairs l))] := BO.h_1 ADV rfl; clear ADV C5 BO AOr
  refine s1 Ku (a_0 rfl Ku.e) fun AOt Kv => ?_; clear Ku AOs
  refine s1 Kv (b_2 rfl Kv.e rfl) fun AOu Kw => ?_; clear Kv AOt
  refine s1 Kw (b_2 rfl Kw.e rfl) fun AOv Kx => ?_; clear Kw AOu
  refine s1 Kx (a_1 rfl Kx.e) fun AOw Ky => ?_; clear Kx AOv
  refine s1 Ky (a_1 rfl Ky.e) fun AOx Yr => ?_; clear Ky AOw
  refine n2 ?_
  have Kz := Yr.as [(17, (iv 0)), (16, Gm), (10, (A 3)), (9, (bptr b4_ 0))] rfl; clear Yr
  refine a_5 (s1 Kz (b_8 rfl k_7 (Kz.ev rfl) (BP.bk 5 rfl) (l := [(iv b.scales), vt, vm]) rfl rfl) fun AOy K0 => ?_); clear Kz AOx
  refine s2 K0 (a_6 rfl m_6 (ev1 K0.e) (g_2 b vt vm lr lb lk _ (b_1 (BP.ok 7 _ rfl)) (a_8 (BP.ok 8 _ rfl)) hth)) ?_
  rintro AOz _ Ahy ⟨vt2136, vm2137, lr2138, lb2139, lk2140, rfl, ADW⟩ K1; have So := BP.h_1 ADW rfl; clear ADW K0 BP AOy
  refine s1 K1 (a_0 rfl K1.e) fun AO0 K2 => ?_; clear K1 AOz
  refine s2 K2 (a_6 rfl m_7 (ev1 K2.e) (d_5 l _ _ (SlAt.b_9 (So.c_0 6 rfl)) (by omega))) ?_
  rintro AO1 AaF Ahz ⟨ABc, hO2149⟩ C6; have BQ := So.f_7 ABc hO2149; clear ABc hO2149 K2 So AO0
  refine s2 C6 (a_6 rfl m_1 (ev2 C6.e C6.e) (j_1 b vt2136 vm2137 lr2138 lb2139 lk2140 _ (b_1 (BQ.ok 1 _ rfl)) (a_8 (BQ.ok 2 _ rfl)) hth l _ (SlAt.b_9 (BQ.c_0 0 rfl)) (by omega) t hr hs)) ?_
  rintro AO2 _ AaU ⟨AG1, rfl, ADX⟩ K3
  have FB : Sep NoB w AaU [(row AG1 30 2 t.length (pairs t)), (row AaF 98 2 l.length (pairs l)), (d_2 true vt2136 lr2138 lb2139 b.tabs), (d_4 true vm2137 lk2140 b.macs), (row Gm 30 2 t.length (pairs t)), (row AHB 98 2 l.length (pairs l)), (d_2 true vt2098 lr2100 lb2101 b.tabs), (d_4 true vm2099 lk2102 b.macs), (row (A 3) 67 2 l.length (pairs l)), (blk b4_ 25 [(iv b.scales), vt, vm]), (blk C 25 [(iv b.scales), vt, vm]), (d_2 false vt lr lb b.tabs), (d_4 false vm lk b.macs), (sl xl 2 l.length (pairs l))] := BQ.h_1 ADX rfl; clear ADX C6 BQ AO1
  refine s1 K3 (a_0 rfl K3.e) fun AO3 K4 => ?_; clear K3 AO2
  refine s1 K4 (b_2 rfl K4.e rfl) fun AO4 K5 => ?_; clear K4 AO3
  refine s1 K5 (b_2 rfl K5.e rfl) fun AO5 K6 => ?_; clear K5 AO4
  refine s1 K6 (a_1 rfl K6.e) fun AO6 K7 => ?_; clear K6 AO5
  refine s1 K7 (a_1 rfl K7.e) fun AO7 Ys => ?_; clear K7 AO6
  refine n2 ?_
  have K8 := Ys.as [(19, (iv 0)), (18, AG1), (17, (iv 0)), (16, Gm)] rfl; clear Ys
  refine a_5 (s1 K8 (a_0 rfl K8.e) fun AO8 K9 => ?_); clear K8 AO7
  refine s1 K9 (a_0 rfl K9.e) fun AO9 C7 => ?_; clear K9 AO8
  refine s1 C7 (e_9 rfl C7.e C7.e) fun APA LA => ?_; clear C7 AO9
  refine s1 LA (a_0 rfl LA.e) fun APB LB => ?_; clear LA APA
  refine s5 LB (a_0 rfl LB.e) fun APC LC => ?_; clear LB APB
  refine s5 LC (e_9 rfl LC.e (evc _ _)) fun APD LD => ?_; clear LC APC
  refine s5 LD (a_0 rfl LD.e) fun APE Yt => ?_; clear LD APD
  refine s3 Yt fun APF Yu => ?_; clear Yt APE
  refine s3 Yu fun APG LE => ?_; clear Yu APF
  refine s5 LE (a_7 rfl LE.e (evc _ _)) fun APH C8 => ?_; clear LE APG
  refine s1 C8 (a_7 rfl C8.e C8.e) fun API LF => ?_; clear C8 APH
  refine s1 LF (a_0 rfl LF.e) fun APJ LG => ?_; clear LF API
  refine s5 LG (a_0 rfl LG.e) fun APK LH => ?_; clear LG APJ
  refine s5 LH (l_5 rfl LH.e (evc _ _)) fun APL LI => ?_; clear LH APK
  refine s5 LI (a_0 rfl LI.e) fun APM LJ => ?_; clear LI APL
  refine s5 LJ (a_0 rfl LJ.e) fun APN LK => ?_; clear LJ APM
  refine s5 LK (a_0 rfl LK.e) fun APO LL => ?_; clear LK APN
  refine s5 LL (a_0 rfl LL.e) fun APP LM => ?_; clear LL APO
  refine s5 LM (a_0 rfl LM.e) fun APQ AU => ?_; clear LM APP
  refine s6 AU (a_6 rfl w_2 (ev4 AU.e AU.e AU.e AU.e) (g_0 t _ 0 t _ 0 _ (SlAt.b_9 (FB.c_0 4 rfl)) (SlAt.b_9 (FB.c_0 0 rfl)) (by omega))) ?_
  rintro APR _ Ah0 ⟨rfl, ABd⟩ C9; have FC := FB.step ABd; clear ABd AU FB APQ
  have AEG : (narB t 0 t 0) = true := (q_7 hb hl hs)
  rw [AEG] at C9
  refine s5 C9 (a_0 rfl C9.e) fun APS LN => ?_; clear C9 APR
  refine s5 LN (a_0 rfl LN.e) fun APT LO => ?_; clear LN APS
  refine s5 LO (a_0 rfl LO.e) fun APU LP => ?_; clear LO APT
  refine s5 LP (a_0 rfl LP.e) fun APV LQ => ?_; clear LP APU
  refine s5 LQ (a_0 rfl LQ.e) fun APW AV => ?_; clear LQ APV
  refine s6 AV (a_6 rfl w_2 (ev4 AV.e AV.e AV.e AV.e) (g_0 t _ 0 t _ 0 _ (SlAt.b_9 (FC.c_0 0 rfl)) (SlAt.b_9 (FC.c_0 4 rfl)) (by omega))) ?_
  rintro APX _ Ah1 ⟨rfl, ABe⟩ Au; have ACj := FC.step ABe; clear ABe AV FC APW
  rw [AEG] at Au
  refine s5 Au (a_7 rfl Au.e Au.e) fun APY DA => ?_; clear Au APX
  refine s5 DA (c_3 rfl DA.e DA.e) fun APZ DB => ?_; clear DA APY
  refine s1 DB (a_7 rfl DB.e DB.e) fun APa LR => ?_; clear DB APZ
  refine s1 LR (a_0 rfl LR.e) fun APb Yv => ?_; clear LR APa
  refine s6 Yv (a_6 rfl v_5 ev0 (j_2 _)) ?_
  rintro APc _ Ah2 ⟨rfl, ABf⟩ DC; have AHr := ACj.step ABf; clear ABf Yv ACj APb
  refine s1 DC (a_7 rfl DC.e DC.e) fun APd LS => ?_; clear DC APc
  refine s1 LS (a_1 rfl LS.e) fun Aga Yw => ?_; clear LS APd
  exact n1 (c_5 (b_0 Yw (.inl rfl) (a_2 Yw rfl (.tmp rfl)) (⟨rfl, AHr.ext⟩)))
 skip
 rw [decide_eq_false AH7] at B2
 refine s3 B2 fun APe Yx => ?_; clear B2 a45
 refine s3 Yx fun APf Yy => ?_; clear Yx APe
 refine s3 Yy fun APg LT => ?_; clear Yy APf
 refine s1 LT (c_3 rfl LT.e (evc _ _)) fun APh LU => ?_; clear LT APg
 refine s1 LU (a_1 rfl LU.e) fun APi LV => ?_; clear LU APh
 refine n1 (c_2 LV rfl (c_1 ?_))
 have LW := LV.as [(10, (A 3)), (9, (bptr b4_ 0)), (4, (bptr C 0)), (1, xl), (2, (Value.int .u8 wa)), (3, (Value.int .u8 wb))] rfl; clear LV
 refine a_5 (s1 LW (a_0 rfl LW.e) fun APj LX => ?_); clear LW APi
 refine s1 LX (ab_0 rfl LX.e (evc _ _) (by omega)) fun APk LY => ?_; clear LX APj
 refine s1 LY (e_9 rfl LY.e (evc _ _)) fun APl LZ => ?_; clear LY APk
 refine s1 LZ (a_0 rfl LZ.e) fun AEu AG => ?_; clear LZ APl
 by_cases AD4 : ((wa).tmod 3) = 1
 ·skip
  rw [decide_eq_true AD4] at AG
  refine s5 AG (a_3 rfl m_9 AG.e) fun APm La => ?_; clear AG AEu
  refine s5 La (a_4 rfl x_4 La.e (B.bk 2 rfl) rfl) fun APn Lb => ?_; clear La APm
  refine s5 Lb (d_3 rfl t_9 Lb.e (b_1 (B.ok 3 _ rfl)).tabs) fun APo Lc => ?_; clear Lb APn
  refine s5 Lc (k_0 rfl Lc.e (evc _ _)) fun APp DD => ?_; clear Lc APo
  refine s1 DD (a_7 rfl DD.e DD.e) fun APq Ld => ?_; clear DD APp
  refine s1 Ld (a_1 rfl Ld.e) fun AEv y => ?_; clear Ld APq
  refine n1 ?_
  by_cases AD5 : 0 < (b.tabs.length : Int)
  ·skip
   rw [decide_eq_true AD5] at y
   refine c_7 y rfl (c_1 ?_)
   have Le := y.as [(10, (A 3)), (9, (bptr b4_ 0)), (4, (bptr C 0)), (1, xl), (3, (Value.int .u8 wb))] rfl; clear y
   refine a_5 (s1 Le (a_0 rfl Le.e) fun APr Lf => ?_); clear Le AEv
   refine s1 Lf (op_conv un_5 un_3 rfl Lf.e (v := wb) (wrap_i64 (by omega) (by omega))) fun APs Lg => ?_; clear Lf APr
   refine s1 Lg (a_3 rfl m_9 Lg.e) fun APt Lh => ?_; clear Lg APs
   refine s1 Lh (a_4 rfl x_4 Lh.e (B.bk 2 rfl) rfl) fun APu Li => ?_; clear Lh APt
   refine s1 Li (d_3 rfl t_9 Li.e (b_1 (B.ok 3 _ rfl)).tabs) fun APv DE => ?_; clear Li APu
   refine s1 DE (ab_0 rfl DE.e DE.e (by omega)) fun APw Lj => ?_; clear DE APv
   refine s1 Lj (a_1 rfl Lj.e) fun Agb Yz => ?_; clear Lj APw
   refine n1 ?_
   have Lk := Yz.as [(12, (iv ((wb).tmod (b.tabs.length : Int)))), (10, (A 3)), (9, (bptr b4_ 0)), (4, (bptr C 0)), (1, xl)] rfl; clear Yz
   obtain ⟨kk, hz_kk, hb_kk⟩ := rem_nat (n := wb) (m := b.tabs.length) hB_.1 (by omega); rw [hz_kk] at Lk
   have Y0 := Lk.as [(12, (iv (kk : Int))), (10, (A 3)), (9, (bptr b4_ 0)), (4, (bptr C 0)), (1, xl)] rfl; clear Lk
   refine c_drawCC mixed Y0 B 10 [(5, 0)] [[], [], [1], [], [2, 3], [0, 4], [], [6], [], [7, 8]] [(fun (H : Nat → Value) (v_ : Value) (rs_ : List Res) => ∃ (b0_ : Nat), v_ = (Value.slice (some ⟨b0_, 0, none⟩) 0 0) ∧ rs_ = [(blk b0_ 46 [])]), (yw (bptr C 1)), (yw vt), (yw (iv (kk : Int))), (yw (slcut vt kk b.tabs.length 5)), (fun (H : Nat → Value) (v_ : Value) (rs_ : List Res) => True ∧ rs_ = [(row v_ 46 5 ((b.tabs.drop kk).length) (i_5 (shV kk lr) (shV kk lb) (b.tabs.drop kk)))]), (yw (bptr C 1)), (yw vt), (yw (iv (kk : Int))), (yw (slcut vt 0 kk 5))] (by decide +kernel) (by decide +kernel) (by decide +kernel) (by decide +kernel) rfl rfl ⟨(fun _ _ _ _ _ h_ => h_), dw, dw, dw, dw, (fun _ _ _ _ _ h_ => h_), dw, dw, dw, dw, trivial⟩ (by decide +kernel) ?_ ?_ ?_
   ·skip
    refine ⟨fun hj_ a w H hA hS hd => d_9 rfl (vblz rfl pv0 t_9 ac_3 ze_46 bs_46_0_ (fun b_ => ⟨b_, rfl, rfl⟩)), ?_⟩
    refine ⟨fun hj_ a w H hA hS hd => gv1 (a_3 rfl m_9 hA.e), ?_⟩
    refine ⟨fun hj_ a w H hA hS hd => gv1 (a_4 rfl x_4 (gu hd 1) (hS.bk 2 rfl) rfl), ?_⟩
    refine ⟨fun hj_ a w H hA hS hd => gv1 (a_0 rfl hA.e), ?_⟩
    refine ⟨fun hj_ a w H hA hS hd => gv1 (y_1 rfl t_9 ac_3 (gu hd 2) (l := kk) (gu hd 3) (b_1 (hS.ok 3 _ rfl)).tabs (by omega)), ?_⟩
    refine ⟨fun hj_ => absurd hj_ (by decide), ?_⟩
    refine ⟨fun hj_ a w H hA hS hd => gv1 (a_3 rfl m_9 hA.e), ?_⟩
    refine ⟨fun hj_ a w H hA hS hd => gv1 (a_4 rfl x_4 (gu hd 6) (hS.bk 2 rfl) rfl), ?_⟩
    refine ⟨fun hj_ a w H hA hS hd => gv1 (a_0 rfl hA.e), ?_⟩
    refine ⟨fun hj_ a w H hA hS hd => gv1 (op_sliceHi rfl t_9 ac_3 (gu hd 7) (h := kk) (gu hd 8) (b_1 (hS.ok 3 _ rfl)).tabs (by omega)), ?_⟩
    trivial
   ·skip
    refine ⟨fun o_ ho_ => ?_, ?_⟩
    ·skip
     obtain rfl := Option.some.inj ho_; clear ho_
     intro a w H rs0 Lr hA Bv TK hd hL hS
     obtain ⟨b0_, hv0, hr0⟩ := TK; subst hr0
     rw [hv0] at Bv
     replace hS := hS.o_9 (i := 0) (sz := 5) (n := 0) rfl rfl (by decide)
     obtain ⟨e4, rs4, hy4, hp4⟩ := hd 4 (by decide) (by decide)
     obtain ⟨hv4, hr4⟩ := hy4; subst hr4
     rw [hv4] at e4
     exact d_9 rfl (p_5 (h_6 hS rfl t_9 el_46 (c_8 (i_0 Bv rfl)) (c_8 (i_0 e4 rfl)) (i := 0) rfl (SlAt.say (n' := (b.tabs.drop kk).length) (cs' := (i_5 (shV kk lr) (shV kk lb) (b.tabs.drop kk))) (SlAt.cut (b_1 (hL.ok 3 _ rfl)).tabs (by omega) (Nat.le_refl _)) (by rw [List.length_drop]) (tabs_cutLo (by omega))) (tabs_oneS kk (b_1 (hL.ok 3 _ rfl))) (by simp only [maxLen, List.length_drop, List.length_take]; omega) (by first | omega | (simp only [List.length_drop, List.length_take]; omega))) fun v_ w_ h_ => ⟨_, And.intro trivial rfl, h_.f_2 (i := 0) rfl (n' := (b.tabs.drop kk).length) (xs' := (i_5 (shV kk lr) (shV kk lb) (b.tabs.drop kk))) (by simp only [Nat.zero_add]) (List.nil_append _)⟩)
    trivial
   skip
   intro AEw AaV H rsf2301 Y1 P hrq Sp; clear Y0 B
   have hrq_0 := hrq (5, 0) (by decide)
   obtain ⟨TJ, AEr⟩ := P 5 (by decide) (by decide)
   obtain ⟨AEp, TI⟩ := AEr
   have FD : Sep NoB w AaV [(row (H 5) 46 5 ((b.tabs.drop kk).length) (i_5 (shV kk lr) (shV kk lb) (b.tabs.drop kk))), (row (A 3) 67 2 l.length (pairs l)), (blk b4_ 25 [(iv b.scales), vt, vm]), (blk C 25 [(iv b.scales), vt, vm]), (d_2 false vt lr lb b.tabs), (d_4 false vm lk b.macs), (sl xl 2 l.length (pairs l))] := by rw [show catR rsf2301 0 10 = ([(row (H 5) 46 5 ((b.tabs.drop kk).length) (i_5 (shV kk lr) (shV kk lb) (b.tabs.drop kk)))] : List Res) by (try simp only [catR, gr (P 1 (by decide) (by decide)), gr (P 2 (by decide) (by decide)), gr (P 3 (by decide) (by decide)), gr (P 4 (by decide) (by decide)), TI, gr (P 6 (by decide) (by decide)), gr (P 7 (by decide) (by decide)), gr (P 8 (by decide) (by decide)), gr (P 9 (by decide) (by decide)), hrq_0]); (try rfl)] at Sp; exact Sp
   have Y2 : Fr 174 [] [(73, (H 5)), (12, (iv (kk : Int))), (10, (A 3)), (9, (bptr b4_ 0)), (4, (bptr C 0)), (1, xl)] AEw := Y1.add (i_0 TJ rfl); clear Y1
   have DF := Y2.add (gs (P 9 (by decide) (by decide))); clear Y2
   clear P Sp TJ hrq hrq_0
   clear TI
   clear AEp
   refine s2 DF (h_6 FD rfl t_9 el_46 DF.e DF.e (i := 0) rfl (SlAt.say (n' := (b.tabs.take kk).length) (cs' := (i_5 lr lb (b.tabs.take kk))) (SlAt.cut (b_1 (FD.ok 4 _ rfl)).tabs (Nat.zero_le _) (by omega)) (by rw [List.length_take, Nat.sub_zero, Nat.min_eq_left (by omega)]) (tabs_cutHi (by omega))) (tabs_oneT kk (b_1 (FD.ok 4 _ rfl))) (by simp only [maxLen, List.length_drop, List.length_take]; omega) (by first | omega | (simp only [List.length_drop, List.length_take]; omega))) ?_
   intro APx T Ah3 ACk Ll
   have FE := ACk.f_2 (i := 0) rfl (n' := ((b.tabs.drop kk) ++ (b.tabs.take kk)).length) (xs' := (i_5 (apV (b.tabs.drop kk).length (shV kk lr) lr) (apV (b.tabs.drop kk).length (shV kk lb) lb) ((b.tabs.drop kk) ++ (b.tabs.take kk)))) (by rw [List.length_append]) tabs_append; clear ACk DF FD AEw
   refine s1 Ll (a_3 rfl m_9 Ll.e) fun AEx DG => ?_; clear Ll APx
   refine s7 DG (c_4 FE rfl x_4 DG.e DG.e (i := 2) rfl (vs := [T]) (k_9 (SlAt.isSl (SlAt.b_9 (FE.c_0 0 rfl)))) rfl (i_1 (SlAt.one (SlAt.b_9 (FE.c_0 0 rfl))) q_6) (Nat.le_of_ble_eq_true rfl)) ?_
   intro _ AHK ACl AW; clear DG
   have Sq : Sep NoB w AHK [(row T 46 5 (((b.tabs.drop kk) ++ (b.tabs.take kk)).length) (i_5 (apV (b.tabs.drop kk).length (shV kk lr) lr) (apV (b.tabs.drop kk).length (shV kk lb) lb) ((b.tabs.drop kk) ++ (b.tabs.take kk)))), (row (A 3) 67 2 l.length (pairs l)), (blk b4_ 25 [(iv b.scales), T, vm]), (blk C 25 [(iv b.scales), vt, vm]), (d_2 false vt lr lb b.tabs), (d_4 false vm lk b.macs), (sl xl 2 l.length (pairs l))] := ACl; clear ACl FE
   refine e_6 (h_0 (b_5 (c_1 ?_)))
   have ACU := rot_ro Sq.tail (i := 3) rfl (k := kk) (by omega)
   have V : Sep NoB w AHK [(d_2 false T (apV (b.tabs.drop kk).length (shV kk lr) lr) (apV (b.tabs.drop kk).length (shV kk lb) lb) ((rotT b kk).tabs)), (row (A 3) 67 2 l.length (pairs l)), (blk b4_ 25 [(iv b.scales), T, vm]), (blk C 25 [(iv b.scales), vt, vm]), (d_2 false vt lr lb b.tabs), (d_4 false vm lk b.macs), (sl xl 2 l.length (pairs l))] := sep_tabs_ro Sq ACU.1 ACU.2; clear Sq
   have Z := order_tabs hr (k := kk) (by omega); have E := Z.1; have F := Z.2; have Al := l_2 E; have TM := m_5 Al; have hth2 := rotT_thin hth (k := kk) (by omega)
   rcases r_0 b l with hs | ⟨t, hs⟩
   ·skip
    have D := F.trans hs
    refine a_5 (s1 AW (b_8 rfl k_7 (AW.ev rfl) (V.bk 3 rfl) (l := [(iv b.scales), vt, vm]) rfl rfl) fun APy Lm => ?_); clear AW AEx
    refine s2 Lm (a_6 rfl m_6 (ev1 Lm.e) (g_2 b vt vm lr lb lk _ (b_1 (V.ok 4 _ rfl)) (a_8 (V.ok 5 _ rfl)) hth)) ?_
    rintro APz _ Ah4 ⟨vt2324, vm2325, lr2326, lb2327, lk2328, rfl, ADY⟩ Ln; have Sr := V.h_1 ADY rfl; clear ADY Lm V APy
    refine s1 Ln (a_0 rfl Ln.e) fun AP0 Lo => ?_; clear Ln APz
    refine s2 Lo (a_6 rfl m_7 (ev1 Lo.e) (d_5 l _ _ (Sr.sk 8 rfl) (by omega))) ?_
    rintro AP1 Ag0 Ah5 ⟨ABg, hO2337⟩ DH; have BR := Sr.f_7 ABg hO2337; clear ABg hO2337 Lo Sr AP0
    refine s2 DH (a_6 rfl m_1 (ev2 DH.e DH.e) (g_9 b vt2324 vm2325 lr2326 lb2327 lk2328 _ (b_1 (BR.ok 1 _ rfl)) (a_8 (BR.ok 2 _ rfl)) hth l _ (SlAt.b_9 (BR.c_0 0 rfl)) (by omega) hr hs)) ?_
    rintro AP2 _ Ah6 ⟨rfl, ABh⟩ Lp; have BS := BR.step ABh; clear ABh DH BR AP1
    refine s1 Lp (a_0 rfl Lp.e) fun AP3 Lq => ?_; clear Lp AP2
    refine s1 Lq (b_2 rfl Lq.e rfl) fun AP4 Ls => ?_; clear Lq AP3
    refine s1 Ls (b_2 rfl Ls.e rfl) fun AP5 Lt => ?_; clear Ls AP4
    refine s1 Lt (a_1 rfl Lt.e) fun AP6 Lu => ?_; clear Lt AP5
    refine s1 Lu (a_1 rfl Lu.e) fun AP7 Y3 => ?_; clear Lu AP6
    refine n2 ?_
    have Lv := Y3.as [(17, (iv (spE b l))), (16, (Value.slice none 0 0)), (10, (A 3)), (9, (bptr b4_ 0))] rfl; clear Y3
    refine a_5 (s1 Lv (b_8 rfl k_7 (Lv.ev rfl) (BS.bk 5 rfl) (l := [(iv b.scales), T, vm]) rfl rfl) fun AP8 Lw => ?_); clear Lv AP7
    refine s2 Lw (a_6 rfl m_6 (ev1 Lw.e) (g_2 (rotT b kk) T vm (apV (b.tabs.drop kk).length (shV kk lr) lr) (apV (b.tabs.drop kk).length (shV kk lb) lb) lk _ (b_1 (BS.ok 3 _ rfl)) (a_8 (BS.ok 8 _ rfl)) hth2)) ?_
    rintro AP9 _ Ah7 ⟨vt2361, vm2362, lr2363, lb2364, lk2365, rfl, ADZ⟩ Lx; have Ss := BS.h_1 ADZ rfl; clear ADZ Lw BS AP8
    refine s1 Lx (a_0 rfl Lx.e) fun AQA Ly => ?_; clear Lx AP9
    refine s2 Ly (a_6 rfl m_7 (ev1 Ly.e) (d_5 l _ _ (SlAt.b_9 (Ss.c_0 6 rfl)) (by omega))) ?_
    rintro AQB Ag1 Ah8 ⟨ABi, hO2374⟩ DI; have BT := Ss.f_7 ABi hO2374; clear ABi hO2374 Ly Ss AQA
    refine s2 DI (a_6 rfl m_1 (ev2 DI.e DI.e) (g_9 (rotT b kk) vt2361 vm2362 lr2363 lb2364 lk2365 _ (b_1 (BT.ok 1 _ rfl)) (a_8 (BT.ok 2 _ rfl)) hth2 l _ (SlAt.b_9 (BT.c_0 0 rfl)) (by omega) E D)) ?_
    rintro AQC _ Ah9 ⟨rfl, ABj⟩ Lz; have ACm := BT.step ABj; clear ABj DI BT AQB
    refine s1 Lz (a_0 rfl Lz.e) fun AQD L0 => ?_; clear Lz AQC
    refine s1 L0 (b_2 rfl L0.e rfl) fun AQE L1 => ?_; clear L0 AQD
    refine s1 L1 (b_2 rfl L1.e rfl) fun AQF L2 => ?_; clear L1 AQE
    refine s1 L2 (a_1 rfl L2.e) fun AQG L3 => ?_; clear L2 AQF
    refine s1 L3 (a_1 rfl L3.e) fun AQH Y4 => ?_; clear L3 AQG
    refine n2 ?_
    have L4 := Y4.as [(19, (iv (spE (rotT b kk) l))), (18, (Value.slice none 0 0)), (17, (iv (spE b l))), (16, (Value.slice none 0 0))] rfl; clear Y4
    refine a_5 (s1 L4 (a_0 rfl L4.e) fun AQI L5 => ?_); clear L4 AQH
    refine s1 L5 (a_0 rfl L5.e) fun AQJ DJ => ?_; clear L5 AQI
    refine s1 DJ (e_9 rfl DJ.e DJ.e) fun AQK DK => ?_; clear DJ AQJ
    have AIG : (spE b l) = (spE (rotT b kk) l) := (by rw [o_4 hr hs, o_4 E D])
    rw [decide_eq_true AIG] at DK
    refine s1 DK (a_0 rfl DK.e) fun AQL L6 => ?_; clear DK AQK
    refine s5 L6 (a_0 rfl L6.e) fun AQM L7 => ?_; clear L6 AQL
    refine s5 L7 (e_9 rfl L7.e (evc _ _)) fun AQN DL => ?_; clear L7 AQM
    have AEH : ¬ ((spE b l) = 0) := (by rw [o_4 hr hs]; decide)
    rw [decide_eq_false AEH] at DL
    refine s5 DL (a_0 rfl DL.e) fun AQO L8 => ?_; clear DL AQN
    refine s5 L8 (a_0 rfl L8.e) fun AQP L9 => ?_; clear L8 AQO
    refine s5 L9 (e_9 rfl L9.e (evc _ _)) fun AQQ Av => ?_; clear L9 AQP
    have AIH : (spE b l) = 9 := (o_4 hr hs)
    rw [decide_eq_true AIH] at Av
    refine s5 Av (c_3 rfl Av.e Av.e) fun AQR DM => ?_; clear Av AQQ
    refine s1 DM (a_7 rfl DM.e DM.e) fun AQS MA => ?_; clear DM AQR
    refine s1 MA (a_0 rfl MA.e) fun AQT MB => ?_; clear MA AQS
    refine s5 MB (a_0 rfl MB.e) fun AQU MC => ?_; clear MB AQT
    refine s5 MC (l_5 rfl MC.e (evc _ _)) fun AQV DN => ?_; clear MC AQU
    rw [decide_eq_false AEH] at DN
    refine s5 DN (a_0 rfl DN.e) fun AQW Y5 => ?_; clear DN AQV
    refine s3 Y5 fun AQX Y6 => ?_; clear Y5 AQW
    refine s3 Y6 fun AQY Y7 => ?_; clear Y6 AQX
    refine s3 Y7 fun AQZ Y8 => ?_; clear Y7 AQY
    refine s3 Y8 fun AQa Y9 => ?_; clear Y8 AQZ
    refine s3 Y9 fun AQb ZA => ?_; clear Y9 AQa
    refine s3 ZA fun AQc ZB => ?_; clear ZA AQb
    refine s4 ZB fun AQd ZC => ?_; clear ZB AQc
    refine s4 ZC fun AQe ZD => ?_; clear ZC AQd
    refine s4 ZD fun AQf ZE => ?_; clear ZD AQe
    refine s4 ZE fun AQg ZF => ?_; clear ZE AQf
    refine s4 ZF fun AQh ZG => ?_; clear ZF AQg
    refine s3 ZG fun AQi MD => ?_; clear ZG AQh
    refine s5 MD (a_7 rfl MD.e (evc _ _)) fun AQj DO => ?_; clear MD AQi
    refine s1 DO (a_7 rfl DO.e DO.e) fun AQk ME => ?_; clear DO AQj
    refine s1 ME (a_0 rfl ME.e) fun AQl ZH => ?_; clear ME AQk
    refine s6 ZH (a_6 rfl v_5 ev0 (j_2 _)) ?_
    rintro AQm _ AiA ⟨rfl, ABk⟩ DP; have AHs := ACm.step ABk; clear ABk ZH ACm AQl
    refine s1 DP (a_7 rfl DP.e DP.e) fun AQn MF => ?_; clear DP AQm
    refine s1 MF (a_1 rfl MF.e) fun Agc ZI => ?_; clear MF AQn
    exact n1 (c_5 (b_0 ZI (.inl rfl) (a_2 ZI rfl (.tmp rfl)) (⟨rfl, AHs.ext⟩)))
   skip
   have D := F.trans hs; have htln := ab_1 hb hl hs
   refine a_5 (s1 AW (b_8 rfl k_7 (AW.ev rfl) (V.bk 3 rfl) (l := [(iv b.scales), vt, vm]) rfl rfl) fun AQo MG => ?_); clear AW AEx
   refine s2 MG (a_6 rfl m_6 (ev1 MG.e) (g_2 b vt vm lr lb lk _ (b_1 (V.ok 4 _ rfl)) (a_8 (V.ok 5 _ rfl)) hth)) ?_
   rintro AQp _ AiB ⟨vt2470, vm2471, lr2472, lb2473, lk2474, rfl, ADa⟩ MH; have St := V.h_1 ADa rfl; clear ADa MG V AQo
   refine s1 MH (a_0 rfl MH.e) fun AQq MI => ?_; clear MH AQp
   refine s2 MI (a_6 rfl m_7 (ev1 MI.e) (d_5 l _ _ (St.sk 8 rfl) (by omega))) ?_
   rintro AQr AHC AiC ⟨ABl, hO2483⟩ DQ; have BU := St.f_7 ABl hO2483; clear ABl hO2483 MI St AQq
   refine s2 DQ (a_6 rfl m_1 (ev2 DQ.e DQ.e) (j_1 b vt2470 vm2471 lr2472 lb2473 lk2474 _ (b_1 (BU.ok 1 _ rfl)) (a_8 (BU.ok 2 _ rfl)) hth l _ (SlAt.b_9 (BU.c_0 0 rfl)) (by omega) t hr hs)) ?_
   rintro AQs _ AaW ⟨Gn, rfl, ADb⟩ MJ
   have BV : Sep NoB w AaW [(row Gn 30 2 t.length (pairs t)), (row AHC 98 2 l.length (pairs l)), (d_2 true vt2470 lr2472 lb2473 b.tabs), (d_4 true vm2471 lk2474 b.macs), (d_2 false T (apV (b.tabs.drop kk).length (shV kk lr) lr) (apV (b.tabs.drop kk).length (shV kk lb) lb) ((rotT b kk).tabs)), (row (A 3) 67 2 l.length (pairs l)), (blk b4_ 25 [(iv b.scales), T, vm]), (blk C 25 [(iv b.scales), vt, vm]), (d_2 false vt lr lb b.tabs), (d_4 false vm lk b.macs), (sl xl 2 l.length (pairs l))] := BU.h_1 ADb rfl; clear ADb DQ BU AQr
   refine s1 MJ (a_0 rfl MJ.e) fun AQt MK => ?_; clear MJ AQs
   refine s1 MK (b_2 rfl MK.e rfl) fun AQu ML => ?_; clear MK AQt
   refine s1 ML (b_2 rfl ML.e rfl) fun AQv MM => ?_; clear ML AQu
   refine s1 MM (a_1 rfl MM.e) fun AQw MN => ?_; clear MM AQv
   refine s1 MN (a_1 rfl MN.e) fun AQx ZJ => ?_; clear MN AQw
   refine n2 ?_
   have MO := ZJ.as [(17, (iv 0)), (16, Gn), (10, (A 3)), (9, (bptr b4_ 0))] rfl; clear ZJ
   refine a_5 (s1 MO (b_8 rfl k_7 (MO.ev rfl) (BV.bk 6 rfl) (l := [(iv b.scales), T, vm]) rfl rfl) fun AQy MP => ?_); clear MO AQx
   refine s2 MP (a_6 rfl m_6 (ev1 MP.e) (g_2 (rotT b kk) T vm (apV (b.tabs.drop kk).length (shV kk lr) lr) (apV (b.tabs.drop kk).length (shV kk lb) lb) lk _ (b_1 (BV.ok 4 _ rfl)) (a_8 (BV.ok 9 _ rfl)) hth2)) ?_
   rintro AQz _ AiD ⟨vt2508, vm2509, lr2510, lb2511, lk2512, rfl, ADc⟩ MQ; have Su := BV.h_1 ADc rfl; clear ADc MP BV AQy
   refine s1 MQ (a_0 rfl MQ.e) fun AQ0 MR => ?_; clear MQ AQz
   refine s2 MR (a_6 rfl m_7 (ev1 MR.e) (d_5 l _ _ (SlAt.b_9 (Su.c_0 7 rfl)) (by omega))) ?_
   rintro AQ1 AaG AiE ⟨ABm, hO2521⟩ DR; have BW := Su.f_7 ABm hO2521; clear ABm hO2521 MR Su AQ0
   refine s2 DR (a_6 rfl m_1 (ev2 DR.e DR.e) (j_1 (rotT b kk) vt2508 vm2509 lr2510 lb2511 lk2512 _ (b_1 (BW.ok 1 _ rfl)) (a_8 (BW.ok 2 _ rfl)) hth2 l _ (SlAt.b_9 (BW.c_0 0 rfl)) (by omega) t E D)) ?_
   rintro AQ2 _ AaX ⟨AG2, rfl, ADd⟩ MS
   have FF : Sep NoB w AaX [(row AG2 30 2 t.length (pairs t)), (row AaG 98 2 l.length (pairs l)), (d_2 true vt2508 lr2510 lb2511 (rotT b kk).tabs), (d_4 true vm2509 lk2512 (rotT b kk).macs), (row Gn 30 2 t.length (pairs t)), (row AHC 98 2 l.length (pairs l)), (d_2 true vt2470 lr2472 lb2473 b.tabs), (d_4 true vm2471 lk2474 b.macs), (d_2 false T (apV (b.tabs.drop kk).length (shV kk lr) lr) (apV (b.tabs.drop kk).length (shV kk lb) lb) ((rotT b kk).tabs)), (row (A 3) 67 2 l.length (pairs l)), (blk b4_ 25 [(iv b.scales), T, vm]), (blk C 25 [(iv b.scales), vt, vm]), (d_2 false vt lr lb b.tabs), (d_4 false vm lk b.macs), (sl xl 2 l.length (pairs l))] := BW.h_1 ADd rfl; clear ADd DR BW AQ1
   refine s1 MS (a_0 rfl MS.e) fun AQ3 MT => ?_; clear MS AQ2
   refine s1 MT (b_2 rfl MT.e rfl) fun AQ4 MU => ?_; clear MT AQ3
   refine s1 MU (b_2 rfl MU.e rfl) fun AQ5 MV => ?_; clear MU AQ4
   refine s1 MV (a_1 rfl MV.e) fun AQ6 MW => ?_; clear MV AQ5
   refine s1 MW (a_1 rfl MW.e) fun AQ7 ZK => ?_; clear MW AQ6
   refine n2 ?_
   have MX := ZK.as [(19, (iv 0)), (18, AG2), (17, (iv 0)), (16, Gn)] rfl; clear ZK
   refine a_5 (s1 MX (a_0 rfl MX.e) fun AQ8 MY => ?_); clear MX AQ7
   refine s1 MY (a_0 rfl MY.e) fun AQ9 DS => ?_; clear MY AQ8
   refine s1 DS (e_9 rfl DS.e DS.e) fun ARA MZ => ?_; clear DS AQ9
   refine s1 MZ (a_0 rfl MZ.e) fun ARB Ma => ?_; clear MZ ARA
   refine s5 Ma (a_0 rfl Ma.e) fun ARC Mb => ?_; clear Ma ARB
   refine s5 Mb (e_9 rfl Mb.e (evc _ _)) fun ARD Mc => ?_; clear Mb ARC
   refine s5 Mc (a_0 rfl Mc.e) fun ARE ZL => ?_; clear Mc ARD
   refine s3 ZL fun ARF ZM => ?_; clear ZL ARE
   refine s3 ZM fun ARG Md => ?_; clear ZM ARF
   refine s5 Md (a_7 rfl Md.e (evc _ _)) fun ARH DT => ?_; clear Md ARG
   refine s1 DT (a_7 rfl DT.e DT.e) fun ARI Me => ?_; clear DT ARH
   refine s1 Me (a_0 rfl Me.e) fun ARJ Mf => ?_; clear Me ARI
   refine s5 Mf (a_0 rfl Mf.e) fun ARK Mg => ?_; clear Mf ARJ
   refine s5 Mg (l_5 rfl Mg.e (evc _ _)) fun ARL Mh => ?_; clear Mg ARK
   refine s5 Mh (a_0 rfl Mh.e) fun ARM Mi => ?_; clear Mh ARL
   refine s5 Mi (a_0 rfl Mi.e) fun ARN Mj => ?_; clear Mi ARM
   refine s5 Mj (a_0 rfl Mj.e) fun ARO Mk => ?_; clear Mj ARN
   refine s5 Mk (a_0 rfl Mk.e) fun ARP Ml => ?_; clear Mk ARO
   refine s5 Ml (a_0 rfl Ml.e) fun ARQ AX => ?_; clear Ml ARP
   refine s6 AX (a_6 rfl w_2 (ev4 AX.e AX.e AX.e AX.e) (g_0 t _ 0 t _ 0 _ (SlAt.b_9 (FF.c_0 4 rfl)) (SlAt.b_9 (FF.c_0 0 rfl)) (by omega))) ?_
   rintro ARR _ AiF ⟨rfl, ABn⟩ DU; have FH := FF.step ABn; clear ABn AX FF ARQ
   have AEI : (narB t 0 t 0) = true := (q_7 hb hl hs)
   rw [AEI] at DU
   refine s5 DU (a_0 rfl DU.e) fun ARS Mm => ?_; clear DU ARR
   refine s5 Mm (a_0 rfl Mm.e) fun ART Mn => ?_; clear Mm ARS
   refine s5 Mn (a_0 rfl Mn.e) fun ARU Mo => ?_; clear Mn ART
   refine s5 Mo (a_0 rfl Mo.e) fun ARV Mp => ?_; clear Mo ARU
   refine s5 Mp (a_0 rfl Mp.e) fun ARW AY => ?_; clear Mp ARV
   refine s6 AY (a_6 rfl w_2 (ev4 AY.e AY.e AY.e AY.e) (g_0 t _ 0 t _ 0 _ (SlAt.b_9 (FH.c_0 0 rfl)) (SlAt.b_9 (FH.c_0 4 rfl)) (by omega))) ?_
   rintro ARX _ AiG ⟨rfl, ABo⟩ Aw; have ACn := FH.step ABo; clear ABo AY FH ARW
   rw [AEI] at Aw
   refine s5 Aw (a_7 rfl Aw.e Aw.e) fun ARY DV => ?_; clear Aw ARX
   refine s5 DV (c_3 rfl DV.e DV.e) fun ARZ DW => ?_; clear DV ARY
   refine s1 DW (a_7 rfl DW.e DW.e) fun ARa Mq => ?_; clear DW ARZ
   refine s1 Mq (a_0 rfl Mq.e) fun ARb ZN => ?_; clear Mq ARa
   refine s6 ZN (a_6 rfl v_5 ev0 (j_2 _)) ?_
   rintro ARc _ AiH ⟨rfl, ABp⟩ DX; have AHt := ACn.step ABp; clear ABp ZN ACn ARb
   refine s1 DX (a_7 rfl DX.e DX.e) fun ARd Mr => ?_; clear DX ARc
   refine s1 Mr (a_1 rfl Mr.e) fun Agd ZO => ?_; clear Mr ARd
   exact n1 (c_5 (b_0 ZO (.inl rfl) (a_2 ZO rfl (.tmp rfl)) (⟨rfl, AHt.ext⟩)))
  skip
  rw [decide_eq_false AD5] at y
  refine c_2 y rfl (c_1 ?_)
  have Ms := y.as [(10, (A 3)), (9, (bptr b4_ 0)), (4, (bptr C 0)), (1, xl), (3, (Value.int .u8 wb))] rfl; clear y
  refine a_5 (s1 Ms (a_3 rfl g_6 Ms.e) fun ARe Mt => ?_); clear Ms AEv
  refine s1 Mt (a_4 rfl n_6 Mt.e (B.bk 2 rfl) rfl) fun ARf Mu => ?_; clear Mt ARe
  refine s1 Mu (d_3 rfl n_7 Mu.e (a_8 (B.ok 4 _ rfl)).macs) fun ARg Mv => ?_; clear Mu ARf
  refine s1 Mv (k_0 rfl Mv.e (evc _ _)) fun ARh Mw => ?_; clear Mv ARg
  refine s1 Mw (a_1 rfl Mw.e) fun TO d => ?_; clear Mw ARh
  refine n1 ?_
  by_cases AD6 : 0 < (b.macs.length : Int)
  ·skip
   rw [decide_eq_true AD6] at d
   refine c_7 d rfl (m2 (s1 d (a_0 rfl d.e) fun ARi Mx => ?_)); clear d TO
   refine s1 Mx (op_conv un_5 un_3 rfl Mx.e (v := wb) (wrap_i64 (by omega) (by omega))) fun ARj My => ?_; clear Mx ARi
   refine s1 My (a_3 rfl g_6 My.e) fun ARk Mz => ?_; clear My ARj
   refine s1 Mz (a_4 rfl n_6 Mz.e (B.bk 2 rfl) rfl) fun ARl M0 => ?_; clear Mz ARk
   refine s1 M0 (d_3 rfl n_7 M0.e (a_8 (B.ok 4 _ rfl)).macs) fun ARm DY => ?_; clear M0 ARl
   refine s1 DY (ab_0 rfl DY.e DY.e (by omega)) fun ARn M1 => ?_; clear DY ARm
   refine s1 M1 (a_1 rfl M1.e) fun ARo ZP => ?_; clear M1 ARn
   refine n2 ?_
   have M2 := ZP.as [(13, (iv ((wb).tmod (b.macs.length : Int)))), (10, (A 3)), (9, (bptr b4_ 0)), (4, (bptr C 0)), (1, xl)] rfl; clear ZP
   obtain ⟨kk, hz_kk, hb_kk⟩ := rem_nat (n := wb) (m := b.macs.length) hB_.1 (by omega); rw [hz_kk] at M2
   have hmk := hth.mac kk; have hb5 := hb.blks _ (mac_mem hb_kk)
   refine a_5 (s2 M2 (f_1 B rfl pv0 n_7 r_2 ze_61 (by decide) (cs := []) bs_61_0_) ?_)
   rintro ARp _ AiI ⟨Agq, rfl, Sv⟩ M3; clear M2 B ARo
   refine s1 M3 (a_3 rfl g_6 M3.e) fun ARq M4 => ?_; clear M3 ARp
   refine s1 M4 (a_4 rfl n_6 M4.e (Sv.bk 3 rfl) rfl) fun ARr DZ => ?_; clear M4 ARq
   have FJ := Sv.o_9 (i := 0) (sz := 2) (n := 0) rfl rfl (by decide); clear Sv
   refine s2 DZ (h_6 FJ rfl n_7 el_61 DZ.e DZ.e (i := 0) rfl (a_8 (FJ.ok 5 _ rfl)).macs (macs_one (a_8 (FJ.ok 5 _ rfl))) (by simp only [maxLen, List.length_drop, List.length_take]; omega) (by first | omega | (simp only [List.length_drop, List.length_take]; omega))) ?_
   intro ARs J AiJ ACo M5
   have FK := ACo.f_2 (i := 0) rfl (n' := b.macs.length) (xs' := (k_6 lk b.macs)) (by simp only [Nat.zero_add]) (List.nil_append _); clear ACo DZ FJ ARr
   refine s1 M5 (a_3 rfl g_6 M5.e) fun ARt Da => ?_; clear M5 ARs
   refine s7 Da (c_4 FK rfl n_6 Da.e Da.e (i := 2) rfl (vs := [J]) (k_9 (SlAt.isSl (SlAt.b_9 (FK.c_0 0 rfl)))) rfl (i_1 (SlAt.one (SlAt.b_9 (FK.c_0 0 rfl))) q_6) (Nat.le_of_ble_eq_true rfl)) ?_
   intro _ AaY ACp ZQ; clear Da
   have ACq : Sep NoB w AaY [(row J 61 2 b.macs.length (k_6 lk b.macs)), (row (A 3) 67 2 l.length (pairs l)), (blk b4_ 25 [(iv b.scales), vt, J]), (blk C 25 [(iv b.scales), vt, vm]), (d_2 false vt lr lb b.tabs), (d_4 false vm lk b.macs), (sl xl 2 l.length (pairs l))] := ACp; clear ACp FK
   refine n4 (s1 ZQ (a_1 rfl (evc _ _)) fun ARu M6 => ?_); clear ZQ ARt
   have AB := ACq.t_8 63 3; clear ACq
   refine n2 (m2 (s1 M6 (a_3 rfl g_6 M6.e) fun ARv M7 => ?_)); clear M6 ARu
   refine s1 M7 (a_4 rfl n_6 M7.e (AB.bk 4 rfl) rfl) fun ARw M8 => ?_; clear M7 ARv
   refine s1 M8 (a_0 rfl M8.e) fun ARx Db => ?_; clear M8 ARw
   refine s1 Db (b_6 rfl n_7 r_2 Db.e (i := kk) Db.e (a_8 (AB.ok 6 _ rfl)).macs (by decide) (by omega)) fun ARy M9 => ?_; clear Db ARx
   refine s1 M9 (d_0 rfl m_2 M9.e (a_8 (AB.ok 6 _ rfl)).macs (by rw [((a_8 (AB.ok 6 _ rfl)).macs).1]; omega)) fun ARz NA => ?_; clear M9 ARy
   refine s1 NA (c_6 rfl w_4 NA.e (a_8 (AB.ok 6 _ rfl)).macs (s_5 (by omega))) fun AR0 NB => ?_; clear NA ARz
   refine s1 NB (d_3 rfl t_4 NB.e ((a_8 (AB.ok 6 _ rfl)).blk (i := kk) (by omega))) fun AR1 NC => ?_; clear NB AR0
   refine s1 NC (i_3 rfl NC.e (evc _ _) (by omega) (by omega)) fun AR2 ND => ?_; clear NC AR1
   refine s1 ND (a_1 rfl ND.e) fun AR3 ZR => ?_; clear ND AR2
   refine n1 (d_1 ?_)
   have ZS := ZR.as [(15, (iv (((b.macs.getD kk mac0).blocks.length : Int) - 1))), (14, (Value.slice none 0 0)), (13, (iv (kk : Int))), (10, (A 3)), (9, (bptr b4_ 0)), (4, (bptr C 0)), (1, xl)] rfl; clear ZR
   refine h_9 (G := Nat) (fun (s : Nat) a_ w_ => ∃ v14_ : Value, Fr 174 [] [(15, (iv (((b.macs.getD kk mac0).blocks.length : Int) - ((s + 1 : Nat) : Int)))), (14, v14_), (13, (iv (kk : Int))), (10, (A 3)), (9, (bptr b4_ 0)), (4, (bptr C 0)), (1, xl)] a_ ∧ Sep NoB w w_ [(row v14_ 63 3 (((b.macs.getD kk mac0).blocks.reverse.take s).length) (trips ((b.macs.getD kk mac0).blocks.reverse.take s))), (row J 61 2 b.macs.length (k_6 lk b.macs)), (row (A 3) 67 2 l.length (pairs l)), (blk b4_ 25 [(iv b.scales), vt, J]), (blk C 25 [(iv b.scales), vt, vm]), (d_2 false vt lr lb b.tabs), (d_4 false vm lk b.macs), (sl xl 2 l.length (pairs l))] ∧ (s ≤ (b.macs.getD kk mac0).blocks.length)) (fun s => (b.macs.getD kk mac0).blocks.length - s) 0 ⟨(Value.slice none 0 0), ZS.as _ (by rfl), (AB.f_2 (i := 0) rfl (by rfl) (by rfl)), by omega⟩ ?_
   clear ZS AB AR3
   rintro s AR4 AiK ⟨v14_, NE, R, hks⟩
   have hrt : ((b.macs.getD kk mac0).blocks.reverse.take s).length ≤ 8 := (by rw [List.length_take, List.length_reverse]; omega)
   refine c_1 (m2 (s1 NE (a_0 rfl NE.e) fun AR5 NF => ?_)); clear NE AR4
   refine s1 NF (v_6 rfl NF.e (evc _ _)) fun AEy N => ?_; clear NF AR5
   refine n1 ?_
   by_cases AD7 : 0 ≤ (((b.macs.getD kk mac0).blocks.length : Int) - ((s + 1 : Nat) : Int))
   ·skip
    rw [decide_eq_true AD7] at N
    refine c_7 N rfl (d_7 (b_5 (c_1 (d_1 ?_))))
    rw [show (((b.macs.getD kk mac0).blocks.length : Int) - ((s + 1 : Nat) : Int)) = (((b.macs.getD kk mac0).blocks.length - 1 - s : Nat) : Int) from by omega] at N
    refine a_5 (s1 N (a_0 rfl N.e) fun AR6 NG => ?_); clear N AEy
    refine s1 NG (a_3 rfl g_6 NG.e) fun AR7 NH => ?_; clear NG AR6
    refine s1 NH (a_4 rfl n_6 NH.e (R.bk 4 rfl) rfl) fun AR8 NI => ?_; clear NH AR7
    refine s1 NI (a_0 rfl NI.e) fun AR9 Dc => ?_; clear NI AR8
    refine s1 Dc (b_6 rfl n_7 r_2 Dc.e (i := kk) Dc.e (a_8 (R.ok 6 _ rfl)).macs (by decide) (by omega)) fun ASA NJ => ?_; clear Dc AR9
    refine s1 NJ (d_0 rfl m_2 NJ.e (a_8 (R.ok 6 _ rfl)).macs (by rw [((a_8 (R.ok 6 _ rfl)).macs).1]; omega)) fun ASB NK => ?_; clear NJ ASA
    refine s1 NK (c_6 rfl w_4 NK.e (a_8 (R.ok 6 _ rfl)).macs (s_5 (by omega))) fun ASC NL => ?_; clear NK ASB
    refine s1 NL (a_0 rfl NL.e) fun ASD Dd => ?_; clear NL ASC
    refine s1 Dd (b_6 rfl t_4 z_7 Dd.e (i := ((b.macs.getD kk mac0).blocks.length - 1 - s : Nat)) Dd.e ((a_8 (R.ok 6 _ rfl)).blk (i := kk) (by omega)) (by decide) (by omega)) fun ASE NM => ?_; clear Dd ASD
    refine s1 NM (f_0 rfl z_7 NM.e ((a_8 (R.ok 6 _ rfl)).blk (i := kk) (by omega)) (p_8 (by omega)) rfl (by decide)) fun ASF NN => ?_; clear NM ASE
    refine s2 NN (f_1 R rfl (pv1 NN.e) t_4 z_7 ze_63 (by decide) (cs := [(iv ((((b.macs.getD kk mac0).blocks).getD ((b.macs.getD kk mac0).blocks.length - 1 - s : Nat) (0, 0, 0)).1)), (iv ((((b.macs.getD kk mac0).blocks).getD ((b.macs.getD kk mac0).blocks.length - 1 - s : Nat) (0, 0, 0)).2.1)), (iv ((((b.macs.getD kk mac0).blocks).getD ((b.macs.getD kk mac0).blocks.length - 1 - s : Nat) (0, 0, 0)).2.2))]) (u_3 _ _ _)) ?_
    rintro ASG _ AiL ⟨Agr, rfl, Sw⟩ De; clear NN R ASF
    refine s2 De (h_6 Sw rfl t_4 el_63 De.e De.e (i := 1) rfl (SlAt.of_blk (Sw.bk 0 rfl) rfl (Nat.le_of_ble_eq_true rfl)) rfl (by simp only [maxLen, List.length_drop, List.length_take]; omega) (by first | omega | (simp only [List.length_drop, List.length_take]; omega))) ?_
    intro ASH AHD AiM ACr NO
    have ACs := ACr.f_2 (i := 1) rfl (n' := (((b.macs.getD kk mac0).blocks.reverse.take s) ++ [((((b.macs.getD kk mac0).blocks).getD ((b.macs.getD kk mac0).blocks.length - 1 - s : Nat) (0, 0, 0)).1, (((b.macs.getD kk mac0).blocks).getD ((b.macs.getD kk mac0).blocks.length - 1 - s : Nat) (0, 0, 0)).2.1, (((b.macs.getD kk mac0).blocks).getD ((b.macs.getD kk mac0).blocks.length - 1 - s : Nat) (0, 0, 0)).2.2)]).length) (xs' := (trips (((b.macs.getD kk mac0).blocks.reverse.take s) ++ [((((b.macs.getD kk mac0).blocks).getD ((b.macs.getD kk mac0).blocks.length - 1 - s : Nat) (0, 0, 0)).1, (((b.macs.getD kk mac0).blocks).getD ((b.macs.getD kk mac0).blocks.length - 1 - s : Nat) (0, 0, 0)).2.1, (((b.macs.getD kk mac0).blocks).getD ((b.macs.getD kk mac0).blocks.length - 1 - s : Nat) (0, 0, 0)).2.2)]))) (by simp) (by simp [trips]); clear ACr De Sw ASG
    refine s1 NO (a_1 rfl NO.e) fun ASI ZT => ?_; clear NO ASH
    refine e_6 (h_0 (b_5 ?_))
    have NP := ZT.as [(14, AHD), (15, (iv (((b.macs.getD kk mac0).blocks.length - 1 - s : Nat) : Int))), (13, (iv (kk : Int))), (10, (A 3)), (9, (bptr b4_ 0)), (4, (bptr C 0)), (1, xl)] rfl; clear ZT
    refine a_5 (s1 NP (a_0 rfl NP.e) fun ASJ NQ => ?_); clear NP ASI
    refine s1 NQ (i_3 rfl NQ.e (evc _ _) (by omega) (by omega)) fun ASK NR => ?_; clear NQ ASJ
    refine s1 NR (a_1 rfl NR.e) fun Age ZU => ?_; clear NR ASK
    refine e_6 ?_
    rw [show (((b.macs.getD kk mac0).blocks.length - 1 - s : Nat) : Int) - 1 = (((b.macs.getD kk mac0).blocks.length : Int) - ((s + 1 + 1 : Nat) : Int)) from by omega] at ZU
    have AHu := ACs.gkp (gpc 1 (gpc 2 (gpc 3 (gpc 4 (gpc 5 (gpc 6 (gpc 7 (gpc 8 gpn)))))))); clear ACs
    exact b_5 ⟨s + 1, ⟨AHD, ZU.as _ rfl, (AHu.f_2 (i := 0) rfl (n' := ((b.macs.getD kk mac0).blocks.reverse.take (s + 1)).length) (xs' := trips ((b.macs.getD kk mac0).blocks.reverse.take (s + 1))) (by rw [w_7 (by omega)]) (by rw [w_7 (by omega)])), by omega⟩, by omega⟩
   skip
   rw [decide_eq_false AD7] at N
   refine c_2 N rfl (h_8 (b_7 (b_7 (f_9 (b_5 ?_)))))
   have AC := R.f_2 (i := 0) rfl (n' := ((b.macs.getD kk mac0).blocks.reverse).length) (xs' := trips ((b.macs.getD kk mac0).blocks.reverse)) (by rw [List.take_of_length_le (by rw [List.length_reverse]; omega)]) (by rw [List.take_of_length_le (by rw [List.length_reverse]; omega)]); clear R
   refine a_5 (s1 N (a_3 rfl g_6 N.e) fun ASL NS => ?_); clear N AEy
   refine s1 NS (a_4 rfl n_6 NS.e (AC.bk 3 rfl) rfl) fun ASM NT => ?_; clear NS ASL
   refine s1 NT (a_0 rfl NT.e) fun ASN NU => ?_; clear NT ASM
   refine s1 NU (a_0 rfl NU.e) fun ASO Df => ?_; clear NU ASN
   refine s1 Df (b_6 rfl n_7 r_2 Df.e (i := kk) Df.e (SlAt.b_9 (AC.c_0 1 rfl)) (by decide) (by omega)) fun ASP NV => ?_; clear Df ASO
   refine s1 NV (d_0 rfl m_2 NV.e (SlAt.b_9 (AC.c_0 1 rfl)) (by rw [((SlAt.b_9 (AC.c_0 1 rfl))).1]; omega)) fun AEz Dg => ?_; clear NV ASP
   refine s7 Dg (op_storeE AC rfl w_4 Dg.e Dg.e (i := 1) rfl (vs := [v14_]) (k_9 (SlAt.isSl (SlAt.b_9 (AC.c_0 0 rfl)))) rfl (i_1 (SlAt.one (SlAt.b_9 (AC.c_0 0 rfl))) q_6) (by rw [macs_len]; omega) (by decide)) ?_
   intro _ AaZ ACt ZV; have ACu := ACt.f_2 (i := 1) rfl (n' := (b.macs.set kk ⟨(b.macs.getD kk mac0).scale, (b.macs.getD kk mac0).blocks.reverse⟩).length) (xs' := (k_6 (putV kk lk v14_) (b.macs.set kk ⟨(b.macs.getD kk mac0).scale, (b.macs.getD kk mac0).blocks.reverse⟩))) (by rw [List.length_set]) (macs_setB (by omega)); clear ACt Dg AC
   refine e_6 (h_0 (b_5 (c_1 ?_)))
   have AZ := ZV.as [(10, (A 3)), (9, (bptr b4_ 0)), (4, (bptr C 0)), (1, xl)] rfl; clear ZV
   have ACv := v_2 ACu (i := 0) rfl; clear ACu
   have Sx := ACv.gkp (gpc 1 (gpc 0 (gpc 2 (gpc 3 (gpc 4 (gpc 5 (gpc 6 (gpc 7 gpn)))))))); clear ACv
   have AHg := setB_ro (m := ⟨(b.macs.getD kk mac0).scale, (b.macs.getD kk mac0).blocks.reverse⟩) Sx.tail (i := 5) (j := 0) rfl rfl hb_kk
   have W : Sep NoB w AaZ [(d_4 false J (putV kk lk v14_) ((putM b kk (b.macs.getD kk mac0).blocks.reverse).macs)), (sl v14_ 3 (((b.macs.getD kk mac0).blocks.reverse).length) (trips ((b.macs.getD kk mac0).blocks.reverse))), (row (A 3) 67 2 l.length (pairs l)), (blk b4_ 25 [(iv b.scales), vt, J]), (blk C 25 [(iv b.scales), vt, vm]), (d_2 false vt lr lb b.tabs), (d_4 false vm lk b.macs), (sl xl 2 l.length (pairs l))] := sep_macs_ro Sx AHg; clear Sx
   have Z := order_rev hr (k := kk) hb_kk; have E := Z.1; have F := Z.2; have Al := l_2 E; have TM := m_5 Al; have hth2 := putM_thin (bl := (b.macs.getD kk mac0).blocks.reverse) hth (by rw [List.length_reverse]; omega) hb_kk
   rcases r_0 b l with hs | ⟨t, hs⟩
   ·skip
    have D := F.trans hs
    refine a_5 (s1 AZ (b_8 rfl k_7 (AZ.ev rfl) (W.bk 4 rfl) (l := [(iv b.scales), vt, vm]) rfl rfl) fun ASQ NW => ?_); clear AZ AEz
    refine s2 NW (a_6 rfl m_6 (ev1 NW.e) (g_2 b vt vm lr lb lk _ (b_1 (W.ok 5 _ rfl)) (a_8 (W.ok 6 _ rfl)) hth)) ?_
    rintro ASR _ AiN ⟨vt2765, vm2766, lr2767, lb2768, lk2769, rfl, ADe⟩ NX; have Sy := W.h_1 ADe rfl; clear ADe NW W ASQ
    refine s1 NX (a_0 rfl NX.e) fun ASS NY => ?_; clear NX ASR
    refine s2 NY (a_6 rfl m_7 (ev1 NY.e) (d_5 l _ _ (Sy.sk 9 rfl) (by omega))) ?_
    rintro AST Ag2 AiO ⟨ABq, hO2778⟩ Dh; have BX := Sy.f_7 ABq hO2778; clear ABq hO2778 NY Sy ASS
    refine s2 Dh (a_6 rfl m_1 (ev2 Dh.e Dh.e) (g_9 b vt2765 vm2766 lr2767 lb2768 lk2769 _ (b_1 (BX.ok 1 _ rfl)) (a_8 (BX.ok 2 _ rfl)) hth l _ (SlAt.b_9 (BX.c_0 0 rfl)) (by omega) hr hs)) ?_
    rintro ASU _ AiP ⟨rfl, ABr⟩ NZ; have BY := BX.step ABr; clear ABr Dh BX AST
    refine s1 NZ (a_0 rfl NZ.e) fun ASV Na => ?_; clear NZ ASU
    refine s1 Na (b_2 rfl Na.e rfl) fun ASW Nb => ?_; clear Na ASV
    refine s1 Nb (b_2 rfl Nb.e rfl) fun ASX Nc => ?_; clear Nb ASW
    refine s1 Nc (a_1 rfl Nc.e) fun ASY Nd => ?_; clear Nc ASX
    refine s1 Nd (a_1 rfl Nd.e) fun ASZ ZW => ?_; clear Nd ASY
    refine n2 ?_
    have Ne := ZW.as [(17, (iv (spE b l))), (16, (Value.slice none 0 0)), (10, (A 3)), (9, (bptr b4_ 0))] rfl; clear ZW
    refine a_5 (s1 Ne (b_8 rfl k_7 (Ne.ev rfl) (BY.bk 6 rfl) (l := [(iv b.scales), vt, J]) rfl rfl) fun ASa Nf => ?_); clear Ne ASZ
    refine s2 Nf (a_6 rfl m_6 (ev1 Nf.e) (g_2 (putM b kk (b.macs.getD kk mac0).blocks.reverse) vt J lr lb (putV kk lk v14_) _ (b_1 (BY.ok 8 _ rfl)) (a_8 (BY.ok 3 _ rfl)) hth2)) ?_
    rintro ASb _ AiQ ⟨vt2802, vm2803, lr2804, lb2805, lk2806, rfl, ADf⟩ Ng; have Sz := BY.h_1 ADf rfl; clear ADf Nf BY ASa
    refine s1 Ng (a_0 rfl Ng.e) fun ASc Nh => ?_; clear Ng ASb
    refine s2 Nh (a_6 rfl m_7 (ev1 Nh.e) (d_5 l _ _ (SlAt.b_9 (Sz.c_0 7 rfl)) (by omega))) ?_
    rintro ASd Ag3 AiR ⟨ABs, hO2815⟩ Di; have BZ := Sz.f_7 ABs hO2815; clear ABs hO2815 Nh Sz ASc
    refine s2 Di (a_6 rfl m_1 (ev2 Di.e Di.e) (g_9 (putM b kk (b.macs.getD kk mac0).blocks.reverse) vt2802 vm2803 lr2804 lb2805 lk2806 _ (b_1 (BZ.ok 1 _ rfl)) (a_8 (BZ.ok 2 _ rfl)) hth2 l _ (SlAt.b_9 (BZ.c_0 0 rfl)) (by omega) E D)) ?_
    rintro ASe _ AiS ⟨rfl, ABt⟩ Ni; have ACw := BZ.step ABt; clear ABt Di BZ ASd
    refine s1 Ni (a_0 rfl Ni.e) fun ASf Nj => ?_; clear Ni ASe
    refine s1 Nj (b_2 rfl Nj.e rfl) fun ASg Nk => ?_; clear Nj ASf
    refine s1 Nk (b_2 rfl Nk.e rfl) fun ASh Nl => ?_; clear Nk ASg
    refine s1 Nl (a_1 rfl Nl.e) fun ASi Nm => ?_; clear Nl ASh
    refine s1 Nm (a_1 rfl Nm.e) fun ASj ZX => ?_; clear Nm ASi
    refine n2 ?_
    have Nn := ZX.as [(19, (iv (spE (putM b kk (b.macs.getD kk mac0).blocks.reverse) l))), (18, (Value.slice none 0 0)), (17, (iv (spE b l))), (16, (Value.slice none 0 0))] rfl; clear ZX
    refine a_5 (s1 Nn (a_0 rfl Nn.e) fun ASk No => ?_); clear Nn ASj
    refine s1 No (a_0 rfl No.e) fun ASl Dj => ?_; clear No ASk
    refine s1 Dj (e_9 rfl Dj.e Dj.e) fun ASm Dk => ?_; clear Dj ASl
    have AII : (spE b l) = (spE (putM b kk (b.macs.getD kk mac0).blocks.reverse) l) := (by rw [o_4 hr hs, o_4 E D])
    rw [decide_eq_true AII] at Dk
    refine s1 Dk (a_0 rfl Dk.e) fun ASn Np => ?_; clear Dk ASm
    refine s5 Np (a_0 rfl Np.e) fun ASo Nq => ?_; clear Np ASn
    refine s5 Nq (e_9 rfl Nq.e (evc _ _)) fun ASp Dl => ?_; clear Nq ASo
    have AEJ : ¬ ((spE b l) = 0) := (by rw [o_4 hr hs]; decide)
    rw [decide_eq_false AEJ] at Dl
    refine s5 Dl (a_0 rfl Dl.e) fun ASq Nr => ?_; clear Dl ASp
    refine s5 Nr (a_0 rfl Nr.e) fun ASr Ns => ?_; clear Nr ASq
    refine s5 Ns (e_9 rfl Ns.e (evc _ _)) fun ASs Ax => ?_; clear Ns ASr
    have AIJ : (spE b l) = 9 := (o_4 hr hs)
    rw [decide_eq_true AIJ] at Ax
    refine s5 Ax (c_3 rfl Ax.e Ax.e) fun ASt Dm => ?_; clear Ax ASs
    refine s1 Dm (a_7 rfl Dm.e Dm.e) fun ASu Nt => ?_; clear Dm ASt
    refine s1 Nt (a_0 rfl Nt.e) fun ASv Nu => ?_; clear Nt ASu
    refine s5 Nu (a_0 rfl Nu.e) fun ASw Nv => ?_; clear Nu ASv
    refine s5 Nv (l_5 rfl Nv.e (evc _ _)) fun ASx Dn => ?_; clear Nv ASw
    rw [decide_eq_false AEJ] at Dn
    refine s5 Dn (a_0 rfl Dn.e) fun ASy ZY => ?_; clear Dn ASx
    refine s3 ZY fun ASz ZZ => ?_; clear ZY ASy
    refine s3 ZZ fun AS0 Za => ?_; clear ZZ ASz
    refine s3 Za fun AS1 Zb => ?_; clear Za AS0
    refine s3 Zb fun AS2 Zc => ?_; clear Zb AS1
    refine s3 Zc fun AS3 Zd => ?_; clear Zc AS2
    refine s3 Zd fun AS4 Ze => ?_; clear Zd AS3
    refine s4 Ze fun AS5 Zf => ?_; clear Ze AS4
    refine s4 Zf fun AS6 Zg => ?_; clear Zf AS5
    refine s4 Zg fun AS7 Zh => ?_; clear Zg AS6
    refine s4 Zh fun AS8 Zi => ?_; clear Zh AS7
    refine s4 Zi fun AS9 Zj => ?_; clear Zi AS8
    refine s3 Zj fun ATA Nw => ?_; clear Zj AS9
    refine s5 Nw (a_7 rfl Nw.e (evc _ _)) fun ATB Do => ?_; clear Nw ATA
    refine s1 Do (a_7 rfl Do.e Do.e) fun ATC Nx => ?_; clear Do ATB
    refine s1 Nx (a_0 rfl Nx.e) fun ATD Zk => ?_; clear Nx ATC
    refine s6 Zk (a_6 rfl v_5 ev0 (j_2 _)) ?_
    rintro ATE _ AiT ⟨rfl, ABu⟩ Dp; have AHv := ACw.step ABu; clear ABu Zk ACw ATD
    refine s1 Dp (a_7 rfl Dp.e Dp.e) fun ATF Ny => ?_; clear Dp ATE
    refine s1 Ny (a_1 rfl Ny.e) fun Agf Zl => ?_; clear Ny ATF
    exact n1 (c_5 (b_0 Zl (.inl rfl) (a_2 Zl rfl (.tmp rfl)) (⟨rfl, AHv.ext⟩)))
   skip
   have D := F.trans hs; have htln := ab_1 hb hl hs
   refine a_5 (s1 AZ (b_8 rfl k_7 (AZ.ev rfl) (W.bk 4 rfl) (l := [(iv b.scales), vt, vm]) rfl rfl) fun ATG Nz => ?_); clear AZ AEz
   refine s2 Nz (a_6 rfl m_6 (ev1 Nz.e) (g_2 b vt vm lr lb lk _ (b_1 (W.ok 5 _ rfl)) (a_8 (W.ok 6 _ rfl)) hth)) ?_
   rintro ATH _ AiU ⟨vt2911, vm2912, lr2913, lb2914, lk2915, rfl, ADg⟩ N0; have S0 := W.h_1 ADg rfl; clear ADg Nz W ATG
   refine s1 N0 (a_0 rfl N0.e) fun ATI N1 => ?_; clear N0 ATH
   refine s2 N1 (a_6 rfl m_7 (ev1 N1.e) (d_5 l _ _ (S0.sk 9 rfl) (by omega))) ?_
   rintro ATJ AHE AiV ⟨ABv, hO2924⟩ Dq; have Ba := S0.f_7 ABv hO2924; clear ABv hO2924 N1 S0 ATI
   refine s2 Dq (a_6 rfl m_1 (ev2 Dq.e Dq.e) (j_1 b vt2911 vm2912 lr2913 lb2914 lk2915 _ (b_1 (Ba.ok 1 _ rfl)) (a_8 (Ba.ok 2 _ rfl)) hth l _ (SlAt.b_9 (Ba.c_0 0 rfl)) (by omega) t hr hs)) ?_
   rintro ATK _ Aaa ⟨Go, rfl, ADh⟩ N2
   have Bb : Sep NoB w Aaa [(row Go 30 2 t.length (pairs t)), (row AHE 98 2 l.length (pairs l)), (d_2 true vt2911 lr2913 lb2914 b.tabs), (d_4 true vm2912 lk2915 b.macs), (d_4 false J (putV kk lk v14_) ((putM b kk (b.macs.getD kk mac0).blocks.reverse).macs)), (sl v14_ 3 (((b.macs.getD kk mac0).blocks.reverse).length) (trips ((b.macs.getD kk mac0).blocks.reverse))), (row (A 3) 67 2 l.length (pairs l)), (blk b4_ 25 [(iv b.scales), vt, J]), (blk C 25 [(iv b.scales), vt, vm]), (d_2 false vt lr lb b.tabs), (d_4 false vm lk b.macs), (sl xl 2 l.length (pairs l))] := Ba.h_1 ADh rfl; clear ADh Dq Ba ATJ
   refine s1 N2 (a_0 rfl N2.e) fun ATL N3 => ?_; clear N2 ATK
   refine s1 N3 (b_2 rfl N3.e rfl) fun ATM N4 => ?_; clear N3 ATL
   refine s1 N4 (b_2 rfl N4.e rfl) fun ATN N5 => ?_; clear N4 ATM
   refine s1 N5 (a_1 rfl N5.e) fun ATO N6 => ?_; clear N5 ATN
   refine s1 N6 (a_1 rfl N6.e) fun ATP Zm => ?_; clear N6 ATO
   refine n2 ?_
   have N7 := Zm.as [(17, (iv 0)), (16, Go), (10, (A 3)), (9, (bptr b4_ 0))] rfl; clear Zm
   refine a_5 (s1 N7 (b_8 rfl k_7 (N7.ev rfl) (Bb.bk 7 rfl) (l := [(iv b.scales), vt, J]) rfl rfl) fun ATQ N8 => ?_); clear N7 ATP
   refine s2 N8 (a_6 rfl m_6 (ev1 N8.e) (g_2 (putM b kk (b.macs.getD kk mac0).blocks.reverse) vt J lr lb (putV kk lk v14_) _ (b_1 (Bb.ok 9 _ rfl)) (a_8 (Bb.ok 4 _ rfl)) hth2)) ?_
   rintro ATR _ AiW ⟨vt2949, vm2950, lr2951, lb2952, lk2953, rfl, ADi⟩ N9; have S1 := Bb.h_1 ADi rfl; clear ADi N8 Bb ATQ
   refine s1 N9 (a_0 rfl N9.e) fun ATS OA => ?_; clear N9 ATR
   refine s2 OA (a_6 rfl m_7 (ev1 OA.e) (d_5 l _ _ (SlAt.b_9 (S1.c_0 8 rfl)) (by omega))) ?_
   rintro ATT AaH AiX ⟨ABw, hO2962⟩ Dr; have Bc := S1.f_7 ABw hO2962; clear ABw hO2962 OA S1 ATS
   refine s2 Dr (a_6 rfl m_1 (ev2 Dr.e Dr.e) (j_1 (putM b kk (b.macs.getD kk mac0).blocks.reverse) vt2949 vm2950 lr2951 lb2952 lk2953 _ (b_1 (Bc.ok 1 _ rfl)) (a_8 (Bc.ok 2 _ rfl)) hth2 l _ (SlAt.b_9 (Bc.c_0 0 rfl)) (by omega) t E D)) ?_
   rintro ATU _ Aab ⟨AG3, rfl, ADj⟩ OB
   have FM : Sep NoB w Aab [(row AG3 30 2 t.length (pairs t)), (row AaH 98 2 l.length (pairs l)), (d_2 true vt2949 lr2951 lb2952 (putM b kk (b.macs.getD kk mac0).blocks.reverse).tabs), (d_4 true vm2950 lk2953 (putM b kk (b.macs.getD kk mac0).blocks.reverse).macs), (row Go 30 2 t.length (pairs t)), (row AHE 98 2 l.length (pairs l)), (d_2 true vt2911 lr2913 lb2914 b.tabs), (d_4 true vm2912 lk2915 b.macs), (d_4 false J (putV kk lk v14_) ((putM b kk (b.macs.getD kk mac0).blocks.reverse).macs)), (sl v14_ 3 (((b.macs.getD kk mac0).blocks.reverse).length) (trips ((b.macs.getD kk mac0).blocks.reverse))), (row (A 3) 67 2 l.length (pairs l)), (blk b4_ 25 [(iv b.scales), vt, J]), (blk C 25 [(iv b.scales), vt, vm]), (d_2 false vt lr lb b.tabs), (d_4 false vm lk b.macs), (sl xl 2 l.length (pairs l))] := Bc.h_1 ADj rfl; clear ADj Dr Bc ATT
   refine s1 OB (a_0 rfl OB.e) fun ATV OC => ?_; clear OB ATU
   refine s1 OC (b_2 rfl OC.e rfl) fun ATW OD => ?_; clear OC ATV
   refine s1 OD (b_2 rfl OD.e rfl) fun ATX OE => ?_; clear OD ATW
   refine s1 OE (a_1 rfl OE.e) fun ATY OF => ?_; clear OE ATX
   refine s1 OF (a_1 rfl OF.e) fun ATZ Zn => ?_; clear OF ATY
   refine n2 ?_
   have OG := Zn.as [(19, (iv 0)), (18, AG3), (17, (iv 0)), (16, Go)] rfl; clear Zn
   refine a_5 (s1 OG (a_0 rfl OG.e) fun ATa OH => ?_); clear OG ATZ
   refine s1 OH (a_0 rfl OH.e) fun ATb Ds => ?_; clear OH ATa
   refine s1 Ds (e_9 rfl Ds.e Ds.e) fun ATc OI => ?_; clear Ds ATb
   refine s1 OI (a_0 rfl OI.e) fun ATd OJ => ?_; clear OI ATc
   refine s5 OJ (a_0 rfl OJ.e) fun ATe OK => ?_; clear OJ ATd
   refine s5 OK (e_9 rfl OK.e (evc _ _)) fun ATf OL => ?_; clear OK ATe
   refine s5 OL (a_0 rfl OL.e) fun ATg Zo => ?_; clear OL ATf
   refine s3 Zo fun ATh Zp => ?_; clear Zo ATg
   refine s3 Zp fun ATi OM => ?_; clear Zp ATh
   refine s5 OM (a_7 rfl OM.e (evc _ _)) fun ATj Dt => ?_; clear OM ATi
   refine s1 Dt (a_7 rfl Dt.e Dt.e) fun ATk ON => ?_; clear Dt ATj
   refine s1 ON (a_0 rfl ON.e) fun ATl OO => ?_; clear ON ATk
   refine s5 OO (a_0 rfl OO.e) fun ATm OP => ?_; clear OO ATl
   refine s5 OP (l_5 rfl OP.e (evc _ _)) fun ATn OQ => ?_; clear OP ATm
   refine s5 OQ (a_0 rfl OQ.e) fun ATo OR => ?_; clear OQ ATn
   refine s5 OR (a_0 rfl OR.e) fun ATp OS => ?_; clear OR ATo
   refine s5 OS (a_0 rfl OS.e) fun ATq OT => ?_; clear OS ATp
   refine s5 OT (a_0 rfl OT.e) fun ATr OU => ?_; clear OT ATq
   refine s5 OU (a_0 rfl OU.e) fun ATs Aa => ?_; clear OU ATr
   refine s6 Aa (a_6 rfl w_2 (ev4 Aa.e Aa.e Aa.e Aa.e) (g_0 t _ 0 t _ 0 _ (SlAt.b_9 (FM.c_0 4 rfl)) (SlAt.b_9 (FM.c_0 0 rfl)) (by omega))) ?_
   rintro ATt _ AiY ⟨rfl, ABx⟩ Du; have FN := FM.step ABx; clear ABx Aa FM ATs
   have AEK : (narB t 0 t 0) = true := (q_7 hb hl hs)
   rw [AEK] at Du
   refine s5 Du (a_0 rfl Du.e) fun ATu OV => ?_; clear Du ATt
   refine s5 OV (a_0 rfl OV.e) fun ATv OW => ?_; clear OV ATu
   refine s5 OW (a_0 rfl OW.e) fun ATw OX => ?_; clear OW ATv
   refine s5 OX (a_0 rfl OX.e) fun ATx OY => ?_; clear OX ATw
   refine s5 OY (a_0 rfl OY.e) fun ATy Ab => ?_; clear OY ATx
   refine s6 Ab (a_6 rfl w_2 (ev4 Ab.e Ab.e Ab.e Ab.e) (g_0 t _ 0 t _ 0 _ (SlAt.b_9 (FN.c_0 0 rfl)) (SlAt.b_9 (FN.c_0 4 rfl)) (by omega))) ?_
   rintro ATz _ AiZ ⟨rfl, ABy⟩ Ay; have ACx := FN.step ABy; clear ABy Ab FN ATy
   rw [AEK] at Ay
   refine s5 Ay (a_7 rfl Ay.e Ay.e) fun AT0 Dv => ?_; clear Ay ATz
   refine s5 Dv (c_3 rfl Dv.e Dv.e) fun AT1 Dw => ?_; clear Dv AT0
   refine s1 Dw (a_7 rfl Dw.e Dw.e) fun AT2 OZ => ?_; clear Dw AT1
   refine s1 OZ (a_0 rfl OZ.e) fun AT3 Zq => ?_; clear OZ AT2
   refine s6 Zq (a_6 rfl v_5 ev0 (j_2 _)) ?_
   rintro AT4 _ Aia ⟨rfl, ABz⟩ Dx; have AHw := ACx.step ABz; clear ABz Zq ACx AT3
   refine s1 Dx (a_7 rfl Dx.e Dx.e) fun AT5 Oa => ?_; clear Dx AT4
   refine s1 Oa (a_1 rfl Oa.e) fun Agg Zr => ?_; clear Oa AT5
   exact n1 (c_5 (b_0 Zr (.inl rfl) (a_2 Zr rfl (.tmp rfl)) (⟨rfl, AHw.ext⟩)))
  skip
  rw [decide_eq_false AD6] at d
  refine c_2 d rfl (d_7 (h_0 (b_5 (c_1 ?_))))
  have Ac := d.as [(10, (A 3)), (9, (bptr b4_ 0)), (4, (bptr C 0)), (1, xl)] rfl; clear d
  have F : j_0 b l = j_0 b l := rfl
  rcases r_0 b l with hs | ⟨t, hs⟩
  ·skip
   have D := F.trans hs
   refine a_5 (s1 Ac (b_8 rfl k_7 (Ac.ev rfl) (B.bk 2 rfl) (l := [(iv b.scales), vt, vm]) rfl rfl) fun AT6 Ob => ?_); clear Ac TO
   refine s2 Ob (a_6 rfl m_6 (ev1 Ob.e) (g_2 b vt vm lr lb lk _ (b_1 (B.ok 3 _ rfl)) (a_8 (B.ok 4 _ rfl)) hth)) ?_
   rintro AT7 _ Aib ⟨vt3064, vm3065, lr3066, lb3067, lk3068, rfl, ADk⟩ Oc; have S2 := B.h_1 ADk rfl; clear ADk Ob B AT6
   refine s1 Oc (a_0 rfl Oc.e) fun AT8 Od => ?_; clear Oc AT7
   refine s2 Od (a_6 rfl m_7 (ev1 Od.e) (d_5 l _ _ (S2.sk 7 rfl) (by omega))) ?_
   rintro AT9 Ag4 Aic ⟨AB0, hO3077⟩ Dy; have Bd := S2.f_7 AB0 hO3077; clear AB0 hO3077 Od S2 AT8
   refine s2 Dy (a_6 rfl m_1 (ev2 Dy.e Dy.e) (g_9 b vt3064 vm3065 lr3066 lb3067 lk3068 _ (b_1 (Bd.ok 1 _ rfl)) (a_8 (Bd.ok 2 _ rfl)) hth l _ (SlAt.b_9 (Bd.c_0 0 rfl)) (by omega) hr hs)) ?_
   rintro AUA _ Aid ⟨rfl, AB1⟩ Oe; have Be := Bd.step AB1; clear AB1 Dy Bd AT9
   refine s1 Oe (a_0 rfl Oe.e) fun AUB Of => ?_; clear Oe AUA
   refine s1 Of (b_2 rfl Of.e rfl) fun AUC Og => ?_; clear Of AUB
   refine s1 Og (b_2 rfl Og.e rfl) fun AUD Oh => ?_; clear Og AUC
   refine s1 Oh (a_1 rfl Oh.e) fun AUE Oi => ?_; clear Oh AUD
   refine s1 Oi (a_1 rfl Oi.e) fun AUF Zs => ?_; clear Oi AUE
   refine n2 ?_
   have Oj := Zs.as [(17, (iv (spE b l))), (16, (Value.slice none 0 0)), (10, (A 3)), (9, (bptr b4_ 0))] rfl; clear Zs
   refine a_5 (s1 Oj (b_8 rfl k_7 (Oj.ev rfl) (Be.bk 4 rfl) (l := [(iv b.scales), vt, vm]) rfl rfl) fun AUG Ok => ?_); clear Oj AUF
   refine s2 Ok (a_6 rfl m_6 (ev1 Ok.e) (g_2 b vt vm lr lb lk _ (b_1 (Be.ok 6 _ rfl)) (a_8 (Be.ok 7 _ rfl)) hth)) ?_
   rintro AUH _ Aie ⟨vt3101, vm3102, lr3103, lb3104, lk3105, rfl, ADl⟩ Ol; have S3 := Be.h_1 ADl rfl; clear ADl Ok Be AUG
   refine s1 Ol (a_0 rfl Ol.e) fun AUI Om => ?_; clear Ol AUH
   refine s2 Om (a_6 rfl m_7 (ev1 Om.e) (d_5 l _ _ (SlAt.b_9 (S3.c_0 5 rfl)) (by omega))) ?_
   rintro AUJ Ag5 Aif ⟨AB2, hO3114⟩ Dz; have Bf := S3.f_7 AB2 hO3114; clear AB2 hO3114 Om S3 AUI
   refine s2 Dz (a_6 rfl m_1 (ev2 Dz.e Dz.e) (g_9 b vt3101 vm3102 lr3103 lb3104 lk3105 _ (b_1 (Bf.ok 1 _ rfl)) (a_8 (Bf.ok 2 _ rfl)) hth l _ (SlAt.b_9 (Bf.c_0 0 rfl)) (by omega) hr hs)) ?_
   rintro AUK _ Aig ⟨rfl, AB3⟩ On; have ACy := Bf.step AB3; clear AB3 Dz Bf AUJ
   refine s1 On (a_0 rfl On.e) fun AUL Oo => ?_; clear On AUK
   refine s1 Oo (b_2 rfl Oo.e rfl) fun AUM Op => ?_; clear Oo AUL
   refine s1 Op (b_2 rfl Op.e rfl) fun AUN Oq => ?_; clear Op AUM
   refine s1 Oq (a_1 rfl Oq.e) fun AUO Or => ?_; clear Oq AUN
   refine s1 Or (a_1 rfl Or.e) fun AUP Zt => ?_; clear Or AUO
   refine n2 ?_
   have Os := Zt.as [(19, (iv (spE b l))), (18, (Value.slice none 0 0)), (17, (iv (spE b l))), (16, (Value.slice none 0 0))] rfl; clear Zt
   refine a_5 (s1 Os (a_0 rfl Os.e) fun AUQ Ot => ?_); clear Os AUP
   refine s1 Ot (a_0 rfl Ot.e) fun AUR D0 => ?_; clear Ot AUQ
   refine s1 D0 (e_9 rfl D0.e D0.e) fun AUS D1 => ?_; clear D0 AUR
   have AIK : (spE b l) = (spE b l) := rfl
   rw [decide_eq_true AIK] at D1
   refine s1 D1 (a_0 rfl D1.e) fun AUT Ou => ?_; clear D1 AUS
   refine s5 Ou (a_0 rfl Ou.e) fun AUU Ov => ?_; clear Ou AUT
   refine s5 Ov (e_9 rfl Ov.e (evc _ _)) fun AUV D2 => ?_; clear Ov AUU
   have AEL : ¬ ((spE b l) = 0) := (by rw [o_4 hr hs]; decide)
   rw [decide_eq_false AEL] at D2
   refine s5 D2 (a_0 rfl D2.e) fun AUW Ow => ?_; clear D2 AUV
   refine s5 Ow (a_0 rfl Ow.e) fun AUX Ox => ?_; clear Ow AUW
   refine s5 Ox (e_9 rfl Ox.e (evc _ _)) fun AUY Az => ?_; clear Ox AUX
   have AIL : (spE b l) = 9 := (o_4 hr hs)
   rw [decide_eq_true AIL] at Az
   refine s5 Az (c_3 rfl Az.e Az.e) fun AUZ D3 => ?_; clear Az AUY
   refine s1 D3 (a_7 rfl D3.e D3.e) fun AUa Oy => ?_; clear D3 AUZ
   refine s1 Oy (a_0 rfl Oy.e) fun AUb Oz => ?_; clear Oy AUa
   refine s5 Oz (a_0 rfl Oz.e) fun AUc O0 => ?_; clear Oz AUb
   refine s5 O0 (l_5 rfl O0.e (evc _ _)) fun AUd D4 => ?_; clear O0 AUc
   rw [decide_eq_false AEL] at D4
   refine s5 D4 (a_0 rfl D4.e) fun AUe Zu => ?_; clear D4 AUd
   refine s3 Zu fun AUf Zv => ?_; clear Zu AUe
   refine s3 Zv fun AUg Zw => ?_; clear Zv AUf
   refine s3 Zw fun AUh Zx => ?_; clear Zw AUg
   refine s3 Zx fun AUi Zy => ?_; clear Zx AUh
   refine s3 Zy fun AUj Zz => ?_; clear Zy AUi
   refine s3 Zz fun AUk Z0 => ?_; clear Zz AUj
   refine s4 Z0 fun AUl Z1 => ?_; clear Z0 AUk
   refine s4 Z1 fun AUm Z2 => ?_; clear Z1 AUl
   refine s4 Z2 fun AUn Z3 => ?_; clear Z2 AUm
   refine s4 Z3 fun AUo Z4 => ?_; clear Z3 AUn
   refine s4 Z4 fun AUp Z5 => ?_; clear Z4 AUo
   refine s3 Z5 fun AUq O1 => ?_; clear Z5 AUp
   refine s5 O1 (a_7 rfl O1.e (evc _ _)) fun AUr D5 => ?_; clear O1 AUq
   refine s1 D5 (a_7 rfl D5.e D5.e) fun AUs O2 => ?_; clear D5 AUr
   refine s1 O2 (a_0 rfl O2.e) fun AUt Z6 => ?_; clear O2 AUs
   refine s6 Z6 (a_6 rfl v_5 ev0 (j_2 _)) ?_
   rintro AUu _ Aih ⟨rfl, AB4⟩ D6; have AHx := ACy.step AB4; clear AB4 Z6 ACy AUt
   refine s1 D6 (a_7 rfl D6.e D6.e) fun AUv O3 => ?_; clear D6 AUu
   refine s1 O3 (a_1 rfl O3.e) fun Agh Z7 => ?_; clear O3 AUv
   exact n1 (c_5 (b_0 Z7 (.inl rfl) (a_2 Z7 rfl (.tmp rfl)) (⟨rfl, AHx.ext⟩)))
  skip
  have D := F.trans hs; have htln := ab_1 hb hl hs
  refine a_5 (s1 Ac (b_8 rfl k_7 (Ac.ev rfl) (B.bk 2 rfl) (l := [(iv b.scales), vt, vm]) rfl rfl) fun AUw O4 => ?_); clear Ac TO
  refine s2 O4 (a_6 rfl m_6 (ev1 O4.e) (g_2 b vt vm lr lb lk _ (b_1 (B.ok 3 _ rfl)) (a_8 (B.ok 4 _ rfl)) hth)) ?_
  rintro AUx _ Aii ⟨vt3210, vm3211, lr3212, lb3213, lk3214, rfl, ADm⟩ O5; have S4 := B.h_1 ADm rfl; clear ADm O4 B AUw
  refine s1 O5 (a_0 rfl O5.e) fun AUy O6 => ?_; clear O5 AUx
  refine s2 O6 (a_6 rfl m_7 (ev1 O6.e) (d_5 l _ _ (S4.sk 7 rfl) (by omega))) ?_
  rintro AUz AHF Aij ⟨AB5, hO3223⟩ D7; have Bg := S4.f_7 AB5 hO3223; clear AB5 hO3223 O6 S4 AUy
  refine s2 D7 (a_6 rfl m_1 (ev2 D7.e D7.e) (j_1 b vt3210 vm3211 lr3212 lb3213 lk3214 _ (b_1 (Bg.ok 1 _ rfl)) (a_8 (Bg.ok 2 _ rfl)) hth l _ (SlAt.b_9 (Bg.c_0 0 rfl)) (by omega) t hr hs)) ?_
  rintro AU0 _ Aac ⟨Gp, rfl, ADn⟩ O7
  have Bh : Sep NoB w Aac [(row Gp 30 2 t.length (pairs t)), (row AHF 98 2 l.length (pairs l)), (d_2 true vt3210 lr3212 lb3213 b.tabs), (d_4 true vm3211 lk3214 b.macs), (row (A 3) 67 2 l.length (pairs l)), (blk b4_ 25 [(iv b.scales), vt, vm]), (blk C 25 [(iv b.scales), vt, vm]), (d_2 false vt lr lb b.tabs), (d_4 false vm lk b.macs), (sl xl 2 l.length (pairs l))] := Bg.h_1 ADn rfl; clear ADn D7 Bg AUz
  refine s1 O7 (a_0 rfl O7.e) fun AU1 O8 => ?_; clear O7 AU0
  refine s1 O8 (b_2 rfl O8.e rfl) fun AU2 O9 => ?_; clear O8 AU1
  refine s1 O9 (b_2 rfl O9.e rfl) fun AU3 PA => ?_; clear O9 AU2
  refine s1 PA (a_1 rfl PA.e) fun AU4 PB => ?_; clear PA AU3
  refine s1 PB (a_1 rfl PB.e) fun AU5 Z8 => ?_; clear PB AU4
  refine n2 ?_
  have PC := Z8.as [(17, (iv 0)), (16, Gp), (10, (A 3)), (9, (bptr b4_ 0))] rfl; clear Z8
  refine a_5 (s1 PC (b_8 rfl k_7 (PC.ev rfl) (Bh.bk 5 rfl) (l := [(iv b.scales), vt, vm]) rfl rfl) fun AU6 PD => ?_); clear PC AU5
  refine s2 PD (a_6 rfl m_6 (ev1 PD.e) (g_2 b vt vm lr lb lk _ (b_1 (Bh.ok 7 _ rfl)) (a_8 (Bh.ok 8 _ rfl)) hth)) ?_
  rintro AU7 _ Aik ⟨vt3248, vm3249, lr3250, lb3251, lk3252, rfl, ADo⟩ PE; have S5 := Bh.h_1 ADo rfl; clear ADo PD Bh AU6
  refine s1 PE (a_0 rfl PE.e) fun AU8 PF => ?_; clear PE AU7
  refine s2 PF (a_6 rfl m_7 (ev1 PF.e) (d_5 l _ _ (SlAt.b_9 (S5.c_0 6 rfl)) (by omega))) ?_
  rintro AU9 AaI Ail ⟨AB6, hO3261⟩ D8; have Bi := S5.f_7 AB6 hO3261; clear AB6 hO3261 PF S5 AU8
  refine s2 D8 (a_6 rfl m_1 (ev2 D8.e D8.e) (j_1 b vt3248 vm3249 lr3250 lb3251 lk3252 _ (b_1 (Bi.ok 1 _ rfl)) (a_8 (Bi.ok 2 _ rfl)) hth l _ (SlAt.b_9 (Bi.c_0 0 rfl)) (by omega) t hr hs)) ?_
  rintro AVA _ Aad ⟨AG4, rfl, ADp⟩ PG
  have FO : Sep NoB w Aad [(row AG4 30 2 t.length (pairs t)), (row AaI 98 2 l.length (pairs l)), (d_2 true vt3248 lr3250 lb3251 b.tabs), (d_4 true vm3249 lk3252 b.macs), (row Gp 30 2 t.length (pairs t)), (row AHF 98 2 l.length (pairs l)), (d_2 true vt3210 lr3212 lb3213 b.tabs), (d_4 true vm3211 lk3214 b.macs), (row (A 3) 67 2 l.length (pairs l)), (blk b4_ 25 [(iv b.scales), vt, vm]), (blk C 25 [(iv b.scales), vt, vm]), (d_2 false vt lr lb b.tabs), (d_4 false vm lk b.macs), (sl xl 2 l.length (pairs l))] := Bi.h_1 ADp rfl; clear ADp D8 Bi AU9
  refine s1 PG (a_0 rfl PG.e) fun AVB PH => ?_; clear PG AVA
  refine s1 PH (b_2 rfl PH.e rfl) fun AVC PI => ?_; clear PH AVB
  refine s1 PI (b_2 rfl PI.e rfl) fun AVD PJ => ?_; clear PI AVC
  refine s1 PJ (a_1 rfl PJ.e) fun AVE PK => ?_; clear PJ AVD
  refine s1 PK (a_1 rfl PK.e) fun AVF Z9 => ?_; clear PK AVE
  refine n2 ?_
  have PL := Z9.as [(19, (iv 0)), (18, AG4), (17, (iv 0)), (16, Gp)] rfl; clear Z9
  refine a_5 (s1 PL (a_0 rfl PL.e) fun AVG PM => ?_); clear PL AVF
  refine s1 PM (a_0 rfl PM.e) fun AVH D9 => ?_; clear PM AVG
  refine s1 D9 (e_9 rfl D9.e D9.e) fun AVI PN => ?_; clear D9 AVH
  refine s1 PN (a_0 rfl PN.e) fun AVJ PO => ?_; clear PN AVI
  refine s5 PO (a_0 rfl PO.e) fun AVK PP => ?_; clear PO AVJ
  refine s5 PP (e_9 rfl PP.e (evc _ _)) fun AVL PQ => ?_; clear PP AVK
  refine s5 PQ (a_0 rfl PQ.e) fun AVM AAA => ?_; clear PQ AVL
  refine s3 AAA fun AVN AAB => ?_; clear AAA AVM
  refine s3 AAB fun AVO PR => ?_; clear AAB AVN
  refine s5 PR (a_7 rfl PR.e (evc _ _)) fun AVP EA => ?_; clear PR AVO
  refine s1 EA (a_7 rfl EA.e EA.e) fun AVQ PS => ?_; clear EA AVP
  refine s1 PS (a_0 rfl PS.e) fun AVR PT => ?_; clear PS AVQ
  refine s5 PT (a_0 rfl PT.e) fun AVS PU => ?_; clear PT AVR
  refine s5 PU (l_5 rfl PU.e (evc _ _)) fun AVT PV => ?_; clear PU AVS
  refine s5 PV (a_0 rfl PV.e) fun AVU PW => ?_; clear PV AVT
  refine s5 PW (a_0 rfl PW.e) fun AVV PX => ?_; clear PW AVU
  refine s5 PX (a_0 rfl PX.e) fun AVW PY => ?_; clear PX AVV
  refine s5 PY (a_0 rfl PY.e) fun AVX PZ => ?_; clear PY AVW
  refine s5 PZ (a_0 rfl PZ.e) fun AVY Ad => ?_; clear PZ AVX
  refine s6 Ad (a_6 rfl w_2 (ev4 Ad.e Ad.e Ad.e Ad.e) (g_0 t _ 0 t _ 0 _ (SlAt.b_9 (FO.c_0 4 rfl)) (SlAt.b_9 (FO.c_0 0 rfl)) (by omega))) ?_
  rintro AVZ _ Aim ⟨rfl, AB7⟩ EB; have FP := FO.step AB7; clear AB7 Ad FO AVY
  have AEM : (narB t 0 t 0) = true := (q_7 hb hl hs)
  rw [AEM] at EB
  refine s5 EB (a_0 rfl EB.e) fun AVa Pa => ?_; clear EB AVZ
  refine s5 Pa (a_0 rfl Pa.e) fun AVb Pb => ?_; clear Pa AVa
  refine s5 Pb (a_0 rfl Pb.e) fun AVc Pc => ?_; clear Pb AVb
  refine s5 Pc (a_0 rfl Pc.e) fun AVd Pd => ?_; clear Pc AVc
  refine s5 Pd (a_0 rfl Pd.e) fun AVe Ae => ?_; clear Pd AVd
  refine s6 Ae (a_6 rfl w_2 (ev4 Ae.e Ae.e Ae.e Ae.e) (g_0 t _ 0 t _ 0 _ (SlAt.b_9 (FP.c_0 0 rfl)) (SlAt.b_9 (FP.c_0 4 rfl)) (by omega))) ?_
  rintro AVf _ Ain ⟨rfl, AB8⟩ A0; have ACz := FP.step AB8; clear AB8 Ae FP AVe
  rw [AEM] at A0
  refine s5 A0 (a_7 rfl A0.e A0.e) fun AVg EC => ?_; clear A0 AVf
  refine s5 EC (c_3 rfl EC.e EC.e) fun AVh ED => ?_; clear EC AVg
  refine s1 ED (a_7 rfl ED.e ED.e) fun AVi Pe => ?_; clear ED AVh
  refine s1 Pe (a_0 rfl Pe.e) fun AVj AAC => ?_; clear Pe AVi
  refine s6 AAC (a_6 rfl v_5 ev0 (j_2 _)) ?_
  rintro AVk _ Aio ⟨rfl, AB9⟩ EE; have AHy := ACz.step AB9; clear AB9 AAC ACz AVj
  refine s1 EE (a_7 rfl EE.e EE.e) fun AVl Pf => ?_; clear EE AVk
  refine s1 Pf (a_1 rfl Pf.e) fun Agi AAD => ?_; clear Pf AVl
  exact n1 (c_5 (b_0 AAD (.inl rfl) (a_2 AAD rfl (.tmp rfl)) (⟨rfl, AHy.ext⟩)))
 skip
 rw [decide_eq_false AD4] at AG
 refine s3 AG fun AVm AAE => ?_; clear AG AEu
 refine s3 AAE fun AVn AAF => ?_; clear AAE AVm
 refine s3 AAF fun AVo AAG => ?_; clear AAF AVn
 refine s3 AAG fun AVp Pg => ?_; clear AAG AVo
 refine s1 Pg (c_3 rfl Pg.e (evc _ _)) fun AVq Ph => ?_; clear Pg AVp
 refine s1 Ph (a_1 rfl Ph.e) fun AVr Pi => ?_; clear Ph AVq
 refine n1 (c_2 Pi rfl (c_1 ?_))
 have Pj := Pi.as [(10, (A 3)), (9, (bptr b4_ 0)), (4, (bptr C 0)), (1, xl), (3, (Value.int .u8 wb))] rfl; clear Pi
 refine a_5 (s1 Pj (a_3 rfl g_6 Pj.e) fun AVs Pl => ?_); clear Pj AVr
 refine s1 Pl (a_4 rfl n_6 Pl.e (B.bk 2 rfl) rfl) fun AVt Pm => ?_; clear Pl AVs
 refine s1 Pm (d_3 rfl n_7 Pm.e (a_8 (B.ok 4 _ rfl)).macs) fun AVu Pn => ?_; clear Pm AVt
 refine s1 Pn (k_0 rfl Pn.e (evc _ _)) fun AVv Po => ?_; clear Pn AVu
 refine s1 Po (a_1 rfl Po.e) fun TP f => ?_; clear Po AVv
 refine n1 ?_
 by_cases AD8 : 0 < (b.macs.length : Int)
 ·skip
  rw [decide_eq_true AD8] at f
  refine c_7 f rfl (m2 (s1 f (a_0 rfl f.e) fun AVw Pp => ?_)); clear f TP
  refine s1 Pp (op_conv un_5 un_3 rfl Pp.e (v := wb) (wrap_i64 (by omega) (by omega))) fun AVx Pq => ?_; clear Pp AVw
  refine s1 Pq (a_3 rfl g_6 Pq.e) fun AVy Pr => ?_; clear Pq AVx
  refine s1 Pr (a_4 rfl n_6 Pr.e (B.bk 2 rfl) rfl) fun AVz Ps => ?_; clear Pr AVy
  refine s1 Ps (d_3 rfl n_7 Ps.e (a_8 (B.ok 4 _ rfl)).macs) fun AV0 EF => ?_; clear Ps AVz
  refine s1 EF (ab_0 rfl EF.e EF.e (by omega)) fun AV1 Pt => ?_; clear EF AV0
  refine s1 Pt (a_1 rfl Pt.e) fun AV2 AAH => ?_; clear Pt AV1
  refine n2 ?_
  have Pu := AAH.as [(13, (iv ((wb).tmod (b.macs.length : Int)))), (10, (A 3)), (9, (bptr b4_ 0)), (4, (bptr C 0)), (1, xl)] rfl; clear AAH
  obtain ⟨kk, hz_kk, hb_kk⟩ := rem_nat (n := wb) (m := b.macs.length) hB_.1 (by omega); rw [hz_kk] at Pu
  have hmk := hth.mac kk; have hb5 := hb.blks _ (mac_mem hb_kk)
  refine a_5 (s2 Pu (f_1 B rfl pv0 n_7 r_2 ze_61 (by decide) (cs := []) bs_61_0_) ?_)
  rintro AV3 _ Aip ⟨Ags, rfl, S6⟩ Pv; clear Pu B AV2
  refine s1 Pv (a_3 rfl g_6 Pv.e) fun AV4 Pw => ?_; clear Pv AV3
  refine s1 Pw (a_4 rfl n_6 Pw.e (S6.bk 3 rfl) rfl) fun AV5 EG => ?_; clear Pw AV4
  have FQ := S6.o_9 (i := 0) (sz := 2) (n := 0) rfl rfl (by decide); clear S6
  refine s2 EG (h_6 FQ rfl n_7 el_61 EG.e EG.e (i := 0) rfl (a_8 (FQ.ok 5 _ rfl)).macs (macs_one (a_8 (FQ.ok 5 _ rfl))) (by simp only [maxLen, List.length_drop, List.length_take]; omega) (by first | omega | (simp only [List.length_drop, List.length_take]; omega))) ?_
  intro AV6 K Aiq AC0 Px
  have FSa := AC0.f_2 (i := 0) rfl (n' := b.macs.length) (xs' := (k_6 lk b.macs)) (by simp only [Nat.zero_add]) (List.nil_append _); clear AC0 EG FQ AV5
  refine s1 Px (a_3 rfl g_6 Px.e) fun AV7 EH => ?_; clear Px AV6
  refine s7 EH (c_4 FSa rfl n_6 EH.e EH.e (i := 2) rfl (vs := [K]) (k_9 (SlAt.isSl (SlAt.b_9 (FSa.c_0 0 rfl)))) rfl (i_1 (SlAt.one (SlAt.b_9 (FSa.c_0 0 rfl))) q_6) (Nat.le_of_ble_eq_true rfl)) ?_
  intro _ Aae AC1 AAI; clear EH
  have AC2 : Sep NoB w Aae [(row K 61 2 b.macs.length (k_6 lk b.macs)), (row (A 3) 67 2 l.length (pairs l)), (blk b4_ 25 [(iv b.scales), vt, K]), (blk C 25 [(iv b.scales), vt, vm]), (d_2 false vt lr lb b.tabs), (d_4 false vm lk b.macs), (sl xl 2 l.length (pairs l))] := AC1; clear AC1 FSa
  refine n4 (s1 AAI (a_1 rfl (evc _ _)) fun AV8 Py => ?_); clear AAI AV7
  have AD := AC2.t_8 63 3; clear AC2
  refine n2 (m2 (s1 Py (a_3 rfl g_6 Py.e) fun AV9 Pz => ?_)); clear Py AV8
  refine s1 Pz (a_4 rfl n_6 Pz.e (AD.bk 4 rfl) rfl) fun AWA P0 => ?_; clear Pz AV9
  refine s1 P0 (a_0 rfl P0.e) fun AWB EI => ?_; clear P0 AWA
  refine s1 EI (b_6 rfl n_7 r_2 EI.e (i := kk) EI.e (a_8 (AD.ok 6 _ rfl)).macs (by decide) (by omega)) fun AWC P1 => ?_; clear EI AWB
  refine s1 P1 (d_0 rfl m_2 P1.e (a_8 (AD.ok 6 _ rfl)).macs (by rw [((a_8 (AD.ok 6 _ rfl)).macs).1]; omega)) fun AWD P2 => ?_; clear P1 AWC
  refine s1 P2 (c_6 rfl w_4 P2.e (a_8 (AD.ok 6 _ rfl)).macs (s_5 (by omega))) fun AWE P3 => ?_; clear P2 AWD
  refine s1 P3 (d_3 rfl t_4 P3.e ((a_8 (AD.ok 6 _ rfl)).blk (i := kk) (by omega))) fun AWF P4 => ?_; clear P3 AWE
  refine s1 P4 (i_3 rfl P4.e (evc _ _) (by omega) (by omega)) fun AWG P5 => ?_; clear P4 AWF
  refine s1 P5 (a_1 rfl P5.e) fun AWH AAJ => ?_; clear P5 AWG
  refine n1 (d_1 ?_)
  have AAK := AAJ.as [(15, (iv (((b.macs.getD kk mac0).blocks.length : Int) - 1))), (14, (Value.slice none 0 0)), (13, (iv (kk : Int))), (10, (A 3)), (9, (bptr b4_ 0)), (4, (bptr C 0)), (1, xl)] rfl; clear AAJ
  refine h_9 (G := Nat) (fun (s : Nat) a_ w_ => ∃ v14_ : Value, Fr 174 [] [(15, (iv (((b.macs.getD kk mac0).blocks.length : Int) - ((s + 1 : Nat) : Int)))), (14, v14_), (13, (iv (kk : Int))), (10, (A 3)), (9, (bptr b4_ 0)), (4, (bptr C 0)), (1, xl)] a_ ∧ Sep NoB w w_ [(row v14_ 63 3 (((b.macs.getD kk mac0).blocks.reverse.take s).length) (trips ((b.macs.getD kk mac0).blocks.reverse.take s))), (row K 61 2 b.macs.length (k_6 lk b.macs)), (row (A 3) 67 2 l.length (pairs l)), (blk b4_ 25 [(iv b.scales), vt, K]), (blk C 25 [(iv b.scales), vt, vm]), (d_2 false vt lr lb b.tabs), (d_4 false vm lk b.macs), (sl xl 2 l.length (pairs l))] ∧ (s ≤ (b.macs.getD kk mac0).blocks.length)) (fun s => (b.macs.getD kk mac0).blocks.length - s) 0 ⟨(Value.slice none 0 0), AAK.as _ (by rfl), (AD.f_2 (i := 0) rfl (by rfl) (by rfl)), by omega⟩ ?_
  clear AAK AD AWH
  rintro s AWI Air ⟨v14_, P6, S, hks⟩
  have hrt : ((b.macs.getD kk mac0).blocks.reverse.take s).length ≤ 8 := (by rw [List.length_take, List.length_reverse]; omega)
  refine c_1 (m2 (s1 P6 (a_0 rfl P6.e) fun AWJ P7 => ?_)); clear P6 AWI
  refine s1 P7 (v_6 rfl P7.e (evc _ _)) fun AE0 O => ?_; clear P7 AWJ
  refine n1 ?_
  by_cases AD9 : 0 ≤ (((b.macs.getD kk mac0).blocks.length : Int) - ((s + 1 : Nat) : Int))
  ·skip
   rw [decide_eq_true AD9] at O
   refine c_7 O rfl (d_7 (b_5 (c_1 (d_1 ?_))))
   rw [show (((b.macs.getD kk mac0).blocks.length : Int) - ((s + 1 : Nat) : Int)) = (((b.macs.getD kk mac0).blocks.length - 1 - s : Nat) : Int) from by omega] at O
   refine a_5 (s1 O (a_0 rfl O.e) fun AWK P8 => ?_); clear O AE0
   refine s1 P8 (a_3 rfl g_6 P8.e) fun AWL P9 => ?_; clear P8 AWK
   refine s1 P9 (a_4 rfl n_6 P9.e (S.bk 4 rfl) rfl) fun AWM QA => ?_; clear P9 AWL
   refine s1 QA (a_0 rfl QA.e) fun AWN EJ => ?_; clear QA AWM
   refine s1 EJ (b_6 rfl n_7 r_2 EJ.e (i := kk) EJ.e (a_8 (S.ok 6 _ rfl)).macs (by decide) (by omega)) fun AWO QB => ?_; clear EJ AWN
   refine s1 QB (d_0 rfl m_2 QB.e (a_8 (S.ok 6 _ rfl)).macs (by rw [((a_8 (S.ok 6 _ rfl)).macs).1]; omega)) fun AWP QC => ?_; clear QB AWO
   refine s1 QC (c_6 rfl w_4 QC.e (a_8 (S.ok 6 _ rfl)).macs (s_5 (by omega))) fun AWQ QD => ?_; clear QC AWP
   refine s1 QD (a_0 rfl QD.e) fun AWR EK => ?_; clear QD AWQ
   refine s1 EK (b_6 rfl t_4 z_7 EK.e (i := ((b.macs.getD kk mac0).blocks.length - 1 - s : Nat)) EK.e ((a_8 (S.ok 6 _ rfl)).blk (i := kk) (by omega)) (by decide) (by omega)) fun AWS QE => ?_; clear EK AWR
   refine s1 QE (f_0 rfl z_7 QE.e ((a_8 (S.ok 6 _ rfl)).blk (i := kk) (by omega)) (p_8 (by omega)) rfl (by decide)) fun AWT QF => ?_; clear QE AWS
   refine s2 QF (f_1 S rfl (pv1 QF.e) t_4 z_7 ze_63 (by decide) (cs := [(iv ((((b.macs.getD kk mac0).blocks).getD ((b.macs.getD kk mac0).blocks.length - 1 - s : Nat) (0, 0, 0)).1)), (iv ((((b.macs.getD kk mac0).blocks).getD ((b.macs.getD kk mac0).blocks.length - 1 - s : Nat) (0, 0, 0)).2.1)), (iv ((((b.macs.getD kk mac0).blocks).getD ((b.macs.getD kk mac0).blocks.length - 1 - s : Nat) (0, 0, 0)).2.2))]) (u_3 _ _ _)) ?_
   rintro AWU _ Ais ⟨Agt, rfl, S7⟩ EL; clear QF S AWT
   refine s2 EL (h_6 S7 rfl t_4 el_63 EL.e EL.e (i := 1) rfl (SlAt.of_blk (S7.bk 0 rfl) rfl (Nat.le_of_ble_eq_true rfl)) rfl (by simp only [maxLen, List.length_drop, List.length_take]; omega) (by first | omega | (simp only [List.length_drop, List.length_take]; omega))) ?_
   intro AWV AHG Ait AC3 QG
   have AC4 := AC3.f_2 (i := 1) rfl (n' := (((b.macs.getD kk mac0).blocks.reverse.take s) ++ [((((b.macs.getD kk mac0).blocks).getD ((b.macs.getD kk mac0).blocks.length - 1 - s : Nat) (0, 0, 0)).1, (((b.macs.getD kk mac0).blocks).getD ((b.macs.getD kk mac0).blocks.length - 1 - s : Nat) (0, 0, 0)).2.1, (((b.macs.getD kk mac0).blocks).getD ((b.macs.getD kk mac0).blocks.length - 1 - s : Nat) (0, 0, 0)).2.2)]).length) (xs' := (trips (((b.macs.getD kk mac0).blocks.reverse.take s) ++ [((((b.macs.getD kk mac0).blocks).getD ((b.macs.getD kk mac0).blocks.length - 1 - s : Nat) (0, 0, 0)).1, (((b.macs.getD kk mac0).blocks).getD ((b.macs.getD kk mac0).blocks.length - 1 - s : Nat) (0, 0, 0)).2.1, (((b.macs.getD kk mac0).blocks).getD ((b.macs.getD kk mac0).blocks.length - 1 - s : Nat) (0, 0, 0)).2.2)]))) (by simp) (by simp [trips]); clear AC3 EL S7 AWU
   refine s1 QG (a_1 rfl QG.e) fun AWW AAL => ?_; clear QG AWV
   refine e_6 (h_0 (b_5 ?_))
   have QH := AAL.as [(14, AHG), (15, (iv (((b.macs.getD kk mac0).blocks.length - 1 - s : Nat) : Int))), (13, (iv (kk : Int))), (10, (A 3)), (9, (bptr b4_ 0)), (4, (bptr C 0)), (1, xl)] rfl; clear AAL
   refine a_5 (s1 QH (a_0 rfl QH.e) fun AWX QI => ?_); clear QH AWW
   refine s1 QI (i_3 rfl QI.e (evc _ _) (by omega) (by omega)) fun AWY QJ => ?_; clear QI AWX
   refine s1 QJ (a_1 rfl QJ.e) fun Agj AAM => ?_; clear QJ AWY
   refine e_6 ?_
   rw [show (((b.macs.getD kk mac0).blocks.length - 1 - s : Nat) : Int) - 1 = (((b.macs.getD kk mac0).blocks.length : Int) - ((s + 1 + 1 : Nat) : Int)) from by omega] at AAM
   have AH0 := AC4.gkp (gpc 1 (gpc 2 (gpc 3 (gpc 4 (gpc 5 (gpc 6 (gpc 7 (gpc 8 gpn)))))))); clear AC4
   exact b_5 ⟨s + 1, ⟨AHG, AAM.as _ rfl, (AH0.f_2 (i := 0) rfl (n' := ((b.macs.getD kk mac0).blocks.reverse.take (s + 1)).length) (xs' := trips ((b.macs.getD kk mac0).blocks.reverse.take (s + 1))) (by rw [w_7 (by omega)]) (by rw [w_7 (by omega)])), by omega⟩, by omega⟩
  skip
  rw [decide_eq_false AD9] at O
  refine c_2 O rfl (h_8 (b_7 (b_7 (f_9 (b_5 ?_)))))
  have AE := S.f_2 (i := 0) rfl (n' := ((b.macs.getD kk mac0).blocks.reverse).length) (xs' := trips ((b.macs.getD kk mac0).blocks.reverse)) (by rw [List.take_of_length_le (by rw [List.length_reverse]; omega)]) (by rw [List.take_of_length_le (by rw [List.length_reverse]; omega)]); clear S
  refine a_5 (s1 O (a_3 rfl g_6 O.e) fun AWZ QK => ?_); clear O AE0
  refine s1 QK (a_4 rfl n_6 QK.e (AE.bk 3 rfl) rfl) fun AWa QL => ?_; clear QK AWZ
  refine s1 QL (a_0 rfl QL.e) fun AWb QM => ?_; clear QL AWa
  refine s1 QM (a_0 rfl QM.e) fun AWc EM => ?_; clear QM AWb
  refine s1 EM (b_6 rfl n_7 r_2 EM.e (i := kk) EM.e (SlAt.b_9 (AE.c_0 1 rfl)) (by decide) (by omega)) fun AWd QN => ?_; clear EM AWc
  refine s1 QN (d_0 rfl m_2 QN.e (SlAt.b_9 (AE.c_0 1 rfl)) (by rw [((SlAt.b_9 (AE.c_0 1 rfl))).1]; omega)) fun AE1 EN => ?_; clear QN AWd
  refine s7 EN (op_storeE AE rfl w_4 EN.e EN.e (i := 1) rfl (vs := [v14_]) (k_9 (SlAt.isSl (SlAt.b_9 (AE.c_0 0 rfl)))) rfl (i_1 (SlAt.one (SlAt.b_9 (AE.c_0 0 rfl))) q_6) (by rw [macs_len]; omega) (by decide)) ?_
  intro _ Aaf AC5 AAN; have AC6 := AC5.f_2 (i := 1) rfl (n' := (b.macs.set kk ⟨(b.macs.getD kk mac0).scale, (b.macs.getD kk mac0).blocks.reverse⟩).length) (xs' := (k_6 (putV kk lk v14_) (b.macs.set kk ⟨(b.macs.getD kk mac0).scale, (b.macs.getD kk mac0).blocks.reverse⟩))) (by rw [List.length_set]) (macs_setB (by omega)); clear AC5 EN AE
  refine e_6 (h_0 (b_5 (c_1 ?_)))
  have Af := AAN.as [(10, (A 3)), (9, (bptr b4_ 0)), (4, (bptr C 0)), (1, xl)] rfl; clear AAN
  have AC7 := v_2 AC6 (i := 0) rfl; clear AC6
  have S8 := AC7.gkp (gpc 1 (gpc 0 (gpc 2 (gpc 3 (gpc 4 (gpc 5 (gpc 6 (gpc 7 gpn)))))))); clear AC7
  have AHh := setB_ro (m := ⟨(b.macs.getD kk mac0).scale, (b.macs.getD kk mac0).blocks.reverse⟩) S8.tail (i := 5) (j := 0) rfl rfl hb_kk
  have X : Sep NoB w Aaf [(d_4 false K (putV kk lk v14_) ((putM b kk (b.macs.getD kk mac0).blocks.reverse).macs)), (sl v14_ 3 (((b.macs.getD kk mac0).blocks.reverse).length) (trips ((b.macs.getD kk mac0).blocks.reverse))), (row (A 3) 67 2 l.length (pairs l)), (blk b4_ 25 [(iv b.scales), vt, K]), (blk C 25 [(iv b.scales), vt, vm]), (d_2 false vt lr lb b.tabs), (d_4 false vm lk b.macs), (sl xl 2 l.length (pairs l))] := sep_macs_ro S8 AHh; clear S8
  have Z := order_rev hr (k := kk) hb_kk; have E := Z.1; have F := Z.2; have Al := l_2 E; have TM := m_5 Al; have hth2 := putM_thin (bl := (b.macs.getD kk mac0).blocks.reverse) hth (by rw [List.length_reverse]; omega) hb_kk
  rcases r_0 b l with hs | ⟨t, hs⟩
  ·skip
   have D := F.trans hs
   refine a_5 (s1 Af (b_8 rfl k_7 (Af.ev rfl) (X.bk 4 rfl) (l := [(iv b.scales), vt, vm]) rfl rfl) fun AWe QO => ?_); clear Af AE1
   refine s2 QO (a_6 rfl m_6 (ev1 QO.e) (g_2 b vt vm lr lb lk _ (b_1 (X.ok 5 _ rfl)) (a_8 (X.ok 6 _ rfl)) hth)) ?_
   rintro AWf _ Aiu ⟨vt3517, vm3518, lr3519, lb3520, lk3521, rfl, ADq⟩ QP; have S9 := X.h_1 ADq rfl; clear ADq QO X AWe
   refine s1 QP (a_0 rfl QP.e) fun AWg QQ => ?_; clear QP AWf
   refine s2 QQ (a_6 rfl m_7 (ev1 QQ.e) (d_5 l _ _ (S9.sk 9 rfl) (by omega))) ?_
   rintro AWh Ag6 Aiv ⟨ACA, hO3530⟩ EO; have Bj := S9.f_7 ACA hO3530; clear ACA hO3530 QQ S9 AWg
   refine s2 EO (a_6 rfl m_1 (ev2 EO.e EO.e) (g_9 b vt3517 vm3518 lr3519 lb3520 lk3521 _ (b_1 (Bj.ok 1 _ rfl)) (a_8 (Bj.ok 2 _ rfl)) hth l _ (SlAt.b_9 (Bj.c_0 0 rfl)) (by omega) hr hs)) ?_
   rintro AWi _ Aiw ⟨rfl, ACB⟩ QR; have Bk := Bj.step ACB; clear ACB EO Bj AWh
   refine s1 QR (a_0 rfl QR.e) fun AWj QS => ?_; clear QR AWi
   refine s1 QS (b_2 rfl QS.e rfl) fun AWk QT => ?_; clear QS AWj
   refine s1 QT (b_2 rfl QT.e rfl) fun AWl QU => ?_; clear QT AWk
   refine s1 QU (a_1 rfl QU.e) fun AWm QV => ?_; clear QU AWl
   refine s1 QV (a_1 rfl QV.e) fun AWn AAO => ?_; clear QV AWm
   refine n2 ?_
   have QW := AAO.as [(17, (iv (spE b l))), (16, (Value.slice none 0 0)), (10, (A 3)), (9, (bptr b4_ 0))] rfl; clear AAO
   refine a_5 (s1 QW (b_8 rfl k_7 (QW.ev rfl) (Bk.bk 6 rfl) (l := [(iv b.scales), vt, K]) rfl rfl) fun AWo QX => ?_); clear QW AWn
   refine s2 QX (a_6 rfl m_6 (ev1 QX.e) (g_2 (putM b kk (b.macs.getD kk mac0).blocks.reverse) vt K lr lb (putV kk lk v14_) _ (b_1 (Bk.ok 8 _ rfl)) (a_8 (Bk.ok 3 _ rfl)) hth2)) ?_
   rintro AWp _ Aix ⟨vt3554, vm3555, lr3556, lb3557, lk3558, rfl, ADr⟩ QY; have TA := Bk.h_1 ADr rfl; clear ADr QX Bk AWo
   refine s1 QY (a_0 rfl QY.e) fun AWq QZ => ?_; clear QY AWp
   refine s2 QZ (a_6 rfl m_7 (ev1 QZ.e) (d_5 l _ _ (SlAt.b_9 (TA.c_0 7 rfl)) (by omega))) ?_
   rintro AWr Ag7 Aiy ⟨ACC, hO3567⟩ EP; have Bl := TA.f_7 ACC hO3567; clear ACC hO3567 QZ TA AWq
   refine s2 EP (a_6 rfl m_1 (ev2 EP.e EP.e) (g_9 (putM b kk (b.macs.getD kk mac0).blocks.reverse) vt3554 vm3555 lr3556 lb3557 lk3558 _ (b_1 (Bl.ok 1 _ rfl)) (a_8 (Bl.ok 2 _ rfl)) hth2 l _ (SlAt.b_9 (Bl.c_0 0 rfl)) (by omega) E D)) ?_
   rintro AWs _ Aiz ⟨rfl, ACD⟩ Qa; have AC8 := Bl.step ACD; clear ACD EP Bl AWr
   refine s1 Qa (a_0 rfl Qa.e) fun AWt Qb => ?_; clear Qa AWs
   refine s1 Qb (b_2 rfl Qb.e rfl) fun AWu Qc => ?_; clear Qb AWt
   refine s1 Qc (b_2 rfl Qc.e rfl) fun AWv Qd => ?_; clear Qc AWu
   refine s1 Qd (a_1 rfl Qd.e) fun AWw Qe => ?_; clear Qd AWv
   refine s1 Qe (a_1 rfl Qe.e) fun AWx AAP => ?_; clear Qe AWw
   refine n2 ?_
   have Qf := AAP.as [(19, (iv (spE (putM b kk (b.macs.getD kk mac0).blocks.reverse) l))), (18, (Value.slice none 0 0)), (17, (iv (spE b l))), (16, (Value.slice none 0 0))] rfl; clear AAP
   refine a_5 (s1 Qf (a_0 rfl Qf.e) fun AWy Qg => ?_); clear Qf AWx
   refine s1 Qg (a_0 rfl Qg.e) fun AWz EQ => ?_; clear Qg AWy
   refine s1 EQ (e_9 rfl EQ.e EQ.e) fun AW0 ER => ?_; clear EQ AWz
   have AIM : (spE b l) = (spE (putM b kk (b.macs.getD kk mac0).blocks.reverse) l) := (by rw [o_4 hr hs, o_4 E D])
   rw [decide_eq_true AIM] at ER
   refine s1 ER (a_0 rfl ER.e) fun AW1 Qh => ?_; clear ER AW0
   refine s5 Qh (a_0 rfl Qh.e) fun AW2 Qi => ?_; clear Qh AW1
   refine s5 Qi (e_9 rfl Qi.e (evc _ _)) fun AW3 ES => ?_; clear Qi AW2
   have AEN : ¬ ((spE b l) = 0) := (by rw [o_4 hr hs]; decide)
   rw [decide_eq_false AEN] at ES
   refine s5 ES (a_0 rfl ES.e) fun AW4 Qj => ?_; clear ES AW3
   refine s5 Qj (a_0 rfl Qj.e) fun AW5 Qk => ?_; clear Qj AW4
   refine s5 Qk (e_9 rfl Qk.e (evc _ _)) fun AW6 A1 => ?_; clear Qk AW5
   have AIN : (spE b l) = 9 := (o_4 hr hs)
   rw [decide_eq_true AIN] at A1
   refine s5 A1 (c_3 rfl A1.e A1.e) fun AW7 ET => ?_; clear A1 AW6
   refine s1 ET (a_7 rfl ET.e ET.e) fun AW8 Ql => ?_; clear ET AW7
   refine s1 Ql (a_0 rfl Ql.e) fun AW9 Qm => ?_; clear Ql AW8
   refine s5 Qm (a_0 rfl Qm.e) fun AXA Qn => ?_; clear Qm AW9
   refine s5 Qn (l_5 rfl Qn.e (evc _ _)) fun AXB EU => ?_; clear Qn AXA
   rw [decide_eq_false AEN] at EU
   refine s5 EU (a_0 rfl EU.e) fun AXC AAQ => ?_; clear EU AXB
   refine s3 AAQ fun AXD AAR => ?_; clear AAQ AXC
   refine s3 AAR fun AXE AAS => ?_; clear AAR AXD
   refine s3 AAS fun AXF AAT => ?_; clear AAS AXE
   refine s3 AAT fun AXG AAU => ?_; clear AAT AXF
   refine s3 AAU fun AXH AAV => ?_; clear AAU AXG
   refine s3 AAV fun AXI AAW => ?_; clear AAV AXH
   refine s4 AAW fun AXJ AAX => ?_; clear AAW AXI
   refine s4 AAX fun AXK AAY => ?_; clear AAX AXJ
   refine s4 AAY fun AXL AAZ => ?_; clear AAY AXK
   refine s4 AAZ fun AXM AAa => ?_; clear AAZ AXL
   refine s4 AAa fun AXN AAb => ?_; clear AAa AXM
   refine s3 AAb fun AXO Qo => ?_; clear AAb AXN
   refine s5 Qo (a_7 rfl Qo.e (evc _ _)) fun AXP EV => ?_; clear Qo AXO
   refine s1 EV (a_7 rfl EV.e EV.e) fun AXQ Qp => ?_; clear EV AXP
   refine s1 Qp (a_0 rfl Qp.e) fun AXR AAc => ?_; clear Qp AXQ
   refine s6 AAc (a_6 rfl v_5 ev0 (j_2 _)) ?_
   rintro AXS _ Ai0 ⟨rfl, ACE⟩ EW; have AH1 := AC8.step ACE; clear ACE AAc AC8 AXR
   refine s1 EW (a_7 rfl EW.e EW.e) fun AXT Qq => ?_; clear EW AXS
   refine s1 Qq (a_1 rfl Qq.e) fun Agk AAd => ?_; clear Qq AXT
   exact n1 (c_5 (b_0 AAd (.inl rfl) (a_2 AAd rfl (.tmp rfl)) (⟨rfl, AH1.ext⟩)))
  skip
  have D := F.trans hs; have htln := ab_1 hb hl hs
  refine a_5 (s1 Af (b_8 rfl k_7 (Af.ev rfl) (X.bk 4 rfl) (l := [(iv b.scales), vt, vm]) rfl rfl) fun AXU Qr => ?_); clear Af AE1
  refine s2 Qr (a_6 rfl m_6 (ev1 Qr.e) (g_2 b vt vm lr lb lk _ (b_1 (X.ok 5 _ rfl)) (a_8 (X.ok 6 _ rfl)) hth)) ?_
  rintro AXV _ Ai1 ⟨vt3663, vm3664, lr3665, lb3666, lk3667, rfl, ADs⟩ Qs; have TB := X.h_1 ADs rfl; clear ADs Qr X AXU
  refine s1 Qs (a_0 rfl Qs.e) fun AXW Qt => ?_; clear Qs AXV
  refine s2 Qt (a_6 rfl m_7 (ev1 Qt.e) (d_5 l _ _ (TB.sk 9 rfl) (by omega))) ?_
  rintro AXX AHH Ai2 ⟨ACF, hO3676⟩ EX; have Bm := TB.f_7 ACF hO3676; clear ACF hO3676 Qt TB AXW
  refine s2 EX (a_6 rfl m_1 (ev2 EX.e EX.e) (j_1 b vt3663 vm3664 lr3665 lb3666 lk3667 _ (b_1 (Bm.ok 1 _ rfl)) (a_8 (Bm.ok 2 _ rfl)) hth l _ (SlAt.b_9 (Bm.c_0 0 rfl)) (by omega) t hr hs)) ?_
  rintro AXY _ Aag ⟨Gq, rfl, ADt⟩ Qu
  have Bn : Sep NoB w Aag [(row Gq 30 2 t.length (pairs t)), (row AHH 98 2 l.length (pairs l)), (d_2 true vt3663 lr3665 lb3666 b.tabs), (d_4 true vm3664 lk3667 b.macs), (d_4 false K (putV kk lk v14_) ((putM b kk (b.macs.getD kk mac0).blocks.reverse).macs)), (sl v14_ 3 (((b.macs.getD kk mac0).blocks.reverse).length) (trips ((b.macs.getD kk mac0).blocks.reverse))), (row (A 3) 67 2 l.length (pairs l)), (blk b4_ 25 [(iv b.scales), vt, K]), (blk C 25 [(iv b.scales), vt, vm]), (d_2 false vt lr lb b.tabs), (d_4 false vm lk b.macs), (sl xl 2 l.length (pairs l))] := Bm.h_1 ADt rfl; clear ADt EX Bm AXX
  refine s1 Qu (a_0 rfl Qu.e) fun AXZ Qv => ?_; clear Qu AXY
  refine s1 Qv (b_2 rfl Qv.e rfl) fun AXa Qw => ?_; clear Qv AXZ
  refine s1 Qw (b_2 rfl Qw.e rfl) fun AXb Qx => ?_; clear Qw AXa
  refine s1 Qx (a_1 rfl Qx.e) fun AXc Qy => ?_; clear Qx AXb
  refine s1 Qy (a_1 rfl Qy.e) fun AXd AAe => ?_; clear Qy AXc
  refine n2 ?_
  have Qz := AAe.as [(17, (iv 0)), (16, Gq), (10, (A 3)), (9, (bptr b4_ 0))] rfl; clear AAe
  refine a_5 (s1 Qz (b_8 rfl k_7 (Qz.ev rfl) (Bn.bk 7 rfl) (l := [(iv b.scales), vt, K]) rfl rfl) fun AXe Q0 => ?_); clear Qz AXd
  refine s2 Q0 (a_6 rfl m_6 (ev1 Q0.e) (g_2 (putM b kk (b.macs.getD kk mac0).blocks.reverse) vt K lr lb (putV kk lk v14_) _ (b_1 (Bn.ok 9 _ rfl)) (a_8 (Bn.ok 4 _ rfl)) hth2)) ?_
  rintro AXf _ Ai3 ⟨vt3701, vm3702, lr3703, lb3704, lk3705, rfl, ADu⟩ Q1; have TC := Bn.h_1 ADu rfl; clear ADu Q0 Bn AXe
  refine s1 Q1 (a_0 rfl Q1.e) fun AXg Q2 => ?_; clear Q1 AXf
  refine s2 Q2 (a_6 rfl m_7 (ev1 Q2.e) (d_5 l _ _ (SlAt.b_9 (TC.c_0 8 rfl)) (by omega))) ?_
  rintro AXh AaJ Ai4 ⟨ACG, hO3714⟩ EZ; have Bo := TC.f_7 ACG hO3714; clear ACG hO3714 Q2 TC AXg
  refine s2 EZ (a_6 rfl m_1 (ev2 EZ.e EZ.e) (j_1 (putM b kk (b.macs.getD kk mac0).blocks.reverse) vt3701 vm3702 lr3703 lb3704 lk3705 _ (b_1 (Bo.ok 1 _ rfl)) (a_8 (Bo.ok 2 _ rfl)) hth2 l _ (SlAt.b_9 (Bo.c_0 0 rfl)) (by omega) t E D)) ?_
  rintro AXi _ Aah ⟨AG5, rfl, ADv⟩ Q3
  have FT : Sep NoB w Aah [(row AG5 30 2 t.length (pairs t)), (row AaJ 98 2 l.length (pairs l)), (d_2 true vt3701 lr3703 lb3704 (putM b kk (b.macs.getD kk mac0).blocks.reverse).tabs), (d_4 true vm3702 lk3705 (putM b kk (b.macs.getD kk mac0).blocks.reverse).macs), (row Gq 30 2 t.length (pairs t)), (row AHH 98 2 l.length (pairs l)), (d_2 true vt3663 lr3665 lb3666 b.tabs), (d_4 true vm3664 lk3667 b.macs), (d_4 false K (putV kk lk v14_) ((putM b kk (b.macs.getD kk mac0).blocks.reverse).macs)), (sl v14_ 3 (((b.macs.getD kk mac0).blocks.reverse).length) (trips ((b.macs.getD kk mac0).blocks.reverse))), (row (A 3) 67 2 l.length (pairs l)), (blk b4_ 25 [(iv b.scales), vt, K]), (blk C 25 [(iv b.scales), vt, vm]), (d_2 false vt lr lb b.tabs), (d_4 false vm lk b.macs), (sl xl 2 l.length (pairs l))] := Bo.h_1 ADv rfl; clear ADv EZ Bo AXh
  refine s1 Q3 (a_0 rfl Q3.e) fun AXj Q4 => ?_; clear Q3 AXi
  refine s1 Q4 (b_2 rfl Q4.e rfl) fun AXk Q5 => ?_; clear Q4 AXj
  refine s1 Q5 (b_2 rfl Q5.e rfl) fun AXl Q6 => ?_; clear Q5 AXk
  refine s1 Q6 (a_1 rfl Q6.e) fun AXm Q7 => ?_; clear Q6 AXl
  refine s1 Q7 (a_1 rfl Q7.e) fun AXn AAf => ?_; clear Q7 AXm
  refine n2 ?_
  have Q8 := AAf.as [(19, (iv 0)), (18, AG5), (17, (iv 0)), (16, Gq)] rfl; clear AAf
  refine a_5 (s1 Q8 (a_0 rfl Q8.e) fun AXo Q9 => ?_); clear Q8 AXn
  refine s1 Q9 (a_0 rfl Q9.e) fun AXp Ea => ?_; clear Q9 AXo
  refine s1 Ea (e_9 rfl Ea.e Ea.e) fun AXq RA => ?_; clear Ea AXp
  refine s1 RA (a_0 rfl RA.e) fun AXr RB => ?_; clear RA AXq
  refine s5 RB (a_0 rfl RB.e) fun AXs RC => ?_; clear RB AXr
  refine s5 RC (e_9 rfl RC.e (evc _ _)) fun AXt RD => ?_; clear RC AXs
  refine s5 RD (a_0 rfl RD.e) fun AXu AAg => ?_; clear RD AXt
  refine s3 AAg fun AXv AAh => ?_; clear AAg AXu
  refine s3 AAh fun AXw RE => ?_; clear AAh AXv
  refine s5 RE (a_7 rfl RE.e (evc _ _)) fun AXx Eb => ?_; clear RE AXw
  refine s1 Eb (a_7 rfl Eb.e Eb.e) fun AXy RF => ?_; clear Eb AXx
  refine s1 RF (a_0 rfl RF.e) fun AXz RG => ?_; clear RF AXy
  refine s5 RG (a_0 rfl RG.e) fun AX0 RH => ?_; clear RG AXz
  refine s5 RH (l_5 rfl RH.e (evc _ _)) fun AX1 RI => ?_; clear RH AX0
  refine s5 RI (a_0 rfl RI.e) fun AX2 RJ => ?_; clear RI AX1
  refine s5 RJ (a_0 rfl RJ.e) fun AX3 RK => ?_; clear RJ AX2
  refine s5 RK (a_0 rfl RK.e) fun AX4 RL => ?_; clear RK AX3
  refine s5 RL (a_0 rfl RL.e) fun AX5 RM => ?_; clear RL AX4
  refine s5 RM (a_0 rfl RM.e) fun AX6 Ag => ?_; clear RM AX5
  refine s6 Ag (a_6 rfl w_2 (ev4 Ag.e Ag.e Ag.e Ag.e) (g_0 t _ 0 t _ 0 _ (SlAt.b_9 (FT.c_0 4 rfl)) (SlAt.b_9 (FT.c_0 0 rfl)) (by omega))) ?_
  rintro AX7 _ Ai5 ⟨rfl, ACH⟩ Ec; have FU := FT.step ACH; clear ACH Ag FT AX6
  have AEO : (narB t 0 t 0) = true := (q_7 hb hl hs)
  rw [AEO] at Ec
  refine s5 Ec (a_0 rfl Ec.e) fun AX8 RN => ?_; clear Ec AX7
  refine s5 RN (a_0 rfl RN.e) fun AX9 RO => ?_; clear RN AX8
  refine s5 RO (a_0 rfl RO.e) fun AYA RP => ?_; clear RO AX9
  refine s5 RP (a_0 rfl RP.e) fun AYB RQ => ?_; clear RP AYA
  refine s5 RQ (a_0 rfl RQ.e) fun AYC Ah => ?_; clear RQ AYB
  refine s6 Ah (a_6 rfl w_2 (ev4 Ah.e Ah.e Ah.e Ah.e) (g_0 t _ 0 t _ 0 _ (SlAt.b_9 (FU.c_0 0 rfl)) (SlAt.b_9 (FU.c_0 4 rfl)) (by omega))) ?_
  rintro AYD _ Ai6 ⟨rfl, ACI⟩ A2; have AC9 := FU.step ACI; clear ACI Ah FU AYC
  rw [AEO] at A2
  refine s5 A2 (a_7 rfl A2.e A2.e) fun AYE Ed => ?_; clear A2 AYD
  refine s5 Ed (c_3 rfl Ed.e Ed.e) fun AYF Ee => ?_; clear Ed AYE
  refine s1 Ee (a_7 rfl Ee.e Ee.e) fun AYG RR => ?_; clear Ee AYF
  refine s1 RR (a_0 rfl RR.e) fun AYH AAi => ?_; clear RR AYG
  refine s6 AAi (a_6 rfl v_5 ev0 (j_2 _)) ?_
  rintro AYI _ Ai7 ⟨rfl, ACJ⟩ Ef; have AH2 := AC9.step ACJ; clear ACJ AAi AC9 AYH
  refine s1 Ef (a_7 rfl Ef.e Ef.e) fun AYJ RS => ?_; clear Ef AYI
  refine s1 RS (a_1 rfl RS.e) fun Agl AAj => ?_; clear RS AYJ
  exact n1 (c_5 (b_0 AAj (.inl rfl) (a_2 AAj rfl (.tmp rfl)) (⟨rfl, AH2.ext⟩)))
 skip
 rw [decide_eq_false AD8] at f
 refine c_2 f rfl (d_7 (h_0 (b_5 (c_1 ?_))))
 have Ai := f.as [(10, (A 3)), (9, (bptr b4_ 0)), (4, (bptr C 0)), (1, xl)] rfl; clear f
 have F : j_0 b l = j_0 b l := rfl
 rcases r_0 b l with hs | ⟨t, hs⟩
 ·skip
  have D := F.trans hs
  refine a_5 (s1 Ai (b_8 rfl k_7 (Ai.ev rfl) (B.bk 2 rfl) (l := [(iv b.scales), vt, vm]) rfl rfl) fun AYK RT => ?_); clear Ai TP
  refine s2 RT (a_6 rfl m_6 (ev1 RT.e) (g_2 b vt vm lr lb lk _ (b_1 (B.ok 3 _ rfl)) (a_8 (B.ok 4 _ rfl)) hth)) ?_
  rintro AYL _ Ai8 ⟨vt3816, vm3817, lr3818, lb3819, lk3820, rfl, ADw⟩ RU; have TD := B.h_1 ADw rfl; clear ADw RT B AYK
  refine s1 RU (a_0 rfl RU.e) fun AYM RV => ?_; clear RU AYL
  refine s2 RV (a_6 rfl m_7 (ev1 RV.e) (d_5 l _ _ (TD.sk 7 rfl) (by omega))) ?_
  rintro AYN Ag8 Ai9 ⟨ACK, hO3829⟩ Eg; have Bp := TD.f_7 ACK hO3829; clear ACK hO3829 RV TD AYM
  refine s2 Eg (a_6 rfl m_1 (ev2 Eg.e Eg.e) (g_9 b vt3816 vm3817 lr3818 lb3819 lk3820 _ (b_1 (Bp.ok 1 _ rfl)) (a_8 (Bp.ok 2 _ rfl)) hth l _ (SlAt.b_9 (Bp.c_0 0 rfl)) (by omega) hr hs)) ?_
  rintro AYO _ AjA ⟨rfl, ACL⟩ RW; have Bq := Bp.step ACL; clear ACL Eg Bp AYN
  refine s1 RW (a_0 rfl RW.e) fun AYP RX => ?_; clear RW AYO
  refine s1 RX (b_2 rfl RX.e rfl) fun AYQ RY => ?_; clear RX AYP
  refine s1 RY (b_2 rfl RY.e rfl) fun AYR RZ => ?_; clear RY AYQ
  refine s1 RZ (a_1 rfl RZ.e) fun AYS Ra => ?_; clear RZ AYR
  refine s1 Ra (a_1 rfl Ra.e) fun AYT AAk => ?_; clear Ra AYS
  refine n2 ?_
  have Rb := AAk.as [(17, (iv (spE b l))), (16, (Value.slice none 0 0)), (10, (A 3)), (9, (bptr b4_ 0))] rfl; clear AAk
  refine a_5 (s1 Rb (b_8 rfl k_7 (Rb.ev rfl) (Bq.bk 4 rfl) (l := [(iv b.scales), vt, vm]) rfl rfl) fun AYU Rc => ?_); clear Rb AYT
  refine s2 Rc (a_6 rfl m_6 (ev1 Rc.e) (g_2 b vt vm lr lb lk _ (b_1 (Bq.ok 6 _ rfl)) (a_8 (Bq.ok 7 _ rfl)) hth)) ?_
  rintro AYV _ AjB ⟨vt3853, vm3854, lr3855, lb3856, lk3857, rfl, ADx⟩ Rd; have TE := Bq.h_1 ADx rfl; clear ADx Rc Bq AYU
  refine s1 Rd (a_0 rfl Rd.e) fun AYW Re => ?_; clear Rd AYV
  refine s2 Re (a_6 rfl m_7 (ev1 Re.e) (d_5 l _ _ (SlAt.b_9 (TE.c_0 5 rfl)) (by omega))) ?_
  rintro AYX Ag9 AjC ⟨ACM, hO3866⟩ Eh; have Br := TE.f_7 ACM hO3866; clear ACM hO3866 Re TE AYW
  refine s2 Eh (a_6 rfl m_1 (ev2 Eh.e Eh.e) (g_9 b vt3853 vm3854 lr3855 lb3856 lk3857 _ (b_1 (Br.ok 1 _ rfl)) (a_8 (Br.ok 2 _ rfl)) hth l _ (SlAt.b_9 (Br.c_0 0 rfl)) (by omega) hr hs)) ?_
  rintro AYY _ AjD ⟨rfl, ACN⟩ Rf; have ADA := Br.step ACN; clear ACN Eh Br AYX
  refine s1 Rf (a_0 rfl Rf.e) fun AYZ Rg => ?_; clear Rf AYY
  refine s1 Rg (b_2 rfl Rg.e rfl) fun AYa Rh => ?_; clear Rg AYZ
  refine s1 Rh (b_2 rfl Rh.e rfl) fun AYb Ri => ?_; clear Rh AYa
  refine s1 Ri (a_1 rfl Ri.e) fun AYc Rj => ?_; clear Ri AYb
  refine s1 Rj (a_1 rfl Rj.e) fun AYd AAl => ?_; clear Rj AYc
  refine n2 ?_
  have Rk := AAl.as [(19, (iv (spE b l))), (18, (Value.slice none 0 0)), (17, (iv (spE b l))), (16, (Value.slice none 0 0))] rfl; clear AAl
  refine a_5 (s1 Rk (a_0 rfl Rk.e) fun AYe Rl => ?_); clear Rk AYd
  refine s1 Rl (a_0 rfl Rl.e) fun AYf Ei => ?_; clear Rl AYe
  refine s1 Ei (e_9 rfl Ei.e Ei.e) fun AYg Ej => ?_; clear Ei AYf
  have AIO : (spE b l) = (spE b l) := rfl
  rw [decide_eq_true AIO] at Ej
  refine s1 Ej (a_0 rfl Ej.e) fun AYh Rm => ?_; clear Ej AYg
  refine s5 Rm (a_0 rfl Rm.e) fun AYi Rn => ?_; clear Rm AYh
  refine s5 Rn (e_9 rfl Rn.e (evc _ _)) fun AYj Ek => ?_; clear Rn AYi
  have AEP : ¬ ((spE b l) = 0) := (by rw [o_4 hr hs]; decide)
  rw [decide_eq_false AEP] at Ek
  refine s5 Ek (a_0 rfl Ek.e) fun AYk Ro => ?_; clear Ek AYj
  refine s5 Ro (a_0 rfl Ro.e) fun AYl Rp => ?_; clear Ro AYk
  refine s5 Rp (e_9 rfl Rp.e (evc _ _)) fun AYm A3 => ?_; clear Rp AYl
  have AIP : (spE b l) = 9 := (o_4 hr hs)
  rw [decide_eq_true AIP] at A3
  refine s5 A3 (c_3 rfl A3.e A3.e) fun AYn El => ?_; clear A3 AYm
  refine s1 El (a_7 rfl El.e El.e) fun AYo Rq => ?_; clear El AYn
  refine s1 Rq (a_0 rfl Rq.e) fun AYp Rr => ?_; clear Rq AYo
  refine s5 Rr (a_0 rfl Rr.e) fun AYq Rs => ?_; clear Rr AYp
  refine s5 Rs (l_5 rfl Rs.e (evc _ _)) fun AYr Em => ?_; clear Rs AYq
  rw [decide_eq_false AEP] at Em
  refine s5 Em (a_0 rfl Em.e) fun AYs AAm => ?_; clear Em AYr
  refine s3 AAm fun AYt AAn => ?_; clear AAm AYs
  refine s3 AAn fun AYu AAo => ?_; clear AAn AYt
  refine s3 AAo fun AYv AAp => ?_; clear AAo AYu
  refine s3 AAp fun AYw AAq => ?_; clear AAp AYv
  refine s3 AAq fun AYx AAr => ?_; clear AAq AYw
  refine s3 AAr fun AYy AAs => ?_; clear AAr AYx
  refine s4 AAs fun AYz AAt => ?_; clear AAs AYy
  refine s4 AAt fun AY0 AAu => ?_; clear AAt AYz
  refine s4 AAu fun AY1 AAv => ?_; clear AAu AY0
  refine s4 AAv fun AY2 AAw => ?_; clear AAv AY1
  refine s4 AAw fun AY3 AAx => ?_; clear AAw AY2
  refine s3 AAx fun AY4 Rt => ?_; clear AAx AY3
  refine s5 Rt (a_7 rfl Rt.e (evc _ _)) fun AY5 En => ?_; clear Rt AY4
  refine s1 En (a_7 rfl En.e En.e) fun AY6 Ru => ?_; clear En AY5
  refine s1 Ru (a_0 rfl Ru.e) fun AY7 AAy => ?_; clear Ru AY6
  refine s6 AAy (a_6 rfl v_5 ev0 (j_2 _)) ?_
  rintro AY8 _ AjE ⟨rfl, ACO⟩ Eo; have AH3 := ADA.step ACO; clear ACO AAy ADA AY7
  refine s1 Eo (a_7 rfl Eo.e Eo.e) fun AY9 Rv => ?_; clear Eo AY8
  refine s1 Rv (a_1 rfl Rv.e) fun Agm AAz => ?_; clear Rv AY9
  exact n1 (c_5 (b_0 AAz (.inl rfl) (a_2 AAz rfl (.tmp rfl)) (⟨rfl, AH3.ext⟩)))
 skip
 have D := F.trans hs; have htln := ab_1 hb hl hs
 refine a_5 (s1 Ai (b_8 rfl k_7 (Ai.ev rfl) (B.bk 2 rfl) (l := [(iv b.scales), vt, vm]) rfl rfl) fun AZA Rw => ?_); clear Ai TP
 refine s2 Rw (a_6 rfl m_6 (ev1 Rw.e) (g_2 b vt vm lr lb lk _ (b_1 (B.ok 3 _ rfl)) (a_8 (B.ok 4 _ rfl)) hth)) ?_
 rintro AZB _ AjF ⟨vt3962, vm3963, lr3964, lb3965, lk3966, rfl, ADy⟩ Rx; have TF := B.h_1 ADy rfl; clear ADy Rw B AZA
 refine s1 Rx (a_0 rfl Rx.e) fun AZC Ry => ?_; clear Rx AZB
 refine s2 Ry (a_6 rfl m_7 (ev1 Ry.e) (d_5 l _ _ (TF.sk 7 rfl) (by omega))) ?_
 rintro AZD AHI AjG ⟨ACP, hO3975⟩ Ep; have Bs := TF.f_7 ACP hO3975; clear ACP hO3975 Ry TF AZC
 refine s2 Ep (a_6 rfl m_1 (ev2 Ep.e Ep.e) (j_1 b vt3962 vm3963 lr3964 lb3965 lk3966 _ (b_1 (Bs.ok 1 _ rfl)) (a_8 (Bs.ok 2 _ rfl)) hth l _ (SlAt.b_9 (Bs.c_0 0 rfl)) (by omega) t hr hs)) ?_
 rintro AZE _ Aai ⟨Gr, rfl, ADz⟩ Rz
 have Bt : Sep NoB w Aai [(row Gr 30 2 t.length (pairs t)), (row AHI 98 2 l.length (pairs l)), (d_2 true vt3962 lr3964 lb3965 b.tabs), (d_4 true vm3963 lk3966 b.macs), (row (A 3) 67 2 l.length (pairs l)), (blk b4_ 25 [(iv b.scales), vt, vm]), (blk C 25 [(iv b.scales), vt, vm]), (d_2 false vt lr lb b.tabs), (d_4 false vm lk b.macs), (sl xl 2 l.length (pairs l))] := Bs.h_1 ADz rfl; clear ADz Ep Bs AZD
 refine s1 Rz (a_0 rfl Rz.e) fun AZF R0 => ?_; clear Rz AZE
 refine s1 R0 (b_2 rfl R0.e rfl) fun AZG R1 => ?_; clear R0 AZF
 refine s1 R1 (b_2 rfl R1.e rfl) fun AZH R2 => ?_; clear R1 AZG
 refine s1 R2 (a_1 rfl R2.e) fun AZI R3 => ?_; clear R2 AZH
 refine s1 R3 (a_1 rfl R3.e) fun AZJ AA0 => ?_; clear R3 AZI
 refine n2 ?_
 have R4 := AA0.as [(17, (iv 0)), (16, Gr), (10, (A 3)), (9, (bptr b4_ 0))] rfl; clear AA0
 refine a_5 (s1 R4 (b_8 rfl k_7 (R4.ev rfl) (Bt.bk 5 rfl) (l := [(iv b.scales), vt, vm]) rfl rfl) fun AZK R5 => ?_); clear R4 AZJ
 refine s2 R5 (a_6 rfl m_6 (ev1 R5.e) (g_2 b vt vm lr lb lk _ (b_1 (Bt.ok 7 _ rfl)) (a_8 (Bt.ok 8 _ rfl)) hth)) ?_
 rintro AZL _ AjH ⟨vt4000, vm4001, lr4002, lb4003, lk4004, rfl, AD0⟩ R6; have TG := Bt.h_1 AD0 rfl; clear AD0 R5 Bt AZK
 refine s1 R6 (a_0 rfl R6.e) fun AZM R7 => ?_; clear R6 AZL
 refine s2 R7 (a_6 rfl m_7 (ev1 R7.e) (d_5 l _ _ (SlAt.b_9 (TG.c_0 6 rfl)) (by omega))) ?_
 rintro AZN AaK AjI ⟨ACQ, hO4013⟩ Eq; have Bu := TG.f_7 ACQ hO4013; clear ACQ hO4013 R7 TG AZM
 refine s2 Eq (a_6 rfl m_1 (ev2 Eq.e Eq.e) (j_1 b vt4000 vm4001 lr4002 lb4003 lk4004 _ (b_1 (Bu.ok 1 _ rfl)) (a_8 (Bu.ok 2 _ rfl)) hth l _ (SlAt.b_9 (Bu.c_0 0 rfl)) (by omega) t hr hs)) ?_
 rintro AZO _ Aaj ⟨AG6, rfl, AD1⟩ R8
 have FV : Sep NoB w Aaj [(row AG6 30 2 t.length (pairs t)), (row AaK 98 2 l.length (pairs l)), (d_2 true vt4000 lr4002 lb4003 b.tabs), (d_4 true vm4001 lk4004 b.macs), (row Gr 30 2 t.length (pairs t)), (row AHI 98 2 l.length (pairs l)), (d_2 true vt3962 lr3964 lb3965 b.tabs), (d_4 true vm3963 lk3966 b.macs), (row (A 3) 67 2 l.length (pairs l)), (blk b4_ 25 [(iv b.scales), vt, vm]), (blk C 25 [(iv b.scales), vt, vm]), (d_2 false vt lr lb b.tabs), (d_4 false vm lk b.macs), (sl xl 2 l.length (pairs l))] := Bu.h_1 AD1 rfl; clear AD1 Eq Bu AZN
 refine s1 R8 (a_0 rfl R8.e) fun AZP R9 => ?_; clear R8 AZO
 refine s1 R9 (b_2 rfl R9.e rfl) fun AZQ SA => ?_; clear R9 AZP
 refine s1 SA (b_2 rfl SA.e rfl) fun AZR SB => ?_; clear SA AZQ
 refine s1 SB (a_1 rfl SB.e) fun AZS SC => ?_; clear SB AZR
 refine s1 SC (a_1 rfl SC.e) fun AZT AA1 => ?_; clear SC AZS
 refine n2 ?_
 have SD := AA1.as [(19, (iv 0)), (18, AG6), (17, (iv 0)), (16, Gr)] rfl; clear AA1
 refine a_5 (s1 SD (a_0 rfl SD.e) fun AZU SE => ?_); clear SD AZT
 refine s1 SE (a_0 rfl SE.e) fun AZV Er => ?_; clear SE AZU
 refine s1 Er (e_9 rfl Er.e Er.e) fun AZW SF => ?_; clear Er AZV
 refine s1 SF (a_0 rfl SF.e) fun AZX SG => ?_; clear SF AZW
 refine s5 SG (a_0 rfl SG.e) fun AZY SH => ?_; clear SG AZX
 refine s5 SH (e_9 rfl SH.e (evc _ _)) fun AZZ SI => ?_; clear SH AZY
 refine s5 SI (a_0 rfl SI.e) fun AZa AA2 => ?_; clear SI AZZ
 refine s3 AA2 fun AZb AA3 => ?_; clear AA2 AZa
 refine s3 AA3 fun AZc SJ => ?_; clear AA3 AZb
 refine s5 SJ (a_7 rfl SJ.e (evc _ _)) fun AZd Es => ?_; clear SJ AZc
 refine s1 Es (a_7 rfl Es.e Es.e) fun AZe SK => ?_; clear Es AZd
 refine s1 SK (a_0 rfl SK.e) fun AZf SL => ?_; clear SK AZe
 refine s5 SL (a_0 rfl SL.e) fun AZg SM => ?_; clear SL AZf
 refine s5 SM (l_5 rfl SM.e (evc _ _)) fun AZh SN => ?_; clear SM AZg
 refine s5 SN (a_0 rfl SN.e) fun AZi SO => ?_; clear SN AZh
 refine s5 SO (a_0 rfl SO.e) fun AZj SP => ?_; clear SO AZi
 refine s5 SP (a_0 rfl SP.e) fun AZk SQ => ?_; clear SP AZj
 refine s5 SQ (a_0 rfl SQ.e) fun AZl SR => ?_; clear SQ AZk
 refine s5 SR (a_0 rfl SR.e) fun AZm Aj => ?_; clear SR AZl
 refine s6 Aj (a_6 rfl w_2 (ev4 Aj.e Aj.e Aj.e Aj.e) (g_0 t _ 0 t _ 0 _ (SlAt.b_9 (FV.c_0 4 rfl)) (SlAt.b_9 (FV.c_0 0 rfl)) (by omega))) ?_
 rintro AZn _ AjJ ⟨rfl, ACR⟩ Et; have FW := FV.step ACR; clear ACR Aj FV AZm
 have AEQ : (narB t 0 t 0) = true := (q_7 hb hl hs)
 rw [AEQ] at Et
 refine s5 Et (a_0 rfl Et.e) fun AZo SS => ?_; clear Et AZn
 refine s5 SS (a_0 rfl SS.e) fun AZp ST => ?_; clear SS AZo
 refine s5 ST (a_0 rfl ST.e) fun AZq SU => ?_; clear ST AZp
 refine s5 SU (a_0 rfl SU.e) fun AZr SV => ?_; clear SU AZq
 refine s5 SV (a_0 rfl SV.e) fun AZs Ak => ?_; clear SV AZr
 refine s6 Ak (a_6 rfl w_2 (ev4 Ak.e Ak.e Ak.e Ak.e) (g_0 t _ 0 t _ 0 _ (SlAt.b_9 (FW.c_0 0 rfl)) (SlAt.b_9 (FW.c_0 4 rfl)) (by omega))) ?_
 rintro AZt _ AjK ⟨rfl, ACS⟩ A4; have ADB := FW.step ACS; clear ACS Ak FW AZs
 rw [AEQ] at A4
 refine s5 A4 (a_7 rfl A4.e A4.e) fun AZu Eu => ?_; clear A4 AZt
 refine s5 Eu (c_3 rfl Eu.e Eu.e) fun AZv Ev => ?_; clear Eu AZu
 refine s1 Ev (a_7 rfl Ev.e Ev.e) fun AZw SW => ?_; clear Ev AZv
 refine s1 SW (a_0 rfl SW.e) fun AZx AA4 => ?_; clear SW AZw
 refine s6 AA4 (a_6 rfl v_5 ev0 (j_2 _)) ?_
 rintro AZy _ AjL ⟨rfl, ACT⟩ Ew; have AH4 := ADB.step ACT; clear ACT AA4 ADB AZx
 refine s1 Ew (a_7 rfl Ew.e Ew.e) fun AZz SX => ?_; clear Ew AZy
 refine s1 SX (a_1 rfl SX.e) fun Agn AA5 => ?_; clear SX AZz
 exact n1 (c_5 (b_0 AA5 (.inl rfl) (a_2 AA5 rfl (.tmp rfl)) (⟨rfl, AH4.ext⟩)))
theorem HardOrder_ok (b : h_3) (vt vm : Value) (lr lb lk : Nat → Value) (w : World) (hT : l_1 w vt lr lb b.tabs) (hM : n_0 w vm lk b.macs) (l : List (Int × Int)) (xl : Value) (hxl : SlAt w xl 2 l.length (pairs l)) (wa : Int) (hA_ : 0 ≤ wa ∧ wa ≤ 255) (wb : Int) (hB_ : 0 ≤ wb ∧ wb ≤ 255) : Calls Try.prog 5 #[.agg #[.int .i64 b.scales, vt, vm], xl, .int .u8 wa, .int .u8 wb] w (Ret fun v w' => v = .bool true ∧ Ext NoB w w') := by
 rcases Bool.eq_false_or_eq_true (ab_6 b l) with hf | hf
 ·exact HardOrder_b b vt vm lr lb lk w hT hM l xl hxl wa wb hA_ hB_ hf
 exact HardOrder_a b vt vm lr lb lk w hT hM l xl hxl wa wb hA_ hB_ hf
end Go.Proofs.Ytohgladndklciaa
