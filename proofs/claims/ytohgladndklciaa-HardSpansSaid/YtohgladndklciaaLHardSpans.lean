/-
  Walks through the functions of the seat, printed by a program of ours (gowalk), a theorem a function: what the call returns and what it leaves in memory.
-/
import Derived.Test.YtohgladndklciaaBe
set_option linter.unusedSimpArgs false
set_option linter.unusedVariables false
namespace Go.Proofs.Ytohgladndklciaa
open Go.RowKit Go.Shelf Go.Eng Go.Hard
set_option maxHeartbeats 4000000 in
theorem HardSpans_a (b : h_6) (vt vm : Value) (lr lb lk : Nat → Value) (w : World) (hT : i_5 w vt lr lb b.tabs) (hM : j_6 w vm lk b.macs) (l : List (Int × Int)) (xl : Value) (hxl : SlAt w xl 2 l.length (pairs l)) (hf : y_2 b l.length = false) :
  Calls Try.prog 4 #[(Value.agg #[(Value.int .i64 b.scales), vt, vm]), xl] w (Ret fun v w' => v = .bool true ∧ Ext NoB w w') := by
 refine a_8 Try.func4 rfl fun R D => ?_
 replace D : Fr 76 [] [(0, (Value.agg #[(Value.int .i64 b.scales), vt, vm])), (1, xl)] R := D
 have O : Sep NoB w w [(d_8 false vt lr lb b.tabs), (e_6 false vm lk b.macs), (sl xl 2 l.length (pairs l))] := f_1 ⟨rfl, hT, rfl, hM, rfl, hxl, trivial⟩
 refine m2 ?_
 refine s2 D (f_0 O rfl (D.ev rfl) (cs := [(Value.int .i64 b.scales), vt, vm]) rfl) ?_
 rintro W _ e ⟨d, rfl, A⟩ N; clear D O R
 refine s1 N (a_0 rfl (evc _ _)) fun X I => ?_; clear N W
 refine n2 ?_
 refine m2 ?_
 refine s1 I (c_5 rfl aa_5 (I.ev rfl) (A.bk 0 rfl) (l := [(Value.int .i64 b.scales), vt, vm]) rfl rfl) fun Y J => ?_; clear I X
 refine s1 J (a_1 rfl (J.ev rfl)) fun S B => ?_; clear J Y
 refine s2 B (b_4 rfl en_16 (ev2 (B.ev rfl) (B.ev rfl)) (thin_ok b vt vm lr lb lk _ (c_1 (A.ok 1 _ rfl)) (c_8 (A.ok 2 _ rfl)) l _ (A.sk 3 rfl))) ?_
 rintro T _ a ⟨rfl, K⟩ C; have M := A.step K; clear K B A S
 have Q : (y_2 b l.length) = false := hf
 rw [Q] at C
 refine s1 C (f_6 rfl (C.ev rfl)) fun U E => ?_; clear C T
 refine n1 ?_
 refine c_3 E rfl ?_
 refine b_8 ?_
 have G := E.as [] rfl; clear E
 refine a_5 ?_
 refine s2 G (b_4 rfl en_17 ev0 (awake_ok _)) ?_
 rintro V _ c ⟨rfl, L⟩ F; have P := M.step L; clear L G M U
 refine s1 F (a_0 rfl (F.ev rfl)) fun Z H => ?_; clear F V
 refine n1 ?_
 refine c_9 ?_
 refine a_6 ?_
 refine a_9 H (.inl rfl) (a_4 H rfl (.tmp rfl)) ?_
 exact ⟨rfl, P.ext⟩
set_option maxHeartbeats 4000000 in
theorem HardSpans_b (b : h_6) (vt vm : Value) (lr lb lk : Nat → Value) (w : World) (hT : i_5 w vt lr lb b.tabs) (hM : j_6 w vm lk b.macs) (l : List (Int × Int)) (xl : Value) (hxl : SlAt w xl 2 l.length (pairs l)) (hf : y_2 b l.length = true) (hr : j_9 b l ≠ 0) :
  Calls Try.prog 4 #[(Value.agg #[(Value.int .i64 b.scales), vt, vm]), xl] w (Ret fun v w' => v = .bool true ∧ Ext NoB w w') := by
 refine a_8 Try.func4 rfl fun a0 P => ?_
 replace P : Fr 76 [] [(0, (Value.agg #[(Value.int .i64 b.scales), vt, vm])), (1, xl)] a0 := P
 have hthl := thin_iff.1 hf; have hth := hthl.1; have Ay := hthl.2; have htl9 := hth.tl; have hml9 := hth.ml
 have AH : Sep NoB w w [(d_8 false vt lr lb b.tabs), (e_6 false vm lk b.macs), (sl xl 2 l.length (pairs l))] := f_1 ⟨rfl, hT, rfl, hM, rfl, hxl, trivial⟩
 refine m2 ?_
 refine s2 P (f_0 AH rfl (P.ev rfl) (cs := [(Value.int .i64 b.scales), vt, vm]) rfl) ?_
 rintro a1 _ w3 ⟨b4, rfl, G⟩ AG; clear P AH a0
 refine s1 AG (a_0 rfl (evc _ _)) fun a6 u => ?_; clear AG a1
 refine n2 ?_
 refine m2 ?_
 refine s1 u (c_5 rfl aa_5 (u.ev rfl) (G.bk 0 rfl) (l := [(Value.int .i64 b.scales), vt, vm]) rfl rfl) fun a8 x => ?_; clear u a6
 refine s1 x (a_1 rfl (x.ev rfl)) fun AO I => ?_; clear x a8
 refine s2 I (b_4 rfl en_16 (ev2 (I.ev rfl) (I.ev rfl)) (thin_ok b vt vm lr lb lk _ (c_1 (G.ok 1 _ rfl)) (c_8 (G.ok 2 _ rfl)) l _ (G.sk 3 rfl))) ?_
 rintro AP _ A1 ⟨rfl, y⟩ J; have E := G.step y; clear y I G AO
 have AK : (y_2 b l.length) = true := hf
 rw [AK] at J
 refine s1 J (f_6 rfl (J.ev rfl)) fun AQ Q => ?_; clear J AP
 refine n1 ?_
 refine b_7 Q rfl ?_
 refine d_0 ?_
 refine b_0 ?_
 refine b_8 ?_
 have R := Q.as [(2, (bptr b4 0)), (1, xl)] rfl; clear Q
 refine a_5 ?_
 refine s1 R (c_5 rfl aa_5 (R.ev rfl) (E.bk 0 rfl) (l := [(Value.int .i64 b.scales), vt, vm]) rfl rfl) fun AR S => ?_; clear R AQ
 refine s2 S (b_4 rfl en_19 (ev1 (S.ev rfl)) (Book_ok b vt vm lr lb lk _ (c_1 (E.ok 1 _ rfl)) (c_8 (E.ok 2 _ rfl)) hth)) ?_
 rintro AS _ A2 ⟨vt26, vm27, lr28, lb29, lk30, rfl, AD⟩ T; have o := E.w_7 AD rfl; clear AD S E AR
 refine s1 T (a_1 rfl (T.ev rfl)) fun AT U => ?_; clear T AS
 refine s2 U (b_4 rfl en_26 (ev1 (U.ev rfl)) (Readings_ok l _ _ (o.sk 5 rfl) (by omega))) ?_
 rintro AU A0 A3 ⟨z, hO39⟩ K; have F := o.new_row z hO39; clear z hO39 U o AT
 refine s2 K (b_4 rfl en_25 (ev2 (K.ev rfl) (K.ev rfl)) (Spans_bad b vt26 vm27 lr28 lb29 lk30 _ (c_1 (F.ok 1 _ rfl)) (c_8 (F.ok 2 _ rfl)) hth l _ (SlAt.d_7 (F.e_2 0 rfl)) (by omega) hr)) ?_
 rintro AV _ A4 ⟨rfl, AA⟩ V; have A := F.step AA; clear AA K F AU
 refine s1 V (a_1 rfl (V.ev rfl)) fun AW W => ?_; clear V AV
 refine s1 W (d_9 rfl (W.ev rfl) rfl) fun AX X => ?_; clear W AW
 refine s1 X (d_9 rfl (X.ev rfl) rfl) fun AY Y => ?_; clear X AX
 refine s1 Y (a_0 rfl (Y.ev rfl)) fun AZ Z => ?_; clear Y AY
 refine s1 Z (a_0 rfl (Z.ev rfl)) fun Aa s => ?_; clear Z AZ
 refine n2 ?_
 have a := s.as [(6, (Value.int .i64 (spE b l))), (5, (Value.slice none 0 0)), (2, (bptr b4 0)), (1, xl)] rfl; clear s
 refine a_5 ?_
 refine s1 a (c_5 rfl aa_5 (a.ev rfl) (A.bk 3 rfl) (l := [(Value.int .i64 b.scales), vt, vm]) rfl rfl) fun Ab c => ?_; clear a Aa
 refine s1 c (a_1 rfl (c.ev rfl)) fun Ac L => ?_; clear c Ab
 refine s2 L (b_4 rfl en_27 (ev2 (L.ev rfl) (L.ev rfl)) (fault_ok b vt vm lr lb lk _ (c_1 (A.ok 4 _ rfl)) (c_8 (A.ok 5 _ rfl)) hth l _ (A.sk 6 rfl) (by omega))) ?_
 rintro Ad _ A5 ⟨rfl, AB⟩ d; have AC := A.step AB; clear AB L A Ac
 refine s1 d (a_0 rfl (d.ev rfl)) fun Ae t => ?_; clear d Ad
 refine n4 ?_
 refine s1 t (a_0 rfl (evc _ _)) fun Af e => ?_; clear t Ae
 refine n2 ?_
 refine m2 ?_
 refine s1 e (a_1 rfl (e.ev rfl)) fun Ag f => ?_; clear e Af
 refine s1 f (n_7 rfl (f.ev rfl) (evc _ _)) fun Ah M => ?_; clear f Ag
 have AE : ¬ ((j_9 b l) = 0) := hr
 rw [decide_eq_false AE] at M
 refine n1 ?_
 refine b_7 M rfl ?_
 refine d_0 ?_
 refine b_0 ?_
 refine b_8 ?_
 refine b_8 ?_
 have g := M.as [(8, (Value.slice none 0 0)), (7, (Value.int .i64 (j_9 b l))), (6, (Value.int .i64 (spE b l))), (5, (Value.slice none 0 0))] rfl; clear M
 refine a_5 ?_
 refine s1 g (a_1 rfl (g.ev rfl)) fun Ai h => ?_; clear g Ah
 refine s1 h (t_2 rfl (h.ev rfl) (evc _ _)) fun Aj C => ?_; clear h Ai
 rw [decide_eq_false AE] at C
 refine n1 ?_
 refine c_3 C rfl ?_
 refine m2 ?_
 refine s1 C (a_1 rfl (C.ev rfl)) fun Ak i => ?_; clear C Aj
 refine s1 i (a_1 rfl (i.ev rfl)) fun Al N => ?_; clear i Ak
 refine s1 N (n_7 rfl (N.ev rfl) (N.ev rfl)) fun Am O => ?_; clear N Al
 have AL : (spE b l) = (j_9 b l) := (spE_r hr)
 rw [decide_eq_true AL] at O
 refine s1 O (a_1 rfl (O.ev rfl)) fun An j => ?_; clear O Am
 refine s5 j (a_1 rfl (j.ev rfl)) fun Ao k => ?_; clear j An
 refine s5 k (op_len rfl aa_9 (k.ev rfl)) fun Ap m => ?_; clear k Ao
 refine s5 m (n_7 rfl (m.ev rfl) (evc _ _)) fun Aq D => ?_; clear m Ap
 have AM : ((0 : Nat) : Int) = 0 := rfl
 rw [decide_eq_true AM] at D
 refine s1 D (b_9 rfl (D.ev rfl) (D.ev rfl)) fun Ar n => ?_; clear D Aq
 refine s1 n (a_1 rfl (n.ev rfl)) fun As p => ?_; clear n Ar
 refine s6 p (b_4 rfl en_17 ev0 (awake_ok _)) ?_
 rintro AI _ Az ⟨rfl, r⟩ B; have AF := AC.step r; clear r p AC As
 refine s1 B (b_9 rfl (B.ev rfl) (B.ev rfl)) fun AJ H => ?_; clear B AI
 refine s1 H (a_0 rfl (H.ev rfl)) fun Av q => ?_; clear H AJ
 refine n1 ?_
 refine c_9 ?_
 refine a_6 ?_
 refine a_9 q (.inl rfl) (a_4 q rfl (.tmp rfl)) ?_
 exact ⟨rfl, AF.ext⟩
set_option maxHeartbeats 4000000 in
theorem HardSpans_c (b : h_6) (vt vm : Value) (lr lb lk : Nat → Value) (w : World) (hT : i_5 w vt lr lb b.tabs) (hM : j_6 w vm lk b.macs) (l : List (Int × Int)) (xl : Value) (hxl : SlAt w xl 2 l.length (pairs l)) (hf : y_2 b l.length = true) (hr : j_9 b l = 0) (hs : k_8 b l = none) :
  Calls Try.prog 4 #[(Value.agg #[(Value.int .i64 b.scales), vt, vm]), xl] w (Ret fun v w' => v = .bool true ∧ Ext NoB w w') := by
 refine a_8 Try.func4 rfl fun a0 c => ?_
 replace c : Fr 76 [] [(0, (Value.agg #[(Value.int .i64 b.scales), vt, vm])), (1, xl)] a0 := c
 have hthl := thin_iff.1 hf; have hth := hthl.1; have BQ := hthl.2; have htl9 := hth.tl; have hml9 := hth.ml; have hc := read_check hr; have hbl := read_ok hr; have hb := hbl.1; have hl := hbl.2; have BS := hb.scales
 have AY : Sep NoB w w [(d_8 false vt lr lb b.tabs), (e_6 false vm lk b.macs), (sl xl 2 l.length (pairs l))] := f_1 ⟨rfl, hT, rfl, hM, rfl, hxl, trivial⟩
 refine m2 ?_
 refine s2 c (f_0 AY rfl (c.ev rfl) (cs := [(Value.int .i64 b.scales), vt, vm]) rfl) ?_
 rintro a1 _ w3 ⟨b4, rfl, I⟩ AX; clear c AY a0
 refine s1 AX (a_0 rfl (evc _ _)) fun a6 AJ => ?_; clear AX a1
 refine n2 ?_
 refine m2 ?_
 refine s1 AJ (c_5 rfl aa_5 (AJ.ev rfl) (I.bk 0 rfl) (l := [(Value.int .i64 b.scales), vt, vm]) rfl rfl) fun a8 AL => ?_; clear AJ a6
 refine s1 AL (a_1 rfl (AL.ev rfl)) fun As P => ?_; clear AL a8
 refine s2 P (b_4 rfl en_16 (ev2 (P.ev rfl) (P.ev rfl)) (thin_ok b vt vm lr lb lk _ (c_1 (I.ok 1 _ rfl)) (c_8 (I.ok 2 _ rfl)) l _ (I.sk 3 rfl))) ?_
 rintro At _ BU ⟨rfl, AN⟩ V; have G := I.step AN; clear AN P I As
 have Ap : (y_2 b l.length) = true := hf
 rw [Ap] at V
 refine s1 V (f_6 rfl (V.ev rfl)) fun Au d => ?_; clear V At
 refine n1 ?_
 refine b_7 d rfl ?_
 refine d_0 ?_
 refine b_0 ?_
 refine b_8 ?_
 have e := d.as [(2, (bptr b4 0)), (1, xl)] rfl; clear d
 refine a_5 ?_
 refine s1 e (c_5 rfl aa_5 (e.ev rfl) (G.bk 0 rfl) (l := [(Value.int .i64 b.scales), vt, vm]) rfl rfl) fun Av f => ?_; clear e Au
 refine s2 f (b_4 rfl en_19 (ev1 (f.ev rfl)) (Book_ok b vt vm lr lb lk _ (c_1 (G.ok 1 _ rfl)) (c_8 (G.ok 2 _ rfl)) hth)) ?_
 rintro Aw _ BV ⟨vt26, vm27, lr28, lb29, lk30, rfl, AT⟩ g; have AD := G.w_7 AT rfl; clear AT f G Av
 refine s1 g (a_1 rfl (g.ev rfl)) fun Ax h => ?_; clear g Aw
 refine s2 h (b_4 rfl en_26 (ev1 (h.ev rfl)) (Readings_ok l _ _ (AD.sk 5 rfl) (by omega))) ?_
 rintro Ay BT BW ⟨AO, hO39⟩ X; have H := AD.new_row AO hO39; clear AO hO39 h AD Ax
 refine s2 X (b_4 rfl en_25 (ev2 (X.ev rfl) (X.ev rfl)) (Spans_none b vt26 vm27 lr28 lb29 lk30 _ (c_1 (H.ok 1 _ rfl)) (c_8 (H.ok 2 _ rfl)) hth l _ (SlAt.d_7 (H.e_2 0 rfl)) (by omega) hr hs)) ?_
 rintro Az _ BX ⟨rfl, AP⟩ i; have B := H.step AP; clear AP X H Ay
 refine s1 i (a_1 rfl (i.ev rfl)) fun A0 j => ?_; clear i Az
 refine s1 j (d_9 rfl (j.ev rfl) rfl) fun A1 k => ?_; clear j A0
 refine s1 k (d_9 rfl (k.ev rfl) rfl) fun A2 m => ?_; clear k A1
 refine s1 m (a_0 rfl (m.ev rfl)) fun A3 n => ?_; clear m A2
 refine s1 n (a_0 rfl (n.ev rfl)) fun A4 AH => ?_; clear n A3
 refine n2 ?_
 have o := AH.as [(6, (Value.int .i64 (spE b l))), (5, (Value.slice none 0 0)), (2, (bptr b4 0)), (1, xl)] rfl; clear AH
 refine a_5 ?_
 refine s1 o (c_5 rfl aa_5 (o.ev rfl) (B.bk 3 rfl) (l := [(Value.int .i64 b.scales), vt, vm]) rfl rfl) fun A5 p => ?_; clear o A4
 refine s1 p (a_1 rfl (p.ev rfl)) fun A6 Y => ?_; clear p A5
 refine s2 Y (b_4 rfl en_27 (ev2 (Y.ev rfl) (Y.ev rfl)) (fault_ok b vt vm lr lb lk _ (c_1 (B.ok 4 _ rfl)) (c_8 (B.ok 5 _ rfl)) hth l _ (B.sk 6 rfl) (by omega))) ?_
 rintro A7 _ BY ⟨rfl, AQ⟩ q; have C := B.step AQ; clear AQ Y B A6
 refine s1 q (a_0 rfl (q.ev rfl)) fun A8 AI => ?_; clear q A7
 refine n4 ?_
 refine s1 AI (a_0 rfl (evc _ _)) fun A9 r => ?_; clear AI A8
 refine n2 ?_
 refine m2 ?_
 refine s1 r (a_1 rfl (r.ev rfl)) fun BA s => ?_; clear r A9
 refine s1 s (n_7 rfl (s.ev rfl) (evc _ _)) fun BB Z => ?_; clear s BA
 have Aq : (j_9 b l) = 0 := hr
 rw [decide_eq_true Aq] at Z
 refine n1 ?_
 refine c_3 Z rfl ?_
 refine b_8 ?_
 have AK := Z.as [(7, (Value.int .i64 (j_9 b l))), (6, (Value.int .i64 (spE b l))), (5, (Value.slice none 0 0)), (2, (bptr b4 0)), (1, xl)] rfl; clear Z
 refine a_5 ?_
 refine s1 AK (a_0 rfl (evc _ _)) fun BC t => ?_; clear AK BB
 refine n4 ?_
 refine s1 t (c_5 rfl aa_5 (t.ev rfl) (C.bk 3 rfl) (l := [(Value.int .i64 b.scales), vt, vm]) rfl rfl) fun BD u => ?_; clear t BC
 refine s1 u (a_1 rfl (u.ev rfl)) fun BE a => ?_; clear u BD
 refine s2 a (b_4 rfl en_28 (ev2 (a.ev rfl) (a.ev rfl)) (rspans_none b vt vm lr lb lk _ (c_1 (C.ok 4 _ rfl)) (c_8 (C.ok 5 _ rfl)) hth hb l _ (C.sk 6 rfl) hl hs)) ?_
 rintro BF _ BZ ⟨rfl, AR⟩ x; have AS := C.step AR; clear AR a C BE
 refine s1 x (a_1 rfl (x.ev rfl)) fun BG y => ?_; clear x BF
 refine s1 y (d_9 rfl (y.ev rfl) rfl) fun BH z => ?_; clear y BG
 refine s1 z (d_9 rfl (z.ev rfl) rfl) fun BI AA => ?_; clear z BH
 refine s1 AA (a_0 rfl (AA.ev rfl)) fun BJ AB => ?_; clear AA BI
 refine s1 AB (a_0 rfl (AB.ev rfl)) fun BK AM => ?_; clear AB BJ
 refine n2 ?_
 have AC := AM.as [(9, (Value.bool false)), (8, (Value.slice none 0 0)), (7, (Value.int .i64 (j_9 b l))), (6, (Value.int .i64 (spE b l))), (5, (Value.slice none 0 0))] rfl; clear AM
 refine a_5 ?_
 refine s1 AC (a_1 rfl (AC.ev rfl)) fun BL J => ?_; clear AC BK
 refine s1 J (f_6 rfl (J.ev rfl)) fun AZ K => ?_; clear J BL
 refine n1 ?_
 refine c_3 K rfl ?_
 refine a_5 ?_
 refine s1 K (a_0 rfl (evc _ _)) fun Aa L => ?_; clear K AZ
 refine n2 ?_
 refine m2 ?_
 refine s1 L (a_1 rfl (L.ev rfl)) fun Ab M => ?_; clear L Aa
 refine s1 M (t_2 rfl (M.ev rfl) (evc _ _)) fun Ac N => ?_; clear M Ab
 refine n1 ?_
 refine c_3 N rfl ?_
 refine b_8 ?_
 have O := N.as [(7, (Value.int .i64 9)), (6, (Value.int .i64 (spE b l))), (5, (Value.slice none 0 0))] rfl; clear N
 refine a_5 ?_
 refine s1 O (a_1 rfl (O.ev rfl)) fun Ad Q => ?_; clear O Ac
 refine s1 Q (a_1 rfl (Q.ev rfl)) fun Ae D => ?_; clear Q Ad
 refine s1 D (n_7 rfl (D.ev rfl) (D.ev rfl)) fun Af E => ?_; clear D Ae
 have AV : (spE b l) = 9 := (spE_9 hr hs)
 rw [decide_eq_true AV] at E
 refine s1 E (a_1 rfl (E.ev rfl)) fun Ag R => ?_; clear E Af
 refine s5 R (a_1 rfl (R.ev rfl)) fun Ah S => ?_; clear R Ag
 refine s5 S (op_len rfl aa_9 (S.ev rfl)) fun Ai T => ?_; clear S Ah
 refine s5 T (n_7 rfl (T.ev rfl) (evc _ _)) fun Aj A => ?_; clear T Ai
 have AW : ((0 : Nat) : Int) = 0 := rfl
 rw [decide_eq_true AW] at A
 refine s1 A (b_9 rfl (A.ev rfl) (A.ev rfl)) fun Ak U => ?_; clear A Aj
 refine s1 U (a_1 rfl (U.ev rfl)) fun Al AE => ?_; clear U Ak
 refine s6 AE (b_4 rfl en_17 ev0 (awake_ok _)) ?_
 rintro Am _ BR ⟨rfl, AG⟩ F; have AU := AS.step AG; clear AG AE AS Al
 refine s1 F (b_9 rfl (F.ev rfl) (F.ev rfl)) fun An W => ?_; clear F Am
 refine s1 W (a_0 rfl (W.ev rfl)) fun BN AF => ?_; clear W An
 refine n1 ?_
 refine c_9 ?_
 refine a_6 ?_
 refine a_9 AF (.inl rfl) (a_4 AF rfl (.tmp rfl)) ?_
 exact ⟨rfl, AU.ext⟩
set_option maxHeartbeats 4000000 in
theorem HardSpans_d (b : h_6) (vt vm : Value) (lr lb lk : Nat → Value) (w : World) (hT : i_5 w vt lr lb b.tabs) (hM : j_6 w vm lk b.macs) (l : List (Int × Int)) (xl : Value) (hxl : SlAt w xl 2 l.length (pairs l)) (hf : y_2 b l.length = true) (t : g_6) (hr : j_9 b l = 0) (hs : k_8 b l = some t) :
  Calls Try.prog 4 #[(Value.agg #[(Value.int .i64 b.scales), vt, vm]), xl] w (Ret fun v w' => v = .bool true ∧ Ext NoB w w') := by
 refine a_8 Try.func4 rfl fun a0 y => ?_
 replace y : Fr 76 [] [(0, (Value.agg #[(Value.int .i64 b.scales), vt, vm])), (1, xl)] a0 := y
 have hthl := thin_iff.1 hf; have hth := hthl.1; have B4 := hthl.2; have htl9 := hth.tl; have hml9 := hth.ml; have hc := read_check hr; have hbl := read_ok hr; have hb := hbl.1; have hl := hbl.2; have B8 := hb.scales; have htln := spans_len hb hl hs
 have A2 : Sep NoB w w [(d_8 false vt lr lb b.tabs), (e_6 false vm lk b.macs), (sl xl 2 l.length (pairs l))] := f_1 ⟨rfl, hT, rfl, hM, rfl, hxl, trivial⟩
 refine m2 ?_
 refine s2 y (f_0 A2 rfl (y.ev rfl) (cs := [(Value.int .i64 b.scales), vt, vm]) rfl) ?_
 rintro a1 _ w3 ⟨b4, rfl, Q⟩ A1; clear y A2 a0
 refine s1 A1 (a_0 rfl (evc _ _)) fun a6 Ak => ?_; clear A1 a1
 refine n2 ?_
 refine m2 ?_
 refine s1 Ak (c_5 rfl aa_5 (Ak.ev rfl) (Q.bk 0 rfl) (l := [(Value.int .i64 b.scales), vt, vm]) rfl rfl) fun a8 Am => ?_; clear Ak a6
 refine s1 Am (a_1 rfl (Am.ev rfl)) fun BT V => ?_; clear Am a8
 refine s2 V (b_4 rfl en_16 (ev2 (V.ev rfl) (V.ev rfl)) (thin_ok b vt vm lr lb lk _ (c_1 (Q.ok 1 _ rfl)) (c_8 (Q.ok 2 _ rfl)) l _ (Q.sk 3 rfl))) ?_
 rintro BU _ B9 ⟨rfl, Ao⟩ f; have O := Q.step Ao; clear Ao V Q BT
 have BR : (y_2 b l.length) = true := hf
 rw [BR] at f
 refine s1 f (f_6 rfl (f.ev rfl)) fun BV z => ?_; clear f BU
 refine n1 ?_
 refine b_7 z rfl ?_
 refine d_0 ?_
 refine b_0 ?_
 refine b_8 ?_
 have AA := z.as [(2, (bptr b4 0)), (1, xl)] rfl; clear z
 refine a_5 ?_
 refine s1 AA (c_5 rfl aa_5 (AA.ev rfl) (O.bk 0 rfl) (l := [(Value.int .i64 b.scales), vt, vm]) rfl rfl) fun BW AB => ?_; clear AA BV
 refine s2 AB (b_4 rfl en_19 (ev1 (AB.ev rfl)) (Book_ok b vt vm lr lb lk _ (c_1 (O.ok 1 _ rfl)) (c_8 (O.ok 2 _ rfl)) hth)) ?_
 rintro BX _ CA ⟨vt26, vm27, lr28, lb29, lk30, rfl, Ar⟩ AC; have AV := O.w_7 Ar rfl; clear Ar AB O BW
 refine s1 AC (a_1 rfl (AC.ev rfl)) fun BY AD => ?_; clear AC BX
 refine s2 AD (b_4 rfl en_26 (ev1 (AD.ev rfl)) (Readings_ok l _ _ (AV.sk 5 rfl) (by omega))) ?_
 rintro BZ Av CB ⟨Ap, hO39⟩ p; have P := AV.new_row Ap hO39; clear Ap hO39 AD AV BY
 refine s2 p (b_4 rfl en_25 (ev2 (p.ev rfl) (p.ev rfl)) (Spans_ok b vt26 vm27 lr28 lb29 lk30 _ (c_1 (P.ok 1 _ rfl)) (c_8 (P.ok 2 _ rfl)) hth l _ (SlAt.d_7 (P.e_2 0 rfl)) (by omega) t hr hs)) ?_
 rintro Ba _ Bw ⟨B, rfl, As⟩ AE
 have H : Sep NoB w Bw [(row B 30 2 t.length (pairs t)), (row Av 98 2 l.length (pairs l)), (d_8 true vt26 lr28 lb29 b.tabs), (e_6 true vm27 lk30 b.macs), (blk b4 25 [(Value.int .i64 b.scales), vt, vm]), (d_8 false vt lr lb b.tabs), (e_6 false vm lk b.macs), (sl xl 2 l.length (pairs l))] := P.w_7 As rfl; clear As p P BZ
 refine s1 AE (a_1 rfl (AE.ev rfl)) fun Bb AF => ?_; clear AE Ba
 refine s1 AF (d_9 rfl (AF.ev rfl) rfl) fun Bc AG => ?_; clear AF Bb
 refine s1 AG (d_9 rfl (AG.ev rfl) rfl) fun Bd AH => ?_; clear AG Bc
 refine s1 AH (a_0 rfl (AH.ev rfl)) fun Be AI => ?_; clear AH Bd
 refine s1 AI (a_0 rfl (AI.ev rfl)) fun Bf Ai => ?_; clear AI Be
 refine n2 ?_
 have AJ := Ai.as [(6, (Value.int .i64 0)), (5, B), (2, (bptr b4 0)), (1, xl)] rfl; clear Ai
 refine a_5 ?_
 refine s1 AJ (c_5 rfl aa_5 (AJ.ev rfl) (H.bk 4 rfl) (l := [(Value.int .i64 b.scales), vt, vm]) rfl rfl) fun Bg AK => ?_; clear AJ Bf
 refine s1 AK (a_1 rfl (AK.ev rfl)) fun Bh q => ?_; clear AK Bg
 refine s2 q (b_4 rfl en_27 (ev2 (q.ev rfl) (q.ev rfl)) (fault_ok b vt vm lr lb lk _ (c_1 (H.ok 5 _ rfl)) (c_8 (H.ok 6 _ rfl)) hth l _ (H.sk 7 rfl) (by omega))) ?_
 rintro Bi _ CC ⟨rfl, Aq⟩ AL; have I := H.step Aq; clear Aq q H Bh
 refine s1 AL (a_0 rfl (AL.ev rfl)) fun Bj Aj => ?_; clear AL Bi
 refine n4 ?_
 refine s1 Aj (a_0 rfl (evc _ _)) fun Bk AM => ?_; clear Aj Bj
 refine n2 ?_
 refine m2 ?_
 refine s1 AM (a_1 rfl (AM.ev rfl)) fun Bl AN => ?_; clear AM Bk
 refine s1 AN (n_7 rfl (AN.ev rfl) (evc _ _)) fun Bm r => ?_; clear AN Bl
 have Au : (j_9 b l) = 0 := hr
 rw [decide_eq_true Au] at r
 refine n1 ?_
 refine c_3 r rfl ?_
 refine b_8 ?_
 have Al := r.as [(7, (Value.int .i64 (j_9 b l))), (6, (Value.int .i64 0)), (5, B), (2, (bptr b4 0)), (1, xl)] rfl; clear r
 refine a_5 ?_
 refine s1 Al (a_0 rfl (evc _ _)) fun Bn AO => ?_; clear Al Bm
 refine n4 ?_
 refine s1 AO (c_5 rfl aa_5 (AO.ev rfl) (I.bk 4 rfl) (l := [(Value.int .i64 b.scales), vt, vm]) rfl rfl) fun Bo AP => ?_; clear AO Bn
 refine s1 AP (a_1 rfl (AP.ev rfl)) fun Bp s => ?_; clear AP Bo
 refine s2 s (b_4 rfl en_28 (ev2 (s.ev rfl) (s.ev rfl)) (rspans_some b vt vm lr lb lk _ (c_1 (I.ok 5 _ rfl)) (c_8 (I.ok 6 _ rfl)) hth hb l _ (I.sk 7 rfl) hl hs)) ?_
 rintro Bq _ Bx ⟨C, rfl, At⟩ AQ
 have x : Sep NoB w Bx [(row C 27 2 t.length (pairs t)), (row B 30 2 t.length (pairs t)), (row Av 98 2 l.length (pairs l)), (d_8 true vt26 lr28 lb29 b.tabs), (e_6 true vm27 lk30 b.macs), (blk b4 25 [(Value.int .i64 b.scales), vt, vm]), (d_8 false vt lr lb b.tabs), (e_6 false vm lk b.macs), (sl xl 2 l.length (pairs l))] := I.w_7 At rfl; clear At s I Bp
 refine s1 AQ (a_1 rfl (AQ.ev rfl)) fun Br AR => ?_; clear AQ Bq
 refine s1 AR (d_9 rfl (AR.ev rfl) rfl) fun Bs AS => ?_; clear AR Br
 refine s1 AS (d_9 rfl (AS.ev rfl) rfl) fun Bt AT => ?_; clear AS Bs
 refine s1 AT (a_0 rfl (AT.ev rfl)) fun Bu AU => ?_; clear AT Bt
 refine s1 AU (a_0 rfl (AU.ev rfl)) fun Bv An => ?_; clear AU Bu
 refine n2 ?_
 have R := An.as [(9, (Value.bool true)), (8, C), (7, (Value.int .i64 (j_9 b l))), (6, (Value.int .i64 0)), (5, B)] rfl; clear An
 refine a_5 ?_
 refine s1 R (a_1 rfl (R.ev rfl)) fun A3 S => ?_; clear R Bv
 refine s1 S (f_6 rfl (S.ev rfl)) fun A4 J => ?_; clear S A3
 refine n1 ?_
 refine b_7 J rfl ?_
 refine d_0 ?_
 refine b_0 ?_
 refine b_8 ?_
 refine m2 ?_
 refine s1 J (a_1 rfl (J.ev rfl)) fun A5 T => ?_; clear J A4
 refine s1 T (t_2 rfl (T.ev rfl) (evc _ _)) fun A6 K => ?_; clear T A5
 rw [decide_eq_true Au] at K
 refine n1 ?_
 refine b_7 K rfl ?_
 refine d_0 ?_
 refine b_0 ?_
 refine b_8 ?_
 refine b_8 ?_
 have U := K.as [(8, C), (6, (Value.int .i64 0)), (5, B)] rfl; clear K
 refine a_5 ?_
 refine s1 U (a_1 rfl (U.ev rfl)) fun A7 W => ?_; clear U A6
 refine s1 W (t_2 rfl (W.ev rfl) (evc _ _)) fun A8 X => ?_; clear W A7
 refine s1 X (a_1 rfl (X.ev rfl)) fun A9 Y => ?_; clear X A8
 refine s5 Y (a_1 rfl (Y.ev rfl)) fun BA Z => ?_; clear Y A9
 refine s5 Z (d_6 rfl aa_9 (Z.ev rfl) (SlAt.d_7 (x.e_2 1 rfl))) fun BB c => ?_; clear Z BA
 refine s5 c (a_1 rfl (c.ev rfl)) fun BC d => ?_; clear c BB
 refine s5 d (d_6 rfl t_8 (d.ev rfl) (SlAt.d_7 (x.e_2 0 rfl))) fun BD L => ?_; clear d BC
 refine s5 L (t_2 rfl (L.ev rfl) (L.ev rfl)) fun BE D => ?_; clear L BD
 have Az : (t.length : Int) = (t.length : Int) := rfl
 rw [decide_eq_true Az] at D
 refine s1 D (d_3 rfl (D.ev rfl) (D.ev rfl)) fun BF e => ?_; clear D BE
 refine n1 ?_
 refine b_7 e rfl ?_
 refine d_0 ?_
 refine b_0 ?_
 refine b_8 ?_
 refine b_8 ?_
 have AW := e.as [(8, C), (5, B)] rfl; clear e
 refine a_5 ?_
 refine s1 AW (a_0 rfl (evc _ _)) fun BG AX => ?_; clear AW BF
 refine n1 ?_
 refine c_7 ?_
 have AY := AX.as [(10, (Value.int .i64 0)), (8, C), (5, B)] rfl; clear AX
 refine h_3 (G := Nat) (fun (k : Nat) a_ w_ => Fr 76 [] [(10, (Value.int .i64 (k : Int))), (8, C), (5, B)] a_ ∧ Sep NoB w w_ [(row C 27 2 t.length (pairs t)), (row B 30 2 t.length (pairs t)), (row Av 98 2 l.length (pairs l)), (d_8 true vt26 lr28 lb29 b.tabs), (e_6 true vm27 lk30 b.macs), (blk b4 25 [(Value.int .i64 b.scales), vt, vm]), (d_8 false vt lr lb b.tabs), (e_6 false vm lk b.macs), (sl xl 2 l.length (pairs l))] ∧ (k ≤ t.length)) (fun k => t.length - k) 0 ⟨AY.as _ rfl, x, by omega⟩ ?_
 clear AY x BG
 rintro k BH B5 ⟨g, F, hkk⟩
 refine b_8 ?_
 refine m2 ?_
 refine s1 g (a_1 rfl (g.ev rfl)) fun BI h => ?_; clear g BH
 refine s1 h (a_1 rfl (h.ev rfl)) fun BJ j => ?_; clear h BI
 refine s1 j (d_6 rfl aa_9 (j.ev rfl) (SlAt.d_7 (F.e_2 1 rfl))) fun BK M => ?_; clear j BJ
 refine s1 M (f_8 rfl (M.ev rfl) (M.ev rfl)) fun BL A => ?_; clear M BK
 refine n1 ?_
 by_cases Af : (k : Int) < (t.length : Int)
 ·skip
  rw [decide_eq_true Af] at A
  refine c_3 A rfl ?_
  refine d_0 ?_
  refine b_0 ?_
  refine b_8 ?_
  refine c_7 ?_
  refine b_8 ?_
  have AZ := A.as [(10, (Value.int .i64 (k : Int))), (8, C), (5, B)] rfl; clear A
  refine g_3 mixed AZ F 9 [[], [], [0, 1], [2], [], [], [4, 5], [6], [7]] [(Yd.val B), (Yd.val (Value.int .i64 (k : Int))), (Yd.val (eptr B (k * 2))), (Yd.val (Value.agg #[(Value.int .i64 ((t.getD k (0, 0)).1)), (Value.int .i64 ((t.getD k (0, 0)).2))])), (Yd.val C), (Yd.val (Value.int .i64 (k : Int))), (Yd.val (eptr C (k * 2))), (Yd.val (Value.agg #[(Value.int .i64 ((t.getD k (0, 0)).1)), (Value.int .i64 ((t.getD k (0, 0)).2))])), (Yd.val (Value.agg #[(Value.int .i64 ((t.getD k (0, 0)).1)), (Value.int .i64 ((t.getD k (0, 0)).2))]))] (by decide +kernel) rfl rfl ?_ ?_
  ·skip
   refine dq (fun a w hA hS hd => a_1 rfl (hA.ev rfl)) ?_
   refine dq (fun a w hA hS hd => a_1 rfl (hA.ev rfl)) ?_
   refine dq (fun a w hA hS hd => b_3 rfl aa_9 g_7 (hq hd 0) (i := k) (hq hd 1) (SlAt.d_7 (hS.e_2 1 rfl)) (by decide) (by omega)) ?_
   refine dq (fun a w hA hS hd => e_7 rfl g_7 (hq hd 2) (SlAt.d_7 (hS.e_2 1 rfl)) (g_9 (by omega)) rfl (by decide)) ?_
   refine dq (fun a w hA hS hd => a_1 rfl (hA.ev rfl)) ?_
   refine dq (fun a w hA hS hd => a_1 rfl (hA.ev rfl)) ?_
   refine dq (fun a w hA hS hd => b_3 rfl t_8 j_5 (hq hd 4) (i := k) (hq hd 5) (SlAt.d_7 (hS.e_2 0 rfl)) (by decide) (by omega)) ?_
   refine dq (fun a w hA hS hd => e_7 rfl j_5 (hq hd 6) (SlAt.d_7 (hS.e_2 0 rfl)) (g_9 (by omega)) rfl (by decide)) ?_
   refine ⟨fun a w hA hS hd => by have e7 := hx hd 7; exact b_1 rfl (dx (b_4 rfl en_20 (ev1 (a_7 e7)) (to_ok _ _ _)) hS (fun _ => rfl)), ?_⟩
   trivial
  intro BM B6 Aa Ax u; clear AZ F
  have Ab := Aa.add (hz u 3); clear Aa
  have N := Ab.add (hz u 8); clear Ab
  clear u
  refine s1 N (op_neqP tw_30 rfl (N.ev rfl) (N.ev rfl)) fun BN E => ?_; clear N BM
  have Ag : (decide ((((t.getD k (0, 0)).1) : Int) = ((t.getD k (0, 0)).1)) && decide ((((t.getD k (0, 0)).2) : Int) = ((t.getD k (0, 0)).2))) = true := by simp only [decide_true, Bool.and_self]
  rw [Ag] at E
  have A0 := Ag; simp only [Bool.and_eq_true, Bool.and_eq_false_iff, decide_eq_true_eq, decide_eq_false_iff_not] at A0
  refine n1 ?_
  refine b_7 E rfl ?_
  refine d_0 ?_
  refine h_0 ?_
  refine b_0 ?_
  refine a_5 ?_
  refine s1 E (a_1 rfl (E.ev rfl)) fun BO m => ?_; clear E BN
  refine s1 m (f_4 rfl (m.ev rfl) (evc _ _) (by omega) (by omega)) fun BP n => ?_; clear m BO
  refine s1 n (a_0 rfl (n.ev rfl)) fun Bz Aw => ?_; clear n BP
  refine e_9 ?_
  exact b_0 ⟨k + 1, ⟨Aw.as _ rfl, Ax, by omega⟩, by omega⟩
 skip
 rw [decide_eq_false Af] at A
 refine b_7 A rfl ?_
 refine g_8 ?_
 refine b_6 ?_
 refine b_6 ?_
 refine f_5 ?_
 refine b_0 ?_
 refine b_8 ?_
 have Ac := A.as [] rfl; clear A
 refine a_5 ?_
 refine s2 Ac (b_4 rfl en_17 ev0 (awake_ok _)) ?_
 rintro BQ _ B7 ⟨rfl, Ae⟩ o; have Ay := F.step Ae; clear Ae Ac F BL
 refine s1 o (a_0 rfl (o.ev rfl)) fun B0 Ad => ?_; clear o BQ
 refine n1 ?_
 refine c_9 ?_
 refine a_9 Ad (.inl rfl) (a_4 Ad rfl (.tmp rfl)) ?_
 exact ⟨rfl, Ay.ext⟩
theorem HardSpans_ok (b : h_6) (vt vm : Value) (lr lb lk : Nat → Value) (w : World) (hT : i_5 w vt lr lb b.tabs) (hM : j_6 w vm lk b.macs) (l : List (Int × Int)) (xl : Value) (hxl : SlAt w xl 2 l.length (pairs l)) : Calls Try.prog 4 #[.agg #[.int .i64 b.scales, vt, vm], xl] w (Ret fun v w' => v = .bool true ∧ Ext NoB w w') := by
 rcases Bool.eq_false_or_eq_true (y_2 b l.length) with hf | hf
 ·by_cases hr : j_9 b l = 0
  ·cases hs : k_8 b l with
   | none => exact HardSpans_c b vt vm lr lb lk w hT hM l xl hxl hf hr hs
   | some t => exact HardSpans_d b vt vm lr lb lk w hT hM l xl hxl hf t hr hs
  exact HardSpans_b b vt vm lr lb lk w hT hM l xl hxl hf hr
 exact HardSpans_a b vt vm lr lb lk w hT hM l xl hxl hf
end Go.Proofs.Ytohgladndklciaa
