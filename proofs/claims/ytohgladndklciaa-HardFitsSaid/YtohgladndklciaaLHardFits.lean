/-
  Walks through the functions of the seat, printed by a program of ours (gowalk), a theorem a function: what the call returns and what it leaves in memory.
-/
import Derived.Test.YtohgladndklciaaBe
set_option linter.unusedSimpArgs false
set_option linter.unusedVariables false
namespace Go.Proofs.Ytohgladndklciaa
open Go.RowKit Go.Shelf Go.Eng Go.Hard
set_option maxHeartbeats 4000000 in
theorem HardFits_a (b : g_9) (vt vm : Value) (lr lb lk : Nat → Value) (w : World) (hT : i_6 w vt lr lb b.tabs) (hM : j_2 w vm lk b.macs) (l : List (Int × Int)) (xl : Value) (hxl : SlAt w xl 2 l.length (pairs l)) (z : List Int) (xz : Value) (hxz : SlAt w xz 1 z.length (ints z)) (hf : w_6 b l.length = false) :
  Calls Try.prog 11 #[(Value.agg #[(Value.int .i64 b.scales), vt, vm]), xl, xz] w (Ret fun v w' => v = .bool true ∧ Ext NoB w w') := by
 refine a_8 Try.func11 rfl fun W D => ?_
 replace D : Fr 40 [] [(0, (Value.agg #[(Value.int .i64 b.scales), vt, vm])), (1, xl), (2, xz)] W := D
 have T : Sep NoB w w [(e_1 false vt lr lb b.tabs), (f_0 false vm lk b.macs), (sl xl 2 l.length (pairs l)), (sl xz 1 z.length (ints z))] := e_3 ⟨rfl, hT, rfl, hM, rfl, hxl, rfl, hxz, trivial⟩
 refine m2 ?_
 refine s2 D (e_7 T rfl (D.ev rfl) (cs := [(Value.int .i64 b.scales), vt, vm]) rfl) ?_
 rintro h _ p ⟨o, rfl, A⟩ S; clear D T W
 refine s1 S (a_0 rfl (evc _ _)) fun i N => ?_; clear S h
 refine n2 ?_
 refine m2 ?_
 refine s1 N (c_4 rfl ab_6 (N.ev rfl) (A.bk 0 rfl) (l := [(Value.int .i64 b.scales), vt, vm]) rfl rfl) fun j O => ?_; clear N i
 refine s1 O (a_1 rfl (O.ev rfl)) fun X B => ?_; clear O j
 refine s2 B (b_1 rfl en_16 (ev2 (B.ev rfl) (B.ev rfl)) (thin_ok b vt vm lr lb lk _ (b_7 (A.ok 1 _ rfl)) (c_2 (A.ok 2 _ rfl)) l _ (A.sk 3 rfl))) ?_
 rintro Y _ m ⟨rfl, P⟩ C; have R := A.step P; clear P B A X
 have V : (w_6 b l.length) = false := hf
 rw [V] at C
 refine s1 C (e_9 rfl (C.ev rfl)) fun Z E => ?_; clear C Y
 refine s1 E (a_1 rfl (E.ev rfl)) fun a I => ?_; clear E Z
 refine s3 I fun c J => ?_; clear I a
 refine s3 J fun d K => ?_; clear J c
 refine s3 K fun e F => ?_; clear K d
 refine s1 F (b_4 rfl (F.ev rfl) (evc _ _)) fun f G => ?_; clear F e
 refine n1 ?_
 refine c_0 G rfl ?_
 refine b_6 ?_
 have L := G.as [] rfl; clear G
 refine a_5 ?_
 refine s2 L (b_1 rfl en_17 ev0 (awake_ok _)) ?_
 rintro g _ n ⟨rfl, Q⟩ H; have U := R.step Q; clear Q L R f
 refine s1 H (a_0 rfl (H.ev rfl)) fun k M => ?_; clear H g
 refine n1 ?_
 refine c_1 ?_
 refine a_6 ?_
 refine a_7 M (.inl rfl) (a_2 M rfl (.tmp rfl)) ?_
 exact ⟨rfl, U.ext⟩
set_option maxHeartbeats 4000000 in
theorem HardFits_z (b : g_9) (vt vm : Value) (lr lb lk : Nat → Value) (w : World) (hT : i_6 w vt lr lb b.tabs) (hM : j_2 w vm lk b.macs) (l : List (Int × Int)) (xl : Value) (hxl : SlAt w xl 2 l.length (pairs l)) (z : List Int) (xz : Value) (hxz : SlAt w xz 1 z.length (ints z)) (hf : w_6 b l.length = true) (hz : ¬ z.length ≤ 8) :
  Calls Try.prog 11 #[(Value.agg #[(Value.int .i64 b.scales), vt, vm]), xl, xz] w (Ret fun v w' => v = .bool true ∧ Ext NoB w w') := by
 refine a_8 Try.func11 rfl fun X E => ?_
 replace E : Fr 40 [] [(0, (Value.agg #[(Value.int .i64 b.scales), vt, vm])), (1, xl), (2, xz)] X := E
 have T : Sep NoB w w [(e_1 false vt lr lb b.tabs), (f_0 false vm lk b.macs), (sl xl 2 l.length (pairs l)), (sl xz 1 z.length (ints z))] := e_3 ⟨rfl, hT, rfl, hM, rfl, hxl, rfl, hxz, trivial⟩
 refine m2 ?_
 refine s2 E (e_7 T rfl (E.ev rfl) (cs := [(Value.int .i64 b.scales), vt, vm]) rfl) ?_
 rintro i _ q ⟨p, rfl, B⟩ S; clear E T X
 refine s1 S (a_0 rfl (evc _ _)) fun j O => ?_; clear S i
 refine n2 ?_
 refine m2 ?_
 refine s1 O (c_4 rfl ab_6 (O.ev rfl) (B.bk 0 rfl) (l := [(Value.int .i64 b.scales), vt, vm]) rfl rfl) fun k P => ?_; clear O j
 refine s1 P (a_1 rfl (P.ev rfl)) fun Y C => ?_; clear P k
 refine s2 C (b_1 rfl en_16 (ev2 (C.ev rfl) (C.ev rfl)) (thin_ok b vt vm lr lb lk _ (b_7 (B.ok 1 _ rfl)) (c_2 (B.ok 2 _ rfl)) l _ (B.sk 3 rfl))) ?_
 rintro Z _ n ⟨rfl, Q⟩ D; have L := B.step Q; clear Q C B Y
 have V : (w_6 b l.length) = true := hf
 rw [V] at D
 refine s1 D (e_9 rfl (D.ev rfl)) fun a F => ?_; clear D Z
 refine s1 F (a_1 rfl (F.ev rfl)) fun c G => ?_; clear F a
 refine s5 G (a_1 rfl (G.ev rfl)) fun d H => ?_; clear G c
 refine s5 H (d_2 rfl k_2 (H.ev rfl) (L.sk 4 rfl)) fun e I => ?_; clear H d
 refine s5 I (j_6 rfl (I.ev rfl) (evc _ _)) fun f A => ?_; clear I e
 have W : 8 < (z.length : Int) := (by omega)
 rw [decide_eq_true W] at A
 refine s1 A (c_8 rfl (A.ev rfl) (A.ev rfl)) fun g J => ?_; clear A f
 refine n1 ?_
 refine c_0 J rfl ?_
 refine b_6 ?_
 have M := J.as [] rfl; clear J
 refine a_5 ?_
 refine s2 M (b_1 rfl en_17 ev0 (awake_ok _)) ?_
 rintro h _ o ⟨rfl, R⟩ K; have U := L.step R; clear R M L g
 refine s1 K (a_0 rfl (K.ev rfl)) fun m N => ?_; clear K h
 refine n1 ?_
 refine c_1 ?_
 refine a_6 ?_
 refine a_7 N (.inl rfl) (a_2 N rfl (.tmp rfl)) ?_
 exact ⟨rfl, U.ext⟩
set_option maxHeartbeats 4000000 in
theorem HardFits_b (b : g_9) (vt vm : Value) (lr lb lk : Nat → Value) (w : World) (hT : i_6 w vt lr lb b.tabs) (hM : j_2 w vm lk b.macs) (l : List (Int × Int)) (xl : Value) (hxl : SlAt w xl 2 l.length (pairs l)) (z : List Int) (xz : Value) (hxz : SlAt w xz 1 z.length (ints z)) (hf : w_6 b l.length = true) (hz : z.length ≤ 8) (hr : l_6 b l ≠ 0) :
  Calls Try.prog 11 #[(Value.agg #[(Value.int .i64 b.scales), vt, vm]), xl, xz] w (Ret fun v w' => v = .bool true ∧ Ext NoB w w') := by
 refine a_8 Try.func11 rfl fun a0 N => ?_
 replace N : Fr 40 [] [(0, (Value.agg #[(Value.int .i64 b.scales), vt, vm])), (1, xl), (2, xz)] a0 := N
 have hthl := thin_iff.1 hf; have hth := hthl.1; have Av := hthl.2; have htl9 := hth.tl; have hml9 := hth.ml
 have AG : Sep NoB w w [(e_1 false vt lr lb b.tabs), (f_0 false vm lk b.macs), (sl xl 2 l.length (pairs l)), (sl xz 1 z.length (ints z))] := e_3 ⟨rfl, hT, rfl, hM, rfl, hxl, rfl, hxz, trivial⟩
 refine m2 ?_
 refine s2 N (e_7 AG rfl (N.ev rfl) (cs := [(Value.int .i64 b.scales), vt, vm]) rfl) ?_
 rintro a1 _ w3 ⟨b4, rfl, G⟩ AF; clear N AG a0
 refine s1 AF (a_0 rfl (evc _ _)) fun a6 r => ?_; clear AF a1
 refine n2 ?_
 refine m2 ?_
 refine s1 r (c_4 rfl ab_6 (r.ev rfl) (G.bk 0 rfl) (l := [(Value.int .i64 b.scales), vt, vm]) rfl rfl) fun a8 s => ?_; clear r a6
 refine s1 s (a_1 rfl (s.ev rfl)) fun AN I => ?_; clear s a8
 refine s2 I (b_1 rfl en_16 (ev2 (I.ev rfl) (I.ev rfl)) (thin_ok b vt vm lr lb lk _ (b_7 (G.ok 1 _ rfl)) (c_2 (G.ok 2 _ rfl)) l _ (G.sk 3 rfl))) ?_
 rintro AO _ Az ⟨rfl, u⟩ J; have A := G.step u; clear u I G AN
 have AJ : (w_6 b l.length) = true := hf
 rw [AJ] at J
 refine s1 J (e_9 rfl (J.ev rfl)) fun AP O => ?_; clear J AO
 refine s1 O (a_1 rfl (O.ev rfl)) fun AQ P => ?_; clear O AP
 refine s5 P (a_1 rfl (P.ev rfl)) fun AR Q => ?_; clear P AQ
 refine s5 Q (d_2 rfl k_2 (Q.ev rfl) (A.sk 4 rfl)) fun AS R => ?_; clear Q AR
 refine s5 R (j_6 rfl (R.ev rfl) (evc _ _)) fun AT D => ?_; clear R AS
 have AK : ¬ (8 < (z.length : Int)) := (by omega)
 rw [decide_eq_false AK] at D
 refine s1 D (c_8 rfl (D.ev rfl) (D.ev rfl)) fun AU S => ?_; clear D AT
 refine n1 ?_
 refine b_5 S rfl ?_
 refine c_6 ?_
 refine a_9 ?_
 refine b_6 ?_
 have T := S.as [(3, (bptr b4 0)), (1, xl), (2, xz)] rfl; clear S
 refine a_5 ?_
 refine s1 T (c_4 rfl ab_6 (T.ev rfl) (A.bk 0 rfl) (l := [(Value.int .i64 b.scales), vt, vm]) rfl rfl) fun AV U => ?_; clear T AU
 refine s1 U (a_1 rfl (U.ev rfl)) fun AW K => ?_; clear U AV
 refine s2 K (b_1 rfl en_27 (ev2 (K.ev rfl) (K.ev rfl)) (fault_ok b vt vm lr lb lk _ (b_7 (A.ok 1 _ rfl)) (c_2 (A.ok 2 _ rfl)) hth l _ (A.sk 3 rfl) (by omega))) ?_
 rintro AX _ A0 ⟨rfl, x⟩ V; have F := A.step x; clear x K A AW
 refine s1 V (q_9 rfl (V.ev rfl) (evc _ _)) fun AY L => ?_; clear V AX
 have AL : ¬ ((l_6 b l) = 0) := hr
 rw [decide_eq_false AL] at L
 refine s1 L (a_1 rfl (L.ev rfl)) fun AZ m => ?_; clear L AY
 refine s3 m fun Aa n => ?_; clear m AZ
 refine s3 n fun Ab o => ?_; clear n Aa
 refine s3 o fun Ac p => ?_; clear o Ab
 refine s3 p fun Ad W => ?_; clear p Ac
 refine s1 W (c_8 rfl (W.ev rfl) (evc _ _)) fun Ae X => ?_; clear W Ad
 refine s1 X (a_0 rfl (X.ev rfl)) fun Af q => ?_; clear X Ae
 refine n2 ?_
 have Y := q.as [(7, (Value.bool false)), (3, (bptr b4 0)), (1, xl), (2, xz)] rfl; clear q
 refine a_5 ?_
 refine s1 Y (c_4 rfl ab_6 (Y.ev rfl) (F.bk 0 rfl) (l := [(Value.int .i64 b.scales), vt, vm]) rfl rfl) fun Ag Z => ?_; clear Y Af
 refine s2 Z (b_1 rfl en_19 (ev1 (Z.ev rfl)) (Book_ok b vt vm lr lb lk _ (b_7 (F.ok 1 _ rfl)) (c_2 (F.ok 2 _ rfl)) hth)) ?_
 rintro Ah _ A1 ⟨vt64, vm65, lr66, lb67, lk68, rfl, AD⟩ a; have h := F.y_8 AD rfl; clear AD Z F Ag
 refine s1 a (a_1 rfl (a.ev rfl)) fun Ai c => ?_; clear a Ah
 refine s2 c (b_1 rfl en_26 (ev1 (c.ev rfl)) (Readings_ok l _ _ (h.sk 5 rfl) (by omega))) ?_
 rintro Aj Ax A2 ⟨y, hO77⟩ d; have i := h.new_row y hO77; clear y hO77 c h Ai
 refine s1 d (a_1 rfl (d.ev rfl)) fun Ak e => ?_; clear d Aj
 refine s2 e (b_1 rfl en_40 (ev1 (e.ev rfl)) (list_ok z _ _ (i.sk 7 rfl) (by omega))) ?_
 rintro Al Ay A3 ⟨AA, hO86⟩ E; have B := i.new_row AA hO86; clear AA hO86 e i Ak
 refine s2 E (b_1 rfl en_39 (ev3 (E.ev rfl) (E.ev rfl) (E.ev rfl)) (Prove_bad b vt64 vm65 lr66 lb67 lk68 _ (b_7 (B.ok 2 _ rfl)) (c_2 (B.ok 3 _ rfl)) hth l _ (SlAt.i_1 (B.j_5 1 rfl)) (by omega) z _ (SlAt.i_1 (B.j_5 0 rfl)) (by omega) hr)) ?_
 rintro Am _ A4 ⟨rfl, AB⟩ f; have AC := B.step AB; clear AB E B Al
 refine s1 f (a_1 rfl (f.ev rfl)) fun An M => ?_; clear f Am
 refine s1 M (op_eqlB un_4 rfl (M.ev rfl) (M.ev rfl)) fun Ao g => ?_; clear M An
 refine s1 g (a_1 rfl (g.ev rfl)) fun Ap t => ?_; clear g Ao
 refine s6 t (b_1 rfl en_17 ev0 (awake_ok _)) ?_
 rintro AH _ Aw ⟨rfl, k⟩ C; have AE := AC.step k; clear k t AC Ap
 refine s1 C (b_4 rfl (C.ev rfl) (C.ev rfl)) fun AI H => ?_; clear C AH
 refine s1 H (a_0 rfl (H.ev rfl)) fun As j => ?_; clear H AI
 refine n1 ?_
 refine c_1 ?_
 refine a_7 j (.inl rfl) (a_2 j rfl (.tmp rfl)) ?_
 exact ⟨rfl, AE.ext⟩
set_option maxHeartbeats 4000000 in
theorem HardFits_c (b : g_9) (vt vm : Value) (lr lb lk : Nat → Value) (w : World) (hT : i_6 w vt lr lb b.tabs) (hM : j_2 w vm lk b.macs) (l : List (Int × Int)) (xl : Value) (hxl : SlAt w xl 2 l.length (pairs l)) (z : List Int) (xz : Value) (hxz : SlAt w xz 1 z.length (ints z)) (hf : w_6 b l.length = true) (hz : z.length ≤ 8) (hr : l_6 b l = 0) :
  Calls Try.prog 11 #[(Value.agg #[(Value.int .i64 b.scales), vt, vm]), xl, xz] w (Ret fun v w' => v = .bool true ∧ Ext NoB w w') := by
 refine a_8 Try.func11 rfl fun a0 W => ?_
 replace W : Fr 40 [] [(0, (Value.agg #[(Value.int .i64 b.scales), vt, vm])), (1, xl), (2, xz)] a0 := W
 have hthl := thin_iff.1 hf; have hth := hthl.1; have A6 := hthl.2; have htl9 := hth.tl; have hml9 := hth.ml; have hc := read_check hr; have hbl := read_ok hr; have hb := hbl.1; have hl := hbl.2; have A9 := hb.scales
 have AP : Sep NoB w w [(e_1 false vt lr lb b.tabs), (f_0 false vm lk b.macs), (sl xl 2 l.length (pairs l)), (sl xz 1 z.length (ints z))] := e_3 ⟨rfl, hT, rfl, hM, rfl, hxl, rfl, hxz, trivial⟩
 refine m2 ?_
 refine s2 W (e_7 AP rfl (W.ev rfl) (cs := [(Value.int .i64 b.scales), vt, vm]) rfl) ?_
 rintro a1 _ w3 ⟨b4, rfl, K⟩ AO; clear W AP a0
 refine s1 AO (a_0 rfl (evc _ _)) fun a6 AD => ?_; clear AO a1
 refine n2 ?_
 refine m2 ?_
 refine s1 AD (c_4 rfl ab_6 (AD.ev rfl) (K.bk 0 rfl) (l := [(Value.int .i64 b.scales), vt, vm]) rfl rfl) fun a8 AE => ?_; clear AD a6
 refine s1 AE (a_1 rfl (AE.ev rfl)) fun AY M => ?_; clear AE a8
 refine s2 M (b_1 rfl en_16 (ev2 (M.ev rfl) (M.ev rfl)) (thin_ok b vt vm lr lb lk _ (b_7 (K.ok 1 _ rfl)) (c_2 (K.ok 2 _ rfl)) l _ (K.sk 3 rfl))) ?_
 rintro AZ _ BC ⟨rfl, AF⟩ P; have B := K.step AF; clear AF M K AY
 have AU : (w_6 b l.length) = true := hf
 rw [AU] at P
 refine s1 P (e_9 rfl (P.ev rfl)) fun Aa X => ?_; clear P AZ
 refine s1 X (a_1 rfl (X.ev rfl)) fun Ab Y => ?_; clear X Aa
 refine s5 Y (a_1 rfl (Y.ev rfl)) fun Ac Z => ?_; clear Y Ab
 refine s5 Z (d_2 rfl k_2 (Z.ev rfl) (B.sk 4 rfl)) fun Ad a => ?_; clear Z Ac
 refine s5 a (j_6 rfl (a.ev rfl) (evc _ _)) fun Ae G => ?_; clear a Ad
 have AV : ¬ (8 < (z.length : Int)) := (by omega)
 rw [decide_eq_false AV] at G
 refine s1 G (c_8 rfl (G.ev rfl) (G.ev rfl)) fun Af c => ?_; clear G Ae
 refine n1 ?_
 refine b_5 c rfl ?_
 refine c_6 ?_
 refine a_9 ?_
 refine b_6 ?_
 have d := c.as [(3, (bptr b4 0)), (1, xl), (2, xz)] rfl; clear c
 refine a_5 ?_
 refine s1 d (c_4 rfl ab_6 (d.ev rfl) (B.bk 0 rfl) (l := [(Value.int .i64 b.scales), vt, vm]) rfl rfl) fun Ag e => ?_; clear d Af
 refine s1 e (a_1 rfl (e.ev rfl)) fun Ah Q => ?_; clear e Ag
 refine s2 Q (b_1 rfl en_27 (ev2 (Q.ev rfl) (Q.ev rfl)) (fault_ok b vt vm lr lb lk _ (b_7 (B.ok 1 _ rfl)) (c_2 (B.ok 2 _ rfl)) hth l _ (B.sk 3 rfl) (by omega))) ?_
 rintro Ai _ BD ⟨rfl, AG⟩ f; have C := B.step AG; clear AG Q B Ah
 refine s1 f (q_9 rfl (f.ev rfl) (evc _ _)) fun Aj R => ?_; clear f Ai
 have AW : (l_6 b l) = 0 := hr
 rw [decide_eq_true AW] at R
 refine s1 R (a_1 rfl (R.ev rfl)) fun Ak g => ?_; clear R Aj
 refine s5 g (c_4 rfl ab_6 (g.ev rfl) (C.bk 0 rfl) (l := [(Value.int .i64 b.scales), vt, vm]) rfl rfl) fun Al h => ?_; clear g Ak
 refine s5 h (a_1 rfl (h.ev rfl)) fun Am i => ?_; clear h Al
 refine s5 i (a_1 rfl (i.ev rfl)) fun An H => ?_; clear i Am
 refine s6 H (b_1 rfl en_38 (ev3 (H.ev rfl) (H.ev rfl) (H.ev rfl)) (rfits_ok b vt vm lr lb lk _ (b_7 (C.ok 1 _ rfl)) (c_2 (C.ok 2 _ rfl)) hth hb l _ (C.sk 3 rfl) hl z _ (C.sk 4 rfl) (by omega))) ?_
 rintro Ao _ BE ⟨rfl, AH⟩ S; have J := C.step AH; clear AH H C An
 refine s1 S (b_4 rfl (S.ev rfl) (S.ev rfl)) fun Ap j => ?_; clear S Ao
 refine s1 j (a_0 rfl (j.ev rfl)) fun Aq AC => ?_; clear j Ap
 refine n2 ?_
 have k := AC.as [(7, (Value.bool (z_5 b l z))), (3, (bptr b4 0)), (1, xl), (2, xz)] rfl; clear AC
 refine a_5 ?_
 refine s1 k (c_4 rfl ab_6 (k.ev rfl) (J.bk 0 rfl) (l := [(Value.int .i64 b.scales), vt, vm]) rfl rfl) fun Ar m => ?_; clear k Aq
 refine s2 m (b_1 rfl en_19 (ev1 (m.ev rfl)) (Book_ok b vt vm lr lb lk _ (b_7 (J.ok 1 _ rfl)) (c_2 (J.ok 2 _ rfl)) hth)) ?_
 rintro As _ BF ⟨vt67, vm68, lr69, lb70, lk71, rfl, AL⟩ n; have s := J.y_8 AL rfl; clear AL m J Ar
 refine s1 n (a_1 rfl (n.ev rfl)) fun At o => ?_; clear n As
 refine s2 o (b_1 rfl en_26 (ev1 (o.ev rfl)) (Readings_ok l _ _ (s.sk 5 rfl) (by omega))) ?_
 rintro Au BA BG ⟨AI, hO80⟩ p; have t := s.new_row AI hO80; clear AI hO80 o s At
 refine s1 p (a_1 rfl (p.ev rfl)) fun Av q => ?_; clear p Au
 refine s2 q (b_1 rfl en_40 (ev1 (q.ev rfl)) (list_ok z _ _ (t.sk 7 rfl) (by omega))) ?_
 rintro Aw BB BH ⟨AJ, hO89⟩ I; have D := t.new_row AJ hO89; clear AJ hO89 q t Av
 refine s2 I (b_1 rfl en_39 (ev3 (I.ev rfl) (I.ev rfl) (I.ev rfl)) (Prove_ok b vt67 vm68 lr69 lb70 lk71 _ (b_7 (D.ok 2 _ rfl)) (c_2 (D.ok 3 _ rfl)) hth l _ (SlAt.i_1 (D.j_5 1 rfl)) (by omega) z _ (SlAt.i_1 (D.j_5 0 rfl)) (by omega) hr)) ?_
 rintro Ax _ BI ⟨rfl, AK⟩ r; have U := D.step AK; clear AK I D Aw
 refine s1 r (a_1 rfl (r.ev rfl)) fun Ay T => ?_; clear r Ax
 refine s1 T (op_eqlB un_4 rfl (T.ev rfl) (T.ev rfl)) fun Az L => ?_; clear T Ay
 refine s1 L (a_1 rfl (L.ev rfl)) fun AB A => ?_; clear L Az
 rcases Bool.eq_false_or_eq_true ((z_5 b l z)) with V | V
 ·skip
  rw [V] at A
  refine s6 A (b_1 rfl en_17 ev0 (awake_ok _)) ?_
  rintro AQ _ A7 ⟨rfl, y⟩ E; have AM := U.step y; clear y A U AB
  refine s1 E (b_4 rfl (E.ev rfl) (E.ev rfl)) fun AR N => ?_; clear E AQ
  refine s1 N (a_0 rfl (N.ev rfl)) fun A2 u => ?_; clear N AR
  refine n1 ?_
  refine c_1 ?_
  refine a_7 u (.inl rfl) (a_2 u rfl (.tmp rfl)) ?_
  exact ⟨rfl, AM.ext⟩
 skip
 rw [V] at A
 refine s6 A (b_1 rfl en_17 ev0 (awake_ok _)) ?_
 rintro AS _ A8 ⟨rfl, AA⟩ F; have AN := U.step AA; clear AA A U AB
 refine s1 F (b_4 rfl (F.ev rfl) (F.ev rfl)) fun AT O => ?_; clear F AS
 refine s1 O (a_0 rfl (O.ev rfl)) fun A3 x => ?_; clear O AT
 refine n1 ?_
 refine c_1 ?_
 refine a_7 x (.inl rfl) (a_2 x rfl (.tmp rfl)) ?_
 exact ⟨rfl, AN.ext⟩
theorem HardFits_ok (b : g_9) (vt vm : Value) (lr lb lk : Nat → Value) (w : World) (hT : i_6 w vt lr lb b.tabs) (hM : j_2 w vm lk b.macs) (l : List (Int × Int)) (xl : Value) (hxl : SlAt w xl 2 l.length (pairs l)) (z : List Int) (xz : Value) (hxz : SlAt w xz 1 z.length (ints z)) : Calls Try.prog 11 #[.agg #[.int .i64 b.scales, vt, vm], xl, xz] w (Ret fun v w' => v = .bool true ∧ Ext NoB w w') := by
 rcases Bool.eq_false_or_eq_true (w_6 b l.length) with hf | hf
 ·by_cases hz : z.length ≤ 8
  ·by_cases hr : l_6 b l = 0
   ·exact HardFits_c b vt vm lr lb lk w hT hM l xl hxl z xz hxz hf hz hr
   exact HardFits_b b vt vm lr lb lk w hT hM l xl hxl z xz hxz hf hz hr
  exact HardFits_z b vt vm lr lb lk w hT hM l xl hxl z xz hxz hf hz
 exact HardFits_a b vt vm lr lb lk w hT hM l xl hxl z xz hxz hf
end Go.Proofs.Ytohgladndklciaa
