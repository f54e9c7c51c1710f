/-
  Walks through the functions of the seat, printed by a program of ours (gowalk), a theorem a function: what the call returns and what it leaves in memory.
-/
import Derived.Test.YtohgladndklciaaBe
set_option linter.unusedSimpArgs false
set_option linter.unusedVariables false
namespace Go.Proofs.Ytohgladndklciaa
open Go.RowKit Go.Shelf Go.Eng Go.Hard
set_option maxHeartbeats 4000000 in
theorem HardDoubts_a (b : h_7) (vt vm : Value) (lr lb lk : Nat → Value) (w : World) (hT : j_1 w vt lr lb b.tabs) (hM : k_0 w vm lk b.macs) (l : List (Int × Int)) (xl : Value) (hxl : SlAt w xl 2 l.length (pairs l)) (hf : z_8 b l.length = false) :
  Calls Try.prog 12 #[(Value.agg #[(iv b.scales), vt, vm]), xl] w (Ret fun v w' => v = .bool true ∧ Ext NoB w w') := by
 refine a_8 Try.func12 rfl fun d D => ?_
 replace D : Fr 60 [] [(0, (Value.agg #[(iv b.scales), vt, vm])), (1, xl)] d := D
 have Z : Sep NoB w w [(d_3 false vt lr lb b.tabs), (d_9 false vm lk b.macs), (sl xl 2 l.length (pairs l))] := f_2 ⟨rfl, hT, rfl, hM, rfl, hxl, trivial⟩
 refine m2 (s2 D (f_4 Z rfl D.e (cs := [(iv b.scales), vt, vm]) rfl) ?_)
 rintro x _ w3 ⟨b4, rfl, A⟩ Y; clear D Z d
 refine s1 Y (a_0 rfl (evc _ _)) fun y T => ?_; clear Y x
 refine n2 (m2 (s1 T (c_5 rfl ac_1 (T.ev rfl) (A.bk 0 rfl) (l := [(iv b.scales), vt, vm]) rfl rfl) fun z U => ?_)); clear T y
 refine s1 U (a_1 rfl U.e) fun f B => ?_; clear U z
 refine s2 B (b_3 rfl en_16 (ev2 B.e B.e) (thin_ok b vt vm lr lb lk _ (c_1 (A.ok 1 _ rfl)) (c_8 (A.ok 2 _ rfl)) l _ (A.sk 3 rfl))) ?_
 rintro g _ AB ⟨rfl, V⟩ C; have X := A.step V; clear V B A f
 have c : (z_8 b l.length) = false := hf
 rw [c] at C
 refine s1 C (g_0 rfl C.e) fun h E => ?_; clear C g
 refine s1 E (a_1 rfl E.e) fun i I => ?_; clear E h
 refine s3 I fun j J => ?_; clear I i
 refine s3 J fun k K => ?_; clear J j
 refine s3 K fun m L => ?_; clear K k
 refine s3 L fun n M => ?_; clear L m
 refine s3 M fun o N => ?_; clear M n
 refine s4 N fun p O => ?_; clear N o
 refine s4 O fun q P => ?_; clear O p
 refine s4 P fun r Q => ?_; clear P q
 refine s3 Q fun s F => ?_; clear Q r
 refine s1 F (b_6 rfl F.e (evc _ _)) fun t G => ?_; clear F s
 refine n1 (b_7 G rfl (b_5 ?_))
 have R := G.as [] rfl; clear G
 refine a_5 (s2 R (b_3 rfl en_17 ev0 (awake_ok _)) ?_)
 rintro u _ AC ⟨rfl, W⟩ H; have a := X.step W; clear W R X t
 refine s1 H (a_0 rfl H.e) fun AA S => ?_; clear H u
 exact n1 (c_4 (a_6 (a_9 S (.inl rfl) (a_2 S rfl (.tmp rfl)) (⟨rfl, a.ext⟩))))
set_option maxHeartbeats 4000000 in
theorem HardDoubts_b (b : h_7) (vt vm : Value) (lr lb lk : Nat → Value) (w : World) (hT : j_1 w vt lr lb b.tabs) (hM : k_0 w vm lk b.macs) (l : List (Int × Int)) (xl : Value) (hxl : SlAt w xl 2 l.length (pairs l)) (hf : z_8 b l.length = true) (hr : k_9 b l ≠ 0) :
  Calls Try.prog 12 #[(Value.agg #[(iv b.scales), vt, vm]), xl] w (Ret fun v w' => v = .bool true ∧ Ext NoB w w') := by
 refine a_8 Try.func12 rfl fun a0 X => ?_
 replace X : Fr 60 [] [(0, (Value.agg #[(iv b.scales), vt, vm])), (1, xl)] a0 := X
 have hthl := thin_iff.1 hf; have hth := hthl.1; have BH := hthl.2; have htl9 := hth.tl; have hml9 := hth.ml
 have AU : Sep NoB w w [(d_3 false vt lr lb b.tabs), (d_9 false vm lk b.macs), (sl xl 2 l.length (pairs l))] := f_2 ⟨rfl, hT, rfl, hM, rfl, hxl, trivial⟩
 refine m2 (s2 X (f_4 AU rfl X.e (cs := [(iv b.scales), vt, vm]) rfl) ?_)
 rintro a1 _ w3 ⟨b4, rfl, I⟩ AT; clear X AU a0
 refine s1 AT (a_0 rfl (evc _ _)) fun a6 AF => ?_; clear AT a1
 refine n2 (m2 (s1 AF (c_5 rfl ac_1 (AF.ev rfl) (I.bk 0 rfl) (l := [(iv b.scales), vt, vm]) rfl rfl) fun a8 AH => ?_)); clear AF a6
 refine s1 AH (a_1 rfl AH.e) fun Ai L => ?_; clear AH a8
 refine s2 L (b_3 rfl en_16 (ev2 L.e L.e) (thin_ok b vt vm lr lb lk _ (c_1 (I.ok 1 _ rfl)) (c_8 (I.ok 2 _ rfl)) l _ (I.sk 3 rfl))) ?_
 rintro Aj _ BK ⟨rfl, AI⟩ Q; have B := I.step AI; clear AI L I Ai
 have Ag : (z_8 b l.length) = true := hf
 rw [Ag] at Q
 refine s1 Q (g_0 rfl Q.e) fun Ak Y => ?_; clear Q Aj
 refine s1 Y (a_1 rfl Y.e) fun Al Z => ?_; clear Y Ak
 refine s5 Z (c_5 rfl ac_1 (Z.ev rfl) (B.bk 0 rfl) (l := [(iv b.scales), vt, vm]) rfl rfl) fun Am a => ?_; clear Z Al
 refine s5 a (a_1 rfl a.e) fun An R => ?_; clear a Am
 refine s6 R (b_3 rfl en_27 (ev2 R.e R.e) (fault_ok b vt vm lr lb lk _ (c_1 (B.ok 1 _ rfl)) (c_8 (B.ok 2 _ rfl)) hth l _ (B.sk 3 rfl) (by omega))) ?_
 rintro Ao _ BL ⟨rfl, AJ⟩ c; have G := B.step AJ; clear AJ R B An
 refine s5 c (m_4 rfl c.e (evc _ _)) fun Ap S => ?_; clear c Ao
 have AP : ¬ ((k_9 b l) = 0) := hr
 rw [decide_eq_false AP] at S
 refine s5 S (a_1 rfl S.e) fun Aq AC => ?_; clear S Ap
 refine s3 AC fun Ar AD => ?_; clear AC Aq
 refine s3 AD fun As AE => ?_; clear AD Ar
 refine s3 AE fun At d => ?_; clear AE As
 refine s5 d (d_0 rfl d.e (evc _ _)) fun Au T => ?_; clear d At
 refine s1 T (d_0 rfl T.e T.e) fun Av f => ?_; clear T Au
 refine n1 (b_4 f rfl (c_6 (a_7 (b_5 ?_))))
 have g := f.as [(2, (bptr b4 0)), (1, xl)] rfl; clear f
 refine a_5 (s1 g (c_5 rfl ac_1 (g.ev rfl) (G.bk 0 rfl) (l := [(iv b.scales), vt, vm]) rfl rfl) fun Aw h => ?_); clear g Av
 refine s2 h (b_3 rfl en_19 (ev1 h.e) (Book_ok b vt vm lr lb lk _ (c_1 (G.ok 1 _ rfl)) (c_8 (G.ok 2 _ rfl)) hth)) ?_
 rintro Ax _ BM ⟨vt52, vm53, lr54, lb55, lk56, rfl, AO⟩ i; have y := G.aa_5 AO rfl; clear AO h G Aw
 refine s1 i (a_1 rfl i.e) fun Ay j => ?_; clear i Ax
 refine s2 j (b_3 rfl en_26 (ev1 j.e) (Readings_ok l _ _ (y.sk 5 rfl) (by omega))) ?_
 rintro Az BJ BN ⟨AK, hO65⟩ U; have H := y.x_8 AK hO65; clear AK hO65 j y Ay
 refine s2 U (b_3 rfl en_41 (ev2 U.e U.e) (Doubt_bad b vt52 vm53 lr54 lb55 lk56 _ (c_1 (H.ok 1 _ rfl)) (c_8 (H.ok 2 _ rfl)) hth l _ (SlAt.d_6 (H.e_4 0 rfl)) (by omega) hr)) ?_
 rintro A0 _ BO ⟨rfl, AL⟩ k; have C := H.step AL; clear AL U H Az
 refine s1 k (a_1 rfl k.e) fun A1 m => ?_; clear k A0
 refine s1 m (e_9 rfl m.e rfl) fun A2 n => ?_; clear m A1
 refine s1 n (e_9 rfl n.e rfl) fun A3 o => ?_; clear n A2
 refine s1 o (a_0 rfl o.e) fun A4 p => ?_; clear o A3
 refine s1 p (a_0 rfl p.e) fun A5 AG => ?_; clear p A4
 refine n2 (b_5 ?_)
 have q := AG.as [(6, (iv (k_9 b l))), (5, (Value.slice none 0 0)), (2, (bptr b4 0)), (1, xl)] rfl; clear AG
 refine a_5 (s1 q (c_5 rfl ac_1 (q.ev rfl) (C.bk 3 rfl) (l := [(iv b.scales), vt, vm]) rfl rfl) fun A6 r => ?_); clear q A5
 refine s1 r (a_1 rfl r.e) fun A7 V => ?_; clear r A6
 refine s2 V (b_3 rfl en_27 (ev2 V.e V.e) (fault_ok b vt vm lr lb lk _ (c_1 (C.ok 4 _ rfl)) (c_8 (C.ok 5 _ rfl)) hth l _ (C.sk 6 rfl) (by omega))) ?_
 rintro A8 _ BP ⟨rfl, AM⟩ s; have AN := C.step AM; clear AM V C A7
 refine s1 s (a_0 rfl s.e) fun A9 t => ?_; clear s A8
 refine n4 (s1 t (a_1 rfl t.e) fun BA u => ?_); clear t A9
 refine s1 u (u_1 rfl u.e (evc _ _)) fun BB W => ?_; clear u BA
 rw [decide_eq_false AP] at W
 refine n1 (b_7 W rfl (b_5 ?_))
 have x := W.as [(7, (iv (k_9 b l))), (6, (iv (k_9 b l))), (5, (Value.slice none 0 0))] rfl; clear W
 refine a_5 (s1 x (a_1 rfl x.e) fun AV J => ?_); clear x BB
 refine s1 J (a_1 rfl J.e) fun AW D => ?_; clear J AV
 refine s1 D (m_4 rfl D.e D.e) fun AX E => ?_; clear D AW
 have AR : (k_9 b l) = (k_9 b l) := rfl
 rw [decide_eq_true AR] at E
 refine s1 E (a_1 rfl E.e) fun AY K => ?_; clear E AX
 refine s5 K (a_1 rfl K.e) fun AZ M => ?_; clear K AY
 refine s5 M (op_len rfl j_3 M.e) fun Aa N => ?_; clear M AZ
 refine s5 N (m_4 rfl N.e (evc _ _)) fun Ab A => ?_; clear N Aa
 have AS : ((0 : Nat) : Int) = 0 := rfl
 rw [decide_eq_true AS] at A
 refine s1 A (b_6 rfl A.e A.e) fun Ac O => ?_; clear A Ab
 refine s1 O (a_1 rfl O.e) fun Ad z => ?_; clear O Ac
 refine s6 z (b_3 rfl en_17 ev0 (awake_ok _)) ?_
 rintro Ae _ BI ⟨rfl, AB⟩ F; have AQ := AN.step AB; clear AB z AN Ad
 refine s1 F (b_6 rfl F.e F.e) fun Af P => ?_; clear F Ae
 refine s1 P (a_0 rfl P.e) fun BE AA => ?_; clear P Af
 exact n1 (c_4 (a_6 (a_9 AA (.inl rfl) (a_2 AA rfl (.tmp rfl)) (⟨rfl, AQ.ext⟩))))
set_option maxHeartbeats 4000000 in
theorem HardDoubts_c (b : h_7) (vt vm : Value) (lr lb lk : Nat → Value) (w : World) (hT : j_1 w vt lr lb b.tabs) (hM : k_0 w vm lk b.macs) (l : List (Int × Int)) (xl : Value) (hxl : SlAt w xl 2 l.length (pairs l)) (hf : z_8 b l.length = true) (hr : k_9 b l = 0) (h6 : ¬ l.length ≤ 6) :
  Calls Try.prog 12 #[(Value.agg #[(iv b.scales), vt, vm]), xl] w (Ret fun v w' => v = .bool true ∧ Ext NoB w w') := by
 refine a_8 Try.func12 rfl fun i I => ?_
 replace I : Fr 60 [] [(0, (Value.agg #[(iv b.scales), vt, vm])), (1, xl)] i := I
 have hthl := thin_iff.1 hf; have hth := hthl.1; have AE := hthl.2; have htl9 := hth.tl; have hml9 := hth.ml; have hc := read_check hr; have hbl := read_ok hr; have hb := hbl.1; have hl := hbl.2; have AG := hb.scales
 have c : Sep NoB w w [(d_3 false vt lr lb b.tabs), (d_9 false vm lk b.macs), (sl xl 2 l.length (pairs l))] := f_2 ⟨rfl, hT, rfl, hM, rfl, hxl, trivial⟩
 refine m2 (s2 I (f_4 c rfl I.e (cs := [(iv b.scales), vt, vm]) rfl) ?_)
 rintro a1 _ w3 ⟨b4, rfl, C⟩ a; clear I c i
 refine s1 a (a_0 rfl (evc _ _)) fun a6 V => ?_; clear a a1
 refine n2 (m2 (s1 V (c_5 rfl ac_1 (V.ev rfl) (C.bk 0 rfl) (l := [(iv b.scales), vt, vm]) rfl rfl) fun a8 W => ?_)); clear V a6
 refine s1 W (a_1 rfl W.e) fun j D => ?_; clear W a8
 refine s2 D (b_3 rfl en_16 (ev2 D.e D.e) (thin_ok b vt vm lr lb lk _ (c_1 (C.ok 1 _ rfl)) (c_8 (C.ok 2 _ rfl)) l _ (C.sk 3 rfl))) ?_
 rintro k _ AH ⟨rfl, X⟩ E; have A := C.step X; clear X D C j
 have f : (z_8 b l.length) = true := hf
 rw [f] at E
 refine s1 E (g_0 rfl E.e) fun m J => ?_; clear E k
 refine s1 J (a_1 rfl J.e) fun n K => ?_; clear J m
 refine s5 K (c_5 rfl ac_1 (K.ev rfl) (A.bk 0 rfl) (l := [(iv b.scales), vt, vm]) rfl rfl) fun o L => ?_; clear K n
 refine s5 L (a_1 rfl L.e) fun p F => ?_; clear L o
 refine s6 F (b_3 rfl en_27 (ev2 F.e F.e) (fault_ok b vt vm lr lb lk _ (c_1 (A.ok 1 _ rfl)) (c_8 (A.ok 2 _ rfl)) hth l _ (A.sk 3 rfl) (by omega))) ?_
 rintro q _ AI ⟨rfl, Y⟩ M; have S := A.step Y; clear Y F A p
 refine s5 M (m_4 rfl M.e (evc _ _)) fun r G => ?_; clear M q
 have g : (k_9 b l) = 0 := hr
 rw [decide_eq_true g] at G
 refine s5 G (a_1 rfl G.e) fun s N => ?_; clear G r
 refine s5 N (a_1 rfl N.e) fun t O => ?_; clear N s
 refine s5 O (c_9 rfl u_8 O.e (S.sk 3 rfl)) fun u P => ?_; clear O t
 refine s5 P (i_4 rfl P.e (evc _ _)) fun x B => ?_; clear P u
 have h : 6 < (l.length : Int) := (by omega)
 rw [decide_eq_true h] at B
 refine s5 B (b_6 rfl B.e B.e) fun y H => ?_; clear B x
 refine s1 H (d_0 rfl H.e H.e) fun z Q => ?_; clear H y
 refine n1 (b_7 Q rfl (b_5 ?_))
 have T := Q.as [] rfl; clear Q
 refine a_5 (s2 T (b_3 rfl en_17 ev0 (awake_ok _)) ?_)
 rintro AA _ AJ ⟨rfl, Z⟩ R; have d := S.step Z; clear Z T S z
 refine s1 R (a_0 rfl R.e) fun AF U => ?_; clear R AA
 exact n1 (c_4 (a_6 (a_9 U (.inl rfl) (a_2 U rfl (.tmp rfl)) (⟨rfl, d.ext⟩))))
set_option maxHeartbeats 4000000 in
theorem HardDoubts_d (b : h_7) (vt vm : Value) (lr lb lk : Nat → Value) (w : World) (hT : j_1 w vt lr lb b.tabs) (hM : k_0 w vm lk b.macs) (l : List (Int × Int)) (xl : Value) (hxl : SlAt w xl 2 l.length (pairs l)) (hf : z_8 b l.length = true) (hr : k_9 b l = 0) (h6 : l.length ≤ 6) :
  Calls Try.prog 12 #[(Value.agg #[(iv b.scales), vt, vm]), xl] w (Ret fun v w' => v = .bool true ∧ Ext NoB w w') := by
 refine a_8 Try.func12 rfl fun a0 d => ?_
 replace d : Fr 60 [] [(0, (Value.agg #[(iv b.scales), vt, vm])), (1, xl)] a0 := d
 have hthl := thin_iff.1 hf; have hth := hthl.1; have BQ := hthl.2; have htl9 := hth.tl; have hml9 := hth.ml; have hc := read_check hr; have hbl := read_ok hr; have hb := hbl.1; have hl := hbl.2; have BV := hb.scales; have hdb := doubt_bd hb l
 have Aa : Sep NoB w w [(d_3 false vt lr lb b.tabs), (d_9 false vm lk b.macs), (sl xl 2 l.length (pairs l))] := f_2 ⟨rfl, hT, rfl, hM, rfl, hxl, trivial⟩
 refine m2 (s2 d (f_4 Aa rfl d.e (cs := [(iv b.scales), vt, vm]) rfl) ?_)
 rintro a1 _ w3 ⟨b4, rfl, M⟩ AZ; clear d Aa a0
 refine s1 AZ (a_0 rfl (evc _ _)) fun a6 AL => ?_; clear AZ a1
 refine n2 (m2 (s1 AL (c_5 rfl ac_1 (AL.ev rfl) (M.bk 0 rfl) (l := [(iv b.scales), vt, vm]) rfl rfl) fun a8 AN => ?_)); clear AL a6
 refine s1 AN (a_1 rfl AN.e) fun Aq S => ?_; clear AN a8
 refine s2 S (b_3 rfl en_16 (ev2 S.e S.e) (thin_ok b vt vm lr lb lk _ (c_1 (M.ok 1 _ rfl)) (c_8 (M.ok 2 _ rfl)) l _ (M.sk 3 rfl))) ?_
 rintro Ar _ BW ⟨rfl, AO⟩ V; have B := M.step AO; clear AO S M Aq
 have An : (z_8 b l.length) = true := hf
 rw [An] at V
 refine s1 V (g_0 rfl V.e) fun As f => ?_; clear V Ar
 refine s1 f (a_1 rfl f.e) fun At g => ?_; clear f As
 refine s5 g (c_5 rfl ac_1 (g.ev rfl) (B.bk 0 rfl) (l := [(iv b.scales), vt, vm]) rfl rfl) fun Au h => ?_; clear g At
 refine s5 h (a_1 rfl h.e) fun Av X => ?_; clear h Au
 refine s6 X (b_3 rfl en_27 (ev2 X.e X.e) (fault_ok b vt vm lr lb lk _ (c_1 (B.ok 1 _ rfl)) (c_8 (B.ok 2 _ rfl)) hth l _ (B.sk 3 rfl) (by omega))) ?_
 rintro Aw _ BX ⟨rfl, AP⟩ i; have C := B.step AP; clear AP X B Av
 refine s5 i (m_4 rfl i.e (evc _ _)) fun Ax Y => ?_; clear i Aw
 have AU : (k_9 b l) = 0 := hr
 rw [decide_eq_true AU] at Y
 refine s5 Y (a_1 rfl Y.e) fun Ay j => ?_; clear Y Ax
 refine s5 j (a_1 rfl j.e) fun Az k => ?_; clear j Ay
 refine s5 k (c_9 rfl u_8 k.e (C.sk 3 rfl)) fun A0 m => ?_; clear k Az
 refine s5 m (i_4 rfl m.e (evc _ _)) fun A1 K => ?_; clear m A0
 have Ao : ¬ (6 < (l.length : Int)) := (by omega)
 rw [decide_eq_false Ao] at K
 refine s5 K (b_6 rfl K.e K.e) fun A2 Z => ?_; clear K A1
 refine s1 Z (d_0 rfl Z.e Z.e) fun A3 n => ?_; clear Z A2
 refine n1 (b_4 n rfl (c_6 (a_7 (b_5 ?_))))
 have o := n.as [(2, (bptr b4 0)), (1, xl)] rfl; clear n
 refine a_5 (s1 o (c_5 rfl ac_1 (o.ev rfl) (C.bk 0 rfl) (l := [(iv b.scales), vt, vm]) rfl rfl) fun A4 p => ?_); clear o A3
 refine s2 p (b_3 rfl en_19 (ev1 p.e) (Book_ok b vt vm lr lb lk _ (c_1 (C.ok 1 _ rfl)) (c_8 (C.ok 2 _ rfl)) hth)) ?_
 rintro A5 _ BY ⟨vt53, vm54, lr55, lb56, lk57, rfl, AS⟩ q; have AE := C.aa_5 AS rfl; clear AS p C A4
 refine s1 q (a_1 rfl q.e) fun A6 r => ?_; clear q A5
 refine s2 r (b_3 rfl en_26 (ev1 r.e) (Readings_ok l _ _ (AE.sk 5 rfl) (by omega))) ?_
 rintro A7 BK BZ ⟨AQ, hO66⟩ a; have L := AE.x_8 AQ hO66; clear AQ hO66 r AE A6
 refine s2 a (b_3 rfl en_41 (ev2 a.e a.e) (Doubt_ok b vt53 vm54 lr55 lb56 lk57 _ (c_1 (L.ok 1 _ rfl)) (c_8 (L.ok 2 _ rfl)) hth l _ (SlAt.d_6 (L.e_4 0 rfl)) (by omega) hr)) ?_
 rintro A8 _ BL ⟨AV, rfl, AT⟩ s
 have D : Sep NoB w BL [(row AV 3 1 ((l_0 b l).length) (ints (l_0 b l))), (row BK 98 2 l.length (pairs l)), (d_3 true vt53 lr55 lb56 b.tabs), (d_9 true vm54 lk57 b.macs), (blk b4 25 [(iv b.scales), vt, vm]), (d_3 false vt lr lb b.tabs), (d_9 false vm lk b.macs), (sl xl 2 l.length (pairs l))] := L.aa_5 AT rfl; clear AT a L A7
 refine s1 s (a_1 rfl s.e) fun A9 t => ?_; clear s A8
 refine s1 t (e_9 rfl t.e rfl) fun BA u => ?_; clear t A9
 refine s1 u (e_9 rfl u.e rfl) fun BB x => ?_; clear u BA
 refine s1 x (a_0 rfl x.e) fun BC y => ?_; clear x BB
 refine s1 y (a_0 rfl y.e) fun BD AM => ?_; clear y BC
 refine n2 (b_5 ?_)
 have z := AM.as [(6, (iv 0)), (5, AV), (2, (bptr b4 0)), (1, xl)] rfl; clear AM
 refine a_5 (s1 z (c_5 rfl ac_1 (z.ev rfl) (D.bk 4 rfl) (l := [(iv b.scales), vt, vm]) rfl rfl) fun BE AA => ?_); clear z BD
 refine s1 AA (a_1 rfl AA.e) fun BF c => ?_; clear AA BE
 refine s2 c (b_3 rfl en_27 (ev2 c.e c.e) (fault_ok b vt vm lr lb lk _ (c_1 (D.ok 5 _ rfl)) (c_8 (D.ok 6 _ rfl)) hth l _ (D.sk 7 rfl) (by omega))) ?_
 rintro BG _ Ba ⟨rfl, AR⟩ AB; have E := D.step AR; clear AR c D BF
 refine s1 AB (a_0 rfl AB.e) fun BH AC => ?_; clear AB BG
 refine n4 (s1 AC (a_1 rfl AC.e) fun BI AD => ?_); clear AC BH
 refine s1 AD (u_1 rfl AD.e (evc _ _)) fun BJ F => ?_; clear AD BI
 rw [decide_eq_true AU] at F
 refine n1 (b_4 F rfl (c_6 (a_7 (b_5 ?_))))
 have N := F.as [(6, (iv 0)), (5, AV), (2, (bptr b4 0)), (1, xl)] rfl; clear F
 refine a_5 (s1 N (a_1 rfl N.e) fun Ab O => ?_); clear N BJ
 refine s1 O (m_4 rfl O.e (evc _ _)) fun Ac P => ?_; clear O Ab
 refine s1 P (a_1 rfl P.e) fun Ad Q => ?_; clear P Ac
 refine s5 Q (a_1 rfl Q.e) fun Ae R => ?_; clear Q Ad
 refine s5 R (c_5 rfl ac_1 (R.ev rfl) (E.bk 4 rfl) (l := [(iv b.scales), vt, vm]) rfl rfl) fun Af T => ?_; clear R Ae
 refine s5 T (a_1 rfl T.e) fun Ag G => ?_; clear T Af
 refine s6 G (b_3 rfl en_42 (ev2 G.e G.e) (rDoubtful_ok b vt vm lr lb lk _ (c_1 (E.ok 5 _ rfl)) (c_8 (E.ok 6 _ rfl)) hth hb l _ (E.sk 7 rfl) hl (by omega))) ?_
 rintro Ah BR BS ⟨AH, hO118⟩ H; have J := E.x_8 AH hO118; clear AH hO118 G E Ag
 refine s6 H (b_3 rfl en_36 (ev2 H.e H.e) (ints_ok (l_0 b l) _ _ (SlAt.d_6 (J.e_4 1 rfl)) (l_0 b l) _ (SlAt.d_6 (J.e_4 0 rfl)) (by omega))) ?_
 rintro Ai _ BT ⟨rfl, AI⟩ A; have AK := J.step AI; clear AI H J Ah
 have AY : (decide ((l_0 b l) = (l_0 b l))) = true := (decide_eq_true rfl)
 rw [AY] at A
 refine s1 A (b_6 rfl A.e A.e) fun Aj U => ?_; clear A Ai
 refine s1 U (a_1 rfl U.e) fun Ak AF => ?_; clear U Aj
 refine s6 AF (b_3 rfl en_17 ev0 (awake_ok _)) ?_
 rintro Al _ BU ⟨rfl, AJ⟩ I; have AX := AK.step AJ; clear AJ AF AK Ak
 refine s1 I (b_6 rfl I.e I.e) fun Am W => ?_; clear I Al
 refine s1 W (a_0 rfl W.e) fun BN AG => ?_; clear W Am
 exact n1 (c_4 (a_9 AG (.inl rfl) (a_2 AG rfl (.tmp rfl)) (⟨rfl, AX.ext⟩)))
theorem HardDoubts_ok (b : h_7) (vt vm : Value) (lr lb lk : Nat → Value) (w : World) (hT : j_1 w vt lr lb b.tabs) (hM : k_0 w vm lk b.macs) (l : List (Int × Int)) (xl : Value) (hxl : SlAt w xl 2 l.length (pairs l)) : Calls Try.prog 12 #[.agg #[.int .i64 b.scales, vt, vm], xl] w (Ret fun v w' => v = .bool true ∧ Ext NoB w w') := by
 rcases Bool.eq_false_or_eq_true (z_8 b l.length) with hf | hf
 ·by_cases hr : k_9 b l = 0
  ·by_cases A : l.length ≤ 6
   ·exact HardDoubts_d b vt vm lr lb lk w hT hM l xl hxl hf hr A
   exact HardDoubts_c b vt vm lr lb lk w hT hM l xl hxl hf hr A
  exact HardDoubts_b b vt vm lr lb lk w hT hM l xl hxl hf hr
 exact HardDoubts_a b vt vm lr lb lk w hT hM l xl hxl hf
end Go.Proofs.Ytohgladndklciaa
