/-
  How the program finds the spans: the first ranges reading by reading, then pass by pass.
  Books built in memory: slices of slices, one more; tables and machines as one thing.
  The chapter's book and what it shows; decided by the kernel.
  What the laws ask first: may a book be played; narrower spans. What HardAllows says.
  Values that fit a book: told by all their tests at once.
  The doubtful readings: lists of numbers by size, readings but some, the first list without which the others fit.
-/
import Derived.Test.YtohgladndklciaaBb
import Derived.Test.YtohgladndklciaaEnga
set_option linter.unusedSimpArgs false
set_option linter.unusedVariables false
namespace Go.Proofs.Ytohgladndklciaa
open Go.RowKit Go.Shelf Go.Eng Go.Hard
theorem ze_120 : (Try.prog.info? 120).bind (·.zero) = some (Value.agg #[(iv 0), (iv 0), (iv 0), (iv 0), (iv 0), (iv 0), (iv 0), (iv 0)]) := by kernel_rfl
theorem fd_146_0 : fldK Try.prog 146 0 = some 0 := by kernel_rfl
theorem w_7 : Try.prog.underlying 120 = some (.array 4 30) := by kernel_rfl
theorem j_9 : tyK Try.prog 120 = some (true, 8) := by kernel_rfl
theorem en_108 : ∀ args w, (callFunc 108 args).run Try.prog w = .ok (.enter 108 args) w := enters_of Try.func108 (by kernel_rfl) rfl
set_option maxHeartbeats 4000000 in
theorem cutb_ok (b : f_7) (vt vm : Value) (lr lb lk : Nat → Value) (w : World) (hT : k_1 w vt lr lb b.tabs) (hM : m_3 w vm lk b.macs) (hth : l_4 b) (bx bm : Nat) (es : Array MapEntry) (ck : Nat) (hMO : o_8 bm es ck (bN b.tabs b.tabs.length)) (hbx : (blk bx 146 [.int .i64 b.scales, vt, vm, .map (some bm)]).p w) (hmx : (mapX false bm es ck es.size 106 5 (bN b.tabs b.tabs.length) (bC lr lb b.tabs b.tabs.length)).p w) (hb : m_2 b) (s : List (Int × Int)) (hs : s.length = 4) :
  Calls Try.prog 88 #[(bptr bx 0), (Value.agg (pairs s).toArray)] w (Ret fun v w' => v = .tuple #[.agg (pairs (g_4 (f_5 b.scales.toNat b.tabs) s).1).toArray, .bool (z_4 b.scales.toNat (g_4 (f_5 b.scales.toNat b.tabs) s).1)] ∧ Ext NoB w w') := by
 refine a_7 Try.func88 rfl fun a0 Aa => ?_
 replace Aa : Fr 71 [] [(0, (bptr bx 0)), (1, (Value.agg (pairs s).toArray))] a0 := Aa
 have hsc := hb.scales; have htl9 := hth.tl
 have Bz : Sep NoB w w [(rob bx 146 [(iv b.scales), vt, vm, (Value.map (some bm))]), (mapX false bm es ck es.size 106 5 (bN b.tabs b.tabs.length) (bC lr lb b.tabs b.tabs.length)), (c_0 false vt lr lb b.tabs), (c_3 false vm lk b.macs)] := f_0 ⟨rfl, hbx, rfl, hmx, rfl, hT, rfl, hM, trivial⟩
 refine m2 (s2 Aa (f_3 Bz rfl Aa.e (cs := (pairs s)) rfl) ?_)
 rintro a1 _ w3 ⟨L, rfl, B0⟩ Bx; clear Aa Bz a0
 refine s2 Bx (d_2 B0 rfl ze_120 (cs := (pairs ([(0, 0), (0, 0), (0, 0), (0, 0)]))) rfl) ?_
 rintro a6 _ w8 ⟨Q, rfl, Aw⟩ By; clear Bx B0 a1
 refine s1 By (a_0 rfl (evc _ _)) fun CP Ac => ?_; clear By a6
 refine n1 (c_scope (d_3 (c_label (b_3 (d_3 (m2 (s1 Ac (a_1 rfl Ac.e) fun CQ Ad => ?_))))))); clear Ac CP
 refine s1 Ad (n_9 rfl Ad.e) fun CR Ae => ?_; clear Ad CQ
 refine s1 Ae (a_4 rfl fd_146_0 Ae.e) fun CS Af => ?_; clear Ae CR
 refine s1 Af (a_4 rfl x_0 Af.e) fun CT Ag => ?_; clear Af CS
 refine s1 Ag (a_3 rfl ty_3 Ag.e (Aw.rk 2 rfl) rfl) fun CU Ba => ?_; clear Ag CT
 refine s1 Ba (a_1 rfl (evc _ _)) fun CV Bb => ?_; clear Ba CU
 refine n1 (e_3 ?_)
 have Bc := Bb.as [(15, (iv 0)), (14, (iv b.scales)), (4, (bptr Q 0)), (3, (bptr L 0)), (0, (bptr bx 0))] rfl; clear Bb
 refine k_4 (G := Nat) (fun (k : Nat) a_ w_ => ∃ D : List (Int × Int), Fr 71 [] [(15, (iv (k : Int))), (14, (iv b.scales)), (4, (bptr Q 0)), (3, (bptr L 0)), (0, (bptr bx 0))] a_ ∧ Sep NoB w w_ [(blk Q 120 (pairs ([(0, 0), (0, 0), (0, 0), (0, 0)]))), (blk L 120 (pairs D)), (rob bx 146 [(iv b.scales), vt, vm, (Value.map (some bm))]), (mapX false bm es ck es.size 106 5 (bN b.tabs b.tabs.length) (bC lr lb b.tabs b.tabs.length)), (c_0 false vt lr lb b.tabs), (c_3 false vm lk b.macs)] ∧ (k ≤ b.scales.toNat) ∧ (D.length = 4) ∧ (Cut0 b.scales.toNat b.tabs s k D)) (fun k => b.scales.toNat - k) 0 ⟨s, Bc.as _ rfl, Aw, by omega, hs, cut_00⟩ ?_
 clear Bc Aw CV
 rintro k CW DP ⟨D, AM, X, hk, Cx, Bo⟩
 refine m2 (s1 AM (h_8 rfl AM.e AM.e) fun CX R => ?_); clear AM CW
 refine n2 ?_
 by_cases Bl : (k : Int) < b.scales
 ·skip
  rw [decide_eq_true Bl] at R
  refine d_6 R rfl (e_1 (b_3 (d_3 (e_3 (m2 (s1 R (a_1 rfl R.e) fun CY Ah => ?_)))))); clear R CX
  refine s1 Ah (a_0 rfl Ah.e) fun CZ Ai => ?_; clear Ah CY
  refine n4 (s1 Ai (a_1 rfl Ai.e) fun Ca Aj => ?_); clear Ai CZ
  refine s1 Aj (n_9 rfl Aj.e) fun Cb Ak => ?_; clear Aj Ca
  refine s1 Ak (a_4 rfl fd_146_0 Ak.e) fun Cc Al => ?_; clear Ak Cb
  refine s1 Al (a_4 rfl x_0 Al.e) fun Cd Am => ?_; clear Al Cc
  refine s1 Am (a_3 rfl ty_3 Am.e (X.rk 2 rfl) rfl) fun Ce Bd => ?_; clear Am Cd
  refine s1 Bd (a_1 rfl (evc _ _)) fun Cf Be => ?_; clear Bd Ce
  refine n1 (e_3 ?_)
  have Bf := Be.as [(23, (iv 0)), (22, (iv b.scales)), (6, (iv (k : Int))), (15, (iv (k : Int))), (14, (iv b.scales)), (4, (bptr Q 0)), (3, (bptr L 0)), (0, (bptr bx 0))] rfl; clear Be
  refine k_4 (G := Nat) (fun (A : Nat) a_ w_ => ∃ x1 : List (Int × Int), Fr 71 [] [(23, (iv (A : Int))), (22, (iv b.scales)), (6, (iv (k : Int))), (15, (iv (k : Int))), (14, (iv b.scales)), (4, (bptr Q 0)), (3, (bptr L 0)), (0, (bptr bx 0))] a_ ∧ Sep NoB w w_ [(blk Q 120 (pairs ([(0, 0), (0, 0), (0, 0), (0, 0)]))), (blk L 120 (pairs x1)), (rob bx 146 [(iv b.scales), vt, vm, (Value.map (some bm))]), (mapX false bm es ck es.size 106 5 (bN b.tabs b.tabs.length) (bC lr lb b.tabs b.tabs.length)), (c_0 false vt lr lb b.tabs), (c_3 false vm lk b.macs)] ∧ (A ≤ b.scales.toNat) ∧ (x1.length = 4) ∧ (Cut1 b.scales.toNat b.tabs s k A x1)) (fun A => b.scales.toNat - A) 0 ⟨D, Bf.as _ rfl, X, by omega, Cx, (cut_01 (by omega) Bo)⟩ ?_
  clear Bf X Cf
  rintro A Cg DQ ⟨x1, AN, T, DN, B2, B1⟩
  refine m2 (s1 AN (h_8 rfl AN.e AN.e) fun Bv P => ?_); clear AN Cg
  refine n2 ?_
  by_cases Bm : (A : Int) < b.scales
  ·skip
   rw [decide_eq_true Bm] at P
   refine d_6 P rfl (e_1 (b_3 (d_3 (e_3 (m2 (s1 P (a_1 rfl P.e) fun Ch An => ?_)))))); clear P Bv
   refine s1 An (a_0 rfl An.e) fun Ci Ao => ?_; clear An Ch
   refine n4 (s1 Ao (a_1 rfl Ao.e) fun Cj Ap => ?_); clear Ao Ci
   refine s1 Ap (n_9 rfl Ap.e) fun Ck Aq => ?_; clear Ap Cj
   refine s1 Aq (a_4 rfl fd_146_1 Aq.e) fun Cl Ar => ?_; clear Aq Ck
   refine s1 Ar (a_3 rfl ty_144 Ar.e (T.rk 2 rfl) rfl) fun Cm As => ?_; clear Ar Cl
   refine s1 As (a_1 rfl As.e) fun Cn At => ?_; clear As Cm
   refine s1 At (a_1 rfl At.e) fun Co AO => ?_; clear At Cn
   refine s1 AO (c_7 rfl (pv2 AO.e AO.e) (bd_162_0i_1i _ _)) fun Cp AP => ?_; clear AO Co
   refine s2 AP (op_lookupF T rfl un_144 pair_162 zs_34 AP.e AP.e (ix := 3) rfl hMO (fun _ _ => bC_zero)) ?_
   rintro Cq u W_ ⟨hW_, hu⟩ Au; have hW2_ := hW_.symm; subst hW2_; clear hW_ AP Cp
   have hsl : (selT b.tabs (selU b.tabs b.tabs.length (A : Int) (k : Int))).length = bN b.tabs b.tabs.length (A : Int) (k : Int) := r_7 _ _; have hbn := bN_le b.tabs b.tabs.length (A : Int) (k : Int)
   refine s1 Au (e_8 rfl x_3 Au.e (r_8 (c_5 (T.ok 4 _ rfl)) (fun q_ h_ => w_4 h_) (hu _ (T.ok 3 _ rfl))).tabs) fun Cr Bg => ?_; clear Au Cq
   refine s1 Bg (a_1 rfl (evc _ _)) fun Cs Bh => ?_; clear Bg Cr
   refine n1 (e_3 ?_)
   have Bi := Bh.as [(35, (iv 0)), (34, (iv ((selT b.tabs (selU b.tabs b.tabs.length (A : Int) (k : Int))).length : Int))), (33, u), (7, (iv (A : Int))), (23, (iv (A : Int))), (22, (iv b.scales)), (6, (iv (k : Int))), (15, (iv (k : Int))), (14, (iv b.scales)), (4, (bptr Q 0)), (3, (bptr L 0)), (0, (bptr bx 0))] rfl; clear Bh
   refine k_4 (G := Nat) (fun (C : Nat) a_ w_ => ∃ B : List (Int × Int), Fr 71 [] [(35, (iv (C : Int))), (34, (iv ((selT b.tabs (selU b.tabs b.tabs.length (A : Int) (k : Int))).length : Int))), (33, u), (7, (iv (A : Int))), (23, (iv (A : Int))), (22, (iv b.scales)), (6, (iv (k : Int))), (15, (iv (k : Int))), (14, (iv b.scales)), (4, (bptr Q 0)), (3, (bptr L 0)), (0, (bptr bx 0))] a_ ∧ Sep NoB w w_ [(blk Q 120 (pairs ([(0, 0), (0, 0), (0, 0), (0, 0)]))), (blk L 120 (pairs B)), (rob bx 146 [(iv b.scales), vt, vm, (Value.map (some bm))]), (mapX false bm es ck es.size 106 5 (bN b.tabs b.tabs.length) (bC lr lb b.tabs b.tabs.length)), (c_0 false vt lr lb b.tabs), (c_3 false vm lk b.macs)] ∧ (C ≤ (selT b.tabs (selU b.tabs b.tabs.length (A : Int) (k : Int))).length) ∧ (B.length = 4) ∧ (Cut2 b.scales.toNat b.tabs s k A C B)) (fun C => (selT b.tabs (selU b.tabs b.tabs.length (A : Int) (k : Int))).length - C) 0 ⟨x1, Bi.as _ rfl, T, by omega, B2, (cut_12 (by omega) B1)⟩ ?_
   clear Bi T Cs
   rintro C Ct DR ⟨B, AQ, U, DO, Ab, q⟩
   refine m2 (s1 AQ (h_8 rfl AQ.e AQ.e) fun Bw N => ?_); clear AQ Ct
   refine n2 ?_
   by_cases Bn : (C : Int) < ((selT b.tabs (selU b.tabs b.tabs.length (A : Int) (k : Int))).length : Int)
   ·skip
    rw [decide_eq_true Bn] at N
    refine d_6 N rfl (e_1 (b_3 (d_3 (e_3 (m2 (s1 N (b_6 rfl x_3 j_5 N.e (i := C) N.e (r_8 (c_5 (U.ok 4 _ rfl)) (fun q_ h_ => w_4 h_) (hu _ (U.ok 3 _ rfl))).tabs (by decide) (by omega)) fun Cu Av => ?_)))))); clear N Bw
    refine s1 Av (e_7 rfl j_5 Av.e (r_8 (c_5 (U.ok 4 _ rfl)) (fun q_ h_ => w_4 h_) (hu _ (U.ok 3 _ rfl))).tabs (tabs_all (by omega)) rfl (by decide)) fun Cv Bj => ?_; clear Av Cu
    refine s2 Bj (d_2 U rfl ze_106 (cs := [(iv 0), (iv 0), (Value.slice none 0 0), (Value.slice none 0 0), (iv 0)]) rfl) ?_
    rintro Cw _ DS ⟨r, rfl, Y⟩ AR; clear Bj U Cv
    refine s7 AR (b_4 Y rfl j_5 AR.e AR.e (i := 0) rfl (vs := [(iv (((selT b.tabs (selU b.tabs b.tabs.length (A : Int) (k : Int))).getD C tab0).frm)), (iv (((selT b.tabs (selU b.tabs b.tabs.length (A : Int) (k : Int))).getD C tab0).dst)), ((selV lr (selU b.tabs b.tabs.length (A : Int) (k : Int))) C), ((selV lb (selU b.tabs b.tabs.length (A : Int) (k : Int))) C), (iv (((selT b.tabs (selU b.tabs b.tabs.length (A : Int) (k : Int))).getD C tab0).err))]) rfl rfl (k_2 rfl (k_2 rfl (k_2 (SlAt.one ((r_8 (c_5 (Y.ok 5 _ rfl)) (fun q_ h_ => w_4 h_) (hu _ (Y.ok 4 _ rfl))).row (i := C) (by omega))) (k_2 (SlAt.one ((r_8 (c_5 (Y.ok 5 _ rfl)) (fun q_ h_ => w_4 h_) (hu _ (Y.ok 4 _ rfl))).brk (i := C) (by omega))) (k_2 rfl y_2))))) (Nat.le_of_ble_eq_true rfl)) ?_
    intro _ Cy Bk t; clear AR
    have AU : Sep NoB w Cy [(blk r 106 [(iv (((selT b.tabs (selU b.tabs b.tabs.length (A : Int) (k : Int))).getD C tab0).frm)), (iv (((selT b.tabs (selU b.tabs b.tabs.length (A : Int) (k : Int))).getD C tab0).dst)), ((selV lr (selU b.tabs b.tabs.length (A : Int) (k : Int))) C), ((selV lb (selU b.tabs b.tabs.length (A : Int) (k : Int))) C), (iv (((selT b.tabs (selU b.tabs b.tabs.length (A : Int) (k : Int))).getD C tab0).err))]), (blk Q 120 (pairs ([(0, 0), (0, 0), (0, 0), (0, 0)]))), (blk L 120 (pairs B)), (rob bx 146 [(iv b.scales), vt, vm, (Value.map (some bm))]), (mapX false bm es ck es.size 106 5 (bN b.tabs b.tabs.length) (bC lr lb b.tabs b.tabs.length)), (c_0 false vt lr lb b.tabs), (c_3 false vm lk b.macs)] := Bk; clear Bk Y
    refine n2 (m2 (s1 t (a_1 rfl t.e) fun B3 Z => ?_)); clear t Cw
    refine s1 Z (o_4 rfl w_7 f_1 Z.e (i := k) Z.e (by omega)) fun B4 x => ?_; clear Z B3
    refine s1 x (b_9 rfl f_1 (x.ev rfl) (AU.bk 2 rfl) (l := [(iv ((B.getD k (0, 0)).1)), (iv ((B.getD k (0, 0)).2))]) (s_1 (xs := B) (i := k) (by omega)) rfl) fun B5 y => ?_; clear x B4
    refine s2 y (a_8 rfl en_68 (ev1 y.e) (w_0 _ _ _)) ?_
    rintro C0 _ DE ⟨rfl, BH⟩ O; have V := AU.step BH; clear BH y AU B5
    refine n1 ?_
    by_cases BY : ((B.getD k (0, 0)).2) < ((B.getD k (0, 0)).1)
    ·skip
     rw [decide_eq_true BY] at O
     refine d_6 O rfl (j_7 (b_7 (blk_miss (by decide) (b_7 (b_7 (blk_miss (by decide) (blk_miss (by decide) (b_7 (b_7 (blk_miss (by decide) (blk_miss (by decide) (b_7 ?_))))))))))))
     refine b_7 (h_6 (b_3 (d_3 ?_)))
     have Ax := O.as [(4, (bptr Q 0)), (3, (bptr L 0)), (0, (bptr bx 0))] rfl; clear O
     have z := Ax.as [(4, (bptr Q 0)), (3, (bptr L 0)), (0, (bptr bx 0))] rfl; clear Ax
     refine c_drawF mixed z V 9 8 rfl rfl [[], [], [1], [2], [3], [4], [5], [6], [7]] [(yw (Value.agg (pairs B).toArray)), (yw (bptr bx 0)), (yw (bptr bx 0)), (yw (bptr bx 0)), (yw (bptr bx 0)), (yw (iv b.scales)), (yw (Value.slice (some ⟨L, 0, none⟩) b.scales.toNat 4)), (yw (Value.bool ((List.range (B.take b.scales.toNat).length).any fun i => decide (((B.take b.scales.toNat).getD i (0, 0)).2 < ((B.take b.scales.toNat).getD i (0, 0)).1)))), (yw (Value.bool (!((List.range (B.take b.scales.toNat).length).any fun i => decide (((B.take b.scales.toNat).getD i (0, 0)).2 < ((B.take b.scales.toNat).getD i (0, 0)).1)))))] (by decide +kernel) (by decide +kernel) (by decide +kernel) rfl rfl ⟨dw, dw, dw, dw, dw, dw, dw, dw, dw, trivial⟩ ?_ ?_ ?_
     ·skip
      refine ⟨fun a w J hA hS hd => gv1 (b_9 rfl j_9 hA.e (hS.bk 2 rfl) (l := (pairs B)) (f_6 _ _ (show (pairs B).length = 8 from by simp only [a_6, List.length_set]; omega)) (show (pairs B).length = 8 from by simp only [a_6, List.length_set]; omega)), ?_⟩
      refine ⟨fun a w J hA hS hd => gv1 (a_1 rfl hA.e), ?_⟩
      refine ⟨fun a w J hA hS hd => gv1 (n_9 rfl (gu hd 1)), ?_⟩
      refine ⟨fun a w J hA hS hd => gv1 (a_4 rfl fd_146_0 (gu hd 2)), ?_⟩
      refine ⟨fun a w J hA hS hd => gv1 (a_4 rfl x_0 (gu hd 3)), ?_⟩
      refine ⟨fun a w J hA hS hd => gv1 (a_3 rfl ty_3 (gu hd 4) (hS.rk 3 rfl) rfl), ?_⟩
      refine ⟨fun a w J hA hS hd => gv1 (op_sliceArr rfl w_7 f_1 hA.e (h := b.scales.toNat) ((gu hd 5).trans (m_7 (by omega))) (by omega)), ?_⟩
      refine ⟨fun a w J hA hS hd => gx1 (a_8 rfl en_108 (ev2 (gu hd 6) (evf _ _)) (contf_rng (B.take b.scales.toNat) _ 68 #[] #[] (fun i => decide (((B.take b.scales.toNat).getD i (0, 0)).2 < ((B.take b.scales.toNat).getD i (0, 0)).1)) _ ((SlAt.of_blkCut (hS.bk 2 rfl) (by rw [a_6]; omega) (by omega) (by decide)).say (by rw [List.length_take]; omega) (pairs_takeH _ _)) (by rw [List.length_take]; omega) ⟨en_68, fun i hi W hW => w_0 _ _ W⟩)), ?_⟩
      refine ⟨fun a w J hA hS hd => gv1 (g_0 rfl (gu hd 7)), ?_⟩
      trivial
     ·skip
      intro B6 CK J rsf122 Ay E AV; clear z V
      have BJ : Sep NoB w CK [(blk r 106 [(iv (((selT b.tabs (selU b.tabs b.tabs.length (A : Int) (k : Int))).getD C tab0).frm)), (iv (((selT b.tabs (selU b.tabs b.tabs.length (A : Int) (k : Int))).getD C tab0).dst)), ((selV lr (selU b.tabs b.tabs.length (A : Int) (k : Int))) C), ((selV lb (selU b.tabs b.tabs.length (A : Int) (k : Int))) C), (iv (((selT b.tabs (selU b.tabs b.tabs.length (A : Int) (k : Int))).getD C tab0).err))]), (blk Q 120 (pairs ([(0, 0), (0, 0), (0, 0), (0, 0)]))), (blk L 120 (pairs B)), (rob bx 146 [(iv b.scales), vt, vm, (Value.map (some bm))]), (mapX false bm es ck es.size 106 5 (bN b.tabs b.tabs.length) (bC lr lb b.tabs b.tabs.length)), (c_0 false vt lr lb b.tabs), (c_3 false vm lk b.macs)] := by rw [show catR rsf122 0 9 = ([] : List Res) by (try simp only [catR, gr (E 0 (by decide)), gr (E 1 (by decide)), gr (E 2 (by decide)), gr (E 3 (by decide)), gr (E 4 (by decide)), gr (E 5 (by decide)), gr (E 6 (by decide)), gr (E 7 (by decide)), gr (E 8 (by decide))]); (try rfl)] at AV; exact AV
      have Az := Ay.add (gs (E 0 (by decide))); clear Ay
      have c := Az.add (gs (E 8 (by decide))); clear Az
      clear E AV 
      refine s7 c (b_4 BJ rfl j_9 c.e c.e (i := 1) rfl (vs := (pairs B)) rfl (show (pairs B).length = 8 from by simp only [a_6, List.length_set]; omega) (j_4 _) (by simp only [a_6, List.length_set, List.length_cons, List.length_nil]; omega)) ?_
      intro _ DF BK AA; have BL := BK.n_1 (i := 1) rfl (cs' := (pairs B)) (i_3 _ _ (by first | (simp only [a_6, List.length_set, List.length_cons, List.length_nil]; done) | (simp only [a_6, List.length_set, List.length_cons, List.length_nil]; omega))); clear BK c BJ
      refine s1 AA (a_0 rfl AA.e) fun C1 A0 => ?_; clear AA B6
      refine n1 (c_6 (ng_ret ?_))
      refine b_0 A0 (.inl rfl) (c_4 A0 rfl (.cellA rfl j_9 (BL.bk 1 rfl) (l := (pairs B)) (f_6 _ _ (show (pairs B).length = 8 from by simp only [a_6, List.length_set]; omega)) (show (pairs B).length = 8 from by simp only [a_6, List.length_set]; omega)) (.tmp rfl)) ?_
      have hz : g_4 (f_5 b.scales.toNat b.tabs) s = (B, true) := cut_brk (by omega) q (by assumption)
      exact ⟨by rw [hz, ← full_any (s := B) (by omega)], BL.ext⟩
     skip
     intro B7 CL J rsf137 A1 H hrq AW; clear z V
     have BM : Sep NoB w CL [(blk r 106 [(iv (((selT b.tabs (selU b.tabs b.tabs.length (A : Int) (k : Int))).getD C tab0).frm)), (iv (((selT b.tabs (selU b.tabs b.tabs.length (A : Int) (k : Int))).getD C tab0).dst)), ((selV lr (selU b.tabs b.tabs.length (A : Int) (k : Int))) C), ((selV lb (selU b.tabs b.tabs.length (A : Int) (k : Int))) C), (iv (((selT b.tabs (selU b.tabs b.tabs.length (A : Int) (k : Int))).getD C tab0).err))]), (blk Q 120 (pairs ([(0, 0), (0, 0), (0, 0), (0, 0)]))), (blk L 120 (pairs B)), (rob bx 146 [(iv b.scales), vt, vm, (Value.map (some bm))]), (mapX false bm es ck es.size 106 5 (bN b.tabs b.tabs.length) (bC lr lb b.tabs b.tabs.length)), (c_0 false vt lr lb b.tabs), (c_3 false vm lk b.macs)] := by rw [show catR rsf137 0 9 = ([] : List Res) by (try simp only [catR, gr (H 0 (by decide) (by decide)), gr (H 1 (by decide) (by decide)), gr (H 2 (by decide) (by decide)), gr (H 3 (by decide) (by decide)), gr (H 4 (by decide) (by decide)), gr (H 5 (by decide) (by decide)), gr (H 6 (by decide) (by decide)), gr (H 7 (by decide) (by decide)), hrq]); (try rfl)] at AW; exact AW
     have A2 := A1.add (gs (H 0 (by decide) (by decide))); clear A1
     have d := A2.add (gs (H 7 (by decide) (by decide))); clear A2
     clear H AW  hrq
     refine s7 d (b_4 BM rfl j_9 d.e d.e (i := 1) rfl (vs := (pairs B)) rfl (show (pairs B).length = 8 from by simp only [a_6, List.length_set]; omega) (j_4 _) (by simp only [a_6, List.length_set, List.length_cons, List.length_nil]; omega)) ?_
     intro _ DG BN AB; have BO := BN.n_1 (i := 1) rfl (cs' := (pairs B)) (i_3 _ _ (by first | (simp only [a_6, List.length_set, List.length_cons, List.length_nil]; done) | (simp only [a_6, List.length_set, List.length_cons, List.length_nil]; omega))); clear BN d BM
     refine s1 AB (g_0 rfl AB.e) fun B8 AC => ?_; clear AB B7
     refine s1 AC (a_0 rfl AC.e) fun C2 A3 => ?_; clear AC B8
     refine n1 (c_6 (ng_ret ?_))
     refine b_0 A3 (.inl rfl) (c_4 A3 rfl (.cellA rfl j_9 (BO.bk 1 rfl) (l := (pairs B)) (f_6 _ _ (show (pairs B).length = 8 from by simp only [a_6, List.length_set]; omega)) (show (pairs B).length = 8 from by simp only [a_6, List.length_set]; omega)) (.tmp rfl)) ?_
     have hz : g_4 (f_5 b.scales.toNat b.tabs) s = (B, true) := cut_brk (by omega) q (by assumption)
     exact ⟨by rw [hz, ← full_any (s := B) (by omega)], BO.ext⟩
    skip
    rw [decide_eq_false BY] at O
    refine b_8 O rfl (e_1 (b_3 (d_3 ?_)))
    have A4 := O.as [(9, (bptr r 0)), (35, (iv (C : Int))), (34, (iv ((selT b.tabs (selU b.tabs b.tabs.length (A : Int) (k : Int))).length : Int))), (33, u), (7, (iv (A : Int))), (23, (iv (A : Int))), (22, (iv b.scales)), (6, (iv (k : Int))), (15, (iv (k : Int))), (14, (iv b.scales)), (4, (bptr Q 0)), (3, (bptr L 0)), (0, (bptr bx 0))] rfl; clear O
    have A5 := A4.as [(9, (bptr r 0)), (35, (iv (C : Int))), (34, (iv ((selT b.tabs (selU b.tabs b.tabs.length (A : Int) (k : Int))).length : Int))), (33, u), (7, (iv (A : Int))), (23, (iv (A : Int))), (22, (iv b.scales)), (6, (iv (k : Int))), (15, (iv (k : Int))), (14, (iv b.scales)), (4, (bptr Q 0)), (3, (bptr L 0)), (0, (bptr bx 0))] rfl; clear A4
    refine i_7 mixed A5 V 4 [[], [], [1], [2]] [(Yd.val (Value.agg #[(iv (((selT b.tabs (selU b.tabs b.tabs.length (A : Int) (k : Int))).getD C tab0).frm)), (iv (((selT b.tabs (selU b.tabs b.tabs.length (A : Int) (k : Int))).getD C tab0).dst)), ((selV lr (selU b.tabs b.tabs.length (A : Int) (k : Int))) C), ((selV lb (selU b.tabs b.tabs.length (A : Int) (k : Int))) C), (iv (((selT b.tabs (selU b.tabs b.tabs.length (A : Int) (k : Int))).getD C tab0).err))])), (Yd.val (iv (A : Int))), (Yd.val (bptr L (0 + A * 2))), (Yd.val (Value.agg #[(iv ((B.getD A (0, 0)).1)), (iv ((B.getD A (0, 0)).2))]))] (by decide +kernel) rfl rfl ?_ ?_
    ·skip
     refine dq (fun a w hA hS hd => b_9 rfl j_5 (hA.ev rfl) (hS.bk 0 rfl) (l := [(iv (((selT b.tabs (selU b.tabs b.tabs.length (A : Int) (k : Int))).getD C tab0).frm)), (iv (((selT b.tabs (selU b.tabs b.tabs.length (A : Int) (k : Int))).getD C tab0).dst)), ((selV lr (selU b.tabs b.tabs.length (A : Int) (k : Int))) C), ((selV lb (selU b.tabs b.tabs.length (A : Int) (k : Int))) C), (iv (((selT b.tabs (selU b.tabs b.tabs.length (A : Int) (k : Int))).getD C tab0).err))]) rfl rfl) ?_
     refine dq (fun a w hA hS hd => a_1 rfl hA.e) ?_
     refine dq (fun a w hA hS hd => o_4 rfl w_7 f_1 hA.e (i := A) (hq hd 1) (by omega)) ?_
     refine dq (fun a w hA hS hd => b_9 rfl f_1 (hq hd 2) (hS.bk 2 rfl) (l := [(iv ((B.getD A (0, 0)).1)), (iv ((B.getD A (0, 0)).2))]) (s_1 (xs := B) (i := A) (by omega)) rfl) ?_
     trivial
    intro B9 DH A6 S AS; clear A5 V
    have A7 := A6.add (hz AS 0); clear A6
    have f := A7.add (hz AS 3); clear A7
    clear AS
    refine s2 f (a_8 rfl en_49 (ev2 f.e f.e) (converts_ok ((B.getD A (0, 0)).1) ((B.getD A (0, 0)).2) ((selT b.tabs (selU b.tabs b.tabs.length (A : Int) (k : Int))).getD C tab0) _ _ _ ((r_8 (c_5 (S.ok 5 _ rfl)) (fun q_ h_ => w_4 h_) (hu _ (S.ok 4 _ rfl))).row (i := C) (by omega)) ((r_8 (c_5 (S.ok 5 _ rfl)) (fun q_ h_ => w_4 h_) (hu _ (S.ok 4 _ rfl))).brk (i := C) (by omega)) (sel_rl hth _ _).1 (sel_rl hth _ _).2 _ (hb.tabs _ (v_5 (by omega)).2.2))) ?_
    rintro CA _ DI ⟨rfl, BI⟩ M; have o := S.step BI; clear BI f S B9
    refine n1 ?_
    rcases Bool.eq_false_or_eq_true ((q_4 ((selT b.tabs (selU b.tabs b.tabs.length (A : Int) (k : Int))).getD C tab0) ((B.getD A (0, 0)).1, (B.getD A (0, 0)).2))) with AZ | AZ
    ·skip
     rw [AZ] at M
     refine d_6 M rfl ?_
     have A8 := M.as [(9, (bptr r 0)), (35, (iv (C : Int))), (34, (iv ((selT b.tabs (selU b.tabs b.tabs.length (A : Int) (k : Int))).length : Int))), (33, u), (7, (iv (A : Int))), (23, (iv (A : Int))), (22, (iv b.scales)), (6, (iv (k : Int))), (15, (iv (k : Int))), (14, (iv b.scales)), (4, (bptr Q 0)), (3, (bptr L 0)), (0, (bptr bx 0))] rfl; clear M
     refine i_7 mixed A8 o 10 [[], [], [1], [2], [], [], [5], [6], [4, 7], [3, 8]] [(Yd.val (iv (k : Int))), (Yd.val (iv (k : Int))), (Yd.val (bptr L (0 + k * 2))), (Yd.val (Value.agg #[(iv ((B.getD k (0, 0)).1)), (iv ((B.getD k (0, 0)).2))])), (Yd.val (Value.agg #[(iv (((selT b.tabs (selU b.tabs b.tabs.length (A : Int) (k : Int))).getD C tab0).frm)), (iv (((selT b.tabs (selU b.tabs b.tabs.length (A : Int) (k : Int))).getD C tab0).dst)), ((selV lr (selU b.tabs b.tabs.length (A : Int) (k : Int))) C), ((selV lb (selU b.tabs b.tabs.length (A : Int) (k : Int))) C), (iv (((selT b.tabs (selU b.tabs b.tabs.length (A : Int) (k : Int))).getD C tab0).err))])), (Yd.val (iv (A : Int))), (Yd.val (bptr L (0 + A * 2))), (Yd.val (Value.agg #[(iv ((B.getD A (0, 0)).1)), (iv ((B.getD A (0, 0)).2))])), (Yd.val (Value.agg #[(iv ((k_8 ((selT b.tabs (selU b.tabs b.tabs.length (A : Int) (k : Int))).getD C tab0) ((B.getD A (0, 0)).1, (B.getD A (0, 0)).2)).1)), (iv ((k_8 ((selT b.tabs (selU b.tabs b.tabs.length (A : Int) (k : Int))).getD C tab0) ((B.getD A (0, 0)).1, (B.getD A (0, 0)).2)).2))])), (Yd.val (Value.agg #[(iv ((cutR ((B.getD k (0, 0)).1, (B.getD k (0, 0)).2) ((k_8 ((selT b.tabs (selU b.tabs b.tabs.length (A : Int) (k : Int))).getD C tab0) ((B.getD A (0, 0)).1, (B.getD A (0, 0)).2)).1, (k_8 ((selT b.tabs (selU b.tabs b.tabs.length (A : Int) (k : Int))).getD C tab0) ((B.getD A (0, 0)).1, (B.getD A (0, 0)).2)).2)).1)), (iv ((cutR ((B.getD k (0, 0)).1, (B.getD k (0, 0)).2) ((k_8 ((selT b.tabs (selU b.tabs b.tabs.length (A : Int) (k : Int))).getD C tab0) ((B.getD A (0, 0)).1, (B.getD A (0, 0)).2)).1, (k_8 ((selT b.tabs (selU b.tabs b.tabs.length (A : Int) (k : Int))).getD C tab0) ((B.getD A (0, 0)).1, (B.getD A (0, 0)).2)).2)).2))]))] (by decide +kernel) rfl rfl ?_ ?_
     ·skip
      refine dq (fun a w hA hS hd => a_1 rfl hA.e) ?_
      refine dq (fun a w hA hS hd => a_1 rfl hA.e) ?_
      refine dq (fun a w hA hS hd => o_4 rfl w_7 f_1 hA.e (i := k) (hq hd 1) (by omega)) ?_
      refine dq (fun a w hA hS hd => b_9 rfl f_1 (hq hd 2) (hS.bk 2 rfl) (l := [(iv ((B.getD k (0, 0)).1)), (iv ((B.getD k (0, 0)).2))]) (s_1 (xs := B) (i := k) (by omega)) rfl) ?_
      refine dq (fun a w hA hS hd => b_9 rfl j_5 (hA.ev rfl) (hS.bk 0 rfl) (l := [(iv (((selT b.tabs (selU b.tabs b.tabs.length (A : Int) (k : Int))).getD C tab0).frm)), (iv (((selT b.tabs (selU b.tabs b.tabs.length (A : Int) (k : Int))).getD C tab0).dst)), ((selV lr (selU b.tabs b.tabs.length (A : Int) (k : Int))) C), ((selV lb (selU b.tabs b.tabs.length (A : Int) (k : Int))) C), (iv (((selT b.tabs (selU b.tabs b.tabs.length (A : Int) (k : Int))).getD C tab0).err))]) rfl rfl) ?_
      refine dq (fun a w hA hS hd => a_1 rfl hA.e) ?_
      refine dq (fun a w hA hS hd => o_4 rfl w_7 f_1 hA.e (i := A) (hq hd 5) (by omega)) ?_
      refine dq (fun a w hA hS hd => b_9 rfl f_1 (hq hd 6) (hS.bk 2 rfl) (l := [(iv ((B.getD A (0, 0)).1)), (iv ((B.getD A (0, 0)).2))]) (s_1 (xs := B) (i := A) (by omega)) rfl) ?_
      refine ⟨fun a w hA hS hd => by have e4 := hx hd 4; have e7 := hx hd 7; exact e_2 rfl (dx (a_8 rfl en_50 (ev2 (c_1 e4) (c_1 e7)) (convert_ok ((B.getD A (0, 0)).1) ((B.getD A (0, 0)).2) ((selT b.tabs (selU b.tabs b.tabs.length (A : Int) (k : Int))).getD C tab0) _ _ _ ((r_8 (c_5 (hS.ok 5 _ rfl)) (fun q_ h_ => w_4 h_) (hu _ (hS.ok 4 _ rfl))).row (i := C) (by omega)) ((r_8 (c_5 (hS.ok 5 _ rfl)) (fun q_ h_ => w_4 h_) (hu _ (hS.ok 4 _ rfl))).brk (i := C) (by omega)) (sel_rl hth _ _).1 (sel_rl hth _ _).2 _ (hb.tabs _ (v_5 (by omega)).2.2))) hS (fun _ => rfl)), ?_⟩
      refine ⟨fun a w hA hS hd => by have e3 := hx hd 3; have e8 := hx hd 8; exact e_2 rfl (dx (a_8 rfl en_87 (ev2 (c_1 e3) (c_1 e8)) (cut_ok _ _ _ _ _)) hS (fun _ => rfl)), ?_⟩
      trivial
     intro CB DJ A9 BP AT; clear A8 o
     have BA := A9.add (hz AT 0); clear A9
     have g := BA.add (hz AT 9); clear BA
     clear AT
     refine s1 g (o_4 rfl w_7 f_1 g.e (i := k) g.e (by omega)) fun CC j => ?_; clear g CB
     refine s7 j (b_4 BP rfl f_1 j.e j.e (i := 2) rfl (vs := [(iv ((cutR ((B.getD k (0, 0)).1, (B.getD k (0, 0)).2) ((k_8 ((selT b.tabs (selU b.tabs b.tabs.length (A : Int) (k : Int))).getD C tab0) ((B.getD A (0, 0)).1, (B.getD A (0, 0)).2)).1, (k_8 ((selT b.tabs (selU b.tabs b.tabs.length (A : Int) (k : Int))).getD C tab0) ((B.getD A (0, 0)).1, (B.getD A (0, 0)).2)).2)).1)), (iv ((cutR ((B.getD k (0, 0)).1, (B.getD k (0, 0)).2) ((k_8 ((selT b.tabs (selU b.tabs b.tabs.length (A : Int) (k : Int))).getD C tab0) ((B.getD A (0, 0)).1, (B.getD A (0, 0)).2)).1, (k_8 ((selT b.tabs (selU b.tabs b.tabs.length (A : Int) (k : Int))).getD C tab0) ((B.getD A (0, 0)).1, (B.getD A (0, 0)).2)).2)).2))]) rfl rfl rfl (by simp only [a_6, List.length_set, List.length_cons, List.length_nil]; omega)) ?_
     intro _ DK BQ AD; have BR := BQ.n_1 (i := 2) rfl (cs' := (pairs (B.set k ((cutR ((B.getD k (0, 0)).1, (B.getD k (0, 0)).2) ((k_8 ((selT b.tabs (selU b.tabs b.tabs.length (A : Int) (k : Int))).getD C tab0) ((B.getD A (0, 0)).1, (B.getD A (0, 0)).2)).1, (k_8 ((selT b.tabs (selU b.tabs b.tabs.length (A : Int) (k : Int))).getD C tab0) ((B.getD A (0, 0)).1, (B.getD A (0, 0)).2)).2)).1, (cutR ((B.getD k (0, 0)).1, (B.getD k (0, 0)).2) ((k_8 ((selT b.tabs (selU b.tabs b.tabs.length (A : Int) (k : Int))).getD C tab0) ((B.getD A (0, 0)).1, (B.getD A (0, 0)).2)).1, (k_8 ((selT b.tabs (selU b.tabs b.tabs.length (A : Int) (k : Int))).getD C tab0) ((B.getD A (0, 0)).1, (B.getD A (0, 0)).2)).2)).2)))) (pairs_setZ _ _ _ _); clear BQ j BP
     refine g_6 (k_7 (b_3 (a_5 (s1 AD (g_9 rfl AD.e (evc _ _) (by omega) (by omega)) fun CD AE => ?_)))); clear AD CC
     refine s1 AE (a_1 rfl AE.e) fun C3 Bp => ?_; clear AE CD
     refine g_6 ?_
     have Bt := BR.gkp (gpc 1 (gpc 2 (gpc 3 (gpc 4 (gpc 5 (gpc 6 gpn)))))); clear BR
     exact b_3 ⟨C + 1, ⟨(B.set k ((cutR ((B.getD k (0, 0)).1, (B.getD k (0, 0)).2) ((k_8 ((selT b.tabs (selU b.tabs b.tabs.length (A : Int) (k : Int))).getD C tab0) ((B.getD A (0, 0)).1, (B.getD A (0, 0)).2)).1, (k_8 ((selT b.tabs (selU b.tabs b.tabs.length (A : Int) (k : Int))).getD C tab0) ((B.getD A (0, 0)).1, (B.getD A (0, 0)).2)).2)).1, (cutR ((B.getD k (0, 0)).1, (B.getD k (0, 0)).2) ((k_8 ((selT b.tabs (selU b.tabs b.tabs.length (A : Int) (k : Int))).getD C tab0) ((B.getD A (0, 0)).1, (B.getD A (0, 0)).2)).1, (k_8 ((selT b.tabs (selU b.tabs b.tabs.length (A : Int) (k : Int))).getD C tab0) ((B.getD A (0, 0)).1, (B.getD A (0, 0)).2)).2)).2)), Bp.as _ rfl, Bt, by omega, (by first | exact Ab | (rw [List.length_set]; exact Ab)), (by first | exact cut_n (by omega) q (by assumption) (by assumption) | exact cut_y (by omega) q (by assumption) (by assumption))⟩, by omega⟩
    skip
    rw [AZ] at M
    refine b_8 M rfl (e_1 (k_7 (b_3 (a_5 (s1 M (g_9 rfl M.e (evc _ _) (by omega) (by omega)) fun CE AF => ?_))))); clear M CA
    refine s1 AF (a_1 rfl AF.e) fun C4 Bq => ?_; clear AF CE
    refine g_6 ?_
    have Bu := o.gkp (gpc 1 (gpc 2 (gpc 3 (gpc 4 (gpc 5 (gpc 6 gpn)))))); clear o
    exact b_3 ⟨C + 1, ⟨B, Bq.as _ rfl, Bu, by omega, (by first | exact Ab | (rw [List.length_set]; exact Ab)), (by first | exact cut_n (by omega) q (by assumption) (by assumption) | exact cut_y (by omega) q (by assumption) (by assumption))⟩, by omega⟩
   skip
   rw [decide_eq_false Bn] at N
   refine b_8 N rfl (j_7 (b_7 (b_7 (h_6 (k_7 (b_3 (a_5 (s1 N (g_9 rfl N.e (evc _ _) (by omega) (by omega)) fun CF AG => ?_)))))))); clear N Bw
   refine s1 AG (a_1 rfl AG.e) fun C5 Br => ?_; clear AG CF
   refine g_6 ?_
   exact b_3 ⟨A + 1, ⟨B, Br.as _ rfl, U, by omega, Ab, (cut_21 (by omega) q)⟩, by omega⟩
  skip
  rw [decide_eq_false Bm] at P
  refine b_8 P rfl (j_7 (b_7 (b_7 (h_6 (k_7 (b_3 (a_5 (s1 P (g_9 rfl P.e (evc _ _) (by omega) (by omega)) fun CG AH => ?_)))))))); clear P Bv
  refine s1 AH (a_1 rfl AH.e) fun C6 Bs => ?_; clear AH CG
  refine g_6 ?_
  exact b_3 ⟨k + 1, ⟨x1, Bs.as _ rfl, T, by omega, B2, (cut_10 (by omega) B1)⟩, by omega⟩
 skip
 rw [decide_eq_false Bl] at R
 refine b_8 R rfl (j_7 (b_7 (b_7 (h_6 (b_3 (d_3 ?_))))))
 have AI := R.as [(4, (bptr Q 0)), (3, (bptr L 0)), (0, (bptr bx 0))] rfl; clear R
 refine c_drawF mixed AI X 9 8 rfl rfl [[], [], [1], [2], [3], [4], [5], [6], [7]] [(yw (Value.agg (pairs D).toArray)), (yw (bptr bx 0)), (yw (bptr bx 0)), (yw (bptr bx 0)), (yw (bptr bx 0)), (yw (iv b.scales)), (yw (Value.slice (some ⟨L, 0, none⟩) b.scales.toNat 4)), (yw (Value.bool ((List.range (D.take b.scales.toNat).length).any fun i => decide (((D.take b.scales.toNat).getD i (0, 0)).2 < ((D.take b.scales.toNat).getD i (0, 0)).1)))), (yw (Value.bool (!((List.range (D.take b.scales.toNat).length).any fun i => decide (((D.take b.scales.toNat).getD i (0, 0)).2 < ((D.take b.scales.toNat).getD i (0, 0)).1)))))] (by decide +kernel) (by decide +kernel) (by decide +kernel) rfl rfl ⟨dw, dw, dw, dw, dw, dw, dw, dw, dw, trivial⟩ ?_ ?_ ?_
 ·skip
  refine ⟨fun a w K hA hS hd => gv1 (b_9 rfl j_9 hA.e (hS.bk 1 rfl) (l := (pairs D)) (f_6 _ _ (show (pairs D).length = 8 from by simp only [a_6, List.length_set]; omega)) (show (pairs D).length = 8 from by simp only [a_6, List.length_set]; omega)), ?_⟩
  refine ⟨fun a w K hA hS hd => gv1 (a_1 rfl hA.e), ?_⟩
  refine ⟨fun a w K hA hS hd => gv1 (n_9 rfl (gu hd 1)), ?_⟩
  refine ⟨fun a w K hA hS hd => gv1 (a_4 rfl fd_146_0 (gu hd 2)), ?_⟩
  refine ⟨fun a w K hA hS hd => gv1 (a_4 rfl x_0 (gu hd 3)), ?_⟩
  refine ⟨fun a w K hA hS hd => gv1 (a_3 rfl ty_3 (gu hd 4) (hS.rk 2 rfl) rfl), ?_⟩
  refine ⟨fun a w K hA hS hd => gv1 (op_sliceArr rfl w_7 f_1 hA.e (h := b.scales.toNat) ((gu hd 5).trans (m_7 (by omega))) (by omega)), ?_⟩
  refine ⟨fun a w K hA hS hd => gx1 (a_8 rfl en_108 (ev2 (gu hd 6) (evf _ _)) (contf_rng (D.take b.scales.toNat) _ 68 #[] #[] (fun i => decide (((D.take b.scales.toNat).getD i (0, 0)).2 < ((D.take b.scales.toNat).getD i (0, 0)).1)) _ ((SlAt.of_blkCut (hS.bk 1 rfl) (by rw [a_6]; omega) (by omega) (by decide)).say (by rw [List.length_take]; omega) (pairs_takeH _ _)) (by rw [List.length_take]; omega) ⟨en_68, fun i hi W hW => w_0 _ _ W⟩)), ?_⟩
  refine ⟨fun a w K hA hS hd => gv1 (g_0 rfl (gu hd 7)), ?_⟩
  trivial
 ·skip
  intro CH CM K rsf205 BB F AX; clear AI X
  have BS : Sep NoB w CM [(blk Q 120 (pairs ([(0, 0), (0, 0), (0, 0), (0, 0)]))), (blk L 120 (pairs D)), (rob bx 146 [(iv b.scales), vt, vm, (Value.map (some bm))]), (mapX false bm es ck es.size 106 5 (bN b.tabs b.tabs.length) (bC lr lb b.tabs b.tabs.length)), (c_0 false vt lr lb b.tabs), (c_3 false vm lk b.macs)] := by rw [show catR rsf205 0 9 = ([] : List Res) by (try simp only [catR, gr (F 0 (by decide)), gr (F 1 (by decide)), gr (F 2 (by decide)), gr (F 3 (by decide)), gr (F 4 (by decide)), gr (F 5 (by decide)), gr (F 6 (by decide)), gr (F 7 (by decide)), gr (F 8 (by decide))]); (try rfl)] at AX; exact AX
  have BC := BB.add (gs (F 0 (by decide))); clear BB
  have m := BC.add (gs (F 8 (by decide))); clear BC
  clear F AX 
  refine s7 m (b_4 BS rfl j_9 m.e m.e (i := 0) rfl (vs := (pairs D)) rfl (show (pairs D).length = 8 from by simp only [a_6, List.length_set]; omega) (j_4 _) (by simp only [a_6, List.length_set, List.length_cons, List.length_nil]; omega)) ?_
  intro _ DL BT AJ; have BU := BT.n_1 (i := 0) rfl (cs' := (pairs D)) (i_3 _ _ (by first | (simp only [a_6, List.length_set, List.length_cons, List.length_nil]; done) | (simp only [a_6, List.length_set, List.length_cons, List.length_nil]; omega))); clear BT m BS
  refine s1 AJ (a_0 rfl AJ.e) fun C7 BD => ?_; clear AJ CH
  refine n1 (c_6 (ng_ret ?_))
  refine b_0 BD (.inl rfl) (c_4 BD rfl (.cellA rfl j_9 (BU.bk 0 rfl) (l := (pairs D)) (f_6 _ _ (show (pairs D).length = 8 from by simp only [a_6, List.length_set]; omega)) (show (pairs D).length = 8 from by simp only [a_6, List.length_set]; omega)) (.tmp rfl)) ?_
  have hz : g_4 (f_5 b.scales.toNat b.tabs) s = (D, false) := cut_end (by omega) Bo
  exact ⟨by rw [hz, ← full_any (s := D) (by omega)], BU.ext⟩
 skip
 intro CI CN K rsf220 BE I hrq AY; clear AI X
 have BV : Sep NoB w CN [(blk Q 120 (pairs ([(0, 0), (0, 0), (0, 0), (0, 0)]))), (blk L 120 (pairs D)), (rob bx 146 [(iv b.scales), vt, vm, (Value.map (some bm))]), (mapX false bm es ck es.size 106 5 (bN b.tabs b.tabs.length) (bC lr lb b.tabs b.tabs.length)), (c_0 false vt lr lb b.tabs), (c_3 false vm lk b.macs)] := by rw [show catR rsf220 0 9 = ([] : List Res) by (try simp only [catR, gr (I 0 (by decide) (by decide)), gr (I 1 (by decide) (by decide)), gr (I 2 (by decide) (by decide)), gr (I 3 (by decide) (by decide)), gr (I 4 (by decide) (by decide)), gr (I 5 (by decide) (by decide)), gr (I 6 (by decide) (by decide)), gr (I 7 (by decide) (by decide)), hrq]); (try rfl)] at AY; exact AY
 have BF := BE.add (gs (I 0 (by decide) (by decide))); clear BE
 have n := BF.add (gs (I 7 (by decide) (by decide))); clear BF
 clear I AY  hrq
 refine s7 n (b_4 BV rfl j_9 n.e n.e (i := 0) rfl (vs := (pairs D)) rfl (show (pairs D).length = 8 from by simp only [a_6, List.length_set]; omega) (j_4 _) (by simp only [a_6, List.length_set, List.length_cons, List.length_nil]; omega)) ?_
 intro _ DM BW AK; have BX := BW.n_1 (i := 0) rfl (cs' := (pairs D)) (i_3 _ _ (by first | (simp only [a_6, List.length_set, List.length_cons, List.length_nil]; done) | (simp only [a_6, List.length_set, List.length_cons, List.length_nil]; omega))); clear BW n BV
 refine s1 AK (g_0 rfl AK.e) fun CJ AL => ?_; clear AK CI
 refine s1 AL (a_0 rfl AL.e) fun C8 BG => ?_; clear AL CJ
 refine n1 (c_6 (ng_ret ?_))
 refine b_0 BG (.inl rfl) (c_4 BG rfl (.cellA rfl j_9 (BX.bk 0 rfl) (l := (pairs D)) (f_6 _ _ (show (pairs D).length = 8 from by simp only [a_6, List.length_set]; omega)) (show (pairs D).length = 8 from by simp only [a_6, List.length_set]; omega)) (.tmp rfl)) ?_
 have hz : g_4 (f_5 b.scales.toNat b.tabs) s = (D, false) := cut_end (by omega) Bo
 exact ⟨by rw [hz, ← full_any (s := D) (by omega)], BX.ext⟩
end Go.Proofs.Ytohgladndklciaa

namespace Go.Hard
open Go.RowKit Go.Eng
theorem biasU_bd {n : Int} {m : MacD} (h : MacV n m) : ∀ k, k ≤ m.blocks.length → (-100000 ≤ (n_7 m.blocks k).1 ∧ (n_7 m.blocks k).1 ≤ 100000) ∧ -100000 ≤ (n_7 m.blocks k).2 ∧ (n_7 m.blocks k).2 ≤ 100000
  | 0, _ => by unfold n_7; exact ⟨⟨by decide, by decide⟩, by decide, by decide⟩
  | k + 1, hk => by
    have ih := biasU_bd h k (by omega)
    have hb := h.blocks k (by omega)
    rw [n_7]; dsimp only [cutR]; omega
theorem biasF_bd {n : Int} {m : MacD} (h : MacV n m) : (-100000 ≤ (d_5 m).1 ∧ (d_5 m).1 ≤ 100000) ∧ -100000 ≤ (d_5 m).2 ∧ (d_5 m).2 ≤ 100000 := biasU_bd h _ (Nat.le_refl _)
def zero4 : g_5 := [(0, 0), (0, 0), (0, 0), (0, 0)]
def fillU : Nat → g_5
  | 0 => zero4
  | k + 1 => (fillU k).set k rng0
theorem fillU_len : ∀ k, (fillU k).length = 4
  | 0 => rfl
  | k + 1 => by rw [fillU, List.length_set]; exact fillU_len k
theorem fill4 : fillU 4 = e_5 := by decide
theorem full_free {n : Nat} (hn : n ≤ 4) : Full n e_5 := fun i hi => by
  match i, hi with
  | 0, _ => decide
  | 1, _ => decide
  | 2, _ => decide
  | 3, _ => decide
  | i + 4, hi => omega
section
variable {b : f_7} {l : List (Int × Int)} {k : Nat}
theorem start_mono (hb : m_2 b) (hl : t_5 b l) {s : g_5} (hs : b.scales.toNat ≤ s.length) {k m : Nat} (h : k ≤ m) (hm : m ≤ l.length) : Sub b.scales.toNat (c_2 b l s m) (c_2 b l s k) := by
  have h1 := (start_iff hb hl rfl hs (s' := c_2 b l s m) m hm).1 (Sub.refl _ _)
  exact (start_iff hb hl rfl hs (s' := c_2 b l s m) k (by omega)).2 ⟨h1.1, fun j hj => h1.2 j (by omega)⟩
theorem spans_none (h : ¬ Full b.scales.toNat (r_2 b l)) : l_6 b l = none := by
  unfold l_6; rw [if_neg]; rw [r_4]; exact h
theorem spans_go (h : Full b.scales.toNat (r_2 b l)) : l_6 b l = q_3 b.scales.toNat (f_5 b.scales.toNat b.tabs) 400001 (r_2 b l) := by
  unfold l_6; rw [if_pos (r_4.2 h)]
theorem start_empty (hb : m_2 b) (hl : t_5 b l) (hk : k < l.length) (he : (at' (c_2 b l e_5 (k + 1)) (m_8 b l k)).2 < (at' (c_2 b l e_5 (k + 1)) (m_8 b l k)).1) : l_6 b l = none := by
  refine spans_none fun hf => ?_
  have hsc := scale_lt hb hl hk
  have h1 := start_mono hb hl (s := e_5) hb.four (show k + 1 ≤ l.length by omega) (Nat.le_refl _) _ hsc
  have h2 := hf _ hsc
  unfold r_2 at h2
  omega
theorem start_next (hb : m_2 b) (hl : t_5 b l) (hk : k < l.length) (hf : Full b.scales.toNat (c_2 b l e_5 k)) (he : ¬ (at' (c_2 b l e_5 (k + 1)) (m_8 b l k)).2 < (at' (c_2 b l e_5 (k + 1)) (m_8 b l k)).1) : Full b.scales.toNat (c_2 b l e_5 (k + 1)) := fun i hi => by
  have hsc := scale_lt hb hl hk
  have hlen := t_3 b l e_5 k
  have h4 : e_5.length = 4 := rfl
  have hn := hb.four
  by_cases e : m_8 b l k = i
  · subst e; omega
  · rw [startU_succ, at_set (by omega), if_neg e]; exact hf i hi
variable {n : Nat} {ts : List TabD} {s : g_5} {g : Nat}
theorem k_fail (h : z_4 n (g_4 ts s).1 = false) : q_3 n ts g s = none := by
  cases g with
  | zero => rfl
  | succ g => rw [q_3, if_neg (by rw [h]; decide)]
theorem k_done (hg : 0 < g) (h : z_4 n (g_4 ts s).1 = true) (he : (g_4 ts s).1 = s) : q_3 n ts g s = some (s.take n) := by
  obtain ⟨g, rfl⟩ : ∃ g', g = g' + 1 := ⟨g - 1, by omega⟩
  rw [q_3, if_pos h, if_pos he]
theorem k_next (hg : 0 < g) (h : z_4 n (g_4 ts s).1 = true) (he : ¬ (g_4 ts s).1 = s) : q_3 n ts g s = q_3 n ts (g - 1) (g_4 ts s).1 := by
  obtain ⟨g, rfl⟩ : ∃ g', g = g' + 1 := ⟨g - 1, by omega⟩
  rw [q_3, if_pos h, if_neg he]; rfl
end
end Go.Hard

namespace Go.Proofs.Ytohgladndklciaa
open Go.RowKit Go.Shelf Go.Eng Go.Hard
theorem y_0 : (Try.prog.info? 98).bind (·.zero) = some (Value.agg #[(iv 0), (iv 0)]) := by kernel_rfl
theorem en_88 : ∀ args w, (callFunc 88 args).run Try.prog w = .ok (.enter 88 args) w := enters_of Try.func88 (by kernel_rfl) rfl
theorem ar_120 : Try.prog.underlying 120 = some (.array 4 30) := by kernel_rfl
theorem z_0 : i_1 Try.prog 30 = true := by kernel_rfl
theorem gt_120 : Try.prog.eqGuardType Try.prog.depth 120 = false := by kernel_rfl
set_option maxHeartbeats 4000000 in
theorem spansb_ok (b : f_7) (vt vm : Value) (lr lb lk : Nat → Value) (w : World) (hT : k_1 w vt lr lb b.tabs) (hM : m_3 w vm lk b.macs) (hth : l_4 b) (bx bm : Nat) (es : Array MapEntry) (ck : Nat) (hMO : o_8 bm es ck (bN b.tabs b.tabs.length)) (hbx : (blk bx 146 [.int .i64 b.scales, vt, vm, .map (some bm)]).p w) (hmx : (mapX false bm es ck es.size 106 5 (bN b.tabs b.tabs.length) (bC lr lb b.tabs b.tabs.length)).p w) (hb : m_2 b) (l : List (Int × Int)) (xl : Value) (hxl : SlAt w xl 2 l.length (pairs l)) (hl : t_5 b l) :
  Calls Try.prog 57 #[(bptr bx 0), xl] w (Ret fun v w' => ∃ x, x.length = 4 ∧ v = .tuple #[.agg (pairs x).toArray, .bool (l_6 b l).isSome] ∧ (∀ t, l_6 b l = some t → x.take b.scales.toNat = t) ∧ Ext NoB w w') := by
 refine a_7 Try.func57 rfl fun a0 Ak => ?_
 replace Ak : Fr 79 [] [(0, (bptr bx 0)), (1, xl)] a0 := Ak
 have hsc := hb.scales; have htl9 := hth.tl; have hml9 := hth.ml; have hll := hl.len
 have Bs : Sep NoB w w [(rob bx 146 [(iv b.scales), vt, vm, (Value.map (some bm))]), (mapX false bm es ck es.size 106 5 (bN b.tabs b.tabs.length) (bC lr lb b.tabs b.tabs.length)), (c_0 false vt lr lb b.tabs), (c_3 false vm lk b.macs), (sl xl 2 l.length (pairs l))] := f_0 ⟨rfl, hbx, rfl, hmx, rfl, hT, rfl, hM, rfl, hxl, trivial⟩
 refine m2 (s2 Ak (d_2 Bs rfl ze_120 (cs := (pairs zero4)) rfl) ?_)
 rintro a1 _ w3 ⟨C, rfl, Bt⟩ Bp; clear Ak Bs a0
 refine s1 Bp (a_0 rfl (evc _ _)) fun a6 Bq => ?_; clear Bp a1
 refine n2 (m2 (s1 Bq (a_1 rfl (evc _ _)) fun a8 Br => ?_)); clear Bq a6
 refine n1 (e_3 ?_)
 have BF := Br.as [(13, (iv 0)), (4, (bptr C 0)), (0, (bptr bx 0)), (1, xl)] rfl; clear Br
 refine k_4 (G := Nat) (fun (k : Nat) a_ w_ => Fr 79 [] [(13, (iv (k : Int))), (4, (bptr C 0)), (0, (bptr bx 0)), (1, xl)] a_ ∧ Sep NoB w w_ [(blk C 120 (pairs (fillU k))), (rob bx 146 [(iv b.scales), vt, vm, (Value.map (some bm))]), (mapX false bm es ck es.size 106 5 (bN b.tabs b.tabs.length) (bC lr lb b.tabs b.tabs.length)), (c_0 false vt lr lb b.tabs), (c_3 false vm lk b.macs), (sl xl 2 l.length (pairs l))] ∧ (k ≤ 4)) (fun k => 4 - k) 0 ⟨BF.as _ rfl, Bt, by omega⟩ ?_
 clear BF Bt a8
 rintro k CS DB ⟨AX, c, hk⟩
 have hfl := fillU_len k
 refine m2 (s1 AX (h_8 rfl AX.e (evc _ _)) fun Bm H => ?_); clear AX CS
 refine n2 ?_
 by_cases Be : (k : Int) < 4
 ·skip
  rw [decide_eq_true Be] at H
  refine d_6 H rfl (e_1 (b_3 (d_3 (e_3 (m2 (s1 H (a_1 rfl H.e) fun CT AY => ?_)))))); clear H Bm
  refine s1 AY (a_0 rfl AY.e) fun CU AZ => ?_; clear AY CT
  refine n3 (s1 AZ (a_1 rfl AZ.e) fun CV BG => ?_); clear AZ CU
  refine s1 BG (c_7 rfl (pv2 (evc _ _) (evc _ _)) (m_4 _ _)) fun CW AO => ?_; clear BG CV
  refine s1 AO (o_4 rfl w_7 f_1 AO.e (i := k) AO.e (by omega)) fun CX AP => ?_; clear AO CW
  refine s7 AP (b_4 c rfl f_1 AP.e AP.e (i := 0) rfl (vs := [(iv 0), (iv 100000)]) rfl rfl rfl (by simp only [a_6, List.length_set, List.length_cons, List.length_nil]; omega)) ?_
  intro _ DC BV BH; have CP := BV.n_1 (i := 0) rfl (cs' := (pairs ((fillU k).set k (0, 100000)))) (pairs_setZ _ _ _ _); clear BV AP c
  refine g_6 (k_7 (b_3 ?_))
  have Aa := BH.as [(13, (iv (k : Int))), (4, (bptr C 0)), (0, (bptr bx 0)), (1, xl)] rfl; clear BH
  refine a_5 (s1 Aa (g_9 rfl Aa.e (evc _ _) (by omega) (by omega)) fun CY Ab => ?_); clear Aa CX
  refine s1 Ab (a_1 rfl Ab.e) fun C6 CO => ?_; clear Ab CY
  refine g_6 ?_
  exact b_3 ⟨k + 1, ⟨CO.as _ rfl, CP, by omega⟩, by omega⟩
 skip
 rw [decide_eq_false Be] at H
 refine b_8 H rfl (j_7 (b_7 (b_7 (h_6 (b_3 (d_3 (m2 (s1 H (a_1 rfl H.e) fun CZ Ac => ?_)))))))); clear H Bm
 refine s1 Ac (e_8 rfl l_3 Ac.e (c.sk 5 rfl)) fun Ca BI => ?_; clear Ac CZ
 refine s1 BI (a_1 rfl (evc _ _)) fun Cb BJ => ?_; clear BI Ca
 refine n1 (e_3 ?_)
 have BK := BJ.as [(22, (iv 0)), (21, (iv (l.length : Int))), (20, xl), (4, (bptr C 0)), (0, (bptr bx 0))] rfl; clear BJ
 refine k_4 (G := Nat) (fun (k : Nat) a_ w_ => Fr 79 [] [(22, (iv (k : Int))), (21, (iv (l.length : Int))), (20, xl), (4, (bptr C 0)), (0, (bptr bx 0))] a_ ∧ Sep NoB w w_ [(blk C 120 (pairs (c_2 b l e_5 k))), (rob bx 146 [(iv b.scales), vt, vm, (Value.map (some bm))]), (mapX false bm es ck es.size 106 5 (bN b.tabs b.tabs.length) (bC lr lb b.tabs b.tabs.length)), (c_0 false vt lr lb b.tabs), (c_3 false vm lk b.macs), (sl xl 2 l.length (pairs l))] ∧ (k ≤ l.length) ∧ (Full b.scales.toNat (c_2 b l e_5 k))) (fun k => l.length - k) 0 ⟨BK.as _ rfl, (c.n_1 (i := 0) rfl (by rw [show k = 4 by omega, fill4]; rfl)), Nat.zero_le _, full_free hb.four⟩ ?_
 clear BK c Cb
 rintro k Cc DD ⟨AQ, N, hk, hfu⟩
 have hsl := t_3 b l e_5 k; have C9 : e_5.length = 4 := rfl
 refine m2 (s1 AQ (h_8 rfl AQ.e AQ.e) fun Bn I => ?_); clear AQ Cc
 refine n2 ?_
 by_cases Bf : (k : Int) < (l.length : Int)
 ·skip
  rw [decide_eq_true Bf] at I
  have hscl := scale_lt hb hl (k := k) (by omega); unfold m_8 at hscl; have hmv := hl.macV hb (k := k) (by omega); have hsv := hmv.scale; have hbb := biasF_bd hmv; have hlm := hl.mac k (by omega); have hlr := hl.read k (by omega); have hsl1 := t_3 b l e_5 (k + 1); have hb4_ := hb.four
  refine d_6 I rfl (e_1 (b_3 (d_3 (e_3 (m2 (s1 I (b_6 rfl l_3 o_7 I.e (i := k) I.e (N.sk 5 rfl) (by decide) (by omega)) fun Cd Ad => ?_)))))); clear I Bn
  refine s1 Ad (e_7 rfl o_7 Ad.e (N.sk 5 rfl) (g_1 (by omega)) rfl (by decide)) fun Ce BL => ?_; clear Ad Cd
  refine s2 BL (d_2 N rfl y_0 (cs := [(iv 0), (iv 0)]) rfl) ?_
  rintro C7 _ DE ⟨L, rfl, BW⟩ AR; clear BL N Ce
  refine s7 AR (b_4 BW rfl o_7 AR.e AR.e (i := 0) rfl (vs := [(iv ((l.getD k (0, 0)).1)), (iv ((l.getD k (0, 0)).2))]) rfl rfl rfl (Nat.le_of_ble_eq_true rfl)) ?_
  intro _ Cj BX BM; clear AR
  have BY : Sep NoB w Cj [(blk L 98 [(iv ((l.getD k (0, 0)).1)), (iv ((l.getD k (0, 0)).2))]), (blk C 120 (pairs (c_2 b l e_5 k))), (rob bx 146 [(iv b.scales), vt, vm, (Value.map (some bm))]), (mapX false bm es ck es.size 106 5 (bN b.tabs b.tabs.length) (bC lr lb b.tabs b.tabs.length)), (c_0 false vt lr lb b.tabs), (c_3 false vm lk b.macs), (sl xl 2 l.length (pairs l))] := BX; clear BX BW
  refine n2 ?_
  have BN := BM.as [(8, (bptr L 0)), (22, (iv (k : Int))), (21, (iv (l.length : Int))), (20, xl), (4, (bptr C 0)), (0, (bptr bx 0))] rfl; clear BM
  refine c_drawV mixed BN BY 10 [[], [0], [1], [2], [3], [], [5], [4, 6], [7], []] [(yw (bptr bx 0)), (yw (bptr bx 0)), (yw (bptr bx 0)), (yw (bptr bx 2)), (yw vm), (yw (bptr L 0)), (yw (iv ((l.getD k (0, 0)).1))), (yw (eptr vm (((l.getD k (0, 0)).1).toNat * 2))), (yw (Value.agg #[(iv ((b.macs.getD (((l.getD k (0, 0)).1).toNat) mac0).scale)), (lk (((l.getD k (0, 0)).1).toNat))])), (fun (D : Nat → Value) (v_ : Value) (rs_ : List Res) => ∃ (b9_ : Nat), v_ = (bptr b9_ 0) ∧ rs_ = [(blk b9_ 103 [(iv 0), (Value.slice none 0 0)])])] (by decide +kernel) (by decide +kernel) rfl rfl ⟨dw, dw, dw, dw, dw, dw, dw, dw, dw, (fun _ _ _ _ _ h_ => h_), trivial⟩ ?_ ?_
  ·skip
   refine ⟨fun a w D hA hS hd => gv1 (a_1 rfl hA.e), ?_⟩
   refine ⟨fun a w D hA hS hd => gv1 (n_9 rfl (gu hd 0)), ?_⟩
   refine ⟨fun a w D hA hS hd => gv1 (a_4 rfl fd_146_0 (gu hd 1)), ?_⟩
   refine ⟨fun a w D hA hS hd => gv1 (a_4 rfl q_5 (gu hd 2)), ?_⟩
   refine ⟨fun a w D hA hS hd => gv1 (a_3 rfl z_1 (gu hd 3) (hS.rk 2 rfl) rfl), ?_⟩
   refine ⟨fun a w D hA hS hd => gv1 (a_4 rfl fd_98_0 hA.e), ?_⟩
   refine ⟨fun a w D hA hS hd => gv1 (a_3 rfl ty_3 (gu hd 5) (hS.bk 0 rfl) rfl), ?_⟩
   refine ⟨fun a w D hA hS hd => gv1 (b_6 rfl x_8 m_9 (gu hd 4) (i := ((l.getD k (0, 0)).1).toNat) ((gu hd 6).trans (m_7 (by omega))) (d_1 (hS.ok 5 _ rfl)).macs (by decide) (by omega)), ?_⟩
   refine ⟨fun a w D hA hS hd => gv1 (e_7 rfl m_9 (gu hd 7) (d_1 (hS.ok 5 _ rfl)).macs (macs_all (by omega)) rfl (by decide)), ?_⟩
   refine ⟨fun a w D hA hS hd => e_2 rfl (valloc rfl ze_103 (cs := [(iv 0), (Value.slice none 0 0)]) rfl (fun b_ => ⟨b_, rfl, rfl⟩)), ?_⟩
   trivial
  intro Bo Ck D rsf71 BO B Ag; clear BN BY
  obtain ⟨Ai, CQ⟩ := B 9 (by decide)
  obtain ⟨b9_, Bh, Bg⟩ := CQ
  have Ah : Sep NoB w Ck [(blk b9_ 103 [(iv 0), (Value.slice none 0 0)]), (blk L 98 [(iv ((l.getD k (0, 0)).1)), (iv ((l.getD k (0, 0)).2))]), (blk C 120 (pairs (c_2 b l e_5 k))), (rob bx 146 [(iv b.scales), vt, vm, (Value.map (some bm))]), (mapX false bm es ck es.size 106 5 (bN b.tabs b.tabs.length) (bC lr lb b.tabs b.tabs.length)), (c_0 false vt lr lb b.tabs), (c_3 false vm lk b.macs), (sl xl 2 l.length (pairs l))] := by rw [show catR rsf71 0 10 = ([(blk b9_ 103 [(iv 0), (Value.slice none 0 0)])] : List Res) by (try simp only [catR, gr (B 0 (by decide)), gr (B 1 (by decide)), gr (B 2 (by decide)), gr (B 3 (by decide)), gr (B 4 (by decide)), gr (B 5 (by decide)), gr (B 6 (by decide)), gr (B 7 (by decide)), gr (B 8 (by decide)), Bg]); (try rfl)] at Ag; exact Ag
  have BP := BO.add (gs (B 8 (by decide))); clear BO
  rw [Bh] at Ai
  have AS : Fr 79 [] [(9, (bptr b9_ 0)), (34, (Value.agg #[(iv ((b.macs.getD (((l.getD k (0, 0)).1).toNat) mac0).scale)), (lk (((l.getD k (0, 0)).1).toNat))])), (8, (bptr L 0)), (22, (iv (k : Int))), (21, (iv (l.length : Int))), (20, xl), (4, (bptr C 0)), (0, (bptr bx 0))] Bo := BP.add (f_4 Ai rfl); clear BP
  clear B Ag Ai
  clear Bg
  clear Bh
  refine s7 AS (b_4 Ah rfl m_9 AS.e AS.e (i := 0) rfl (vs := [(iv ((b.macs.getD (((l.getD k (0, 0)).1).toNat) mac0).scale)), (lk (((l.getD k (0, 0)).1).toNat))]) rfl rfl (k_2 rfl (k_2 (SlAt.one ((d_1 (Ah.ok 6 _ rfl)).blk (i := ((l.getD k (0, 0)).1).toNat) (by omega))) y_2)) (Nat.le_of_ble_eq_true rfl)) ?_
  intro _ Cl BZ Ae; clear AS
  have AV : Sep NoB w Cl [(blk b9_ 103 [(iv ((b.macs.getD (((l.getD k (0, 0)).1).toNat) mac0).scale)), (lk (((l.getD k (0, 0)).1).toNat))]), (blk L 98 [(iv ((l.getD k (0, 0)).1)), (iv ((l.getD k (0, 0)).2))]), (blk C 120 (pairs (c_2 b l e_5 k))), (rob bx 146 [(iv b.scales), vt, vm, (Value.map (some bm))]), (mapX false bm es ck es.size 106 5 (bN b.tabs b.tabs.length) (bC lr lb b.tabs b.tabs.length)), (c_0 false vt lr lb b.tabs), (c_3 false vm lk b.macs), (sl xl 2 l.length (pairs l))] := BZ; clear BZ Ah
  refine n4 (s1 Ae (b_9 rfl m_9 (Ae.ev rfl) (AV.bk 0 rfl) (l := [(iv ((b.macs.getD (((l.getD k (0, 0)).1).toNat) mac0).scale)), (lk (((l.getD k (0, 0)).1).toNat))]) rfl rfl) fun Cf Af => ?_); clear Ae Bo
  refine s2 Af (a_8 rfl en_67 (ev1 Af.e) (bias_ok _ (b.macs.getD (((l.getD k (0, 0)).1).toNat) mac0) _ _ ((d_1 (AV.ok 6 _ rfl)).blk (i := ((l.getD k (0, 0)).1).toNat) (by omega)) (hl.macV hb (by omega)) (hth.kl _))) ?_
  rintro Cg _ DF ⟨rfl, BU⟩ BQ; have Ba := AV.step BU; clear BU Af AV Cf
  refine s2 BQ (d_2 Ba rfl t_7 (cs := [(iv 0), (iv 0)]) rfl) ?_
  rintro C8 _ DG ⟨Aj, rfl, Bb⟩ AT; clear BQ Ba Cg
  refine s7 AT (b_4 Bb rfl f_1 AT.e AT.e (i := 0) rfl (vs := [(iv ((d_5 (b.macs.getD (((l.getD k (0, 0)).1).toNat) mac0)).1)), (iv ((d_5 (b.macs.getD (((l.getD k (0, 0)).1).toNat) mac0)).2))]) rfl rfl rfl (Nat.le_of_ble_eq_true rfl)) ?_
  intro _ Cm Bc BR; clear AT
  have Bd : Sep NoB w Cm [(blk Aj 30 [(iv ((d_5 (b.macs.getD (((l.getD k (0, 0)).1).toNat) mac0)).1)), (iv ((d_5 (b.macs.getD (((l.getD k (0, 0)).1).toNat) mac0)).2))]), (blk b9_ 103 [(iv ((b.macs.getD (((l.getD k (0, 0)).1).toNat) mac0).scale)), (lk (((l.getD k (0, 0)).1).toNat))]), (blk L 98 [(iv ((l.getD k (0, 0)).1)), (iv ((l.getD k (0, 0)).2))]), (blk C 120 (pairs (c_2 b l e_5 k))), (rob bx 146 [(iv b.scales), vt, vm, (Value.map (some bm))]), (mapX false bm es ck es.size 106 5 (bN b.tabs b.tabs.length) (bC lr lb b.tabs b.tabs.length)), (c_0 false vt lr lb b.tabs), (c_3 false vm lk b.macs), (sl xl 2 l.length (pairs l))] := Bc; clear Bc Bb
  refine n2 ?_
  have BS := BR.as [(10, (bptr Aj 0)), (9, (bptr b9_ 0)), (8, (bptr L 0)), (22, (iv (k : Int))), (21, (iv (l.length : Int))), (20, xl), (4, (bptr C 0)), (0, (bptr bx 0))] rfl; clear BR
  refine i_7 mixed BS Bd 18 [[], [0], [], [2], [3], [4], [], [6], [], [8], [7, 9], [], [11], [], [13], [12, 14], [10, 15], [5, 16]] [(Yd.val (bptr b9_ 0)), (Yd.val (iv ((b.macs.getD (((l.getD k (0, 0)).1).toNat) mac0).scale))), (Yd.val (bptr b9_ 0)), (Yd.val (iv ((b.macs.getD (((l.getD k (0, 0)).1).toNat) mac0).scale))), (Yd.val (bptr C (0 + ((b.macs.getD (((l.getD k (0, 0)).1).toNat) mac0).scale).toNat * 2))), (Yd.val (Value.agg #[(iv (((c_2 b l e_5 k).getD (((b.macs.getD (((l.getD k (0, 0)).1).toNat) mac0).scale).toNat) (0, 0)).1)), (iv (((c_2 b l e_5 k).getD (((b.macs.getD (((l.getD k (0, 0)).1).toNat) mac0).scale).toNat) (0, 0)).2))])), (Yd.val (bptr L 1)), (Yd.val (iv ((l.getD k (0, 0)).2))), (Yd.val (bptr Aj 1)), (Yd.val (iv ((d_5 (b.macs.getD (((l.getD k (0, 0)).1).toNat) mac0)).2))), (Yd.val (iv (((l.getD k (0, 0)).2) - ((d_5 (b.macs.getD (((l.getD k (0, 0)).1).toNat) mac0)).2)))), (Yd.val (bptr L 1)), (Yd.val (iv ((l.getD k (0, 0)).2))), (Yd.val (bptr Aj 0)), (Yd.val (iv ((d_5 (b.macs.getD (((l.getD k (0, 0)).1).toNat) mac0)).1))), (Yd.val (iv (((l.getD k (0, 0)).2) - ((d_5 (b.macs.getD (((l.getD k (0, 0)).1).toNat) mac0)).1)))), (Yd.val (Value.agg #[(iv (((l.getD k (0, 0)).2) - ((d_5 (b.macs.getD (((l.getD k (0, 0)).1).toNat) mac0)).2))), (iv (((l.getD k (0, 0)).2) - ((d_5 (b.macs.getD (((l.getD k (0, 0)).1).toNat) mac0)).1)))])), (Yd.val (Value.agg #[(iv ((cutR (((c_2 b l e_5 k).getD (((b.macs.getD (((l.getD k (0, 0)).1).toNat) mac0).scale).toNat) (0, 0)).1, ((c_2 b l e_5 k).getD (((b.macs.getD (((l.getD k (0, 0)).1).toNat) mac0).scale).toNat) (0, 0)).2) (((l.getD k (0, 0)).2) - ((d_5 (b.macs.getD (((l.getD k (0, 0)).1).toNat) mac0)).2), ((l.getD k (0, 0)).2) - ((d_5 (b.macs.getD (((l.getD k (0, 0)).1).toNat) mac0)).1))).1)), (iv ((cutR (((c_2 b l e_5 k).getD (((b.macs.getD (((l.getD k (0, 0)).1).toNat) mac0).scale).toNat) (0, 0)).1, ((c_2 b l e_5 k).getD (((b.macs.getD (((l.getD k (0, 0)).1).toNat) mac0).scale).toNat) (0, 0)).2) (((l.getD k (0, 0)).2) - ((d_5 (b.macs.getD (((l.getD k (0, 0)).1).toNat) mac0)).2), ((l.getD k (0, 0)).2) - ((d_5 (b.macs.getD (((l.getD k (0, 0)).1).toNat) mac0)).1))).2))]))] (by decide +kernel) rfl rfl ?_ ?_
  ·skip
   refine dq (fun a w hA hS hd => a_4 rfl fd_103_0 hA.e) ?_
   refine dq (fun a w hA hS hd => a_3 rfl ty_3 (hq hd 0) (hS.bk 1 rfl) rfl) ?_
   refine dq (fun a w hA hS hd => a_4 rfl fd_103_0 hA.e) ?_
   refine dq (fun a w hA hS hd => a_3 rfl ty_3 (hq hd 2) (hS.bk 1 rfl) rfl) ?_
   refine dq (fun a w hA hS hd => o_4 rfl w_7 f_1 hA.e (i := ((b.macs.getD (((l.getD k (0, 0)).1).toNat) mac0).scale).toNat) ((hq hd 3).trans (m_7 (by omega))) (by omega)) ?_
   refine dq (fun a w hA hS hd => b_9 rfl f_1 (hq hd 4) (hS.bk 3 rfl) (l := [(iv (((c_2 b l e_5 k).getD (((b.macs.getD (((l.getD k (0, 0)).1).toNat) mac0).scale).toNat) (0, 0)).1)), (iv (((c_2 b l e_5 k).getD (((b.macs.getD (((l.getD k (0, 0)).1).toNat) mac0).scale).toNat) (0, 0)).2))]) (s_1 (xs := (c_2 b l e_5 k)) (i := ((b.macs.getD (((l.getD k (0, 0)).1).toNat) mac0).scale).toNat) (by omega)) rfl) ?_
   refine dq (fun a w hA hS hd => a_4 rfl fd_98_1 hA.e) ?_
   refine dq (fun a w hA hS hd => a_3 rfl ty_3 (hq hd 6) (hS.bk 2 rfl) rfl) ?_
   refine dq (fun a w hA hS hd => a_4 rfl n_4 hA.e) ?_
   refine dq (fun a w hA hS hd => a_3 rfl ty_3 (hq hd 8) (hS.bk 0 rfl) rfl) ?_
   refine dq (fun a w hA hS hd => k_5 rfl (hq hd 7) (hq hd 9) (by omega) (by omega)) ?_
   refine dq (fun a w hA hS hd => a_4 rfl fd_98_1 hA.e) ?_
   refine dq (fun a w hA hS hd => a_3 rfl ty_3 (hq hd 11) (hS.bk 2 rfl) rfl) ?_
   refine dq (fun a w hA hS hd => a_4 rfl n_3 hA.e) ?_
   refine dq (fun a w hA hS hd => a_3 rfl ty_3 (hq hd 13) (hS.bk 0 rfl) rfl) ?_
   refine dq (fun a w hA hS hd => k_5 rfl (hq hd 12) (hq hd 14) (by omega) (by omega)) ?_
   refine dq (fun a w hA hS hd => c_7 rfl (pv2 (hq hd 10) (hq hd 15)) (m_4 _ _)) ?_
   refine ⟨fun a w hA hS hd => by have e5 := hx hd 5; have Ci := hx hd 16; exact e_2 rfl (dx (a_8 rfl en_87 (ev2 (c_1 e5) (c_1 Ci)) (cut_ok _ _ _ _ _)) hS (fun _ => rfl)), ?_⟩
   trivial
  intro Ch DH BT Ax AU; clear BS Bd
  have Al := BT.add (hz AU 1); clear BT
  have O := Al.add (hz AU 17); clear Al
  clear AU
  refine s1 O (o_4 rfl w_7 f_1 O.e (i := ((b.macs.getD (((l.getD k (0, 0)).1).toNat) mac0).scale).toNat) (O.e.trans (m_7 (by omega))) (by omega)) fun Bv P => ?_; clear O Ch
  refine s7 P (b_4 Ax rfl f_1 P.e P.e (i := 3) rfl (vs := [(iv ((cutR (((c_2 b l e_5 k).getD (((b.macs.getD (((l.getD k (0, 0)).1).toNat) mac0).scale).toNat) (0, 0)).1, ((c_2 b l e_5 k).getD (((b.macs.getD (((l.getD k (0, 0)).1).toNat) mac0).scale).toNat) (0, 0)).2) (((l.getD k (0, 0)).2) - ((d_5 (b.macs.getD (((l.getD k (0, 0)).1).toNat) mac0)).2), ((l.getD k (0, 0)).2) - ((d_5 (b.macs.getD (((l.getD k (0, 0)).1).toNat) mac0)).1))).1)), (iv ((cutR (((c_2 b l e_5 k).getD (((b.macs.getD (((l.getD k (0, 0)).1).toNat) mac0).scale).toNat) (0, 0)).1, ((c_2 b l e_5 k).getD (((b.macs.getD (((l.getD k (0, 0)).1).toNat) mac0).scale).toNat) (0, 0)).2) (((l.getD k (0, 0)).2) - ((d_5 (b.macs.getD (((l.getD k (0, 0)).1).toNat) mac0)).2), ((l.getD k (0, 0)).2) - ((d_5 (b.macs.getD (((l.getD k (0, 0)).1).toNat) mac0)).1))).2))]) rfl rfl rfl (by simp only [a_6, List.length_set, List.length_cons, List.length_nil]; omega)) ?_
  intro _ Cw Ay f; have Z := Ay.n_1 (i := 3) rfl (cs' := (pairs ((c_2 b l e_5 k).set (((b.macs.getD (((l.getD k (0, 0)).1).toNat) mac0).scale).toNat) ((cutR (((c_2 b l e_5 k).getD (((b.macs.getD (((l.getD k (0, 0)).1).toNat) mac0).scale).toNat) (0, 0)).1, ((c_2 b l e_5 k).getD (((b.macs.getD (((l.getD k (0, 0)).1).toNat) mac0).scale).toNat) (0, 0)).2) (((l.getD k (0, 0)).2) - ((d_5 (b.macs.getD (((l.getD k (0, 0)).1).toNat) mac0)).2), ((l.getD k (0, 0)).2) - ((d_5 (b.macs.getD (((l.getD k (0, 0)).1).toNat) mac0)).1))).1, (cutR (((c_2 b l e_5 k).getD (((b.macs.getD (((l.getD k (0, 0)).1).toNat) mac0).scale).toNat) (0, 0)).1, ((c_2 b l e_5 k).getD (((b.macs.getD (((l.getD k (0, 0)).1).toNat) mac0).scale).toNat) (0, 0)).2) (((l.getD k (0, 0)).2) - ((d_5 (b.macs.getD (((l.getD k (0, 0)).1).toNat) mac0)).2), ((l.getD k (0, 0)).2) - ((d_5 (b.macs.getD (((l.getD k (0, 0)).1).toNat) mac0)).1))).2)))) (pairs_setZ _ _ _ _); clear Ay P Ax
  refine n4 (s1 f (a_4 rfl fd_103_0 f.e) fun Bw h => ?_); clear f Bv
  refine s1 h (a_3 rfl ty_3 h.e (Z.bk 1 rfl) rfl) fun Bx Q => ?_; clear h Bw
  refine s1 Q (o_4 rfl w_7 f_1 Q.e (i := ((b.macs.getD (((l.getD k (0, 0)).1).toNat) mac0).scale).toNat) (Q.e.trans (m_7 (by omega))) (by omega)) fun By j => ?_; clear Q Bx
  refine s1 j (b_9 rfl f_1 (j.ev rfl) (Z.bk 3 rfl) (l := [(iv ((((c_2 b l e_5 k).set (((b.macs.getD (((l.getD k (0, 0)).1).toNat) mac0).scale).toNat) ((cutR (((c_2 b l e_5 k).getD (((b.macs.getD (((l.getD k (0, 0)).1).toNat) mac0).scale).toNat) (0, 0)).1, ((c_2 b l e_5 k).getD (((b.macs.getD (((l.getD k (0, 0)).1).toNat) mac0).scale).toNat) (0, 0)).2) (((l.getD k (0, 0)).2) - ((d_5 (b.macs.getD (((l.getD k (0, 0)).1).toNat) mac0)).2), ((l.getD k (0, 0)).2) - ((d_5 (b.macs.getD (((l.getD k (0, 0)).1).toNat) mac0)).1))).1, (cutR (((c_2 b l e_5 k).getD (((b.macs.getD (((l.getD k (0, 0)).1).toNat) mac0).scale).toNat) (0, 0)).1, ((c_2 b l e_5 k).getD (((b.macs.getD (((l.getD k (0, 0)).1).toNat) mac0).scale).toNat) (0, 0)).2) (((l.getD k (0, 0)).2) - ((d_5 (b.macs.getD (((l.getD k (0, 0)).1).toNat) mac0)).2), ((l.getD k (0, 0)).2) - ((d_5 (b.macs.getD (((l.getD k (0, 0)).1).toNat) mac0)).1))).2)).getD (((b.macs.getD (((l.getD k (0, 0)).1).toNat) mac0).scale).toNat) (0, 0)).1)), (iv ((((c_2 b l e_5 k).set (((b.macs.getD (((l.getD k (0, 0)).1).toNat) mac0).scale).toNat) ((cutR (((c_2 b l e_5 k).getD (((b.macs.getD (((l.getD k (0, 0)).1).toNat) mac0).scale).toNat) (0, 0)).1, ((c_2 b l e_5 k).getD (((b.macs.getD (((l.getD k (0, 0)).1).toNat) mac0).scale).toNat) (0, 0)).2) (((l.getD k (0, 0)).2) - ((d_5 (b.macs.getD (((l.getD k (0, 0)).1).toNat) mac0)).2), ((l.getD k (0, 0)).2) - ((d_5 (b.macs.getD (((l.getD k (0, 0)).1).toNat) mac0)).1))).1, (cutR (((c_2 b l e_5 k).getD (((b.macs.getD (((l.getD k (0, 0)).1).toNat) mac0).scale).toNat) (0, 0)).1, ((c_2 b l e_5 k).getD (((b.macs.getD (((l.getD k (0, 0)).1).toNat) mac0).scale).toNat) (0, 0)).2) (((l.getD k (0, 0)).2) - ((d_5 (b.macs.getD (((l.getD k (0, 0)).1).toNat) mac0)).2), ((l.getD k (0, 0)).2) - ((d_5 (b.macs.getD (((l.getD k (0, 0)).1).toNat) mac0)).1))).2)).getD (((b.macs.getD (((l.getD k (0, 0)).1).toNat) mac0).scale).toNat) (0, 0)).2))]) (s_1 (xs := ((c_2 b l e_5 k).set (((b.macs.getD (((l.getD k (0, 0)).1).toNat) mac0).scale).toNat) ((cutR (((c_2 b l e_5 k).getD (((b.macs.getD (((l.getD k (0, 0)).1).toNat) mac0).scale).toNat) (0, 0)).1, ((c_2 b l e_5 k).getD (((b.macs.getD (((l.getD k (0, 0)).1).toNat) mac0).scale).toNat) (0, 0)).2) (((l.getD k (0, 0)).2) - ((d_5 (b.macs.getD (((l.getD k (0, 0)).1).toNat) mac0)).2), ((l.getD k (0, 0)).2) - ((d_5 (b.macs.getD (((l.getD k (0, 0)).1).toNat) mac0)).1))).1, (cutR (((c_2 b l e_5 k).getD (((b.macs.getD (((l.getD k (0, 0)).1).toNat) mac0).scale).toNat) (0, 0)).1, ((c_2 b l e_5 k).getD (((b.macs.getD (((l.getD k (0, 0)).1).toNat) mac0).scale).toNat) (0, 0)).2) (((l.getD k (0, 0)).2) - ((d_5 (b.macs.getD (((l.getD k (0, 0)).1).toNat) mac0)).2), ((l.getD k (0, 0)).2) - ((d_5 (b.macs.getD (((l.getD k (0, 0)).1).toNat) mac0)).1))).2))) (i := ((b.macs.getD (((l.getD k (0, 0)).1).toNat) mac0).scale).toNat) (by simp only [List.length_set]; omega)) rfl) fun Bz m => ?_; clear j By
  refine s2 m (a_8 rfl en_68 (ev1 m.e) (w_0 _ _ _)) ?_
  rintro BC _ Cx ⟨rfl, Av⟩ E; have M := Z.step Av; clear Av m Z Bz
  refine n1 ?_
  by_cases BA : ((((c_2 b l e_5 k).set (((b.macs.getD (((l.getD k (0, 0)).1).toNat) mac0).scale).toNat) ((cutR (((c_2 b l e_5 k).getD (((b.macs.getD (((l.getD k (0, 0)).1).toNat) mac0).scale).toNat) (0, 0)).1, ((c_2 b l e_5 k).getD (((b.macs.getD (((l.getD k (0, 0)).1).toNat) mac0).scale).toNat) (0, 0)).2) (((l.getD k (0, 0)).2) - ((d_5 (b.macs.getD (((l.getD k (0, 0)).1).toNat) mac0)).2), ((l.getD k (0, 0)).2) - ((d_5 (b.macs.getD (((l.getD k (0, 0)).1).toNat) mac0)).1))).1, (cutR (((c_2 b l e_5 k).getD (((b.macs.getD (((l.getD k (0, 0)).1).toNat) mac0).scale).toNat) (0, 0)).1, ((c_2 b l e_5 k).getD (((b.macs.getD (((l.getD k (0, 0)).1).toNat) mac0).scale).toNat) (0, 0)).2) (((l.getD k (0, 0)).2) - ((d_5 (b.macs.getD (((l.getD k (0, 0)).1).toNat) mac0)).2), ((l.getD k (0, 0)).2) - ((d_5 (b.macs.getD (((l.getD k (0, 0)).1).toNat) mac0)).1))).2)).getD (((b.macs.getD (((l.getD k (0, 0)).1).toNat) mac0).scale).toNat) (0, 0)).2) < ((((c_2 b l e_5 k).set (((b.macs.getD (((l.getD k (0, 0)).1).toNat) mac0).scale).toNat) ((cutR (((c_2 b l e_5 k).getD (((b.macs.getD (((l.getD k (0, 0)).1).toNat) mac0).scale).toNat) (0, 0)).1, ((c_2 b l e_5 k).getD (((b.macs.getD (((l.getD k (0, 0)).1).toNat) mac0).scale).toNat) (0, 0)).2) (((l.getD k (0, 0)).2) - ((d_5 (b.macs.getD (((l.getD k (0, 0)).1).toNat) mac0)).2), ((l.getD k (0, 0)).2) - ((d_5 (b.macs.getD (((l.getD k (0, 0)).1).toNat) mac0)).1))).1, (cutR (((c_2 b l e_5 k).getD (((b.macs.getD (((l.getD k (0, 0)).1).toNat) mac0).scale).toNat) (0, 0)).1, ((c_2 b l e_5 k).getD (((b.macs.getD (((l.getD k (0, 0)).1).toNat) mac0).scale).toNat) (0, 0)).2) (((l.getD k (0, 0)).2) - ((d_5 (b.macs.getD (((l.getD k (0, 0)).1).toNat) mac0)).2), ((l.getD k (0, 0)).2) - ((d_5 (b.macs.getD (((l.getD k (0, 0)).1).toNat) mac0)).1))).2)).getD (((b.macs.getD (((l.getD k (0, 0)).1).toNat) mac0).scale).toNat) (0, 0)).1)
  ·skip
   rw [decide_eq_true BA] at E
   refine d_6 E rfl (d_3 ?_)
   have n := E.as [(4, (bptr C 0))] rfl; clear E
   refine a_5 ?_
   refine s1 n (b_9 rfl j_9 n.e (M.bk 3 rfl) (l := (pairs ((c_2 b l e_5 k).set (((b.macs.getD (((l.getD k (0, 0)).1).toNat) mac0).scale).toNat) ((cutR (((c_2 b l e_5 k).getD (((b.macs.getD (((l.getD k (0, 0)).1).toNat) mac0).scale).toNat) (0, 0)).1, ((c_2 b l e_5 k).getD (((b.macs.getD (((l.getD k (0, 0)).1).toNat) mac0).scale).toNat) (0, 0)).2) (((l.getD k (0, 0)).2) - ((d_5 (b.macs.getD (((l.getD k (0, 0)).1).toNat) mac0)).2), ((l.getD k (0, 0)).2) - ((d_5 (b.macs.getD (((l.getD k (0, 0)).1).toNat) mac0)).1))).1, (cutR (((c_2 b l e_5 k).getD (((b.macs.getD (((l.getD k (0, 0)).1).toNat) mac0).scale).toNat) (0, 0)).1, ((c_2 b l e_5 k).getD (((b.macs.getD (((l.getD k (0, 0)).1).toNat) mac0).scale).toNat) (0, 0)).2) (((l.getD k (0, 0)).2) - ((d_5 (b.macs.getD (((l.getD k (0, 0)).1).toNat) mac0)).2), ((l.getD k (0, 0)).2) - ((d_5 (b.macs.getD (((l.getD k (0, 0)).1).toNat) mac0)).1))).2)))) (f_6 _ _ (show (pairs ((c_2 b l e_5 k).set (((b.macs.getD (((l.getD k (0, 0)).1).toNat) mac0).scale).toNat) ((cutR (((c_2 b l e_5 k).getD (((b.macs.getD (((l.getD k (0, 0)).1).toNat) mac0).scale).toNat) (0, 0)).1, ((c_2 b l e_5 k).getD (((b.macs.getD (((l.getD k (0, 0)).1).toNat) mac0).scale).toNat) (0, 0)).2) (((l.getD k (0, 0)).2) - ((d_5 (b.macs.getD (((l.getD k (0, 0)).1).toNat) mac0)).2), ((l.getD k (0, 0)).2) - ((d_5 (b.macs.getD (((l.getD k (0, 0)).1).toNat) mac0)).1))).1, (cutR (((c_2 b l e_5 k).getD (((b.macs.getD (((l.getD k (0, 0)).1).toNat) mac0).scale).toNat) (0, 0)).1, ((c_2 b l e_5 k).getD (((b.macs.getD (((l.getD k (0, 0)).1).toNat) mac0).scale).toNat) (0, 0)).2) (((l.getD k (0, 0)).2) - ((d_5 (b.macs.getD (((l.getD k (0, 0)).1).toNat) mac0)).2), ((l.getD k (0, 0)).2) - ((d_5 (b.macs.getD (((l.getD k (0, 0)).1).toNat) mac0)).1))).2))).length = 8 from by simp only [a_6, List.length_set]; omega)) (show (pairs ((c_2 b l e_5 k).set (((b.macs.getD (((l.getD k (0, 0)).1).toNat) mac0).scale).toNat) ((cutR (((c_2 b l e_5 k).getD (((b.macs.getD (((l.getD k (0, 0)).1).toNat) mac0).scale).toNat) (0, 0)).1, ((c_2 b l e_5 k).getD (((b.macs.getD (((l.getD k (0, 0)).1).toNat) mac0).scale).toNat) (0, 0)).2) (((l.getD k (0, 0)).2) - ((d_5 (b.macs.getD (((l.getD k (0, 0)).1).toNat) mac0)).2), ((l.getD k (0, 0)).2) - ((d_5 (b.macs.getD (((l.getD k (0, 0)).1).toNat) mac0)).1))).1, (cutR (((c_2 b l e_5 k).getD (((b.macs.getD (((l.getD k (0, 0)).1).toNat) mac0).scale).toNat) (0, 0)).1, ((c_2 b l e_5 k).getD (((b.macs.getD (((l.getD k (0, 0)).1).toNat) mac0).scale).toNat) (0, 0)).2) (((l.getD k (0, 0)).2) - ((d_5 (b.macs.getD (((l.getD k (0, 0)).1).toNat) mac0)).2), ((l.getD k (0, 0)).2) - ((d_5 (b.macs.getD (((l.getD k (0, 0)).1).toNat) mac0)).1))).2))).length = 8 from by simp only [a_6, List.length_set]; omega)) fun B0 R => ?_; clear n BC
   refine s7 R (b_4 M rfl j_9 R.e R.e (i := 3) rfl (vs := (pairs ((c_2 b l e_5 k).set (((b.macs.getD (((l.getD k (0, 0)).1).toNat) mac0).scale).toNat) ((cutR (((c_2 b l e_5 k).getD (((b.macs.getD (((l.getD k (0, 0)).1).toNat) mac0).scale).toNat) (0, 0)).1, ((c_2 b l e_5 k).getD (((b.macs.getD (((l.getD k (0, 0)).1).toNat) mac0).scale).toNat) (0, 0)).2) (((l.getD k (0, 0)).2) - ((d_5 (b.macs.getD (((l.getD k (0, 0)).1).toNat) mac0)).2), ((l.getD k (0, 0)).2) - ((d_5 (b.macs.getD (((l.getD k (0, 0)).1).toNat) mac0)).1))).1, (cutR (((c_2 b l e_5 k).getD (((b.macs.getD (((l.getD k (0, 0)).1).toNat) mac0).scale).toNat) (0, 0)).1, ((c_2 b l e_5 k).getD (((b.macs.getD (((l.getD k (0, 0)).1).toNat) mac0).scale).toNat) (0, 0)).2) (((l.getD k (0, 0)).2) - ((d_5 (b.macs.getD (((l.getD k (0, 0)).1).toNat) mac0)).2), ((l.getD k (0, 0)).2) - ((d_5 (b.macs.getD (((l.getD k (0, 0)).1).toNat) mac0)).1))).2)))) rfl (show (pairs ((c_2 b l e_5 k).set (((b.macs.getD (((l.getD k (0, 0)).1).toNat) mac0).scale).toNat) ((cutR (((c_2 b l e_5 k).getD (((b.macs.getD (((l.getD k (0, 0)).1).toNat) mac0).scale).toNat) (0, 0)).1, ((c_2 b l e_5 k).getD (((b.macs.getD (((l.getD k (0, 0)).1).toNat) mac0).scale).toNat) (0, 0)).2) (((l.getD k (0, 0)).2) - ((d_5 (b.macs.getD (((l.getD k (0, 0)).1).toNat) mac0)).2), ((l.getD k (0, 0)).2) - ((d_5 (b.macs.getD (((l.getD k (0, 0)).1).toNat) mac0)).1))).1, (cutR (((c_2 b l e_5 k).getD (((b.macs.getD (((l.getD k (0, 0)).1).toNat) mac0).scale).toNat) (0, 0)).1, ((c_2 b l e_5 k).getD (((b.macs.getD (((l.getD k (0, 0)).1).toNat) mac0).scale).toNat) (0, 0)).2) (((l.getD k (0, 0)).2) - ((d_5 (b.macs.getD (((l.getD k (0, 0)).1).toNat) mac0)).2), ((l.getD k (0, 0)).2) - ((d_5 (b.macs.getD (((l.getD k (0, 0)).1).toNat) mac0)).1))).2))).length = 8 from by simp only [a_6, List.length_set]; omega) (j_4 _) (by simp only [a_6, List.length_set, List.length_cons, List.length_nil]; omega)) ?_
   intro _ Cy Az Am; have A0 := Az.n_1 (i := 3) rfl (cs' := (pairs ((c_2 b l e_5 k).set (((b.macs.getD (((l.getD k (0, 0)).1).toNat) mac0).scale).toNat) ((cutR (((c_2 b l e_5 k).getD (((b.macs.getD (((l.getD k (0, 0)).1).toNat) mac0).scale).toNat) (0, 0)).1, ((c_2 b l e_5 k).getD (((b.macs.getD (((l.getD k (0, 0)).1).toNat) mac0).scale).toNat) (0, 0)).2) (((l.getD k (0, 0)).2) - ((d_5 (b.macs.getD (((l.getD k (0, 0)).1).toNat) mac0)).2), ((l.getD k (0, 0)).2) - ((d_5 (b.macs.getD (((l.getD k (0, 0)).1).toNat) mac0)).1))).1, (cutR (((c_2 b l e_5 k).getD (((b.macs.getD (((l.getD k (0, 0)).1).toNat) mac0).scale).toNat) (0, 0)).1, ((c_2 b l e_5 k).getD (((b.macs.getD (((l.getD k (0, 0)).1).toNat) mac0).scale).toNat) (0, 0)).2) (((l.getD k (0, 0)).2) - ((d_5 (b.macs.getD (((l.getD k (0, 0)).1).toNat) mac0)).2), ((l.getD k (0, 0)).2) - ((d_5 (b.macs.getD (((l.getD k (0, 0)).1).toNat) mac0)).1))).2)))) (i_3 _ _ (by first | (simp only [a_6, List.length_set, List.length_cons, List.length_nil]; done) | (simp only [a_6, List.length_set, List.length_cons, List.length_nil]; omega))); clear Az R M
   refine s1 Am (a_0 rfl (evc _ _)) fun Co An => ?_; clear Am B0
   refine n1 (c_6 (e_6 (b_1 (b_1 (e_6 (b_1 ?_))))))
   refine b_0 An (.inl rfl) (c_4 An rfl (.cellA rfl j_9 (A0.bk 3 rfl) (l := (pairs ((c_2 b l e_5 k).set (((b.macs.getD (((l.getD k (0, 0)).1).toNat) mac0).scale).toNat) ((cutR (((c_2 b l e_5 k).getD (((b.macs.getD (((l.getD k (0, 0)).1).toNat) mac0).scale).toNat) (0, 0)).1, ((c_2 b l e_5 k).getD (((b.macs.getD (((l.getD k (0, 0)).1).toNat) mac0).scale).toNat) (0, 0)).2) (((l.getD k (0, 0)).2) - ((d_5 (b.macs.getD (((l.getD k (0, 0)).1).toNat) mac0)).2), ((l.getD k (0, 0)).2) - ((d_5 (b.macs.getD (((l.getD k (0, 0)).1).toNat) mac0)).1))).1, (cutR (((c_2 b l e_5 k).getD (((b.macs.getD (((l.getD k (0, 0)).1).toNat) mac0).scale).toNat) (0, 0)).1, ((c_2 b l e_5 k).getD (((b.macs.getD (((l.getD k (0, 0)).1).toNat) mac0).scale).toNat) (0, 0)).2) (((l.getD k (0, 0)).2) - ((d_5 (b.macs.getD (((l.getD k (0, 0)).1).toNat) mac0)).2), ((l.getD k (0, 0)).2) - ((d_5 (b.macs.getD (((l.getD k (0, 0)).1).toNat) mac0)).1))).2)))) (f_6 _ _ (show (pairs ((c_2 b l e_5 k).set (((b.macs.getD (((l.getD k (0, 0)).1).toNat) mac0).scale).toNat) ((cutR (((c_2 b l e_5 k).getD (((b.macs.getD (((l.getD k (0, 0)).1).toNat) mac0).scale).toNat) (0, 0)).1, ((c_2 b l e_5 k).getD (((b.macs.getD (((l.getD k (0, 0)).1).toNat) mac0).scale).toNat) (0, 0)).2) (((l.getD k (0, 0)).2) - ((d_5 (b.macs.getD (((l.getD k (0, 0)).1).toNat) mac0)).2), ((l.getD k (0, 0)).2) - ((d_5 (b.macs.getD (((l.getD k (0, 0)).1).toNat) mac0)).1))).1, (cutR (((c_2 b l e_5 k).getD (((b.macs.getD (((l.getD k (0, 0)).1).toNat) mac0).scale).toNat) (0, 0)).1, ((c_2 b l e_5 k).getD (((b.macs.getD (((l.getD k (0, 0)).1).toNat) mac0).scale).toNat) (0, 0)).2) (((l.getD k (0, 0)).2) - ((d_5 (b.macs.getD (((l.getD k (0, 0)).1).toNat) mac0)).2), ((l.getD k (0, 0)).2) - ((d_5 (b.macs.getD (((l.getD k (0, 0)).1).toNat) mac0)).1))).2))).length = 8 from by simp only [a_6, List.length_set]; omega)) (show (pairs ((c_2 b l e_5 k).set (((b.macs.getD (((l.getD k (0, 0)).1).toNat) mac0).scale).toNat) ((cutR (((c_2 b l e_5 k).getD (((b.macs.getD (((l.getD k (0, 0)).1).toNat) mac0).scale).toNat) (0, 0)).1, ((c_2 b l e_5 k).getD (((b.macs.getD (((l.getD k (0, 0)).1).toNat) mac0).scale).toNat) (0, 0)).2) (((l.getD k (0, 0)).2) - ((d_5 (b.macs.getD (((l.getD k (0, 0)).1).toNat) mac0)).2), ((l.getD k (0, 0)).2) - ((d_5 (b.macs.getD (((l.getD k (0, 0)).1).toNat) mac0)).1))).1, (cutR (((c_2 b l e_5 k).getD (((b.macs.getD (((l.getD k (0, 0)).1).toNat) mac0).scale).toNat) (0, 0)).1, ((c_2 b l e_5 k).getD (((b.macs.getD (((l.getD k (0, 0)).1).toNat) mac0).scale).toNat) (0, 0)).2) (((l.getD k (0, 0)).2) - ((d_5 (b.macs.getD (((l.getD k (0, 0)).1).toNat) mac0)).2), ((l.getD k (0, 0)).2) - ((d_5 (b.macs.getD (((l.getD k (0, 0)).1).toNat) mac0)).1))).2))).length = 8 from by simp only [a_6, List.length_set]; omega)) (.tmp rfl)) ?_
   have hz := start_empty hb hl (k := k) (by omega) (by assumption)
   exact ⟨_, hsl1, by rw [hz]; rfl, fun t h_ => by rw [hz] at h_; (cases h_), A0.ext⟩
  skip
  rw [decide_eq_false BA] at E
  refine b_8 E rfl (e_1 (k_7 (b_3 ?_)))
  have o := E.as [(22, (iv (k : Int))), (21, (iv (l.length : Int))), (20, xl), (4, (bptr C 0)), (0, (bptr bx 0))] rfl; clear E
  refine a_5 (s1 o (g_9 rfl o.e (evc _ _) (by omega) (by omega)) fun B1 q => ?_); clear o BC
  refine s1 q (a_1 rfl q.e) fun Cp Bi => ?_; clear q B1
  refine g_6 ?_
  have Bk := M.gkp (gpc 3 (gpc 4 (gpc 5 (gpc 6 (gpc 7 (gpc 8 gpn)))))); clear M
  exact b_3 ⟨k + 1, ⟨Bi.as _ rfl, Bk, by omega, (start_next hb hl (by omega) hfu (by assumption))⟩, by omega⟩
 skip
 rw [decide_eq_false Bf] at I
 refine b_8 I rfl (j_7 (b_7 (b_7 (h_6 (b_3 (e_3 ?_))))))
 have Ao := I.as [(4, (bptr C 0)), (0, (bptr bx 0))] rfl; clear I
 refine k_4 (G := Nat) (fun (g : Nat) a_ w_ => ∃ x_ : List (Int × Int), Fr 79 [] [(4, (bptr C 0)), (0, (bptr bx 0))] a_ ∧ Sep NoB w w_ [(blk C 120 (pairs x_)), (rob bx 146 [(iv b.scales), vt, vm, (Value.map (some bm))]), (mapX false bm es ck es.size 106 5 (bN b.tabs b.tabs.length) (bC lr lb b.tabs b.tabs.length)), (c_0 false vt lr lb b.tabs), (c_3 false vm lk b.macs), (sl xl 2 l.length (pairs l))] ∧ (Go.Hard.Loop b.scales.toNat b.tabs (r_2 b l) x_) ∧ (l_6 b l = q_3 b.scales.toNat (f_5 b.scales.toNat b.tabs) g x_) ∧ (width x_ < g)) (fun g => g) 400001 ⟨(c_2 b l e_5 k), Ao.as _ rfl, N, (by have hkl : k = l.length := (by omega); subst hkl; exact loop_start hb hl hfu), (by have hkl : k = l.length := (by omega); subst hkl; exact spans_go hfu), (by have hkl : k = l.length := (by omega); subst hkl; exact Nat.lt_succ_of_le (start_width hb hl))⟩ ?_
 clear Ao N Bn
 rintro g B2 Cz ⟨x_, r, K, hlp, hsp, hwd⟩
 have DA : x_.length = 4 := hlp.len; have Bu : (g_4 (f_5 b.scales.toNat b.tabs) x_).1.length = 4 := (hlp.pass hb.four hb.orderV).1
 refine e_3 (m2 (s1 r (a_1 rfl r.e) fun B3 s => ?_)); clear r B2
 refine s1 s (b_9 rfl j_9 s.e (K.bk 0 rfl) (l := (pairs x_)) (f_6 _ _ (show (pairs x_).length = 8 from by simp only [a_6, List.length_set]; omega)) (show (pairs x_).length = 8 from by simp only [a_6, List.length_set]; omega)) fun B4 S => ?_; clear s B3
 refine s2 S (a_8 rfl en_88 (ev2 S.e S.e) (cutb_ok b vt vm lr lb lk _ (c_5 (K.ok 3 _ rfl)) (d_1 (K.ok 4 _ rfl)) hth bx bm _ _ hMO (K.rk 1 rfl) (K.ok 2 _ rfl) hb x_ (by omega))) ?_
 rintro B5 _ C0 ⟨rfl, Aw⟩ u; have A1 := K.step Aw; clear Aw S K B4
 refine s1 u (a_1 rfl u.e) fun B6 y => ?_; clear u B5
 refine s1 y (b_2 rfl y.e rfl) fun B7 z => ?_; clear y B6
 refine s1 z (b_2 rfl z.e rfl) fun B8 Ap => ?_; clear z B7
 refine s2 Ap (d_2 A1 rfl ze_120 (cs := [(iv 0), (iv 0), (iv 0), (iv 0), (iv 0), (iv 0), (iv 0), (iv 0)]) rfl) ?_
 rintro B9 _ C1 ⟨d, rfl, A2⟩ T; clear Ap A1 B8
 refine s7 T (b_4 A2 rfl j_9 T.e T.e (i := 0) rfl (vs := (pairs ((g_4 (f_5 b.scales.toNat b.tabs) x_).1))) rfl (show (pairs ((g_4 (f_5 b.scales.toNat b.tabs) x_).1)).length = 8 from by simp only [a_6, List.length_set]; omega) (j_4 _) (by decide)) ?_
 intro _ C2 A3 AA; have A := A3.n_1 (i := 0) rfl (cs' := (pairs ((g_4 (f_5 b.scales.toNat b.tabs) x_).1))) (i_3 _ _ (Eq.symm (show (pairs ((g_4 (f_5 b.scales.toNat b.tabs) x_).1)).length = 8 from by simp only [a_6, List.length_set]; omega))); clear A3 T A2
 refine s1 AA (a_0 rfl AA.e) fun CA Aq => ?_; clear AA B9
 refine n2 (d_3 ?_)
 have AB := Aq.as [(12, (Value.bool (z_4 b.scales.toNat (g_4 (f_5 b.scales.toNat b.tabs) x_).1))), (11, (bptr d 0)), (4, (bptr C 0)), (0, (bptr bx 0))] rfl; clear Aq
 refine a_5 (s1 AB (a_1 rfl AB.e) fun CB AC => ?_); clear AB CA
 refine s1 AC (g_0 rfl AC.e) fun CC AD => ?_; clear AC CB
 refine s1 AD (a_1 rfl AD.e) fun BD J => ?_; clear AD CC
 rcases Bool.eq_false_or_eq_true ((z_4 b.scales.toNat (g_4 (f_5 b.scales.toNat b.tabs) x_).1)) with AW | AW
 ·skip
  rw [AW] at J
  refine s5 J (b_9 rfl j_9 J.e (A.bk 0 rfl) (l := (pairs ((g_4 (f_5 b.scales.toNat b.tabs) x_).1))) (f_6 _ _ (show (pairs ((g_4 (f_5 b.scales.toNat b.tabs) x_).1)).length = 8 from by simp only [a_6, List.length_set]; omega)) (show (pairs ((g_4 (f_5 b.scales.toNat b.tabs) x_).1)).length = 8 from by simp only [a_6, List.length_set]; omega)) fun CD AE => ?_; clear J BD
  refine s5 AE (b_9 rfl j_9 AE.e (A.bk 1 rfl) (l := (pairs x_)) (f_6 _ _ (show (pairs x_).length = 8 from by simp only [a_6, List.length_set]; omega)) (show (pairs x_).length = 8 from by simp only [a_6, List.length_set]; omega)) fun CE U => ?_; clear AE CD
  refine s5 U (op_eqlAP ar_120 z_0 f_1 gt_120 rfl U.e U.e (by omega) (by omega)) fun CF V => ?_; clear U CE
  refine s1 V (e_0 rfl V.e V.e) fun BE F => ?_; clear V CF
  refine n1 ?_
  by_cases BB : (g_4 (f_5 b.scales.toNat b.tabs) x_).1 = x_
  ·skip
   rw [decide_eq_true BB] at F
   refine d_6 F rfl (d_3 ?_)
   have AF := F.as [(12, (Value.bool true)), (11, (bptr d 0)), (4, (bptr C 0))] rfl; clear F
   refine a_5 ?_
   refine s1 AF (b_9 rfl j_9 AF.e (A.bk 0 rfl) (l := (pairs ((g_4 (f_5 b.scales.toNat b.tabs) x_).1))) (f_6 _ _ (show (pairs ((g_4 (f_5 b.scales.toNat b.tabs) x_).1)).length = 8 from by simp only [a_6, List.length_set]; omega)) (show (pairs ((g_4 (f_5 b.scales.toNat b.tabs) x_).1)).length = 8 from by simp only [a_6, List.length_set]; omega)) fun CG AG => ?_; clear AF BE
   refine s1 AG (a_1 rfl AG.e) fun CH W => ?_; clear AG CG
   refine s7 W (b_4 A rfl j_9 W.e W.e (i := 1) rfl (vs := (pairs ((g_4 (f_5 b.scales.toNat b.tabs) x_).1))) rfl (show (pairs ((g_4 (f_5 b.scales.toNat b.tabs) x_).1)).length = 8 from by simp only [a_6, List.length_set]; omega) (j_4 _) (by simp only [a_6, List.length_set, List.length_cons, List.length_nil]; omega)) ?_
   intro _ C3 A4 AH; have A5 := A4.n_1 (i := 1) rfl (cs' := (pairs ((g_4 (f_5 b.scales.toNat b.tabs) x_).1))) (i_3 _ _ (by first | (simp only [a_6, List.length_set, List.length_cons, List.length_nil]; done) | (simp only [a_6, List.length_set, List.length_cons, List.length_nil]; omega))); clear A4 W A
   refine s1 AH (a_0 rfl AH.e) fun Cq Ar => ?_; clear AH CH
   refine n1 (c_6 (b_1 (e_6 (b_1 (e_6 ?_)))))
   refine b_0 Ar (.inl rfl) (c_4 Ar rfl (.cellA rfl j_9 (A5.bk 1 rfl) (l := (pairs ((g_4 (f_5 b.scales.toNat b.tabs) x_).1))) (f_6 _ _ (show (pairs ((g_4 (f_5 b.scales.toNat b.tabs) x_).1)).length = 8 from by simp only [a_6, List.length_set]; omega)) (show (pairs ((g_4 (f_5 b.scales.toNat b.tabs) x_).1)).length = 8 from by simp only [a_6, List.length_set]; omega)) (.tmp rfl)) ?_
   have hz := hsp.trans (k_done (by omega) (by assumption) (by assumption))
   exact ⟨_, Bu, by rw [hz]; rfl, fun t h_ => by rw [hz] at h_; rw [← Option.some.inj h_]; congr 1, A5.ext⟩
  skip
  rw [decide_eq_false BB] at F
  refine b_8 F rfl (e_1 (b_3 ?_))
  have AI := F.as [(11, (bptr d 0)), (4, (bptr C 0)), (0, (bptr bx 0))] rfl; clear F
  refine a_5 ?_
  refine s1 AI (b_9 rfl j_9 AI.e (A.bk 0 rfl) (l := (pairs ((g_4 (f_5 b.scales.toNat b.tabs) x_).1))) (f_6 _ _ (show (pairs ((g_4 (f_5 b.scales.toNat b.tabs) x_).1)).length = 8 from by simp only [a_6, List.length_set]; omega)) (show (pairs ((g_4 (f_5 b.scales.toNat b.tabs) x_).1)).length = 8 from by simp only [a_6, List.length_set]; omega)) fun Cr X => ?_; clear AI BE
  refine s7 X (b_4 A rfl j_9 X.e X.e (i := 1) rfl (vs := (pairs ((g_4 (f_5 b.scales.toNat b.tabs) x_).1))) rfl (show (pairs ((g_4 (f_5 b.scales.toNat b.tabs) x_).1)).length = 8 from by simp only [a_6, List.length_set]; omega) (j_4 _) (by simp only [a_6, List.length_set, List.length_cons, List.length_nil]; omega)) ?_
  intro _ C4 A6 Bj; have A7 := A6.n_1 (i := 1) rfl (cs' := (pairs ((g_4 (f_5 b.scales.toNat b.tabs) x_).1))) (i_3 _ _ (by first | (simp only [a_6, List.length_set, List.length_cons, List.length_nil]; done) | (simp only [a_6, List.length_set, List.length_cons, List.length_nil]; omega))); clear A6 X A
  refine g_6 (k_7 ?_)
  have Bl := A7.gkp (gpc 1 (gpc 2 (gpc 3 (gpc 4 (gpc 5 (gpc 6 gpn)))))); clear A7
  exact b_3 ⟨(g - 1), ⟨(g_4 (f_5 b.scales.toNat b.tabs) x_).1, Bj.as _ rfl, Bl, (hlp.next hb.four hb.orderV (r_4.1 (by assumption)) (by assumption)).1, (hsp.trans (k_next (by omega) (by assumption) (by assumption))), (by have := (hlp.next hb.four hb.orderV (r_4.1 (by assumption)) (by assumption)).2; omega)⟩, by omega⟩
 skip
 rw [AW] at J
 refine s3 J fun CI As => ?_; clear J BD
 refine s3 As fun CJ At => ?_; clear As CI
 refine s3 At fun CK AJ => ?_; clear At CJ
 refine s1 AJ (b_5 rfl AJ.e (evc _ _)) fun CL AK => ?_; clear AJ CK
 refine n1 (d_6 AK rfl (d_3 ?_))
 have AL := AK.as [(12, (Value.bool false)), (11, (bptr d 0)), (4, (bptr C 0))] rfl; clear AK
 refine a_5 ?_
 refine s1 AL (b_9 rfl j_9 AL.e (A.bk 0 rfl) (l := (pairs ((g_4 (f_5 b.scales.toNat b.tabs) x_).1))) (f_6 _ _ (show (pairs ((g_4 (f_5 b.scales.toNat b.tabs) x_).1)).length = 8 from by simp only [a_6, List.length_set]; omega)) (show (pairs ((g_4 (f_5 b.scales.toNat b.tabs) x_).1)).length = 8 from by simp only [a_6, List.length_set]; omega)) fun CM AM => ?_; clear AL CL
 refine s1 AM (a_1 rfl AM.e) fun CN Y => ?_; clear AM CM
 refine s7 Y (b_4 A rfl j_9 Y.e Y.e (i := 1) rfl (vs := (pairs ((g_4 (f_5 b.scales.toNat b.tabs) x_).1))) rfl (show (pairs ((g_4 (f_5 b.scales.toNat b.tabs) x_).1)).length = 8 from by simp only [a_6, List.length_set]; omega) (j_4 _) (by simp only [a_6, List.length_set, List.length_cons, List.length_nil]; omega)) ?_
 intro _ C5 A8 AN; have A9 := A8.n_1 (i := 1) rfl (cs' := (pairs ((g_4 (f_5 b.scales.toNat b.tabs) x_).1))) (i_3 _ _ (by first | (simp only [a_6, List.length_set, List.length_cons, List.length_nil]; done) | (simp only [a_6, List.length_set, List.length_cons, List.length_nil]; omega))); clear A8 Y A
 refine s1 AN (a_0 rfl AN.e) fun Cs Au => ?_; clear AN CN
 refine n1 (c_6 (b_1 (e_6 (b_1 (e_6 ?_)))))
 refine b_0 Au (.inl rfl) (c_4 Au rfl (.cellA rfl j_9 (A9.bk 1 rfl) (l := (pairs ((g_4 (f_5 b.scales.toNat b.tabs) x_).1))) (f_6 _ _ (show (pairs ((g_4 (f_5 b.scales.toNat b.tabs) x_).1)).length = 8 from by simp only [a_6, List.length_set]; omega)) (show (pairs ((g_4 (f_5 b.scales.toNat b.tabs) x_).1)).length = 8 from by simp only [a_6, List.length_set]; omega)) (.tmp rfl)) ?_
 have hz := hsp.trans (k_fail (by assumption))
 exact ⟨_, Bu, by rw [hz]; rfl, fun t h_ => by rw [hz] at h_; (cases h_), A9.ext⟩
end Go.Proofs.Ytohgladndklciaa

namespace Go.Proofs.Ytohgladndklciaa
open Go.RowKit Go.Shelf Go.Eng Go.Hard
theorem bs_30_0_  : Instr.fill (fun i => some (i * 2, 2)) ((Array.range (0 * 2)).map ((Value.agg #[(iv 0), (iv 0)]).cells[· % (Value.agg #[(iv 0), (iv 0)]).cells.size]!)) [] = some (([] : List Value).toArray) := by kernel_rfl
theorem el_30 : elK Try.prog 30 = some ((Value.agg #[(iv 0), (iv 0)]), 2, 16) := by kernel_rfl
theorem bs_3_0_  : Instr.fill (fun i => some (i * 1, 1)) ((Array.range (0 * 1)).map ((iv 0).cells[· % (iv 0).cells.size]!)) [] = some (([] : List Value).toArray) := by kernel_rfl
theorem bs_98_0_  : Instr.fill (fun i => some (i * 2, 2)) ((Array.range (0 * 2)).map ((Value.agg #[(iv 0), (iv 0)]).cells[· % (Value.agg #[(iv 0), (iv 0)]).cells.size]!)) [] = some (([] : List Value).toArray) := by kernel_rfl
theorem el_98 : elK Try.prog 98 = some ((Value.agg #[(iv 0), (iv 0)]), 2, 16) := by kernel_rfl
theorem clone_rng (xs : List (Int × Int)) (v : Value) (w : World) (hv : SlAt w v 2 xs.length (pairs xs)) (hlen : xs.length ≤ 1000000) :
  Calls Try.prog 58 #[v] w (Ret fun v w' => Ext NoB w w' ∧ w'.ownsRow w.heap.size 30 2 v xs.length (pairs xs)) := by
 refine a_7 Try.func58 rfl fun P F => ?_
 replace F : Fr 8 [] [(0, v)] P := F
 have G : Sep NoB w w [(sl v 2 xs.length (pairs xs))] := f_0 ⟨rfl, hv, trivial⟩
 refine m2 (s1 F (a_0 rfl (evc _ _)) fun V I => ?_); clear F P
 refine n2 (m2 (s1 I (a_1 rfl I.e) fun W K => ?_)); clear I V
 refine s2 K (op_eqlNil x_9 rfl K.e (evc _ _) (G.sk 0 rfl) (by decide)) ?_
 rintro T _ _ ⟨bn7, rfl, rfl, U⟩ A; clear K W
 refine n1 ?_
 rcases Bool.eq_false_or_eq_true (bn7) with O | O
 ·skip
  rw [O] at A
  refine d_6 A rfl (m2 (s1 A (a_0 rfl (evc _ _)) fun X H => ?_)); clear A T
  refine n1 (c_6 (b_1 (b_0 H (.inl rfl) (a_2 H rfl (.tmp rfl)) ?_)))
  exact ⟨G.ext, by have hz := (U (by assumption)); rw [hz.1, hz.2]; exact ⟨by simp, .inl ⟨rfl, rfl⟩⟩⟩
 skip
 rw [O] at A
 refine b_8 A rfl (e_1 (b_3 (m2 (s2 A (d_7 G rfl pv0 x_9 f_1 t_7 (by decide) (cs := []) bs_30_0_) ?_))))
 rintro Q _ b ⟨Z, rfl, L⟩ C; clear A G T
 refine s1 C (a_1 rfl C.e) fun R B => ?_; clear C Q
 have E := L.l_2 (i := 0) (sz := 2) (n := 0) rfl rfl (by decide); clear L
 refine s2 B (q_2 E rfl x_9 el_30 B.e B.e (i := 0) rfl (E.sk 1 rfl) (j_4 _) (by simp [maxLen]; omega) (by omega)) ?_
 intro S a c M D
 have N := M.i_9 (i := 0) rfl (n' := xs.length) (xs' := (pairs xs)) (by simp) (by simp); clear M B E R
 refine s1 D (a_0 rfl D.e) fun Y J => ?_; clear D S
 exact n1 (c_6 (b_0 J (.inl rfl) (a_2 J rfl (.tmp rfl)) (⟨N.ext, N.row_new (i := 0) rfl⟩)))
theorem clone_int (xs : List Int) (v : Value) (w : World) (hv : SlAt w v 1 xs.length (ints xs)) (hlen : xs.length ≤ 1000000) :
  Calls Try.prog 74 #[v] w (Ret fun v w' => Ext NoB w w' ∧ w'.ownsRow w.heap.size 3 1 v xs.length (ints xs)) := by
 refine a_7 Try.func74 rfl fun P F => ?_
 replace F : Fr 8 [] [(0, v)] P := F
 have G : Sep NoB w w [(sl v 1 xs.length (ints xs))] := f_0 ⟨rfl, hv, trivial⟩
 refine m2 (s1 F (a_0 rfl (evc _ _)) fun V I => ?_); clear F P
 refine n2 (m2 (s1 I (a_1 rfl I.e) fun W K => ?_)); clear I V
 refine s2 K (op_eqlNil j_6 rfl K.e (evc _ _) (G.sk 0 rfl) (by decide)) ?_
 rintro T _ _ ⟨bn7, rfl, rfl, U⟩ A; clear K W
 refine n1 ?_
 rcases Bool.eq_false_or_eq_true (bn7) with O | O
 ·skip
  rw [O] at A
  refine d_6 A rfl (m2 (s1 A (a_0 rfl (evc _ _)) fun X H => ?_)); clear A T
  refine n1 (c_6 (b_1 (b_0 H (.inl rfl) (a_2 H rfl (.tmp rfl)) ?_)))
  exact ⟨G.ext, by have hz := (U (by assumption)); rw [hz.1, hz.2]; exact ⟨by simp, .inl ⟨rfl, rfl⟩⟩⟩
 skip
 rw [O] at A
 refine b_8 A rfl (e_1 (b_3 (m2 (s2 A (d_7 G rfl pv0 j_6 ty_3 ze_3 (by decide) (cs := []) bs_3_0_) ?_))))
 rintro Q _ b ⟨Z, rfl, L⟩ C; clear A G T
 refine s1 C (a_1 rfl C.e) fun R B => ?_; clear C Q
 have E := L.l_2 (i := 0) (sz := 1) (n := 0) rfl rfl (by decide); clear L
 refine s2 B (q_2 E rfl j_6 el_3 B.e B.e (i := 0) rfl (E.sk 1 rfl) (ints_one _) (by simp [maxLen]; omega) (by omega)) ?_
 intro S a c M D
 have N := M.i_9 (i := 0) rfl (n' := xs.length) (xs' := (ints xs)) (by simp) (by simp); clear M B E R
 refine s1 D (a_0 rfl D.e) fun Y J => ?_; clear D S
 exact n1 (c_6 (b_0 J (.inl rfl) (a_2 J rfl (.tmp rfl)) (⟨N.ext, N.row_new (i := 0) rfl⟩)))
theorem clone_read (xs : List (Int × Int)) (v : Value) (w : World) (hv : SlAt w v 2 xs.length (pairs xs)) (hlen : xs.length ≤ 1000000) :
  Calls Try.prog 75 #[v] w (Ret fun v w' => Ext NoB w w' ∧ w'.ownsRow w.heap.size 98 2 v xs.length (pairs xs)) := by
 refine a_7 Try.func75 rfl fun P F => ?_
 replace F : Fr 8 [] [(0, v)] P := F
 have G : Sep NoB w w [(sl v 2 xs.length (pairs xs))] := f_0 ⟨rfl, hv, trivial⟩
 refine m2 (s1 F (a_0 rfl (evc _ _)) fun V I => ?_); clear F P
 refine n2 (m2 (s1 I (a_1 rfl I.e) fun W K => ?_)); clear I V
 refine s2 K (op_eqlNil l_3 rfl K.e (evc _ _) (G.sk 0 rfl) (by decide)) ?_
 rintro T _ _ ⟨bn7, rfl, rfl, U⟩ A; clear K W
 refine n1 ?_
 rcases Bool.eq_false_or_eq_true (bn7) with O | O
 ·skip
  rw [O] at A
  refine d_6 A rfl (m2 (s1 A (a_0 rfl (evc _ _)) fun X H => ?_)); clear A T
  refine n1 (c_6 (b_1 (b_0 H (.inl rfl) (a_2 H rfl (.tmp rfl)) ?_)))
  exact ⟨G.ext, by have hz := (U (by assumption)); rw [hz.1, hz.2]; exact ⟨by simp, .inl ⟨rfl, rfl⟩⟩⟩
 skip
 rw [O] at A
 refine b_8 A rfl (e_1 (b_3 (m2 (s2 A (d_7 G rfl pv0 l_3 o_7 y_0 (by decide) (cs := []) bs_98_0_) ?_))))
 rintro Q _ b ⟨Z, rfl, L⟩ C; clear A G T
 refine s1 C (a_1 rfl C.e) fun R B => ?_; clear C Q
 have E := L.l_2 (i := 0) (sz := 2) (n := 0) rfl rfl (by decide); clear L
 refine s2 B (q_2 E rfl l_3 el_98 B.e B.e (i := 0) rfl (E.sk 1 rfl) (j_4 _) (by simp [maxLen]; omega) (by omega)) ?_
 intro S a c M D
 have N := M.i_9 (i := 0) rfl (n' := xs.length) (xs' := (pairs xs)) (by simp) (by simp); clear M B E R
 refine s1 D (a_0 rfl D.e) fun Y J => ?_; clear D S
 exact n1 (c_6 (b_0 J (.inl rfl) (a_2 J rfl (.tmp rfl)) (⟨N.ext, N.row_new (i := 0) rfl⟩)))
end Go.Proofs.Ytohgladndklciaa

namespace Go.Proofs.Ytohgladndklciaa
open Go.RowKit Go.Shelf Go.Eng Go.Hard
theorem en_56 : ∀ args w, (callFunc 56 args).run Try.prog w = .ok (.enter 56 args) w := enters_of Try.func56 (by kernel_rfl) rfl
theorem en_57 : ∀ args w, (callFunc 57 args).run Try.prog w = .ok (.enter 57 args) w := enters_of Try.func57 (by kernel_rfl) rfl
theorem en_58 : ∀ args w, (callFunc 58 args).run Try.prog w = .ok (.enter 58 args) w := enters_of Try.func58 (by kernel_rfl) rfl
def spE (b : f_7) (l : List (Int × Int)) : Int := if k_9 b l ≠ 0 then k_9 b l else if l_6 b l = none then 9 else 0
theorem spE_r {b : f_7} {l : List (Int × Int)} (h : k_9 b l ≠ 0) : spE b l = k_9 b l := if_pos h
theorem spE_9 {b : f_7} {l : List (Int × Int)} (h : k_9 b l = 0) (A : l_6 b l = none) : spE b l = 9 := by unfold spE; rw [if_neg (not_not_intro h), if_pos A]
theorem Spans_bad (b : f_7) (vt vm : Value) (lr lb lk : Nat → Value) (w : World) (hT : k_1 w vt lr lb b.tabs) (hM : m_3 w vm lk b.macs) (hth : l_4 b) (l : List (Int × Int)) (xl : Value) (hxl : SlAt w xl 2 l.length (pairs l)) (hlb : l.length ≤ 1000000) (hr : k_9 b l ≠ 0) :
  Calls Try.prog 25 #[(Value.agg #[(iv b.scales), vt, vm]), xl] w (Ret fun v w' => v = .tuple #[.slice none 0 0, .int .i64 (spE b l)] ∧ Ext NoB w w') := by
 refine a_7 Try.func25 rfl fun X D => ?_
 replace D : Fr 31 [] [(0, (Value.agg #[(iv b.scales), vt, vm])), (1, xl)] X := D
 have U : Sep NoB w w [(c_0 false vt lr lb b.tabs), (c_3 false vm lk b.macs), (sl xl 2 l.length (pairs l))] := f_0 ⟨rfl, hT, rfl, hM, rfl, hxl, trivial⟩
 refine m2 (s2 D (f_3 U rfl D.e (cs := [(iv b.scales), vt, vm]) rfl) ?_)
 rintro n _ t ⟨q, rfl, B⟩ S; clear D U X
 refine s1 S (a_0 rfl (evc _ _)) fun o T => ?_; clear S n
 refine s1 T (a_0 rfl (evc _ _)) fun p Q => ?_; clear T o
 refine n4 (s1 Q (b_9 rfl n_6 (Q.ev rfl) (B.bk 0 rfl) (l := [(iv b.scales), vt, vm]) rfl rfl) fun Y E => ?_); clear Q p
 refine s1 E (a_1 rfl E.e) fun Z C => ?_; clear E Y
 refine s2 C (a_8 rfl en_56 (ev2 C.e C.e) (read_bad b vt vm lr lb lk _ (c_5 (B.ok 1 _ rfl)) (d_1 (B.ok 2 _ rfl)) hth l _ (B.sk 3 rfl) (by omega) hr)) ?_
 rintro a _ s ⟨rfl, R⟩ F; have V := B.step R; clear R C B Z
 refine s1 F (a_1 rfl F.e) fun c G => ?_; clear F a
 refine s1 G (b_2 rfl G.e rfl) fun d H => ?_; clear G c
 refine s1 H (b_2 rfl H.e rfl) fun f I => ?_; clear H d
 refine s1 I (a_0 rfl I.e) fun g J => ?_; clear I f
 refine s1 J (a_0 rfl J.e) fun h N => ?_; clear J g
 refine n2 (d_3 ?_)
 have K := N.as [(7, (iv (k_9 b l))), (6, (Value.pointer none)), (2, (bptr q 0)), (1, xl)] rfl; clear N
 refine a_5 (s1 K (a_1 rfl K.e) fun i L => ?_); clear K h
 refine s1 L (o_5 rfl L.e (evc _ _)) fun j A => ?_; clear L i
 have W : ¬ ((k_9 b l) = 0) := hr
 rw [decide_eq_false W] at A
 refine n1 (d_6 A rfl (m2 (s1 A (a_1 rfl A.e) fun k O => ?_))); clear A j
 refine s1 O (a_0 rfl (evc _ _)) fun m M => ?_; clear O k
 refine s1 M (a_0 rfl M.e) fun r P => ?_; clear M m
 exact n1 (c_6 (b_1 (b_0 P (.inl rfl) (c_4 P rfl (.tmp rfl) (.tmp rfl)) (⟨by rw [spE_r hr], V.ext⟩))))
theorem Spans_none (b : f_7) (vt vm : Value) (lr lb lk : Nat → Value) (w : World) (hT : k_1 w vt lr lb b.tabs) (hM : m_3 w vm lk b.macs) (hth : l_4 b) (l : List (Int × Int)) (xl : Value) (hxl : SlAt w xl 2 l.length (pairs l)) (hlb : l.length ≤ 1000000) (hr : k_9 b l = 0) (hs : l_6 b l = none) :
  Calls Try.prog 25 #[(Value.agg #[(iv b.scales), vt, vm]), xl] w (Ret fun v w' => v = .tuple #[.slice none 0 0, .int .i64 (spE b l)] ∧ Ext NoB w w') := by
 refine a_7 Try.func25 rfl fun s G => ?_
 replace G : Fr 31 [] [(0, (Value.agg #[(iv b.scales), vt, vm])), (1, xl)] s := G
 have hc : e_9 b = 0 := read_check hr; have hbl := read_ok hr; have hb := hbl.1; have hl := hbl.2; have hll := hl.len; have hsc := hb.scales
 have p : Sep NoB w w [(c_0 false vt lr lb b.tabs), (c_3 false vm lk b.macs), (sl xl 2 l.length (pairs l))] := f_0 ⟨rfl, hT, rfl, hM, rfl, hxl, trivial⟩
 refine m2 (s2 G (f_3 p rfl G.e (cs := [(iv b.scales), vt, vm]) rfl) ?_)
 rintro a1 _ w3 ⟨b4, rfl, B⟩ n; clear G p s
 refine s1 n (a_0 rfl (evc _ _)) fun a6 o => ?_; clear n a1
 refine s1 o (a_0 rfl (evc _ _)) fun a8 f => ?_; clear o a6
 refine n4 (s1 f (b_9 rfl n_6 (f.ev rfl) (B.bk 0 rfl) (l := [(iv b.scales), vt, vm]) rfl rfl) fun t H => ?_); clear f a8
 refine s1 H (a_1 rfl H.e) fun u C => ?_; clear H t
 refine s2 C (a_8 rfl en_56 (ev2 C.e C.e) (read_yes b vt vm lr lb lk _ (c_5 (B.ok 1 _ rfl)) (d_1 (B.ok 2 _ rfl)) hth l _ (B.sk 3 rfl) (by omega) hc hr)) ?_
 rintro x _ AX ⟨bx19, bm20, es21, ck22, rfl, hMO23, m⟩ I; have A := B.n_2 m rfl; clear m C B u
 refine s1 I (a_1 rfl I.e) fun y J => ?_; clear I x
 refine s1 J (b_2 rfl J.e rfl) fun z K => ?_; clear J y
 refine s1 K (b_2 rfl K.e rfl) fun AA L => ?_; clear K z
 refine s1 L (a_0 rfl L.e) fun AB M => ?_; clear L AA
 refine s1 M (a_0 rfl M.e) fun AC Z => ?_; clear M AB
 refine n2 (d_3 ?_)
 have N := Z.as [(7, (iv 0)), (6, (bptr bx19 0)), (2, (bptr b4 0)), (1, xl)] rfl; clear Z
 refine a_5 (s1 N (a_1 rfl N.e) fun AD O => ?_); clear N AC
 refine s1 O (o_5 rfl O.e (evc _ _)) fun AE D => ?_; clear O AD
 refine n1 (b_8 D rfl (e_1 (b_3 (m2 (s1 D (a_1 rfl D.e) fun AF P => ?_))))); clear D AE
 refine s1 P (a_1 rfl P.e) fun AG E => ?_; clear P AF
 refine s2 E (a_8 rfl en_57 (ev2 E.e E.e) (spansb_ok b vt vm lr lb lk _ (c_5 (A.ok 3 _ rfl)) (d_1 (A.ok 4 _ rfl)) hth bx19 bm20 _ _ (by assumption) (A.bk 0 rfl) (mapX_ro (A.ok 1 _ rfl)) hb l _ (A.sk 5 rfl) hl)) ?_
 rintro AH _ AY ⟨Y, AV, rfl, htk48, g⟩ Q; have h := A.step g; clear g E A AG
 refine s1 Q (a_1 rfl Q.e) fun AI R => ?_; clear Q AH
 refine s1 R (b_2 rfl R.e rfl) fun AJ S => ?_; clear R AI
 refine s1 S (b_2 rfl S.e rfl) fun AK T => ?_; clear S AJ
 have r : ((l_6 b l).isSome) = false := (by rw [hs]; rfl)
 rw [r] at T
 refine s2 T (d_2 h rfl ze_120 (cs := [(iv 0), (iv 0), (iv 0), (iv 0), (iv 0), (iv 0), (iv 0), (iv 0)]) rfl) ?_
 rintro AL _ AZ ⟨AR, rfl, j⟩ F; clear T h AK
 refine s7 F (b_4 j rfl j_9 F.e F.e (i := 0) rfl (vs := (pairs Y)) rfl (show (pairs Y).length = 8 from by simp only [a_6, List.length_set]; omega) (j_4 _) (by decide)) ?_
 intro _ Aa k U; have q := k.n_1 (i := 0) rfl (cs' := (pairs Y)) (i_3 _ _ (Eq.symm (show (pairs Y).length = 8 from by simp only [a_6, List.length_set]; omega))); clear k F j
 refine s1 U (a_0 rfl U.e) fun AM a => ?_; clear U AL
 refine n2 (d_3 ?_)
 have V := a.as [(9, (Value.bool false)), (8, (bptr AR 0)), (2, (bptr b4 0))] rfl; clear a
 refine a_5 (s1 V (a_1 rfl V.e) fun AN W => ?_); clear V AM
 refine s1 W (g_0 rfl W.e) fun AO X => ?_; clear W AN
 refine n1 (d_6 X rfl (m2 (s1 X (a_0 rfl (evc _ _)) fun AP c => ?_))); clear X AO
 refine s1 c (a_0 rfl (evc _ _)) fun AW d => ?_; clear c AP
 exact n1 (c_6 (b_1 (b_0 d (.inl rfl) (c_4 d rfl (.tmp rfl) (.tmp rfl)) (⟨by rw [spE_9 hr hs], q.ext⟩))))
theorem Spans_ok (b : f_7) (vt vm : Value) (lr lb lk : Nat → Value) (w : World) (hT : k_1 w vt lr lb b.tabs) (hM : m_3 w vm lk b.macs) (hth : l_4 b) (l : List (Int × Int)) (xl : Value) (hxl : SlAt w xl 2 l.length (pairs l)) (hlb : l.length ≤ 1000000) (t : g_5) (hr : k_9 b l = 0) (hs : l_6 b l = some t) :
  Calls Try.prog 25 #[(Value.agg #[(iv b.scales), vt, vm]), xl] w (Ret fun v w' => ∃ u, v = .tuple #[u, .int .i64 0] ∧ Sep NoB w w' [row u 30 2 t.length (pairs t)]) := by
 refine a_7 Try.func25 rfl fun a0 J => ?_
 replace J : Fr 31 [] [(0, (Value.agg #[(iv b.scales), vt, vm])), (1, xl)] a0 := J
 have hc : e_9 b = 0 := read_check hr; have hbl := read_ok hr; have hb := hbl.1; have hl := hbl.2; have hll := hl.len; have hsc := hb.scales
 have AA : Sep NoB w w [(c_0 false vt lr lb b.tabs), (c_3 false vm lk b.macs), (sl xl 2 l.length (pairs l))] := f_0 ⟨rfl, hT, rfl, hM, rfl, hxl, trivial⟩
 refine m2 (s2 J (f_3 AA rfl J.e (cs := [(iv b.scales), vt, vm]) rfl) ?_)
 rintro a1 _ w3 ⟨b4, rfl, B⟩ y; clear J AA a0
 refine s1 y (a_0 rfl (evc _ _)) fun a6 z => ?_; clear y a1
 refine s1 z (a_0 rfl (evc _ _)) fun a8 m => ?_; clear z a6
 refine n4 (s1 m (b_9 rfl n_6 (m.ev rfl) (B.bk 0 rfl) (l := [(iv b.scales), vt, vm]) rfl rfl) fun AE L => ?_); clear m a8
 refine s1 L (a_1 rfl L.e) fun AF C => ?_; clear L AE
 refine s2 C (a_8 rfl en_56 (ev2 C.e C.e) (read_yes b vt vm lr lb lk _ (c_5 (B.ok 1 _ rfl)) (d_1 (B.ok 2 _ rfl)) hth l _ (B.sk 3 rfl) (by omega) hc hr)) ?_
 rintro AG _ Al ⟨bx19, bm20, es21, ck22, rfl, hMO23, x⟩ M; have A := B.n_2 x rfl; clear x C B AF
 refine s1 M (a_1 rfl M.e) fun AH N => ?_; clear M AG
 refine s1 N (b_2 rfl N.e rfl) fun AI O => ?_; clear N AH
 refine s1 O (b_2 rfl O.e rfl) fun AJ P => ?_; clear O AI
 refine s1 P (a_0 rfl P.e) fun AK Q => ?_; clear P AJ
 refine s1 Q (a_0 rfl Q.e) fun AL g => ?_; clear Q AK
 refine n2 (d_3 ?_)
 have R := g.as [(7, (iv 0)), (6, (bptr bx19 0)), (2, (bptr b4 0)), (1, xl)] rfl; clear g
 refine a_5 (s1 R (a_1 rfl R.e) fun AM S => ?_); clear R AL
 refine s1 S (o_5 rfl S.e (evc _ _)) fun AN D => ?_; clear S AM
 refine n1 (b_8 D rfl (e_1 (b_3 (m2 (s1 D (a_1 rfl D.e) fun AO T => ?_))))); clear D AN
 refine s1 T (a_1 rfl T.e) fun AP E => ?_; clear T AO
 refine s2 E (a_8 rfl en_57 (ev2 E.e E.e) (spansb_ok b vt vm lr lb lk _ (c_5 (A.ok 3 _ rfl)) (d_1 (A.ok 4 _ rfl)) hth bx19 bm20 _ _ (by assumption) (A.bk 0 rfl) (mapX_ro (A.ok 1 _ rfl)) hb l _ (A.sk 5 rfl) hl)) ?_
 rintro AQ _ Am ⟨K, Ai, rfl, htk48, o⟩ U; have q := A.step o; clear o E A AP
 refine s1 U (a_1 rfl U.e) fun AR V => ?_; clear U AQ
 refine s1 V (b_2 rfl V.e rfl) fun AS W => ?_; clear V AR
 refine s1 W (b_2 rfl W.e rfl) fun AT X => ?_; clear W AS
 have AC : ((l_6 b l).isSome) = true := (by rw [hs]; rfl)
 rw [AC] at X
 refine s2 X (d_2 q rfl ze_120 (cs := [(iv 0), (iv 0), (iv 0), (iv 0), (iv 0), (iv 0), (iv 0), (iv 0)]) rfl) ?_
 rintro AU _ An ⟨Ae, rfl, r⟩ F; clear X q AT
 refine s7 F (b_4 r rfl j_9 F.e F.e (i := 0) rfl (vs := (pairs K)) rfl (show (pairs K).length = 8 from by simp only [a_6, List.length_set]; omega) (j_4 _) (by decide)) ?_
 intro _ Ao s Y; have I := s.n_1 (i := 0) rfl (cs' := (pairs K)) (i_3 _ _ (Eq.symm (show (pairs K).length = 8 from by simp only [a_6, List.length_set]; omega))); clear s F r
 refine s1 Y (a_0 rfl Y.e) fun AV j => ?_; clear Y AU
 refine n2 (d_3 ?_)
 have Z := j.as [(9, (Value.bool true)), (8, (bptr Ae 0)), (2, (bptr b4 0))] rfl; clear j
 refine a_5 (s1 Z (a_1 rfl Z.e) fun AW a => ?_); clear Z AV
 refine s1 a (g_0 rfl a.e) fun AX G => ?_; clear a AW
 refine n1 (b_8 G rfl (e_1 (b_3 (m2 (s1 G (a_4 rfl x_0 G.e) fun AY c => ?_))))); clear G AX
 refine s1 c (a_3 rfl ty_3 c.e (I.bk 3 rfl) rfl) fun AZ H => ?_; clear c AY
 refine s1 H (op_sliceArr rfl w_7 f_1 H.e (h := b.scales.toNat) (H.e.trans (m_7 (by omega))) (by omega)) fun Aa d => ?_; clear H AZ
 refine s2 d (a_8 rfl en_58 (ev1 d.e) (clone_rng (K.take b.scales.toNat) _ _ ((SlAt.of_blkCut (I.bk 0 rfl) (by rw [a_6]; omega) (by omega) (by decide)).say (by rw [List.length_take]; omega) (pairs_takeH _ _)) (by rw [List.length_take]; omega))) ?_
 rintro Ab Ak Ap ⟨p, hO84⟩ f; have AB := I.new_row p hO84; clear p hO84 d I Aa
 refine s1 f (a_0 rfl f.e) fun Ac k => ?_; clear f Ab
 refine s1 k (a_0 rfl (evc _ _)) fun Aj n => ?_; clear k Ac
 refine n1 (c_6 (b_0 n (.inl rfl) (c_4 n rfl (.tmp rfl) (.tmp rfl)) ?_))
 have hz := AB.keep [0] (by decide) [_] rfl rfl
 rw [htk48 _ hs] at hz
 exact ⟨_, rfl, hz⟩
end Go.Proofs.Ytohgladndklciaa

namespace Go.Hard
open Go.RowKit Go.Eng
section
variable {X : Nat → Prop} {w0 w : World} {L : List Res}
theorem p_2 (h : Sep X w0 w L) (v : Nat → Value) (sz : Nat) (k : Nat → Nat) (c : Nat → List Value) : Sep X w0 w (slsR true 0 v sz k c :: L) :=
  h.push (Ext.refl _ _) (fun i hi => absurd hi (Nat.not_lt_zero _)) (fun b hb => by obtain ⟨i, hi, _⟩ := hb; exact absurd hi (Nat.not_lt_zero _))
theorem h_5 {u : Value} {e sz m n : Nat} {xs : List Value} {v : Nat → Value} {k k' : Nat → Nat} {c c' : Nat → List Value} (h : Sep X w0 w (row u e sz m xs :: slsR true n v sz k c :: L)) (hk : k' n = m) (hc : c' n = xs) (hold : ∀ i, i < n → k' i = k i ∧ c' i = c i) :
    Sep X w0 w (slsR true (n + 1) (putV n v u) sz k' c' :: L) := by
  have h0 := h.f_2 0 rfl
  have h1 := h.ok 1 _ rfl
  refine h.join (t := slsR true (n + 1) (putV n v u) sz k' c') (fun i hi => ?_) (fun b hb => ?_) (fun _ => ⟨rfl, rfl⟩) (fun _ => trivial)
  · rcases Nat.lt_succ_iff_lt_or_eq.1 hi with hi | rfl
    · rw [putV_old _ _ hi, (hold i hi).1, (hold i hi).2]; exact h1 i hi
    · rw [putV_new, hk, hc]; exact SlAt.e_4 h0
  · obtain ⟨i, hi, hb⟩ := hb
    rcases Nat.lt_succ_iff_lt_or_eq.1 hi with hi | rfl
    · rw [putV_old _ _ hi, (hold i hi).2] at hb; exact .inr ⟨i, hi, hb⟩
    · rw [putV_new, hc] at hb; exact .inl (s_2 hb)
theorem sep_tabs_join {vt : Value} {lr lb : Nat → Value} {ts : List TabD} (h : Sep X w0 w (row vt 106 5 ts.length (u_5 lr lb ts) :: slsR true ts.length lr 2 (q_9 ts) (q_8 ts) :: slsR true ts.length lb 1 (brkN ts) (brkC ts) :: L)) : Sep X w0 w (c_0 true vt lr lb ts :: L) := by
  have h0 := h.f_2 0 rfl
  have hp := h.pw
  have ap := List.pairwise_cons.1 hp
  -- the row and both together
  refine Sep.of_pw h.ext (fun r hr => ?_) (fun r hr ho b hb => ?_) (List.pairwise_cons.2 ⟨fun r hr => ?_, (List.pairwise_cons.1 (List.pairwise_cons.1 ap.2).2).2⟩)
  · rcases List.mem_cons.1 hr with rfl | hr
    · exact ⟨SlAt.e_4 h0, h.ok 1 _ rfl, h.ok 2 _ rfl⟩
    · exact h.mem (List.mem_cons_of_mem _ (List.mem_cons_of_mem _ (List.mem_cons_of_mem _ hr)))
  · rcases List.mem_cons.1 hr with rfl | hr
    · rcases hb with hb | hb | hb
      · exact h.mine 0 _ rfl rfl b (s_2 hb)
      · exact h.mine 1 _ rfl rfl b hb
      · exact h.mine 2 _ rfl rfl b hb
    · exact h.mineM (List.mem_cons_of_mem _ (List.mem_cons_of_mem _ (List.mem_cons_of_mem _ hr))) ho b hb
  · have a0 := ap.1 r (List.mem_cons_of_mem _ (List.mem_cons_of_mem _ hr))
    have a1 := (List.pairwise_cons.1 ap.2).1 r (List.mem_cons_of_mem _ hr)
    have a2 := (List.pairwise_cons.1 (List.pairwise_cons.1 ap.2).2).1 r hr
    refine ⟨fun _ b hb => ?_, fun ho b hb hb' => ?_⟩
    · rcases hb with hb | hb | hb
      · exact a0.1 rfl b (s_2 hb)
      · exact a1.1 rfl b hb
      · exact a2.1 rfl b hb
    · rcases hb' with hb' | hb' | hb'
      · exact a0.2 ho b hb (s_2 hb')
      · exact a1.2 ho b hb hb'
      · exact a2.2 ho b hb hb'
theorem sep_macs_join {vm : Value} {lk : Nat → Value} {ms : List MacD} (h : Sep X w0 w (row vm 103 2 ms.length (x_7 lk ms) :: slsR true ms.length lk 3 (blkN ms) (blkC ms) :: L)) : Sep X w0 w (c_3 true vm lk ms :: L) := by
  have h0 := h.f_2 0 rfl
  refine h.join (t := c_3 true vm lk ms) ⟨SlAt.e_4 h0, h.ok 1 _ rfl⟩ (fun b hb => ?_) (fun _ => ⟨rfl, rfl⟩) (fun _ => trivial)
  rcases hb with hb | hb
  · exact .inl (s_2 hb)
  · exact .inr hb
theorem sep_row_sl {i : Nat} {v : Value} {e sz n : Nat} {xs : List Value} (h : Sep X w0 w L) (hi : L[i]? = some (row v e sz n xs)) : Sep X w0 w (L.set i (sl v sz n xs)) :=
  h.say hi (SlAt.e_4 (h.f_2 i hi)) (fun _ hb => s_2 hb) (fun e => by cases e)
end
section
variable {ts : List TabD} {ms : List MacD} {k : Nat}
end
end Go.Hard

namespace Go.Proofs.Ytohgladndklciaa
open Go.RowKit Go.Shelf Go.Eng Go.Hard
theorem i_6 (x0_0 : Int) (x1_0 : Int) (w : World) : (Instr.build 98 #[(0, (.int .i64 x0_0)), (1, (.int .i64 x1_0))]).run Try.prog w = .ok (.agg #[(.int .i64 x0_0), (.int .i64 x1_0)]) w := by kernel_rfl
theorem j_2 (x0_0 : Int) (x0_1 : Int) : Instr.fill (fun i => some (i * 2, 2)) ((Array.range (1 * 2)).map ((Value.agg #[(iv 0), (iv 0)]).cells[· % (Value.agg #[(iv 0), (iv 0)]).cells.size]!)) [(0, .agg #[(.int .i64 x0_0), (.int .i64 x0_1)])] = some (([(.int .i64 x0_0), (.int .i64 x0_1)] : List Value).toArray) := by kernel_rfl
end Go.Proofs.Ytohgladndklciaa

namespace Go.Proofs.Ytohgladndklciaa
open Go.RowKit Go.Shelf Go.Eng Go.Hard
theorem ze_37 : (Try.prog.info? 37).bind (·.zero) = some (Value.agg #[(iv 0), (Value.slice none 0 0), (Value.slice none 0 0)]) := by kernel_rfl
theorem bd_37_0i (x0_0 : Int) (w : World) : (Instr.build 37 #[(0, (.int .i64 x0_0))]).run Try.prog w = .ok (.agg #[(.int .i64 x0_0), (Value.slice none 0 0), (Value.slice none 0 0)]) w := by kernel_rfl
theorem h_4 (x0_0 : Int) (x1_0 : Int) (w : World) : (Instr.build 107 #[(0, (.int .i64 x0_0)), (1, (.int .i64 x1_0))]).run Try.prog w = .ok (.agg #[(.int .i64 x0_0), (.int .i64 x1_0)]) w := by kernel_rfl
theorem l_7 (x0_0 : Int) (x0_1 : Int) (x1_0 : Int) (w : World) : (Instr.build 100 #[(0, .agg #[(.int .i64 x0_0), (.int .i64 x0_1)]), (1, (.int .i64 x1_0))]).run Try.prog w = .ok (.agg #[(.int .i64 x0_0), (.int .i64 x0_1), (.int .i64 x1_0)]) w := by kernel_rfl
theorem bs_100_1_0iiia (x0_0 : Int) (x0_1 : Int) (x0_2 : Int) : Instr.fill (fun i => some (i * 3, 3)) ((Array.range (1 * 3)).map ((Value.agg #[(iv 0), (iv 0), (iv 0)]).cells[· % (Value.agg #[(iv 0), (iv 0), (iv 0)]).cells.size]!)) [(0, .agg #[(.int .i64 x0_0), (.int .i64 x0_1), (.int .i64 x0_2)])] = some (([(.int .i64 x0_0), (.int .i64 x0_1), (.int .i64 x0_2)] : List Value).toArray) := by kernel_rfl
end Go.Proofs.Ytohgladndklciaa

namespace Go.Hard
def a_9 : f_7 := ⟨3, [⟨0, 1, [(100, 200), (200, 300), (300, 500), (400, 600)], [2], 2⟩, ⟨1, 2, [(250, 90), (350, 50)], [], 0⟩], [⟨0, [(150, 154, 160), (240, 246, 249)]⟩, ⟨1, [(300, 300, 299)]⟩]⟩
open Go.RowKit Go.Eng in
theorem kept_tabsC (a b c d : Value) : u_5 (putV 1 (putV 0 (fun _ => Value.slice none 0 0) a) c) (putV 1 (putV 0 (fun _ => Value.slice none 0 0) b) d) a_9.tabs = [.int .i64 0, .int .i64 1, a, b, .int .i64 2, .int .i64 1, .int .i64 2, c, d, .int .i64 0] := rfl
open Go.RowKit Go.Eng in
theorem kept_macsC (a b : Value) : x_7 (putV 1 (putV 0 (fun _ => Value.slice none 0 0) a) b) a_9.macs = [.int .i64 0, a, .int .i64 1, b] := rfl
theorem i_4 : l_4 a_9 := (thin_iff (n := 0)).1 (by decide) |>.1
theorem kept_read : k_9 a_9 [(0, 170)] = 0 := by decide
theorem kept_spans : l_6 a_9 [(0, 170)] = some [(161, 164), (259, 266), (83, 87)] := by
  unfold l_6
  rw [if_pos (by decide)]
  show q_3 3 _ (400000 + 1) _ = _
  rw [q_3, if_pos (by decide), if_neg (by decide)]
  show q_3 3 _ (399999 + 1) _ = _
  rw [q_3, if_pos (by decide), if_pos (by decide)]
  decide
end Go.Hard

namespace Go.Proofs.Ytohgladndklciaa
open Go.RowKit Go.Shelf Go.Eng Go.Hard
theorem m_0 (x0_0 : Int) (x0_1 : Int) (x1_0 : Int) (x1_1 : Int) (x2_0 : Int) (x2_1 : Int) (x3_0 : Int) (x3_1 : Int) : Instr.fill (fun i => some (i * 2, 2)) ((Array.range (4 * 2)).map ((Value.agg #[(iv 0), (iv 0)]).cells[· % (Value.agg #[(iv 0), (iv 0)]).cells.size]!)) [(0, .agg #[(.int .i64 x0_0), (.int .i64 x0_1)]), (1, .agg #[(.int .i64 x1_0), (.int .i64 x1_1)]), (2, .agg #[(.int .i64 x2_0), (.int .i64 x2_1)]), (3, .agg #[(.int .i64 x3_0), (.int .i64 x3_1)])] = some (([(.int .i64 x0_0), (.int .i64 x0_1), (.int .i64 x1_0), (.int .i64 x1_1), (.int .i64 x2_0), (.int .i64 x2_1), (.int .i64 x3_0), (.int .i64 x3_1)] : List Value).toArray) := by kernel_rfl
theorem p_9 (x0_0 : Int) (x1_0 : Int) (x2_0 : Value) (hx2_0 : IsSl x2_0) (x3_0 : Value) (hx3_0 : IsSl x3_0) (x4_0 : Int) (w : World) : (Instr.build 106 #[(0, (.int .i64 x0_0)), (1, (.int .i64 x1_0)), (2, x2_0), (3, x3_0), (4, (.int .i64 x4_0))]).run Try.prog w = .ok (.agg #[(.int .i64 x0_0), (.int .i64 x1_0), x2_0, x3_0, (.int .i64 x4_0)]) w := by obtain ⟨Ax2_0, Bx2_0, Cx2_0, rfl⟩ := hx2_0; obtain ⟨Ax3_0, Bx3_0, Cx3_0, rfl⟩ := hx3_0; kernel_rfl
theorem bs_107_2_0iia_1iia (x0_0 : Int) (x0_1 : Int) (x1_0 : Int) (x1_1 : Int) : Instr.fill (fun i => some (i * 2, 2)) ((Array.range (2 * 2)).map ((Value.agg #[(iv 0), (iv 0)]).cells[· % (Value.agg #[(iv 0), (iv 0)]).cells.size]!)) [(0, .agg #[(.int .i64 x0_0), (.int .i64 x0_1)]), (1, .agg #[(.int .i64 x1_0), (.int .i64 x1_1)])] = some (([(.int .i64 x0_0), (.int .i64 x0_1), (.int .i64 x1_0), (.int .i64 x1_1)] : List Value).toArray) := by kernel_rfl
theorem bd_106_0i_1i_2s (x0_0 : Int) (x1_0 : Int) (x2_0 : Value) (hx2_0 : IsSl x2_0) (w : World) : (Instr.build 106 #[(0, (.int .i64 x0_0)), (1, (.int .i64 x1_0)), (2, x2_0)]).run Try.prog w = .ok (.agg #[(.int .i64 x0_0), (.int .i64 x1_0), x2_0, (Value.slice none 0 0), (iv 0)]) w := by obtain ⟨Ax2_0, Bx2_0, Cx2_0, rfl⟩ := hx2_0; kernel_rfl
theorem o_2 (x0_0 : Int) (x0_1 : Int) (x0_2 : Value) (x0_3 : Value) (x0_4 : Int) (x1_0 : Int) (x1_1 : Int) (x1_2 : Value) (x1_3 : Value) (x1_4 : Int) : Instr.fill (fun i => some (i * 5, 5)) ((Array.range (2 * 5)).map ((Value.agg #[(iv 0), (iv 0), (Value.slice none 0 0), (Value.slice none 0 0), (iv 0)]).cells[· % (Value.agg #[(iv 0), (iv 0), (Value.slice none 0 0), (Value.slice none 0 0), (iv 0)]).cells.size]!)) [(0, .agg #[(.int .i64 x0_0), (.int .i64 x0_1), x0_2, x0_3, (.int .i64 x0_4)]), (1, .agg #[(.int .i64 x1_0), (.int .i64 x1_1), x1_2, x1_3, (.int .i64 x1_4)])] = some (([(.int .i64 x0_0), (.int .i64 x0_1), x0_2, x0_3, (.int .i64 x0_4), (.int .i64 x1_0), (.int .i64 x1_1), x1_2, x1_3, (.int .i64 x1_4)] : List Value).toArray) := by kernel_rfl
theorem t_6 : ∀ args w, (callFunc 31 args).run Try.prog w = .ok (.enter 31 args) w := enters_of Try.func31 (by kernel_rfl) rfl
theorem r_1 (x0_0 : Int) (x0_1 : Int) (x0_2 : Int) (x1_0 : Int) (x1_1 : Int) (x1_2 : Int) : Instr.fill (fun i => some (i * 3, 3)) ((Array.range (2 * 3)).map ((Value.agg #[(iv 0), (iv 0), (iv 0)]).cells[· % (Value.agg #[(iv 0), (iv 0), (iv 0)]).cells.size]!)) [(0, .agg #[(.int .i64 x0_0), (.int .i64 x0_1), (.int .i64 x0_2)]), (1, .agg #[(.int .i64 x1_0), (.int .i64 x1_1), (.int .i64 x1_2)])] = some (([(.int .i64 x0_0), (.int .i64 x0_1), (.int .i64 x0_2), (.int .i64 x1_0), (.int .i64 x1_1), (.int .i64 x1_2)] : List Value).toArray) := by kernel_rfl
theorem t_9 (x0_0 : Int) (x1_0 : Value) (hx1_0 : IsSl x1_0) (w : World) : (Instr.build 103 #[(0, (.int .i64 x0_0)), (1, x1_0)]).run Try.prog w = .ok (.agg #[(.int .i64 x0_0), x1_0]) w := by obtain ⟨Ax1_0, Bx1_0, Cx1_0, rfl⟩ := hx1_0; kernel_rfl
theorem bs_103_2_0iva_1iva (x0_0 : Int) (x0_1 : Value) (x1_0 : Int) (x1_1 : Value) : Instr.fill (fun i => some (i * 2, 2)) ((Array.range (2 * 2)).map ((Value.agg #[(iv 0), (Value.slice none 0 0)]).cells[· % (Value.agg #[(iv 0), (Value.slice none 0 0)]).cells.size]!)) [(0, .agg #[(.int .i64 x0_0), x0_1]), (1, .agg #[(.int .i64 x1_0), x1_1])] = some (([(.int .i64 x0_0), x0_1, (.int .i64 x1_0), x1_1] : List Value).toArray) := by kernel_rfl
theorem bd_37_0i_1s_2s (x0_0 : Int) (x1_0 : Value) (hx1_0 : IsSl x1_0) (x2_0 : Value) (hx2_0 : IsSl x2_0) (w : World) : (Instr.build 37 #[(0, (.int .i64 x0_0)), (1, x1_0), (2, x2_0)]).run Try.prog w = .ok (.agg #[(.int .i64 x0_0), x1_0, x2_0]) w := by obtain ⟨Ax1_0, Bx1_0, Cx1_0, rfl⟩ := hx1_0; obtain ⟨Ax2_0, Bx2_0, Cx2_0, rfl⟩ := hx2_0; kernel_rfl
set_option maxHeartbeats 1000000 in
theorem n_5 (w : World) :
  Calls Try.prog 46 #[] w (Ret fun v w' => ∃ vt' vm' lr' lb' lk', v = .agg #[.int .i64 a_9.scales, vt', vm'] ∧ Sep NoB w w' [c_0 true vt' lr' lb' a_9.tabs, c_3 true vm' lk' a_9.macs]) := by
 refine a_7 Try.func46 rfl fun a0 X => ?_
 replace X : Fr 25 [] [] a0 := X
 have AE : Sep NoB w w [] := Sep.start _ _
 refine m2 (s2 X (d_2 AE rfl ze_37 (cs := [(iv 0), (Value.slice none 0 0), (Value.slice none 0 0)]) rfl) ?_)
 rintro a1 _ w3 ⟨b4, rfl, AF⟩ AB; clear X AE a0
 refine n4 (s1 AB (c_7 rfl (pv2 (evc _ _) (evc _ _)) (h_4 _ _)) fun a6 AC => ?_); clear AB a1
 refine s1 AC (c_7 rfl (pv2 (evc _ _) (evc _ _)) (h_4 _ _)) fun a8 AD => ?_; clear AC a6
 refine s1 AD (c_7 rfl (pv2 (evc _ _) (evc _ _)) (h_4 _ _)) fun AW Y => ?_; clear AD a8
 refine s1 Y (c_7 rfl (pv2 (evc _ _) (evc _ _)) (h_4 _ _)) fun AX I => ?_; clear Y AW
 refine s2 I (d_7 AF rfl (pv4 I.e I.e I.e I.e) j_0 h_2 v_6 (by decide) (cs := [(iv 100), (iv 200), (iv 200), (iv 300), (iv 300), (iv 500), (iv 400), (iv 600)]) (m_0 _ _ _ _ _ _ _ _)) ?_
 rintro AY _ BC ⟨C, rfl, m⟩ Z; clear I AF AX
 refine s2 Z (d_7 m rfl (pv1 (evc _ _)) j_6 ty_3 ze_3 (by decide) (cs := [(iv 2)]) (s_6 _)) ?_
 rintro AZ _ BD ⟨D, rfl, o⟩ J; clear Z m AY
 refine s1 J (c_7 rfl (pv5 (evc _ _) (evc _ _) J.e J.e (evc _ _)) (p_9 _ _ _ ⟨_, _, _, rfl⟩ _ ⟨_, _, _, rfl⟩ _)) fun Aa a => ?_; clear J AZ
 refine s1 a (c_7 rfl (pv2 (evc _ _) (evc _ _)) (h_4 _ _)) fun Ab b => ?_; clear a Aa
 refine s1 b (c_7 rfl (pv2 (evc _ _) (evc _ _)) (h_4 _ _)) fun Ac K => ?_; clear b Ab
 refine s2 K (d_7 o rfl (pv2 K.e K.e) j_0 h_2 v_6 (by decide) (cs := [(iv 250), (iv 90), (iv 350), (iv 50)]) (bs_107_2_0iia_1iia _ _ _ _)) ?_
 rintro Ad _ BE ⟨E, rfl, p⟩ Q; clear K o Ac
 refine s1 Q (c_7 rfl (pv3 (evc _ _) (evc _ _) Q.e) (bd_106_0i_1i_2s _ _ _ ⟨_, _, _, rfl⟩)) fun Ae L => ?_; clear Q Ad
 refine s2 L (d_7 p rfl (pv2 L.e L.e) x_3 j_5 ze_106 (by decide) (cs := [(iv 0), (iv 1), (Value.slice (some ⟨C, 0, none⟩) 4 4), (Value.slice (some ⟨D, 0, none⟩) 1 1), (iv 2), (iv 1), (iv 2), (Value.slice (some ⟨E, 0, none⟩) 2 2), (Value.slice none 0 0), (iv 0)]) (o_2 _ _ _ _ _ _ _ _ _ _)) ?_
 rintro Af _ BF ⟨F, rfl, q⟩ c; clear L p Ae
 refine s2 c (a_8 rfl t_6 (ev2 (evc _ _) (evc _ _)) (f_8 _ _ _)) ?_
 rintro Ag _ BG ⟨rfl, h⟩ R; have r := q.step h; clear h c q Af
 refine s1 R (c_7 rfl (pv2 R.e (evc _ _)) (l_7 _ _ _)) fun Ah d => ?_; clear R Ag
 refine s2 d (a_8 rfl t_6 (ev2 (evc _ _) (evc _ _)) (f_8 _ _ _)) ?_
 rintro Ai _ BH ⟨rfl, j⟩ S; have s := r.step j; clear j d r Ah
 refine s1 S (c_7 rfl (pv2 S.e (evc _ _)) (l_7 _ _ _)) fun Aj M => ?_; clear S Ai
 refine s2 M (d_7 s rfl (pv2 M.e M.e) x_2 w_6 ze_100 (by decide) (cs := [(iv 150), (iv 154), (iv 160), (iv 240), (iv 246), (iv 249)]) (r_1 _ _ _ _ _ _)) ?_
 rintro Ak _ BI ⟨A, rfl, t⟩ T; clear M s Aj
 refine s1 T (c_7 rfl (pv2 (evc _ _) T.e) (t_9 _ _ ⟨_, _, _, rfl⟩)) fun Al f => ?_; clear T Ak
 refine s2 f (a_8 rfl t_6 (ev2 (evc _ _) (evc _ _)) (f_8 _ _ _)) ?_
 rintro Am _ BJ ⟨rfl, k⟩ U; have u := t.step k; clear k f t Al
 refine s1 U (c_7 rfl (pv2 U.e (evc _ _)) (l_7 _ _ _)) fun An V => ?_; clear U Am
 refine s2 V (d_7 u rfl (pv1 V.e) x_2 w_6 ze_100 (by decide) (cs := [(iv 300), (iv 300), (iv 299)]) (bs_100_1_0iiia _ _ _)) ?_
 rintro Ao _ BK ⟨B, rfl, x⟩ W; clear V u An
 refine s1 W (c_7 rfl (pv2 (evc _ _) W.e) (t_9 _ _ ⟨_, _, _, rfl⟩)) fun Ap N => ?_; clear W Ao
 refine s2 N (d_7 x rfl (pv2 N.e N.e) x_8 m_9 ze_103 (by decide) (cs := [(iv 0), (Value.slice (some ⟨A, 0, none⟩) 2 2), (iv 1), (Value.slice (some ⟨B, 0, none⟩) 1 1)]) (bs_103_2_0iva_1iva _ _ _ _)) ?_
 rintro Aq _ BL ⟨G, rfl, y⟩ O; clear N x Ap
 refine s1 O (c_7 rfl (pv3 (evc _ _) O.e O.e) (bd_37_0i_1s_2s _ _ ⟨_, _, _, rfl⟩ _ ⟨_, _, _, rfl⟩)) fun BB P => ?_; clear O Aq
 refine s7 P (b_4 y rfl n_6 P.e P.e (i := 7) rfl (vs := [(iv 3), (Value.slice (some ⟨F, 0, none⟩) 2 2), (Value.slice (some ⟨G, 0, none⟩) 2 2)]) rfl rfl (k_2 rfl (k_2 rfl (k_2 rfl y_2))) (Nat.le_of_ble_eq_true rfl)) ?_
 intro _ H z g; clear P
 have AA : Sep NoB w H [(blk G 103 [(iv 0), (Value.slice (some ⟨A, 0, none⟩) 2 2), (iv 1), (Value.slice (some ⟨B, 0, none⟩) 1 1)]), (blk B 100 [(iv 300), (iv 300), (iv 299)]), (blk A 100 [(iv 150), (iv 154), (iv 160), (iv 240), (iv 246), (iv 249)]), (blk F 106 [(iv 0), (iv 1), (Value.slice (some ⟨C, 0, none⟩) 4 4), (Value.slice (some ⟨D, 0, none⟩) 1 1), (iv 2), (iv 1), (iv 2), (Value.slice (some ⟨E, 0, none⟩) 2 2), (Value.slice none 0 0), (iv 0)]), (blk E 107 [(iv 250), (iv 90), (iv 350), (iv 50)]), (blk D 3 [(iv 2)]), (blk C 107 [(iv 100), (iv 200), (iv 200), (iv 300), (iv 300), (iv 500), (iv 400), (iv 600)]), (blk b4 37 [(iv 3), (Value.slice (some ⟨F, 0, none⟩) 2 2), (Value.slice (some ⟨G, 0, none⟩) 2 2)])] := z; clear z y
 refine n1 (c_6 (b_0 g (.inl rfl) (a_2 g rfl (.cellA rfl n_6 (AA.bk 7 rfl) (l := [(iv 3), (Value.slice (some ⟨F, 0, none⟩) 2 2), (Value.slice (some ⟨G, 0, none⟩) 2 2)]) rfl rfl)) ?_))
 have Ar := AA.l_2 (i := 6) (sz := 2) (n := 4) rfl rfl (by decide)
 have As := Ar.l_2 (i := 5) (sz := 1) (n := 1) rfl rfl (by decide)
 have At := As.l_2 (i := 4) (sz := 2) (n := 2) rfl rfl (by decide)
 have Au := At.l_2 (i := 3) (sz := 5) (n := 2) rfl rfl (by decide)
 have Av := Au.l_2 (i := 2) (sz := 3) (n := 2) rfl rfl (by decide)
 have Aw := Av.l_2 (i := 1) (sz := 3) (n := 1) rfl rfl (by decide)
 have Ax := Aw.l_2 (i := 0) (sz := 2) (n := 2) rfl rfl (by decide)
 have Ay : Sep NoB w H [(row (Value.slice (some ⟨C, 0, none⟩) 4 4) 107 2 4 [(iv 100), (iv 200), (iv 200), (iv 300), (iv 300), (iv 500), (iv 400), (iv 600)]), (row (Value.slice (some ⟨E, 0, none⟩) 2 2) 107 2 2 [(iv 250), (iv 90), (iv 350), (iv 50)]), (row (Value.slice (some ⟨D, 0, none⟩) 1 1) 3 1 1 [(iv 2)]), (row (Value.slice (some ⟨F, 0, none⟩) 2 2) 106 5 2 [(iv 0), (iv 1), (Value.slice (some ⟨C, 0, none⟩) 4 4), (Value.slice (some ⟨D, 0, none⟩) 1 1), (iv 2), (iv 1), (iv 2), (Value.slice (some ⟨E, 0, none⟩) 2 2), (Value.slice none 0 0), (iv 0)]), (row (Value.slice (some ⟨A, 0, none⟩) 2 2) 100 3 2 [(iv 150), (iv 154), (iv 160), (iv 240), (iv 246), (iv 249)]), (row (Value.slice (some ⟨B, 0, none⟩) 1 1) 100 3 1 [(iv 300), (iv 300), (iv 299)]), (row (Value.slice (some ⟨G, 0, none⟩) 2 2) 103 2 2 [(iv 0), (Value.slice (some ⟨A, 0, none⟩) 2 2), (iv 1), (Value.slice (some ⟨B, 0, none⟩) 1 1)])] := Ax.keep [6, 4, 5, 3, 2, 1, 0] (by decide) _ rfl rfl
 have Az : Sep NoB w H [(slsR true 0 (fun _ => Value.slice none 0 0) 2 (q_9 a_9.tabs) (q_8 a_9.tabs)), (row (Value.slice (some ⟨C, 0, none⟩) 4 4) 107 2 4 [(iv 100), (iv 200), (iv 200), (iv 300), (iv 300), (iv 500), (iv 400), (iv 600)]), (row (Value.slice (some ⟨E, 0, none⟩) 2 2) 107 2 2 [(iv 250), (iv 90), (iv 350), (iv 50)]), (row (Value.slice (some ⟨D, 0, none⟩) 1 1) 3 1 1 [(iv 2)]), (row (Value.slice (some ⟨F, 0, none⟩) 2 2) 106 5 2 [(iv 0), (iv 1), (Value.slice (some ⟨C, 0, none⟩) 4 4), (Value.slice (some ⟨D, 0, none⟩) 1 1), (iv 2), (iv 1), (iv 2), (Value.slice (some ⟨E, 0, none⟩) 2 2), (Value.slice none 0 0), (iv 0)]), (row (Value.slice (some ⟨A, 0, none⟩) 2 2) 100 3 2 [(iv 150), (iv 154), (iv 160), (iv 240), (iv 246), (iv 249)]), (row (Value.slice (some ⟨B, 0, none⟩) 1 1) 100 3 1 [(iv 300), (iv 300), (iv 299)]), (row (Value.slice (some ⟨G, 0, none⟩) 2 2) 103 2 2 [(iv 0), (Value.slice (some ⟨A, 0, none⟩) 2 2), (iv 1), (Value.slice (some ⟨B, 0, none⟩) 1 1)])] := p_2 Ay (fun _ => Value.slice none 0 0) 2 (q_9 a_9.tabs) (q_8 a_9.tabs)
 have A0 : Sep NoB w H [(row (Value.slice (some ⟨C, 0, none⟩) 4 4) 107 2 4 [(iv 100), (iv 200), (iv 200), (iv 300), (iv 300), (iv 500), (iv 400), (iv 600)]), (slsR true 0 (fun _ => Value.slice none 0 0) 2 (q_9 a_9.tabs) (q_8 a_9.tabs)), (row (Value.slice (some ⟨E, 0, none⟩) 2 2) 107 2 2 [(iv 250), (iv 90), (iv 350), (iv 50)]), (row (Value.slice (some ⟨D, 0, none⟩) 1 1) 3 1 1 [(iv 2)]), (row (Value.slice (some ⟨F, 0, none⟩) 2 2) 106 5 2 [(iv 0), (iv 1), (Value.slice (some ⟨C, 0, none⟩) 4 4), (Value.slice (some ⟨D, 0, none⟩) 1 1), (iv 2), (iv 1), (iv 2), (Value.slice (some ⟨E, 0, none⟩) 2 2), (Value.slice none 0 0), (iv 0)]), (row (Value.slice (some ⟨A, 0, none⟩) 2 2) 100 3 2 [(iv 150), (iv 154), (iv 160), (iv 240), (iv 246), (iv 249)]), (row (Value.slice (some ⟨B, 0, none⟩) 1 1) 100 3 1 [(iv 300), (iv 300), (iv 299)]), (row (Value.slice (some ⟨G, 0, none⟩) 2 2) 103 2 2 [(iv 0), (Value.slice (some ⟨A, 0, none⟩) 2 2), (iv 1), (Value.slice (some ⟨B, 0, none⟩) 1 1)])] := Az.keep [1, 0, 2, 3, 4, 5, 6, 7] (by decide) _ rfl rfl
 have A1 : Sep NoB w H [(slsR true 1 (putV 0 (fun _ => Value.slice none 0 0) (Value.slice (some ⟨C, 0, none⟩) 4 4)) 2 (q_9 a_9.tabs) (q_8 a_9.tabs)), (row (Value.slice (some ⟨E, 0, none⟩) 2 2) 107 2 2 [(iv 250), (iv 90), (iv 350), (iv 50)]), (row (Value.slice (some ⟨D, 0, none⟩) 1 1) 3 1 1 [(iv 2)]), (row (Value.slice (some ⟨F, 0, none⟩) 2 2) 106 5 2 [(iv 0), (iv 1), (Value.slice (some ⟨C, 0, none⟩) 4 4), (Value.slice (some ⟨D, 0, none⟩) 1 1), (iv 2), (iv 1), (iv 2), (Value.slice (some ⟨E, 0, none⟩) 2 2), (Value.slice none 0 0), (iv 0)]), (row (Value.slice (some ⟨A, 0, none⟩) 2 2) 100 3 2 [(iv 150), (iv 154), (iv 160), (iv 240), (iv 246), (iv 249)]), (row (Value.slice (some ⟨B, 0, none⟩) 1 1) 100 3 1 [(iv 300), (iv 300), (iv 299)]), (row (Value.slice (some ⟨G, 0, none⟩) 2 2) 103 2 2 [(iv 0), (Value.slice (some ⟨A, 0, none⟩) 2 2), (iv 1), (Value.slice (some ⟨B, 0, none⟩) 1 1)])] := h_5 (k' := q_9 a_9.tabs) (c' := q_8 a_9.tabs) A0 rfl rfl (fun i hi => absurd hi (Nat.not_lt_zero _))
 have A2 : Sep NoB w H [(row (Value.slice (some ⟨E, 0, none⟩) 2 2) 107 2 2 [(iv 250), (iv 90), (iv 350), (iv 50)]), (slsR true 1 (putV 0 (fun _ => Value.slice none 0 0) (Value.slice (some ⟨C, 0, none⟩) 4 4)) 2 (q_9 a_9.tabs) (q_8 a_9.tabs)), (row (Value.slice (some ⟨D, 0, none⟩) 1 1) 3 1 1 [(iv 2)]), (row (Value.slice (some ⟨F, 0, none⟩) 2 2) 106 5 2 [(iv 0), (iv 1), (Value.slice (some ⟨C, 0, none⟩) 4 4), (Value.slice (some ⟨D, 0, none⟩) 1 1), (iv 2), (iv 1), (iv 2), (Value.slice (some ⟨E, 0, none⟩) 2 2), (Value.slice none 0 0), (iv 0)]), (row (Value.slice (some ⟨A, 0, none⟩) 2 2) 100 3 2 [(iv 150), (iv 154), (iv 160), (iv 240), (iv 246), (iv 249)]), (row (Value.slice (some ⟨B, 0, none⟩) 1 1) 100 3 1 [(iv 300), (iv 300), (iv 299)]), (row (Value.slice (some ⟨G, 0, none⟩) 2 2) 103 2 2 [(iv 0), (Value.slice (some ⟨A, 0, none⟩) 2 2), (iv 1), (Value.slice (some ⟨B, 0, none⟩) 1 1)])] := A1.keep [1, 0, 2, 3, 4, 5, 6] (by decide) _ rfl rfl
 have A3 : Sep NoB w H [(slsR true 2 (putV 1 (putV 0 (fun _ => Value.slice none 0 0) (Value.slice (some ⟨C, 0, none⟩) 4 4)) (Value.slice (some ⟨E, 0, none⟩) 2 2)) 2 (q_9 a_9.tabs) (q_8 a_9.tabs)), (row (Value.slice (some ⟨D, 0, none⟩) 1 1) 3 1 1 [(iv 2)]), (row (Value.slice (some ⟨F, 0, none⟩) 2 2) 106 5 2 [(iv 0), (iv 1), (Value.slice (some ⟨C, 0, none⟩) 4 4), (Value.slice (some ⟨D, 0, none⟩) 1 1), (iv 2), (iv 1), (iv 2), (Value.slice (some ⟨E, 0, none⟩) 2 2), (Value.slice none 0 0), (iv 0)]), (row (Value.slice (some ⟨A, 0, none⟩) 2 2) 100 3 2 [(iv 150), (iv 154), (iv 160), (iv 240), (iv 246), (iv 249)]), (row (Value.slice (some ⟨B, 0, none⟩) 1 1) 100 3 1 [(iv 300), (iv 300), (iv 299)]), (row (Value.slice (some ⟨G, 0, none⟩) 2 2) 103 2 2 [(iv 0), (Value.slice (some ⟨A, 0, none⟩) 2 2), (iv 1), (Value.slice (some ⟨B, 0, none⟩) 1 1)])] := h_5 (k' := q_9 a_9.tabs) (c' := q_8 a_9.tabs) A2 rfl rfl (fun _ _ => ⟨rfl, rfl⟩)
 have A4 : Sep NoB w H [(row (Value.slice none 0 0) 3 1 0 []), (slsR true 2 (putV 1 (putV 0 (fun _ => Value.slice none 0 0) (Value.slice (some ⟨C, 0, none⟩) 4 4)) (Value.slice (some ⟨E, 0, none⟩) 2 2)) 2 (q_9 a_9.tabs) (q_8 a_9.tabs)), (row (Value.slice (some ⟨D, 0, none⟩) 1 1) 3 1 1 [(iv 2)]), (row (Value.slice (some ⟨F, 0, none⟩) 2 2) 106 5 2 [(iv 0), (iv 1), (Value.slice (some ⟨C, 0, none⟩) 4 4), (Value.slice (some ⟨D, 0, none⟩) 1 1), (iv 2), (iv 1), (iv 2), (Value.slice (some ⟨E, 0, none⟩) 2 2), (Value.slice none 0 0), (iv 0)]), (row (Value.slice (some ⟨A, 0, none⟩) 2 2) 100 3 2 [(iv 150), (iv 154), (iv 160), (iv 240), (iv 246), (iv 249)]), (row (Value.slice (some ⟨B, 0, none⟩) 1 1) 100 3 1 [(iv 300), (iv 300), (iv 299)]), (row (Value.slice (some ⟨G, 0, none⟩) 2 2) 103 2 2 [(iv 0), (Value.slice (some ⟨A, 0, none⟩) 2 2), (iv 1), (Value.slice (some ⟨B, 0, none⟩) 1 1)])] := A3.nil_row 3 1
 have A5 : Sep NoB w H [(slsR true 0 (fun _ => Value.slice none 0 0) 1 (brkN a_9.tabs) (brkC a_9.tabs)), (row (Value.slice none 0 0) 3 1 0 []), (slsR true 2 (putV 1 (putV 0 (fun _ => Value.slice none 0 0) (Value.slice (some ⟨C, 0, none⟩) 4 4)) (Value.slice (some ⟨E, 0, none⟩) 2 2)) 2 (q_9 a_9.tabs) (q_8 a_9.tabs)), (row (Value.slice (some ⟨D, 0, none⟩) 1 1) 3 1 1 [(iv 2)]), (row (Value.slice (some ⟨F, 0, none⟩) 2 2) 106 5 2 [(iv 0), (iv 1), (Value.slice (some ⟨C, 0, none⟩) 4 4), (Value.slice (some ⟨D, 0, none⟩) 1 1), (iv 2), (iv 1), (iv 2), (Value.slice (some ⟨E, 0, none⟩) 2 2), (Value.slice none 0 0), (iv 0)]), (row (Value.slice (some ⟨A, 0, none⟩) 2 2) 100 3 2 [(iv 150), (iv 154), (iv 160), (iv 240), (iv 246), (iv 249)]), (row (Value.slice (some ⟨B, 0, none⟩) 1 1) 100 3 1 [(iv 300), (iv 300), (iv 299)]), (row (Value.slice (some ⟨G, 0, none⟩) 2 2) 103 2 2 [(iv 0), (Value.slice (some ⟨A, 0, none⟩) 2 2), (iv 1), (Value.slice (some ⟨B, 0, none⟩) 1 1)])] := p_2 A4 (fun _ => Value.slice none 0 0) 1 (brkN a_9.tabs) (brkC a_9.tabs)
 have A6 : Sep NoB w H [(row (Value.slice (some ⟨D, 0, none⟩) 1 1) 3 1 1 [(iv 2)]), (slsR true 0 (fun _ => Value.slice none 0 0) 1 (brkN a_9.tabs) (brkC a_9.tabs)), (row (Value.slice none 0 0) 3 1 0 []), (slsR true 2 (putV 1 (putV 0 (fun _ => Value.slice none 0 0) (Value.slice (some ⟨C, 0, none⟩) 4 4)) (Value.slice (some ⟨E, 0, none⟩) 2 2)) 2 (q_9 a_9.tabs) (q_8 a_9.tabs)), (row (Value.slice (some ⟨F, 0, none⟩) 2 2) 106 5 2 [(iv 0), (iv 1), (Value.slice (some ⟨C, 0, none⟩) 4 4), (Value.slice (some ⟨D, 0, none⟩) 1 1), (iv 2), (iv 1), (iv 2), (Value.slice (some ⟨E, 0, none⟩) 2 2), (Value.slice none 0 0), (iv 0)]), (row (Value.slice (some ⟨A, 0, none⟩) 2 2) 100 3 2 [(iv 150), (iv 154), (iv 160), (iv 240), (iv 246), (iv 249)]), (row (Value.slice (some ⟨B, 0, none⟩) 1 1) 100 3 1 [(iv 300), (iv 300), (iv 299)]), (row (Value.slice (some ⟨G, 0, none⟩) 2 2) 103 2 2 [(iv 0), (Value.slice (some ⟨A, 0, none⟩) 2 2), (iv 1), (Value.slice (some ⟨B, 0, none⟩) 1 1)])] := A5.keep [3, 0, 1, 2, 4, 5, 6, 7] (by decide) _ rfl rfl
 have AG : Sep NoB w H [(slsR true 1 (putV 0 (fun _ => Value.slice none 0 0) (Value.slice (some ⟨D, 0, none⟩) 1 1)) 1 (brkN a_9.tabs) (brkC a_9.tabs)), (row (Value.slice none 0 0) 3 1 0 []), (slsR true 2 (putV 1 (putV 0 (fun _ => Value.slice none 0 0) (Value.slice (some ⟨C, 0, none⟩) 4 4)) (Value.slice (some ⟨E, 0, none⟩) 2 2)) 2 (q_9 a_9.tabs) (q_8 a_9.tabs)), (row (Value.slice (some ⟨F, 0, none⟩) 2 2) 106 5 2 [(iv 0), (iv 1), (Value.slice (some ⟨C, 0, none⟩) 4 4), (Value.slice (some ⟨D, 0, none⟩) 1 1), (iv 2), (iv 1), (iv 2), (Value.slice (some ⟨E, 0, none⟩) 2 2), (Value.slice none 0 0), (iv 0)]), (row (Value.slice (some ⟨A, 0, none⟩) 2 2) 100 3 2 [(iv 150), (iv 154), (iv 160), (iv 240), (iv 246), (iv 249)]), (row (Value.slice (some ⟨B, 0, none⟩) 1 1) 100 3 1 [(iv 300), (iv 300), (iv 299)]), (row (Value.slice (some ⟨G, 0, none⟩) 2 2) 103 2 2 [(iv 0), (Value.slice (some ⟨A, 0, none⟩) 2 2), (iv 1), (Value.slice (some ⟨B, 0, none⟩) 1 1)])] := h_5 (k' := brkN a_9.tabs) (c' := brkC a_9.tabs) A6 rfl rfl (fun i hi => absurd hi (Nat.not_lt_zero _))
 have AH : Sep NoB w H [(row (Value.slice none 0 0) 3 1 0 []), (slsR true 1 (putV 0 (fun _ => Value.slice none 0 0) (Value.slice (some ⟨D, 0, none⟩) 1 1)) 1 (brkN a_9.tabs) (brkC a_9.tabs)), (slsR true 2 (putV 1 (putV 0 (fun _ => Value.slice none 0 0) (Value.slice (some ⟨C, 0, none⟩) 4 4)) (Value.slice (some ⟨E, 0, none⟩) 2 2)) 2 (q_9 a_9.tabs) (q_8 a_9.tabs)), (row (Value.slice (some ⟨F, 0, none⟩) 2 2) 106 5 2 [(iv 0), (iv 1), (Value.slice (some ⟨C, 0, none⟩) 4 4), (Value.slice (some ⟨D, 0, none⟩) 1 1), (iv 2), (iv 1), (iv 2), (Value.slice (some ⟨E, 0, none⟩) 2 2), (Value.slice none 0 0), (iv 0)]), (row (Value.slice (some ⟨A, 0, none⟩) 2 2) 100 3 2 [(iv 150), (iv 154), (iv 160), (iv 240), (iv 246), (iv 249)]), (row (Value.slice (some ⟨B, 0, none⟩) 1 1) 100 3 1 [(iv 300), (iv 300), (iv 299)]), (row (Value.slice (some ⟨G, 0, none⟩) 2 2) 103 2 2 [(iv 0), (Value.slice (some ⟨A, 0, none⟩) 2 2), (iv 1), (Value.slice (some ⟨B, 0, none⟩) 1 1)])] := AG.keep [1, 0, 2, 3, 4, 5, 6] (by decide) _ rfl rfl
 have AI : Sep NoB w H [(slsR true 2 (putV 1 (putV 0 (fun _ => Value.slice none 0 0) (Value.slice (some ⟨D, 0, none⟩) 1 1)) (Value.slice none 0 0)) 1 (brkN a_9.tabs) (brkC a_9.tabs)), (slsR true 2 (putV 1 (putV 0 (fun _ => Value.slice none 0 0) (Value.slice (some ⟨C, 0, none⟩) 4 4)) (Value.slice (some ⟨E, 0, none⟩) 2 2)) 2 (q_9 a_9.tabs) (q_8 a_9.tabs)), (row (Value.slice (some ⟨F, 0, none⟩) 2 2) 106 5 2 [(iv 0), (iv 1), (Value.slice (some ⟨C, 0, none⟩) 4 4), (Value.slice (some ⟨D, 0, none⟩) 1 1), (iv 2), (iv 1), (iv 2), (Value.slice (some ⟨E, 0, none⟩) 2 2), (Value.slice none 0 0), (iv 0)]), (row (Value.slice (some ⟨A, 0, none⟩) 2 2) 100 3 2 [(iv 150), (iv 154), (iv 160), (iv 240), (iv 246), (iv 249)]), (row (Value.slice (some ⟨B, 0, none⟩) 1 1) 100 3 1 [(iv 300), (iv 300), (iv 299)]), (row (Value.slice (some ⟨G, 0, none⟩) 2 2) 103 2 2 [(iv 0), (Value.slice (some ⟨A, 0, none⟩) 2 2), (iv 1), (Value.slice (some ⟨B, 0, none⟩) 1 1)])] := h_5 (k' := brkN a_9.tabs) (c' := brkC a_9.tabs) AH rfl rfl (fun _ _ => ⟨rfl, rfl⟩)
 have AJ : Sep NoB w H [(row (Value.slice (some ⟨F, 0, none⟩) 2 2) 106 5 2 [(iv 0), (iv 1), (Value.slice (some ⟨C, 0, none⟩) 4 4), (Value.slice (some ⟨D, 0, none⟩) 1 1), (iv 2), (iv 1), (iv 2), (Value.slice (some ⟨E, 0, none⟩) 2 2), (Value.slice none 0 0), (iv 0)]), (slsR true 2 (putV 1 (putV 0 (fun _ => Value.slice none 0 0) (Value.slice (some ⟨C, 0, none⟩) 4 4)) (Value.slice (some ⟨E, 0, none⟩) 2 2)) 2 (q_9 a_9.tabs) (q_8 a_9.tabs)), (slsR true 2 (putV 1 (putV 0 (fun _ => Value.slice none 0 0) (Value.slice (some ⟨D, 0, none⟩) 1 1)) (Value.slice none 0 0)) 1 (brkN a_9.tabs) (brkC a_9.tabs)), (row (Value.slice (some ⟨A, 0, none⟩) 2 2) 100 3 2 [(iv 150), (iv 154), (iv 160), (iv 240), (iv 246), (iv 249)]), (row (Value.slice (some ⟨B, 0, none⟩) 1 1) 100 3 1 [(iv 300), (iv 300), (iv 299)]), (row (Value.slice (some ⟨G, 0, none⟩) 2 2) 103 2 2 [(iv 0), (Value.slice (some ⟨A, 0, none⟩) 2 2), (iv 1), (Value.slice (some ⟨B, 0, none⟩) 1 1)])] := AI.keep [2, 1, 0, 3, 4, 5] (by decide) _ rfl rfl
 have AK : Sep NoB w H [(row (Value.slice (some ⟨F, 0, none⟩) 2 2) 106 5 a_9.tabs.length (u_5 (putV 1 (putV 0 (fun _ => Value.slice none 0 0) (Value.slice (some ⟨C, 0, none⟩) 4 4)) (Value.slice (some ⟨E, 0, none⟩) 2 2)) (putV 1 (putV 0 (fun _ => Value.slice none 0 0) (Value.slice (some ⟨D, 0, none⟩) 1 1)) (Value.slice none 0 0)) a_9.tabs)), (slsR true 2 (putV 1 (putV 0 (fun _ => Value.slice none 0 0) (Value.slice (some ⟨C, 0, none⟩) 4 4)) (Value.slice (some ⟨E, 0, none⟩) 2 2)) 2 (q_9 a_9.tabs) (q_8 a_9.tabs)), (slsR true 2 (putV 1 (putV 0 (fun _ => Value.slice none 0 0) (Value.slice (some ⟨D, 0, none⟩) 1 1)) (Value.slice none 0 0)) 1 (brkN a_9.tabs) (brkC a_9.tabs)), (row (Value.slice (some ⟨A, 0, none⟩) 2 2) 100 3 2 [(iv 150), (iv 154), (iv 160), (iv 240), (iv 246), (iv 249)]), (row (Value.slice (some ⟨B, 0, none⟩) 1 1) 100 3 1 [(iv 300), (iv 300), (iv 299)]), (row (Value.slice (some ⟨G, 0, none⟩) 2 2) 103 2 2 [(iv 0), (Value.slice (some ⟨A, 0, none⟩) 2 2), (iv 1), (Value.slice (some ⟨B, 0, none⟩) 1 1)])] := AJ.i_9 (i := 0) rfl rfl (kept_tabsC _ _ _ _).symm
 have AL : Sep NoB w H [(c_0 true (Value.slice (some ⟨F, 0, none⟩) 2 2) (putV 1 (putV 0 (fun _ => Value.slice none 0 0) (Value.slice (some ⟨C, 0, none⟩) 4 4)) (Value.slice (some ⟨E, 0, none⟩) 2 2)) (putV 1 (putV 0 (fun _ => Value.slice none 0 0) (Value.slice (some ⟨D, 0, none⟩) 1 1)) (Value.slice none 0 0)) a_9.tabs), (row (Value.slice (some ⟨A, 0, none⟩) 2 2) 100 3 2 [(iv 150), (iv 154), (iv 160), (iv 240), (iv 246), (iv 249)]), (row (Value.slice (some ⟨B, 0, none⟩) 1 1) 100 3 1 [(iv 300), (iv 300), (iv 299)]), (row (Value.slice (some ⟨G, 0, none⟩) 2 2) 103 2 2 [(iv 0), (Value.slice (some ⟨A, 0, none⟩) 2 2), (iv 1), (Value.slice (some ⟨B, 0, none⟩) 1 1)])] := sep_tabs_join AK
 have AM : Sep NoB w H [(slsR true 0 (fun _ => Value.slice none 0 0) 3 (blkN a_9.macs) (blkC a_9.macs)), (c_0 true (Value.slice (some ⟨F, 0, none⟩) 2 2) (putV 1 (putV 0 (fun _ => Value.slice none 0 0) (Value.slice (some ⟨C, 0, none⟩) 4 4)) (Value.slice (some ⟨E, 0, none⟩) 2 2)) (putV 1 (putV 0 (fun _ => Value.slice none 0 0) (Value.slice (some ⟨D, 0, none⟩) 1 1)) (Value.slice none 0 0)) a_9.tabs), (row (Value.slice (some ⟨A, 0, none⟩) 2 2) 100 3 2 [(iv 150), (iv 154), (iv 160), (iv 240), (iv 246), (iv 249)]), (row (Value.slice (some ⟨B, 0, none⟩) 1 1) 100 3 1 [(iv 300), (iv 300), (iv 299)]), (row (Value.slice (some ⟨G, 0, none⟩) 2 2) 103 2 2 [(iv 0), (Value.slice (some ⟨A, 0, none⟩) 2 2), (iv 1), (Value.slice (some ⟨B, 0, none⟩) 1 1)])] := p_2 AL (fun _ => Value.slice none 0 0) 3 (blkN a_9.macs) (blkC a_9.macs)
 have AN : Sep NoB w H [(row (Value.slice (some ⟨A, 0, none⟩) 2 2) 100 3 2 [(iv 150), (iv 154), (iv 160), (iv 240), (iv 246), (iv 249)]), (slsR true 0 (fun _ => Value.slice none 0 0) 3 (blkN a_9.macs) (blkC a_9.macs)), (c_0 true (Value.slice (some ⟨F, 0, none⟩) 2 2) (putV 1 (putV 0 (fun _ => Value.slice none 0 0) (Value.slice (some ⟨C, 0, none⟩) 4 4)) (Value.slice (some ⟨E, 0, none⟩) 2 2)) (putV 1 (putV 0 (fun _ => Value.slice none 0 0) (Value.slice (some ⟨D, 0, none⟩) 1 1)) (Value.slice none 0 0)) a_9.tabs), (row (Value.slice (some ⟨B, 0, none⟩) 1 1) 100 3 1 [(iv 300), (iv 300), (iv 299)]), (row (Value.slice (some ⟨G, 0, none⟩) 2 2) 103 2 2 [(iv 0), (Value.slice (some ⟨A, 0, none⟩) 2 2), (iv 1), (Value.slice (some ⟨B, 0, none⟩) 1 1)])] := AM.keep [2, 0, 1, 3, 4] (by decide) _ rfl rfl
 have AO : Sep NoB w H [(slsR true 1 (putV 0 (fun _ => Value.slice none 0 0) (Value.slice (some ⟨A, 0, none⟩) 2 2)) 3 (blkN a_9.macs) (blkC a_9.macs)), (c_0 true (Value.slice (some ⟨F, 0, none⟩) 2 2) (putV 1 (putV 0 (fun _ => Value.slice none 0 0) (Value.slice (some ⟨C, 0, none⟩) 4 4)) (Value.slice (some ⟨E, 0, none⟩) 2 2)) (putV 1 (putV 0 (fun _ => Value.slice none 0 0) (Value.slice (some ⟨D, 0, none⟩) 1 1)) (Value.slice none 0 0)) a_9.tabs), (row (Value.slice (some ⟨B, 0, none⟩) 1 1) 100 3 1 [(iv 300), (iv 300), (iv 299)]), (row (Value.slice (some ⟨G, 0, none⟩) 2 2) 103 2 2 [(iv 0), (Value.slice (some ⟨A, 0, none⟩) 2 2), (iv 1), (Value.slice (some ⟨B, 0, none⟩) 1 1)])] := h_5 (k' := blkN a_9.macs) (c' := blkC a_9.macs) AN rfl rfl (fun i hi => absurd hi (Nat.not_lt_zero _))
 have AP : Sep NoB w H [(row (Value.slice (some ⟨B, 0, none⟩) 1 1) 100 3 1 [(iv 300), (iv 300), (iv 299)]), (slsR true 1 (putV 0 (fun _ => Value.slice none 0 0) (Value.slice (some ⟨A, 0, none⟩) 2 2)) 3 (blkN a_9.macs) (blkC a_9.macs)), (c_0 true (Value.slice (some ⟨F, 0, none⟩) 2 2) (putV 1 (putV 0 (fun _ => Value.slice none 0 0) (Value.slice (some ⟨C, 0, none⟩) 4 4)) (Value.slice (some ⟨E, 0, none⟩) 2 2)) (putV 1 (putV 0 (fun _ => Value.slice none 0 0) (Value.slice (some ⟨D, 0, none⟩) 1 1)) (Value.slice none 0 0)) a_9.tabs), (row (Value.slice (some ⟨G, 0, none⟩) 2 2) 103 2 2 [(iv 0), (Value.slice (some ⟨A, 0, none⟩) 2 2), (iv 1), (Value.slice (some ⟨B, 0, none⟩) 1 1)])] := AO.keep [2, 0, 1, 3] (by decide) _ rfl rfl
 have AQ : Sep NoB w H [(slsR true 2 (putV 1 (putV 0 (fun _ => Value.slice none 0 0) (Value.slice (some ⟨A, 0, none⟩) 2 2)) (Value.slice (some ⟨B, 0, none⟩) 1 1)) 3 (blkN a_9.macs) (blkC a_9.macs)), (c_0 true (Value.slice (some ⟨F, 0, none⟩) 2 2) (putV 1 (putV 0 (fun _ => Value.slice none 0 0) (Value.slice (some ⟨C, 0, none⟩) 4 4)) (Value.slice (some ⟨E, 0, none⟩) 2 2)) (putV 1 (putV 0 (fun _ => Value.slice none 0 0) (Value.slice (some ⟨D, 0, none⟩) 1 1)) (Value.slice none 0 0)) a_9.tabs), (row (Value.slice (some ⟨G, 0, none⟩) 2 2) 103 2 2 [(iv 0), (Value.slice (some ⟨A, 0, none⟩) 2 2), (iv 1), (Value.slice (some ⟨B, 0, none⟩) 1 1)])] := h_5 (k' := blkN a_9.macs) (c' := blkC a_9.macs) AP rfl rfl (fun _ _ => ⟨rfl, rfl⟩)
 have AR : Sep NoB w H [(row (Value.slice (some ⟨G, 0, none⟩) 2 2) 103 2 2 [(iv 0), (Value.slice (some ⟨A, 0, none⟩) 2 2), (iv 1), (Value.slice (some ⟨B, 0, none⟩) 1 1)]), (slsR true 2 (putV 1 (putV 0 (fun _ => Value.slice none 0 0) (Value.slice (some ⟨A, 0, none⟩) 2 2)) (Value.slice (some ⟨B, 0, none⟩) 1 1)) 3 (blkN a_9.macs) (blkC a_9.macs)), (c_0 true (Value.slice (some ⟨F, 0, none⟩) 2 2) (putV 1 (putV 0 (fun _ => Value.slice none 0 0) (Value.slice (some ⟨C, 0, none⟩) 4 4)) (Value.slice (some ⟨E, 0, none⟩) 2 2)) (putV 1 (putV 0 (fun _ => Value.slice none 0 0) (Value.slice (some ⟨D, 0, none⟩) 1 1)) (Value.slice none 0 0)) a_9.tabs)] := AQ.keep [2, 0, 1] (by decide) _ rfl rfl
 have AS : Sep NoB w H [(row (Value.slice (some ⟨G, 0, none⟩) 2 2) 103 2 a_9.macs.length (x_7 (putV 1 (putV 0 (fun _ => Value.slice none 0 0) (Value.slice (some ⟨A, 0, none⟩) 2 2)) (Value.slice (some ⟨B, 0, none⟩) 1 1)) a_9.macs)), (slsR true 2 (putV 1 (putV 0 (fun _ => Value.slice none 0 0) (Value.slice (some ⟨A, 0, none⟩) 2 2)) (Value.slice (some ⟨B, 0, none⟩) 1 1)) 3 (blkN a_9.macs) (blkC a_9.macs)), (c_0 true (Value.slice (some ⟨F, 0, none⟩) 2 2) (putV 1 (putV 0 (fun _ => Value.slice none 0 0) (Value.slice (some ⟨C, 0, none⟩) 4 4)) (Value.slice (some ⟨E, 0, none⟩) 2 2)) (putV 1 (putV 0 (fun _ => Value.slice none 0 0) (Value.slice (some ⟨D, 0, none⟩) 1 1)) (Value.slice none 0 0)) a_9.tabs)] := AR.i_9 (i := 0) rfl rfl (kept_macsC _ _).symm
 have AT : Sep NoB w H [(c_3 true (Value.slice (some ⟨G, 0, none⟩) 2 2) (putV 1 (putV 0 (fun _ => Value.slice none 0 0) (Value.slice (some ⟨A, 0, none⟩) 2 2)) (Value.slice (some ⟨B, 0, none⟩) 1 1)) a_9.macs), (c_0 true (Value.slice (some ⟨F, 0, none⟩) 2 2) (putV 1 (putV 0 (fun _ => Value.slice none 0 0) (Value.slice (some ⟨C, 0, none⟩) 4 4)) (Value.slice (some ⟨E, 0, none⟩) 2 2)) (putV 1 (putV 0 (fun _ => Value.slice none 0 0) (Value.slice (some ⟨D, 0, none⟩) 1 1)) (Value.slice none 0 0)) a_9.tabs)] := sep_macs_join AS
 have AU : Sep NoB w H [(c_0 true (Value.slice (some ⟨F, 0, none⟩) 2 2) (putV 1 (putV 0 (fun _ => Value.slice none 0 0) (Value.slice (some ⟨C, 0, none⟩) 4 4)) (Value.slice (some ⟨E, 0, none⟩) 2 2)) (putV 1 (putV 0 (fun _ => Value.slice none 0 0) (Value.slice (some ⟨D, 0, none⟩) 1 1)) (Value.slice none 0 0)) a_9.tabs), (c_3 true (Value.slice (some ⟨G, 0, none⟩) 2 2) (putV 1 (putV 0 (fun _ => Value.slice none 0 0) (Value.slice (some ⟨A, 0, none⟩) 2 2)) (Value.slice (some ⟨B, 0, none⟩) 1 1)) a_9.macs)] := AT.keep [1, 0] (by decide) _ rfl rfl
 exact ⟨_, _, _, _, _, rfl, AU⟩
end Go.Proofs.Ytohgladndklciaa

namespace Go.Proofs.Ytohgladndklciaa
open Go.RowKit Go.Shelf Go.Eng Go.Hard
theorem u_9 : ∀ args w, (callFunc 46 args).run Try.prog w = .ok (.enter 46 args) w := enters_of Try.func46 (by kernel_rfl) rfl
theorem en_33 : ∀ args w, (callFunc 33 args).run Try.prog w = .ok (.enter 33 args) w := enters_of Try.func33 (by kernel_rfl) rfl
theorem en_18 : ∀ args w, (callFunc 18 args).run Try.prog w = .ok (.enter 18 args) w := enters_of Try.func18 (by kernel_rfl) rfl
theorem en_25 : ∀ args w, (callFunc 25 args).run Try.prog w = .ok (.enter 25 args) w := enters_of Try.func25 (by kernel_rfl) rfl
theorem awake_ok (w : World) :
  Calls Try.prog 17 #[] w (Ret fun v w' => v = .bool true ∧ Ext NoB w w') := by
 refine a_7 Try.func17 rfl fun a0 Z => ?_
 replace Z : Fr 71 [] [] a0 := Z
 have AT : Sep NoB w w [] := Sep.start _ _
 refine m2 (s1 Z (a_0 rfl (evc _ _)) fun a1 AS => ?_); clear Z a0
 refine n4 (s2 AS (a_8 rfl u_9 ev0 (n_5 _)) ?_)
 rintro a3 _ w5 ⟨vt6, vm7, lr8, lb9, lk10, rfl, AN⟩ s; have L := AT.n_2 AN rfl; clear AN AS AT a1
 refine s2 s (a_8 rfl en_33 (ev2 s.e (evc _ _)) (Bias_ok a_9 vt6 vm7 lr8 lb9 lk10 _ (c_5 (L.ok 0 _ rfl)) (d_1 (L.ok 1 _ rfl)) i_4 0)) ?_
 rintro AZ _ BH ⟨rfl, z⟩ O; have AC := L.step z; clear z s L a3
 refine s1 O (a_1 rfl O.e) fun Aa P => ?_; clear O AZ
 refine s1 P (b_2 rfl P.e rfl) fun Ab Q => ?_; clear P Aa
 refine s1 Q (b_2 rfl Q.e rfl) fun Ac o => ?_; clear Q Ab
 refine s2 o (d_2 AC rfl t_7 (cs := [(iv 0), (iv 0)]) rfl) ?_
 rintro Ad _ BI ⟨B, rfl, AD⟩ H; clear o AC Ac
 refine s7 H (b_4 AD rfl f_1 H.e H.e (i := 0) rfl (vs := [(iv ((m_1 a_9 0).1)), (iv ((m_1 a_9 0).2))]) rfl rfl rfl (Nat.le_of_ble_eq_true rfl)) ?_
 intro _ A4 AE R; clear H
 have AF : Sep NoB w A4 [(blk B 30 [(iv ((m_1 a_9 0).1)), (iv ((m_1 a_9 0).2))]), (c_0 true vt6 lr8 lb9 a_9.tabs), (c_3 true vm7 lk10 a_9.macs)] := AE; clear AE AD
 refine s1 R (a_0 rfl R.e) fun Ae p => ?_; clear R Ad
 refine n2 ?_
 have q := p.as [(2, (iv (l_1 a_9 0))), (1, (bptr B 0))] rfl; clear p
 refine a_5 (s2 q (a_8 rfl u_9 ev0 (n_5 _)) ?_)
 rintro Af _ BJ ⟨vt39, vm40, lr41, lb42, lk43, rfl, AO⟩ r; have AG := AF.n_2 AO rfl; clear AO q AF Ae
 refine s2 r (a_8 rfl t_6 (ev2 (evc _ _) (evc _ _)) (f_8 _ _ _)) ?_
 rintro Ag _ BK ⟨rfl, AA⟩ I; have M := AG.step AA; clear AA r AG Af
 refine s2 I (a_8 rfl en_18 (ev3 I.e (evc _ _) I.e) (u_7 a_9 vt39 vm40 lr41 lb42 lk43 _ (c_5 (M.ok 0 _ rfl)) (d_1 (M.ok 1 _ rfl)) i_4 0 150 180)) ?_
 rintro Ah _ BL ⟨rfl, AB⟩ S; have AH := M.step AB; clear AB I M Ag
 refine s1 S (a_1 rfl S.e) fun Ai T => ?_; clear S Ah
 refine s1 T (b_2 rfl T.e rfl) fun Aj U => ?_; clear T Ai
 refine s1 U (b_2 rfl U.e rfl) fun Ak t => ?_; clear U Aj
 refine s2 t (d_2 AH rfl t_7 (cs := [(iv 0), (iv 0)]) rfl) ?_
 rintro Al _ BM ⟨N, rfl, AI⟩ J; clear t AH Ak
 refine s7 J (b_4 AI rfl f_1 J.e J.e (i := 0) rfl (vs := [(iv ((j_3 a_9 0 (150, 180)).1)), (iv ((j_3 a_9 0 (150, 180)).2))]) rfl rfl rfl (Nat.le_of_ble_eq_true rfl)) ?_
 intro _ A5 AJ V; clear J
 have AK : Sep NoB w A5 [(blk N 30 [(iv ((j_3 a_9 0 (150, 180)).1)), (iv ((j_3 a_9 0 (150, 180)).2))]), (c_0 true vt39 lr41 lb42 a_9.tabs), (c_3 true vm40 lk43 a_9.macs), (blk B 30 [(iv ((m_1 a_9 0).1)), (iv ((m_1 a_9 0).2))]), (c_0 true vt6 lr8 lb9 a_9.tabs), (c_3 true vm7 lk10 a_9.macs)] := AJ; clear AJ AI
 refine s1 V (a_0 rfl V.e) fun Am u => ?_; clear V Al
 refine n2 ?_
 have x := u.as [(4, (iv (i_0 a_9 0 (150, 180)))), (3, (bptr N 0)), (2, (iv (l_1 a_9 0))), (1, (bptr B 0))] rfl; clear u
 refine a_5 (s2 x (a_8 rfl u_9 ev0 (n_5 _)) ?_)
 rintro An _ BN ⟨vt77, vm78, lr79, lb80, lk81, rfl, AP⟩ y; have AL := AK.n_2 AP rfl; clear AP x AK Am
 refine s1 y (c_7 rfl (pv2 (evc _ _) (evc _ _)) (i_6 _ _)) fun Ao W => ?_; clear y An
 refine s2 W (d_7 AL rfl (pv1 W.e) l_3 o_7 y_0 (by decide) (cs := [(iv 0), (iv 170)]) (j_2 _ _)) ?_
 rintro Ap _ BO ⟨At, rfl, C⟩ K; clear W AL Ao
 refine s2 K (a_8 rfl en_25 (ev2 K.e K.e) (Spans_ok a_9 vt77 vm78 lr79 lb80 lk81 _ (c_5 (C.ok 1 _ rfl)) (d_1 (C.ok 2 _ rfl)) i_4 ([(0, 170)]) _ (SlAt.of_blk (C.bk 0 rfl) rfl (Nat.le_of_ble_eq_true rfl)) (by decide) ([(161, 164), (259, 266), (83, 87)]) kept_read kept_spans)) ?_
 rintro Aq _ A6 ⟨A, rfl, AQ⟩ X
 have AM : Sep NoB w A6 [(row A 30 2 ([(161, 164), (259, 266), (83, 87)].length) (pairs ([(161, 164), (259, 266), (83, 87)]))), (blk At 98 [(iv 0), (iv 170)]), (c_0 true vt77 lr79 lb80 a_9.tabs), (c_3 true vm78 lk81 a_9.macs), (blk N 30 [(iv ((j_3 a_9 0 (150, 180)).1)), (iv ((j_3 a_9 0 (150, 180)).2))]), (c_0 true vt39 lr41 lb42 a_9.tabs), (c_3 true vm40 lk43 a_9.macs), (blk B 30 [(iv ((m_1 a_9 0).1)), (iv ((m_1 a_9 0).2))]), (c_0 true vt6 lr8 lb9 a_9.tabs), (c_3 true vm7 lk10 a_9.macs)] := C.n_2 AQ rfl; clear AQ K C Ap
 refine s1 X (a_1 rfl X.e) fun Ar Y => ?_; clear X Aq
 refine s1 Y (b_2 rfl Y.e rfl) fun As D => ?_; clear Y Ar
 refine s1 D (b_2 rfl D.e rfl) fun AU E => ?_; clear D As
 refine s1 E (a_0 rfl E.e) fun AV F => ?_; clear E AU
 refine s1 F (a_0 rfl F.e) fun A8 b => ?_; clear F AV
 refine n2 ?_
 have c := b.as [(6, (iv 0)), (5, A), (4, (iv (i_0 a_9 0 (150, 180)))), (3, (bptr N 0)), (2, (iv (l_1 a_9 0))), (1, (bptr B 0))] rfl; clear b
 have d := c.as [(6, (iv 0)), (5, A), (4, (iv (i_0 a_9 0 (150, 180)))), (3, (bptr N 0)), (2, (iv (l_1 a_9 0))), (1, (bptr B 0))] rfl; clear c
 refine i_7 mixed d AM 46 [[], [0], [1], [2], [2], [2, 3, 4], [2, 5], [6], [7], [7, 8], [7, 9], [10], [11], [11], [11, 12, 13], [11, 14], [15], [16], [16, 17], [16, 18], [19], [20], [20, 21], [20, 22], [20, 23], [24], [25], [25, 26], [25, 27], [25], [25, 28, 29], [25, 30], [31], [32], [32, 33], [32, 34], [32], [32, 35, 36], [32, 37], [38], [39], [39, 40], [39, 41], [39], [39, 42, 43], [39, 44]] [(Yd.val (iv (l_1 a_9 0))), (Yd.val (Value.bool true)), (Yd.val (Value.bool true)), (Yd.val (Value.agg #[(iv ((m_1 a_9 0).1)), (iv ((m_1 a_9 0).2))])), (Yd.val (Value.agg #[(iv 6), (iv 9)])), (Yd.val (Value.bool true)), (Yd.val (Value.bool true)), (Yd.val (Value.bool true)), (Yd.val (iv (i_0 a_9 0 (150, 180)))), (Yd.val (Value.bool true)), (Yd.val (Value.bool true)), (Yd.val (Value.bool true)), (Yd.val (Value.agg #[(iv ((j_3 a_9 0 (150, 180)).1)), (iv ((j_3 a_9 0 (150, 180)).2))])), (Yd.val (Value.agg #[(iv 248), (iv 282)])), (Yd.val (Value.bool true)), (Yd.val (Value.bool true)), (Yd.val (Value.bool true)), (Yd.val (iv 0)), (Yd.val (Value.bool true)), (Yd.val (Value.bool true)), (Yd.val (Value.bool true)), (Yd.val A), (Yd.val (iv ([(161, 164), (259, 266), (83, 87)].length : Int))), (Yd.val (Value.bool true)), (Yd.val (Value.bool true)), (Yd.val (Value.bool true)), (Yd.val A), (Yd.val (eptr A (0 * 2))), (Yd.val (Value.agg #[(iv ((([(161, 164), (259, 266), (83, 87)]).getD 0 (0, 0)).1)), (iv ((([(161, 164), (259, 266), (83, 87)]).getD 0 (0, 0)).2))])), (Yd.val (Value.agg #[(iv 161), (iv 164)])), (Yd.val (Value.bool true)), (Yd.val (Value.bool true)), (Yd.val (Value.bool true)), (Yd.val A), (Yd.val (eptr A (1 * 2))), (Yd.val (Value.agg #[(iv ((([(161, 164), (259, 266), (83, 87)]).getD 1 (0, 0)).1)), (iv ((([(161, 164), (259, 266), (83, 87)]).getD 1 (0, 0)).2))])), (Yd.val (Value.agg #[(iv 259), (iv 266)])), (Yd.val (Value.bool true)), (Yd.val (Value.bool true)), (Yd.val (Value.bool true)), (Yd.val A), (Yd.val (eptr A (2 * 2))), (Yd.val (Value.agg #[(iv ((([(161, 164), (259, 266), (83, 87)]).getD 2 (0, 0)).1)), (iv ((([(161, 164), (259, 266), (83, 87)]).getD 2 (0, 0)).2))])), (Yd.val (Value.agg #[(iv 83), (iv 87)])), (Yd.val (Value.bool true)), (Yd.val (Value.bool true))] (by decide +kernel) rfl rfl ?_ ?_
 ·skip
  refine dq (fun a w hA hS hd => a_1 rfl hA.e) ?_
  refine ⟨fun a w hA hS hd => by have e0 := hx hd 0; exact e_2 rfl (dv (j_8 rfl (c_1 e0) (evc _ _)) hS (by show Value.bool _ = _; simp only [decide_eq_true (show (l_1 a_9 0) = 0 from (by decide)), decide_true, decide_false, Bool.not_true, Bool.not_false])), ?_⟩
  refine dq (fun a w hA hS hd => a_1 rfl (hq hd 1)) ?_
  refine dy 2 (fun a w hA hS hd => b_9 rfl f_1 (hA.ev rfl) (hS.bk 7 rfl) (l := [(iv ((m_1 a_9 0).1)), (iv ((m_1 a_9 0).2))]) rfl rfl) ?_
  refine ⟨fun a w hA hS hd => by have e2 := hx hd 2; exact d_9 rfl rfl e2 (dx (a_8 rfl t_6 (ev2 (evc _ _) (evc _ _)) (f_8 _ _ _)) hS (fun _ => rfl)), ?_⟩
  refine ⟨fun a w hA hS hd => by have e2 := hx hd 2; have e3 := hx hd 3; have e4 := hx hd 4; exact d_9 rfl rfl e2 (dv (op_eqlP z_0 rfl (c_1 e3) (c_1 e4)) hS (by show Value.bool _ = _; simp only [(show (decide ((((m_1 a_9 0).1) : Int) = 6) && decide ((((m_1 a_9 0).2) : Int) = 9)) = true from (by decide)), decide_true, decide_false, Bool.not_true, Bool.not_false])), ?_⟩
  refine dq (fun a w hA hS hd => b_5 rfl (hq hd 2) (hq hd 5)) ?_
  refine dq (fun a w hA hS hd => a_1 rfl (hq hd 6)) ?_
  refine dy 7 (fun a w hA hS hd => a_1 rfl hA.e) ?_
  refine ⟨fun a w hA hS hd => by have e7 := hx hd 7; have e8 := hx hd 8; exact d_9 rfl rfl e7 (dv (j_8 rfl (c_1 e8) (evc _ _)) hS (by show Value.bool _ = _; simp only [decide_eq_true (show (i_0 a_9 0 (150, 180)) = 0 from (by decide)), decide_true, decide_false, Bool.not_true, Bool.not_false])), ?_⟩
  refine dq (fun a w hA hS hd => b_5 rfl (hq hd 7) (hq hd 9)) ?_
  refine dq (fun a w hA hS hd => a_1 rfl (hq hd 10)) ?_
  refine dy 11 (fun a w hA hS hd => b_9 rfl f_1 (hA.ev rfl) (hS.bk 4 rfl) (l := [(iv ((j_3 a_9 0 (150, 180)).1)), (iv ((j_3 a_9 0 (150, 180)).2))]) rfl rfl) ?_
  refine ⟨fun a w hA hS hd => by have j := hx hd 11; exact d_9 rfl rfl j (dx (a_8 rfl t_6 (ev2 (evc _ _) (evc _ _)) (f_8 _ _ _)) hS (fun _ => rfl)), ?_⟩
  refine ⟨fun a w hA hS hd => by have j := hx hd 11; have Au := hx hd 12; have Av := hx hd 13; exact d_9 rfl rfl j (dv (op_eqlP z_0 rfl (c_1 Au) (c_1 Av)) hS (by show Value.bool _ = _; simp only [(show (decide ((((j_3 a_9 0 (150, 180)).1) : Int) = 248) && decide ((((j_3 a_9 0 (150, 180)).2) : Int) = 282)) = true from (by decide)), decide_true, decide_false, Bool.not_true, Bool.not_false])), ?_⟩
  refine dq (fun a w hA hS hd => b_5 rfl (hq hd 11) (hq hd 14)) ?_
  refine dq (fun a w hA hS hd => a_1 rfl (hq hd 15)) ?_
  refine dy 16 (fun a w hA hS hd => a_1 rfl hA.e) ?_
  refine dy 16 (fun a w hA hS hd => j_8 rfl (hq hd 17) (evc _ _)) ?_
  refine dq (fun a w hA hS hd => b_5 rfl (hq hd 16) (hq hd 18)) ?_
  refine dq (fun a w hA hS hd => a_1 rfl (hq hd 19)) ?_
  refine dy 20 (fun a w hA hS hd => a_1 rfl hA.e) ?_
  refine dy 20 (fun a w hA hS hd => e_8 rfl x_9 (hq hd 21) (SlAt.e_4 (hS.f_2 0 rfl))) ?_
  refine ⟨fun a w hA hS hd => by have Aw := hx hd 20; have Ax := hx hd 22; exact d_9 rfl rfl Aw (dv (j_8 rfl (c_1 Ax) (evc _ _)) hS (by show Value.bool _ = _; simp only [decide_eq_true (show ([(161, 164), (259, 266), (83, 87)].length : Int) = 3 from (by decide)), decide_true, decide_false, Bool.not_true, Bool.not_false])), ?_⟩
  refine dq (fun a w hA hS hd => b_5 rfl (hq hd 20) (hq hd 23)) ?_
  refine dq (fun a w hA hS hd => a_1 rfl (hq hd 24)) ?_
  refine dy 25 (fun a w hA hS hd => a_1 rfl hA.e) ?_
  refine dy 25 (fun a w hA hS hd => b_6 rfl x_9 f_1 (hq hd 26) (i := 0) (show _ = Value.int .i64 ((0 : Nat) : Int) from (evc _ _)) (SlAt.e_4 (hS.f_2 0 rfl)) (by decide) (by decide)) ?_
  refine dy 25 (fun a w hA hS hd => e_7 rfl f_1 (hq hd 27) (SlAt.e_4 (hS.f_2 0 rfl)) (g_1 (by decide)) rfl (by decide)) ?_
  refine ⟨fun a w hA hS hd => by have k := hx hd 25; exact d_9 rfl rfl k (dx (a_8 rfl t_6 (ev2 (evc _ _) (evc _ _)) (f_8 _ _ _)) hS (fun _ => rfl)), ?_⟩
  refine ⟨fun a w hA hS hd => by have k := hx hd 25; have Ay := hx hd 28; have Az := hx hd 29; exact d_9 rfl rfl k (dv (op_eqlP z_0 rfl (c_1 Ay) (c_1 Az)) hS (by show Value.bool _ = _; simp only [(show (decide ((((([(161, 164), (259, 266), (83, 87)]).getD 0 (0, 0)).1) : Int) = 161) && decide ((((([(161, 164), (259, 266), (83, 87)]).getD 0 (0, 0)).2) : Int) = 164)) = true from (by decide)), decide_true, decide_false, Bool.not_true, Bool.not_false])), ?_⟩
  refine dq (fun a w hA hS hd => b_5 rfl (hq hd 25) (hq hd 30)) ?_
  refine dq (fun a w hA hS hd => a_1 rfl (hq hd 31)) ?_
  refine dy 32 (fun a w hA hS hd => a_1 rfl hA.e) ?_
  refine dy 32 (fun a w hA hS hd => b_6 rfl x_9 f_1 (hq hd 33) (i := 1) (show _ = Value.int .i64 ((1 : Nat) : Int) from (evc _ _)) (SlAt.e_4 (hS.f_2 0 rfl)) (by decide) (by decide)) ?_
  refine dy 32 (fun a w hA hS hd => e_7 rfl f_1 (hq hd 34) (SlAt.e_4 (hS.f_2 0 rfl)) (g_1 (by decide)) rfl (by decide)) ?_
  refine ⟨fun a w hA hS hd => by have m := hx hd 32; exact d_9 rfl rfl m (dx (a_8 rfl t_6 (ev2 (evc _ _) (evc _ _)) (f_8 _ _ _)) hS (fun _ => rfl)), ?_⟩
  refine ⟨fun a w hA hS hd => by have m := hx hd 32; have A0 := hx hd 35; have A1 := hx hd 36; exact d_9 rfl rfl m (dv (op_eqlP z_0 rfl (c_1 A0) (c_1 A1)) hS (by show Value.bool _ = _; simp only [(show (decide ((((([(161, 164), (259, 266), (83, 87)]).getD 1 (0, 0)).1) : Int) = 259) && decide ((((([(161, 164), (259, 266), (83, 87)]).getD 1 (0, 0)).2) : Int) = 266)) = true from (by decide)), decide_true, decide_false, Bool.not_true, Bool.not_false])), ?_⟩
  refine dq (fun a w hA hS hd => b_5 rfl (hq hd 32) (hq hd 37)) ?_
  refine dq (fun a w hA hS hd => a_1 rfl (hq hd 38)) ?_
  refine dy 39 (fun a w hA hS hd => a_1 rfl hA.e) ?_
  refine dy 39 (fun a w hA hS hd => b_6 rfl x_9 f_1 (hq hd 40) (i := 2) (show _ = Value.int .i64 ((2 : Nat) : Int) from (evc _ _)) (SlAt.e_4 (hS.f_2 0 rfl)) (by decide) (by decide)) ?_
  refine dy 39 (fun a w hA hS hd => e_7 rfl f_1 (hq hd 41) (SlAt.e_4 (hS.f_2 0 rfl)) (g_1 (by decide)) rfl (by decide)) ?_
  refine ⟨fun a w hA hS hd => by have n := hx hd 39; exact d_9 rfl rfl n (dx (a_8 rfl t_6 (ev2 (evc _ _) (evc _ _)) (f_8 _ _ _)) hS (fun _ => rfl)), ?_⟩
  refine ⟨fun a w hA hS hd => by have n := hx hd 39; have A2 := hx hd 42; have A3 := hx hd 43; exact d_9 rfl rfl n (dv (op_eqlP z_0 rfl (c_1 A2) (c_1 A3)) hS (by show Value.bool _ = _; simp only [(show (decide ((((([(161, 164), (259, 266), (83, 87)]).getD 2 (0, 0)).1) : Int) = 83) && decide ((((([(161, 164), (259, 266), (83, 87)]).getD 2 (0, 0)).2) : Int) = 87)) = true from (by decide)), decide_true, decide_false, Bool.not_true, Bool.not_false])), ?_⟩
  refine dq (fun a w hA hS hd => b_5 rfl (hq hd 39) (hq hd 44)) ?_
  trivial
 intro AW BG f AR h; clear d AM
 have G := f.add (hz h 45); clear f
 clear h
 refine s1 G (a_0 rfl G.e) fun A9 g => ?_; clear G AW
 exact n1 (c_6 (b_0 g (.inl rfl) (a_2 g rfl (.tmp rfl)) (⟨rfl, AR.ext⟩)))
end Go.Proofs.Ytohgladndklciaa

namespace Go.Proofs.Ytohgladndklciaa
open Go.RowKit Go.Shelf Go.Eng Go.Hard
theorem en_17 : ∀ args w, (callFunc 17 args).run Try.prog w = .ok (.enter 17 args) w := enters_of Try.func17 (by kernel_rfl) rfl
theorem en_34 : ∀ args w, (callFunc 34 args).run Try.prog w = .ok (.enter 34 args) w := enters_of Try.func34 (by kernel_rfl) rfl
theorem en_36 : ∀ args w, (callFunc 36 args).run Try.prog w = .ok (.enter 36 args) w := enters_of Try.func36 (by kernel_rfl) rfl
theorem en_71 : ∀ args w, (callFunc 71 args).run Try.prog w = .ok (.enter 71 args) w := enters_of Try.func71 (by kernel_rfl) rfl
theorem en_39 : ∀ args w, (callFunc 39 args).run Try.prog w = .ok (.enter 39 args) w := enters_of Try.func39 (by kernel_rfl) rfl
theorem y_8 : tyK Try.prog 53 = some (false, 1) := by kernel_rfl
theorem en_74 : ∀ args w, (callFunc 74 args).run Try.prog w = .ok (.enter 74 args) w := enters_of Try.func74 (by kernel_rfl) rfl
theorem ty_116 : tyK Try.prog 116 = some (false, 1) := by kernel_rfl
theorem ty_134 : tyK Try.prog 134 = some (false, 1) := by kernel_rfl
theorem en_75 : ∀ args w, (callFunc 75 args).run Try.prog w = .ok (.enter 75 args) w := enters_of Try.func75 (by kernel_rfl) rfl
theorem en_73 : ∀ args w, (callFunc 73 args).run Try.prog w = .ok (.enter 73 args) w := enters_of Try.func73 (by kernel_rfl) rfl
theorem ze_116 : (Try.prog.info? 116).bind (·.zero) = some (Value.pointer none) := by kernel_rfl
theorem ze_44 : (Try.prog.info? 44).bind (·.zero) = some (Value.slice none 0 0) := by kernel_rfl
theorem ze_134 : (Try.prog.info? 134).bind (·.zero) = some Value.nilFunc := by kernel_rfl
theorem en_41 : ∀ args w, (callFunc 41 args).run Try.prog w = .ok (.enter 41 args) w := enters_of Try.func41 (by kernel_rfl) rfl
theorem o_9 (x0_0 : Int) (x0_1 : Int) (x1_0 : Int) (x1_1 : Int) : Instr.fill (fun i => some (i * 2, 2)) ((Array.range (2 * 2)).map ((Value.agg #[(iv 0), (iv 0)]).cells[· % (Value.agg #[(iv 0), (iv 0)]).cells.size]!)) [(0, .agg #[(.int .i64 x0_0), (.int .i64 x0_1)]), (1, .agg #[(.int .i64 x1_0), (.int .i64 x1_1)])] = some (([(.int .i64 x0_0), (.int .i64 x0_1), (.int .i64 x1_0), (.int .i64 x1_1)] : List Value).toArray) := by kernel_rfl
theorem bs_3_3_0i_1i_2i (x0_0 : Int) (x1_0 : Int) (x2_0 : Int) : Instr.fill (fun i => some (i * 1, 1)) ((Array.range (3 * 1)).map ((iv 0).cells[· % (iv 0).cells.size]!)) [(0, (.int .i64 x0_0)), (1, (.int .i64 x1_0)), (2, (.int .i64 x2_0))] = some (([(.int .i64 x0_0), (.int .i64 x1_0), (.int .i64 x2_0)] : List Value).toArray) := by kernel_rfl
theorem bd_98_0i (x0_0 : Int) (w : World) : (Instr.build 98 #[(0, (.int .i64 x0_0))]).run Try.prog w = .ok (.agg #[(.int .i64 x0_0), (iv 0)]) w := by kernel_rfl
theorem bd_37_  (w : World) : (Instr.build 37 #[]).run Try.prog w = .ok (.agg #[(iv 0), (Value.slice none 0 0), (Value.slice none 0 0)]) w := by kernel_rfl
end Go.Proofs.Ytohgladndklciaa

namespace Go.Hard
section
variable {s t : g_5} {e f : Int} {k : Nat}
end
section
variable {b : f_7} {l : List (Int × Int)} {k j : Nat}
theorem start_free (hb : m_2 b) (hl : t_5 b l) (hk : k < b.scales.toNat) (h : ∀ i, i < l.length → (b.macs.getD (l.getD i (0, 0)).1.toNat mac0).scale ≠ (k : Int)) : ∀ j, j ≤ l.length → at' (c_2 b l e_5 j) k = rng0
  | 0, _ => by
    have := hb.four
    have : k < 4 := by omega
    match k, this with
    | 0, _ => rfl
    | 1, _ => rfl
    | 2, _ => rfl
    | 3, _ => rfl
  | j + 1, hj => by
    have ih := start_free hb hl hk h j (by omega)
    have hs := t_3 b l e_5 j
    have h4 : e_5.length = 4 := rfl
    have hsc := (hl.macV hb (k := j) (by omega)).scale
    have hne := h j (by omega)
    have hn := hb.four
    have hlt := scale_lt hb hl (k := j) (by omega)
    rw [startU_succ, at_set (by omega), if_neg]
    · exact ih
    · unfold m_8; omega
variable {i : Nat}
end
end Go.Hard

namespace Go.Proofs.Ytohgladndklciaa
open Go.RowKit Go.Shelf Go.Eng Go.Hard
end Go.Proofs.Ytohgladndklciaa

namespace Go.Hard
section
variable {b : f_7} {l : List (Int × Int)} {z : List Int} {t : TabD} {k : Nat}
theorem fitT_none (h : (l_5 t (z.getD t.frm.toNat 0)).isSome = false) : s_8 z t = true := by
  unfold s_8
  cases hm : l_5 t (z.getD t.frm.toNat 0) with
  | none => rfl
  | some r => rw [hm] at h; cases h
theorem fitT_some (h : (l_5 t (z.getD t.frm.toNat 0)).isSome = true) : s_8 z t = inB (z.getD t.dst.toNat 0) ((d_8 t (z.getD t.frm.toNat 0)).1 - t.err) ((d_8 t (z.getD t.frm.toNat 0)).2 + t.err) := by
  unfold s_8 d_8
  cases hm : l_5 t (z.getD t.frm.toNat 0) with
  | none => rw [hm] at h; cases h
  | some r => rfl
theorem fitR_is : fitRead b l z k = inB ((l.getD k (0, 0)).2 - z.getD (b.macs.getD (l.getD k (0, 0)).1.toNat mac0).scale.toNat 0) (d_5 (b.macs.getD (l.getD k (0, 0)).1.toNat mac0)).1 (d_5 (b.macs.getD (l.getD k (0, 0)).1.toNat mac0)).2 := rfl
theorem fits_iff : y_6 b l z = true ↔ (z.length : Int) = b.scales ∧ (∀ i, i < z.length → inB (z.getD i 0) 0 100000 = true) ∧ (∀ i, i < l.length → fitRead b l z i = true) ∧ ∀ i, i < b.tabs.length → s_8 z (b.tabs.getD i tab0) = true := by
  have e1 : z.all valueB = true ↔ ∀ i, i < z.length → inB (z.getD i 0) 0 100000 = true := by
    rw [List.all_eq_true]; exact (p_8 (p := valueB) (d := 0)).symm.trans g_7
  have e2 : b.tabs.all (s_8 z) = true ↔ ∀ i, i < b.tabs.length → s_8 z (b.tabs.getD i tab0) = true := by
    rw [List.all_eq_true]; exact (p_8 (p := s_8 z) (d := tab0)).symm.trans g_7
  unfold y_6
  rw [Bool.and_eq_true, Bool.and_eq_true, Bool.and_eq_true, decide_eq_true_eq, e1, e2, List.all_eq_true]
  simp only [List.mem_range, and_assoc]
theorem fits_not (h : ¬ ((z.length : Int) = b.scales ∧ (∀ i, i < z.length → inB (z.getD i 0) 0 100000 = true) ∧ (∀ i, i < l.length → fitRead b l z i = true) ∧ ∀ i, i < b.tabs.length → s_8 z (b.tabs.getD i tab0) = true)) : y_6 b l z = false := by
  cases hf : y_6 b l z with
  | false => rfl
  | true => exact absurd (fits_iff.1 hf) h
theorem fits_n0 (h : ¬ (z.length : Int) = b.scales) : y_6 b l z = false := fits_not fun g => h g.1
theorem fits_n1' (h : (List.range z.length).all (fun i => inB (z.getD i 0) 0 100000) = false) : y_6 b l z = false := fits_not fun g => by
  rw [List.all_eq_true.2 fun i hi => g.2.1 i (List.mem_range.1 hi)] at h; cases h
theorem fits_n2 (hk : k < l.length) (h : inB ((l.getD k (0, 0)).2 - z.getD (b.macs.getD (l.getD k (0, 0)).1.toNat mac0).scale.toNat 0) (d_5 (b.macs.getD (l.getD k (0, 0)).1.toNat mac0)).1 (d_5 (b.macs.getD (l.getD k (0, 0)).1.toNat mac0)).2 = false) : y_6 b l z = false := fits_not fun g => by have := g.2.2.1 k hk; rw [fitR_is, h] at this; cases this
theorem fits_y (h0 : (z.length : Int) = b.scales) (h1 : ∀ i, i < z.length → inB (z.getD i 0) 0 100000 = true) (h2 : ∀ i, i < l.length → fitRead b l z i = true) (h3 : ∀ i, i < b.tabs.length → s_8 z (b.tabs.getD i tab0) = true) : y_6 b l z = true := fits_iff.2 ⟨h0, h1, h2, h3⟩
theorem fits_rest (h0 : (z.length : Int) = b.scales) (h1 : (List.range z.length).all (fun i => inB (z.getD i 0) 0 100000) = true) (h2 : ∀ i, i < l.length → fitRead b l z i = true) : (List.range b.tabs.length).all (fun i => s_8 z (b.tabs.getD i tab0)) = y_6 b l z := by
  cases hf : (List.range b.tabs.length).all (fun i => s_8 z (b.tabs.getD i tab0)) with
  | true => exact (fits_y h0 (fun i hi => List.all_eq_true.1 h1 i (List.mem_range.2 hi)) h2 fun i hi => List.all_eq_true.1 hf i (List.mem_range.2 hi)).symm
  | false =>
    refine (fits_not fun g => ?_).symm
    rw [List.all_eq_true.2 fun i hi => g.2.2.2 i (List.mem_range.1 hi)] at hf; cases hf
end
end Go.Hard

namespace Go.Hard
def o_1 (nb : Nat) : Nat → List Int → Nat → List (List Int)
  | 0, l, _ => [l]
  | m + 1, l, next => (List.range' next (nb - next)).flatMap fun (k : Nat) => o_1 nb m (l ++ [(k : Int)]) (k + 1)
theorem setsF_mem (nb : Nat) : ∀ (ys l : List Int) (next : Nat), (∀ y ∈ ys, (next : Int) ≤ y ∧ y ≤ (nb : Int) - 1) → ys.Pairwise (· < ·) → l ++ ys ∈ o_1 nb ys.length l next
  | [], l, next, _, _ => by simp [o_1]
  | y :: ys, l, next, hb, hp => by
    have hy := hb y (List.mem_cons_self ..)
    rw [List.length_cons, o_1, List.mem_flatMap]
    refine ⟨y.toNat, List.mem_range'_1.2 ⟨by omega, by omega⟩, ?_⟩
    have e : ((y.toNat : Nat) : Int) = y := by omega
    rw [e]
    have := setsF_mem nb ys (l ++ [y]) (y.toNat + 1) (fun z hz => by
      have h1 := (List.pairwise_cons.1 hp).1 z hz
      have h2 := hb z (List.mem_cons_of_mem _ hz)
      omega) (List.pairwise_cons.1 hp).2
    rwa [List.append_assoc] at this
def hasB (l : List Int) (k : Int) : Bool := (List.range l.length).any fun i => decide (k = l.getD i 0)
theorem hasB_iff {l : List Int} {k : Int} : hasB l k = true ↔ k ∈ l := by
  unfold hasB
  rw [List.any_eq_true]
  constructor
  · rintro ⟨i, hi, h⟩
    rw [List.mem_range] at hi
    rw [of_decide_eq_true h]
    simp only [List.getD, List.getElem?_eq_getElem hi, Option.getD_some]
    exact List.getElem_mem hi
  · intro h
    obtain ⟨i, hi, e⟩ := List.getElem_of_mem h
    exact ⟨i, List.mem_range.2 hi, decide_eq_true (by simp [List.getD, hi, e])⟩
theorem find_app {p : List Int → Bool} : ∀ {x y : List (List Int)}, x.any p = false → (x ++ y).find? p = y.find? p
  | [], _, _ => rfl
  | a :: x, y, h => by
    simp only [List.any_cons, Bool.or_eq_false_iff] at h
    rw [List.cons_append, List.find?_cons, h.1]
    exact find_app h.2
theorem find_app2 {p : List Int → Bool} {z : List Int} : ∀ {x y : List (List Int)}, x.find? p = some z → (x ++ y).find? p = some z
  | [], _, h => by cases h
  | a :: x, y, h => by
    rw [List.cons_append, List.find?_cons]
    rw [List.find?_cons] at h
    split <;> rename_i hp
    · rw [hp] at h; exact h
    · rw [hp] at h; exact find_app2 h
def s_5 (nb k : Nat) : List (List Int) := (List.range k).flatMap fun m => o_1 nb m [] 0
theorem t_8 (nb k : Nat) : s_5 nb (k + 1) = s_5 nb k ++ o_1 nb k [] 0 := by
  unfold s_5; rw [List.range_succ, List.flatMap_append]; simp
theorem allUpto_pre (nb k : Nat) : ∀ n, ∃ rest, s_5 nb (k + n) = s_5 nb k ++ rest
  | 0 => ⟨[], by simp⟩
  | n + 1 => by
    obtain ⟨rest, e⟩ := allUpto_pre nb k n
    exact ⟨rest ++ o_1 nb (k + n) [] 0, by rw [← Nat.add_assoc, t_8, e, List.append_assoc]⟩
def numsF (n : Nat) : List Int := (List.range n).map fun (i : Nat) => (i : Int)
theorem nums_sets (n : Nat) : numsF n ∈ o_1 n n [] 0 := by
  have h := setsF_mem n (numsF n) [] 0 (fun y hy => by
    obtain ⟨i, hi, rfl⟩ := List.mem_map.1 hy
    rw [List.mem_range] at hi; omega) (by
    unfold numsF; rw [List.pairwise_map]
    exact List.pairwise_lt_range.imp (fun h => by omega))
  have e : (numsF n).length = n := by simp [numsF]
  rwa [e, List.nil_append] at h
def woSel (l : List Int) (k : Nat) : List Nat := (List.range k).filter fun (i : Nat) => !hasB l (i : Int)
theorem woSel_lt {l : List Int} {k i : Nat} (h : i ∈ woSel l k) : i < k := List.mem_range.1 (List.mem_filter.1 h).1
theorem woSel_len (l : List Int) (k : Nat) : (woSel l k).length ≤ k := by unfold woSel; exact Nat.le_trans (List.length_filter_le ..) (by simp)
theorem getD_memN {sel : List Nat} {i : Nat} (h : i < sel.length) : sel.getD i 0 ∈ sel := by
  simp only [List.getD, List.getElem?_eq_getElem h, Option.getD_some]; exact List.getElem_mem h
def d_0 (l : List (Int × Int)) (s : List Int) (k : Nat) : List (Int × Int) := (woSel s k).map fun i => l.getD i (0, 0)
def woF (l : List (Int × Int)) (s : List Int) : List (Int × Int) := d_0 l s l.length
def okS (b : f_7) (l : List (Int × Int)) (s : List Int) : Bool := (l_6 b (woF l s)).isSome
def h_1 (n : Nat) (p : List Int → Bool) (m : Nat) (s : List Int) (next : Nat) : Bool := (o_1 n m s next).any p
def x_4 (b : f_7) (l : List (Int × Int)) : List Int := ((s_5 l.length (l.length + 1)).find? (okS b l)).getD []
section
variable {n m next k : Nat} {p : List Int → Bool} {s : List Int} {l : List (Int × Int)} {b : f_7}
theorem sets_step (n m : Nat) (s : List Int) (next : Nat) (h : next < n) : o_1 n (m + 1) s next = o_1 n m (s ++ [(next : Int)]) (next + 1) ++ o_1 n (m + 1) s (next + 1) := by
  rw [o_1, o_1, show n - next = (n - (next + 1)) + 1 by omega, List.range'_succ, List.flatMap_cons]
theorem sets_none : ∀ (m : Nat) (s : List Int) (next : Nat), n < next + (m + 1) → o_1 n (m + 1) s next = []
  | 0, s, next, h => by rw [o_1, show n - next = 0 by omega]; rfl
  | m + 1, s, next, h => by
    rw [o_1, List.flatMap_eq_nil_iff]
    intro k hk
    rw [List.mem_range'_1] at hk
    exact sets_none m _ _ (by omega)
theorem lv_0 : h_1 n p 0 s next = p s := by simp [h_1, o_1]
theorem lv_f0 (h : p s = true) : (o_1 n 0 s next).find? p = some s := by simp [o_1, h]
theorem lv_hit {z : List Int} (h : next < n) (hy : h_1 n p m (s ++ [(next : Int)]) (next + 1) = true) (hf : (o_1 n m (s ++ [(next : Int)]) (next + 1)).find? p = some z) : h_1 n p (m + 1) s next = true ∧ (o_1 n (m + 1) s next).find? p = some z := by
  unfold h_1 at hy ⊢
  rw [sets_step n m s next h]
  exact ⟨by rw [List.any_append, hy]; rfl, find_app2 hf⟩
theorem lv_go (h : next < n) (hn : h_1 n p m (s ++ [(next : Int)]) (next + 1) = false) : h_1 n p (m + 1) s next = h_1 n p (m + 1) s (next + 1) := by
  unfold h_1 at hn ⊢
  rw [sets_step n m s next h, List.any_append, hn, Bool.false_or]
theorem lv_gof {z : List Int} (h : next < n) (hn : h_1 n p m (s ++ [(next : Int)]) (next + 1) = false) (hf : (o_1 n (m + 1) s (next + 1)).find? p = some z) : (o_1 n (m + 1) s next).find? p = some z := by
  rw [sets_step n m s next h, find_app hn]; exact hf
theorem lv_no (h : next < n) (hn : h_1 n p m (s ++ [(next : Int)]) (next + 1) = false) (hm : n ≤ next + (m + 1)) : h_1 n p (m + 1) s next = false := by
  rw [lv_go h hn]; unfold h_1; rw [sets_none _ _ _ (by omega)]; rfl
theorem all_go (hn : (s_5 n k).any p = false) (hy : h_1 n p k [] 0 = false) : (s_5 n (k + 1)).any p = false := by
  rw [t_8, List.any_append, hn]
  unfold h_1 at hy; rw [hy]; rfl
theorem kep_len (l : List (Int × Int)) (s : List Int) (k : Nat) : (d_0 l s k).length ≤ k := by unfold d_0; rw [List.length_map]; exact woSel_len ..
theorem kep_at {i : Nat} (hi : i < (d_0 l s k).length) : ∃ j, j < k ∧ (d_0 l s k).getD i (0, 0) = l.getD j (0, 0) := by
  unfold d_0 at hi ⊢
  rw [List.length_map] at hi
  exact ⟨_, woSel_lt (getD_memN hi), by simp [List.getD, hi]⟩
theorem kep_read (hl : t_5 b l) (hk : k ≤ l.length) : t_5 b (d_0 l s k) := by
  have hlen := hl.len
  have := kep_len l s k
  refine ⟨by omega, fun i hi => ?_, fun i hi => ?_, fun i hi => ?_⟩ <;> obtain ⟨j, hj, e⟩ := kep_at hi <;> rw [e]
  · exact hl.mac j (by omega)
  · exact hl.read j (by omega)
  · exact hl.off j (by omega)
def r_0 (s : List Int) (k : Nat) : Prop := ∀ y ∈ s, (0 : Int) ≤ y ∧ y < (k : Int)
theorem r_0.nil : r_0 [] k := fun _ h => by cases h
theorem r_0.more (h : r_0 s k) : r_0 s (k + 1) := fun y hy => by have := h y hy; omega
theorem r_0.snoc (h : r_0 s k) : r_0 (s ++ [(k : Int)]) (k + 1) := fun y hy => by
  rcases List.mem_append.1 hy with hy | hy
  · have := h y hy; omega
  · rw [List.mem_singleton] at hy; omega
theorem kep_out (h : r_0 s k) : d_0 l (s ++ [(k : Int)]) (k + 1) = d_0 l s k := by
  unfold d_0 woSel
  congr 1
  rw [List.range_succ, List.filter_append, List.filter_cons, if_neg (by rw [hasB_iff.2 (List.mem_append_right _ (List.mem_singleton.2 rfl))]; decide)]
  rw [List.filter_nil, List.append_nil]
  refine List.filter_congr fun i hi => ?_
  rw [List.mem_range] at hi
  congr 1
  rw [Bool.eq_iff_iff, hasB_iff, hasB_iff, List.mem_append, List.mem_singleton]
  exact ⟨fun h => h.resolve_right (by omega), .inl⟩
theorem kep_in (h : r_0 s k) : d_0 l s (k + 1) = d_0 l s k ++ [l.getD k (0, 0)] := by
  unfold d_0 woSel
  rw [List.range_succ, List.filter_append, List.filter_cons, if_pos, List.filter_nil, List.map_append]; rfl
  cases hb : hasB s (k : Int) with
  | false => rfl
  | true => have := h _ (hasB_iff.1 hb); omega
theorem spans_free (hb : m_2 b) : (l_6 b []).isSome = true := by
  have hl : t_5 b [] := ⟨Nat.zero_le _, fun _ h => absurd h (Nat.not_lt_zero _), fun _ h => absurd h (Nat.not_lt_zero _), fun _ h => absurd h (Nat.not_lt_zero _)⟩
  have hw := spans_is hb hl
  have hn := hb.four
  have hat : ∀ i, i < b.scales.toNat → at' (r_2 b []) i = rng0 := fun i hi => start_free hb hl hi (fun _ h => absurd h (Nat.not_lt_zero _)) 0 (Nat.zero_le _)
  cases hs : l_6 b [] with
  | some t => rfl
  | none =>
    rw [hs] at hw
    refine absurd ⟨Sub.refl _ _, fun i hi => ?_, fun t ht => ?_⟩ (hw (r_2 b []))
    · rw [hat i hi]; decide
    · have hv := hb.natV t ht
      have h1 := hv.frm
      have h3 := hv.len
      intro hc
      rw [hat _ (by omega)] at hc
      have h4 := (u_8.1 hc).1
      have := (hv.bnd 0 (by omega)).1.1
      have h5 : (1 : Int) ≤ (rng0).1 := by omega
      exact absurd h5 (by decide)
theorem ok_all (hb : m_2 b) : okS b l (numsF l.length) = true := by
  have e : woF l (numsF l.length) = [] := by
    unfold woF d_0
    rw [List.map_eq_nil_iff]
    unfold woSel
    rw [List.filter_eq_nil_iff]
    intro i hi
    rw [List.mem_range] at hi
    rw [show hasB (numsF l.length) (i : Int) = true from hasB_iff.2 (List.mem_map.2 ⟨i, List.mem_range.2 hi, rfl⟩)]; decide
  unfold okS; rw [e]; exact spans_free hb
theorem lv_all (hb : m_2 b) : h_1 l.length (okS b l) l.length [] 0 = true := List.any_eq_true.2 ⟨_, nums_sets _, ok_all hb⟩
theorem doubt_found {z : List Int} (hk : k ≤ l.length) (hn : (s_5 l.length k).any (okS b l) = false) (hf : (o_1 l.length k [] 0).find? (okS b l) = some z) : x_4 b l = z := by
  unfold x_4
  obtain ⟨rest, e⟩ := allUpto_pre l.length (k + 1) (l.length - k)
  rw [show l.length + 1 = k + 1 + (l.length - k) by omega, e, t_8, List.append_assoc, find_app hn, find_app2 hf]; rfl
theorem all_not (hb : m_2 b) (hk : l.length < k) (hn : (s_5 l.length k).any (okS b l) = false) : False := by
  obtain ⟨rest, e⟩ := allUpto_pre l.length (l.length + 1) (k - (l.length + 1))
  rw [show l.length + 1 + (k - (l.length + 1)) = k by omega] at e
  rw [e, t_8] at hn
  simp only [List.any_append, Bool.or_eq_false_iff] at hn
  have := lv_all (l := l) hb
  unfold h_1 at this
  rw [hn.1.2] at this; cases this
end
end Go.Hard
