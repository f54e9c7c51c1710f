/-
  The tables of a book by the scales that they convert: what the map of a bench holds.
  One pass over the tables, in the order of the scales that they lead to, and from: what is left to do.
  How the program finds the spans: the first ranges reading by reading, then pass by pass.
  Books built in memory: slices of slices, one more; tables and machines as one thing.
-/
import Derived.Test.YtohgladndklciaaBc
import Derived.Test.YtohgladndklciaaEngb
import Derived.Test.YtohgladndklciaaEnga
set_option linter.unusedSimpArgs false
set_option linter.unusedVariables false
namespace Go.Proofs.Ytohgladndklciaa
open Go.RowKit Go.Shelf Go.Eng Go.Hard
theorem aa_5 : tyK Try.prog 25 = some (true, 3) := by kernel_rfl
theorem en_21 : ∀ args w, (callFunc 21 args).run Try.prog w = .ok (.enter 21 args) w := enters_of Try.func21 (by kernel_rfl) rfl
theorem ty_67 : tyK Try.prog 67 = some (true, 2) := by kernel_rfl
theorem fd_67_0 : fldK Try.prog 67 0 = some 0 := by kernel_rfl
theorem fd_67_1 : fldK Try.prog 67 1 = some 1 := by kernel_rfl
theorem en_35 : ∀ args w, (callFunc 35 args).run Try.prog w = .ok (.enter 35 args) w := enters_of Try.func35 (by kernel_rfl) rfl
theorem en_59 : ∀ args w, (callFunc 59 args).run Try.prog w = .ok (.enter 59 args) w := enters_of Try.func59 (by kernel_rfl) rfl
theorem en_32 : ∀ args w, (callFunc 32 args).run Try.prog w = .ok (.enter 32 args) w := enters_of Try.func32 (by kernel_rfl) rfl
theorem en_67 : ∀ args w, (callFunc 67 args).run Try.prog w = .ok (.enter 67 args) w := enters_of Try.func67 (by kernel_rfl) rfl
theorem en_68 : ∀ args w, (callFunc 68 args).run Try.prog w = .ok (.enter 68 args) w := enters_of Try.func68 (by kernel_rfl) rfl
theorem bd_30_  (w : World) : (Instr.build 30 #[]).run Try.prog w = .ok (.agg #[(Value.int .i64 0), (Value.int .i64 0)]) w := by kernel_rfl
theorem en_49 : ∀ args w, (callFunc 49 args).run Try.prog w = .ok (.enter 49 args) w := enters_of Try.func49 (by kernel_rfl) rfl
theorem en_50 : ∀ args w, (callFunc 50 args).run Try.prog w = .ok (.enter 50 args) w := enters_of Try.func50 (by kernel_rfl) rfl
theorem ze_103 : (Try.prog.info? 103).bind (·.zero) = some (Value.agg #[(Value.int .i64 0), (Value.slice none 0 0)]) := by kernel_rfl
theorem bs_3_1_0i (x0_0 : Int) : Instr.fill (fun i => some (i * 1, 1)) ((Array.range (1 * 1)).map ((Value.int .i64 0).cells[· % (Value.int .i64 0).cells.size]!)) [(0, (.int .i64 x0_0))] = some (([(.int .i64 x0_0)] : List Value).toArray) := by kernel_rfl
theorem el_3 : elK Try.prog 3 = some ((Value.int .i64 0), 1, 8) := by kernel_rfl
set_option maxHeartbeats 4000000 in
theorem rreads_ok (b : h_6) (vt vm : Value) (lr lb lk : Nat → Value) (w : World) (hT : i_5 w vt lr lb b.tabs) (hM : j_6 w vm lk b.macs) (hth : n_4 b) (l : List (Int × Int)) (xl : Value) (hxl : SlAt w xl 2 l.length (pairs l)) (hlb : l.length ≤ 1000000) :
  Calls Try.prog 59 #[(Value.agg #[(Value.int .i64 b.scales), vt, vm]), xl] w (Ret fun v w' => v = .int .i64 (j_9 b l) ∧ Ext NoB w w') := by
 refine a_8 Try.func59 rfl fun a0 p => ?_
 replace p : Fr 58 [] [(0, (Value.agg #[(Value.int .i64 b.scales), vt, vm])), (1, xl)] a0 := p
 have hml9 := hth.ml
 have A7 : Sep NoB w w [(d_8 false vt lr lb b.tabs), (e_6 false vm lk b.macs), (sl xl 2 l.length (pairs l))] := f_1 ⟨rfl, hT, rfl, hM, rfl, hxl, trivial⟩
 refine m2 ?_
 refine s2 p (f_0 A7 rfl (p.ev rfl) (cs := [(Value.int .i64 b.scales), vt, vm]) rfl) ?_
 rintro a1 _ w3 ⟨I, rfl, q⟩ A6; clear p A7 a0
 refine s1 A6 (a_0 rfl (evc _ _)) fun a6 Am => ?_; clear A6 a1
 refine n2 ?_
 refine m2 ?_
 refine s1 Am (c_5 rfl aa_5 (Am.ev rfl) (q.bk 0 rfl) (l := [(Value.int .i64 b.scales), vt, vm]) rfl rfl) fun a8 Aq => ?_; clear Am a6
 refine s2 Aq (b_4 rfl en_21 (ev1 (Aq.ev rfl)) (rfault_ok b vt vm lr lb lk _ (c_1 (q.ok 1 _ rfl)) (c_8 (q.ok 2 _ rfl)) hth)) ?_
 rintro BU _ B4 ⟨rfl, Aw⟩ r; have P := q.step Aw; clear Aw Aq q a8
 refine s1 r (a_0 rfl (r.ev rfl)) fun BV s => ?_; clear r BU
 refine n4 ?_
 refine s1 s (a_1 rfl (s.ev rfl)) fun BW t => ?_; clear s BV
 refine s1 t (t_2 rfl (t.ev rfl) (evc _ _)) fun A3 D => ?_; clear t BW
 refine n1 ?_
 by_cases Az : (f_9 b) = 0
 ·skip
  rw [decide_eq_true Az] at D
  refine b_7 D rfl ?_
  refine d_0 ?_
  refine b_0 ?_
  refine b_8 ?_
  refine b_8 ?_
  have u := D.as [(2, (bptr I 0)), (1, xl)] rfl; clear D
  refine a_5 ?_
  refine s1 u (a_1 rfl (u.ev rfl)) fun BX x => ?_; clear u A3
  refine s1 x (d_6 rfl z_9 (x.ev rfl) (P.sk 3 rfl)) fun BY y => ?_; clear x BX
  refine s1 y (j_0 rfl (y.ev rfl) (evc _ _)) fun A4 E => ?_; clear y BY
  refine n1 ?_
  by_cases A0 : 8 < (l.length : Int)
  ·skip
   rw [decide_eq_true A0] at E
   refine c_3 E rfl ?_
   refine m2 ?_
   refine s1 E (a_0 rfl (evc _ _)) fun B1 Af => ?_; clear E A4
   refine n1 ?_
   refine c_9 ?_
   refine a_6 ?_
   refine a_9 Af (.inl rfl) (a_4 Af rfl (.tmp rfl)) ?_
   exact ⟨i_2 (Eq.symm (read_3 (by assumption) (by omega))), P.ext⟩
  skip
  rw [decide_eq_false A0] at E
  refine b_7 E rfl ?_
  refine d_0 ?_
  refine b_0 ?_
  refine b_8 ?_
  refine m2 ?_
  refine s1 E (a_0 rfl (evc _ _)) fun BZ Ag => ?_; clear E A4
  refine n1 ?_
  refine c_7 ?_
  have Ah := Ag.as [(6, (Value.int .i64 0)), (2, (bptr I 0)), (1, xl)] rfl; clear Ag
  refine h_3 (G := Nat) (fun (k : Nat) a_ w_ => Fr 58 [] [(6, (Value.int .i64 (k : Int))), (2, (bptr I 0)), (1, xl)] a_ ∧ Sep NoB w w_ [(blk I 25 [(Value.int .i64 b.scales), vt, vm]), (d_8 false vt lr lb b.tabs), (e_6 false vm lk b.macs), (sl xl 2 l.length (pairs l))] ∧ (k ≤ l.length) ∧ (∀ i, i < k → r_2 b (l.getD i (0, 0)) = true)) (fun k => l.length - k) 0 ⟨Ah.as _ rfl, P, by omega, (fun _ h => absurd h (Nat.not_lt_zero _))⟩ ?_
  clear Ah P BZ
  rintro k Ba B5 ⟨z, J, hkk, Ad⟩
  refine b_8 ?_
  refine m2 ?_
  refine s1 z (a_1 rfl (z.ev rfl)) fun Bb AA => ?_; clear z Ba
  refine s1 AA (a_1 rfl (AA.ev rfl)) fun Bc AB => ?_; clear AA Bb
  refine s1 AB (d_6 rfl z_9 (AB.ev rfl) (J.sk 3 rfl)) fun Bd d => ?_; clear AB Bc
  refine s1 d (f_8 rfl (d.ev rfl) (d.ev rfl)) fun Be F => ?_; clear d Bd
  refine n1 ?_
  by_cases A1 : (k : Int) < (l.length : Int)
  ·skip
   rw [decide_eq_true A1] at F
   refine c_3 F rfl ?_
   refine d_0 ?_
   refine b_0 ?_
   refine b_8 ?_
   refine c_7 ?_
   refine b_8 ?_
   have e := F.as [(6, (Value.int .i64 (k : Int))), (2, (bptr I 0)), (1, xl)] rfl; clear F
   rcases Bool.eq_false_or_eq_true ((inB ((l.getD k (0, 0)).1) 0 ((b.macs.length : Int) - 1))) with AJ | AJ
   ·skip
    have Ai := e.as [(6, (Value.int .i64 (k : Int))), (2, (bptr I 0)), (1, xl)] rfl; clear e
    refine g_3 mixed Ai J 14 [[], [], [0, 1], [2], [3], [], [5], [6], [7], [4, 8], [9], [10], [11], [11]] [(Yd.val xl), (Yd.val (Value.int .i64 (k : Int))), (Yd.val (eptr xl (k * 2))), (Yd.val (eptr xl (k * 2 + 0))), (Yd.val (Value.int .i64 ((l.getD k (0, 0)).1))), (Yd.val (bptr I 2)), (Yd.val vm), (Yd.val (Value.int .i64 (b.macs.length : Int))), (Yd.val (Value.int .i64 ((b.macs.length : Int) - 1))), (Yd.val (Value.bool true)), (Yd.val (Value.bool (!true))), (Yd.val (Value.bool (!true))), (Yd.val xl), (Yd.val (Value.int .i64 (k : Int)))] (by decide +kernel) rfl rfl ?_ ?_
    ·skip
     refine dq (fun a w hA hS hd => a_1 rfl (hA.ev rfl)) ?_
     refine dq (fun a w hA hS hd => a_1 rfl (hA.ev rfl)) ?_
     refine dq (fun a w hA hS hd => b_3 rfl z_9 ty_67 (hq hd 0) (i := k) (hq hd 1) (hS.sk 3 rfl) (by decide) (by omega)) ?_
     refine dq (fun a w hA hS hd => d_1 rfl fd_67_0 (hq hd 2) (hS.sk 3 rfl) (by rw [((hS.sk 3 rfl)).1]; omega)) ?_
     refine dq (fun a w hA hS hd => c_4 rfl ty_3 (hq hd 3) (hS.sk 3 rfl) (f_7 (by omega))) ?_
     refine dq (fun a w hA hS hd => a_3 rfl o_7 (hA.ev rfl)) ?_
     refine dq (fun a w hA hS hd => a_2 rfl aa_4 (hq hd 5) (hS.bk 0 rfl) rfl) ?_
     refine dq (fun a w hA hS hd => d_6 rfl aa_8 (hq hd 6) (c_8 (hS.ok 2 _ rfl)).macs) ?_
     refine dq (fun a w hA hS hd => h_9 rfl (hq hd 7) (evc _ _) (by omega) (by omega)) ?_
     refine ⟨fun a w hA hS hd => by have e4 := hx hd 4; have e8 := hx hd 8; exact b_1 rfl (dv (b_4 rfl ab_1 (ev3 (a_7 e4) (evc _ _) (a_7 e8)) (ab_0 _ _ _ _)) hS (by show Value.bool _ = _; simp only [AJ, decide_true, decide_false, Bool.not_true, Bool.not_false])), ?_⟩
     refine dq (fun a w hA hS hd => f_6 rfl (hq hd 9)) ?_
     refine dq (fun a w hA hS hd => a_1 rfl (hq hd 10)) ?_
     refine dy 11 (fun a w hA hS hd => a_1 rfl (hA.ev rfl)) ?_
     refine dy 11 (fun a w hA hS hd => a_1 rfl (hA.ev rfl)) ?_
     trivial
    intro Bf B6 Aj L m; clear Ai J
    have Ak := Aj.add (hz m 11); clear Aj
    have Al := Ak.add (hz m 12); clear Ak
    have f := Al.add (hz m 13); clear Al
    clear m
    refine s5 f (b_3 rfl z_9 ty_67 (f.ev rfl) (i := k) (f.ev rfl) (L.sk 3 rfl) (by decide) (by omega)) fun Bg AC => ?_; clear f Bf
    refine s5 AC (d_1 rfl fd_67_1 (AC.ev rfl) (L.sk 3 rfl) (by rw [((L.sk 3 rfl)).1]; omega)) fun Bh AD => ?_; clear AC Bg
    refine s5 AD (c_4 rfl ty_3 (AD.ev rfl) (L.sk 3 rfl) (h_2 (by omega))) fun Bi AE => ?_; clear AD Bh
    refine s6 AE (b_4 rfl en_53 (ev1 (AE.ev rfl)) (rvalue_ok _ _)) ?_
    rintro Bj _ B7 ⟨rfl, Ax⟩ AF; have Ay := L.step Ax; clear Ax AE L Bi
    refine s5 AF (f_6 rfl (AF.ev rfl)) fun Bk g => ?_; clear AF Bj
    refine s1 g (d_3 rfl (g.ev rfl) (g.ev rfl)) fun A5 H => ?_; clear g Bk
    refine n1 ?_
    rcases Bool.eq_false_or_eq_true ((inB ((l.getD k (0, 0)).2) 0 100000)) with AK | AK
    ·skip
     rw [AK] at H
     refine b_7 H rfl ?_
     refine d_0 ?_
     refine h_0 ?_
     refine b_0 ?_
     have AG := H.as [(6, (Value.int .i64 (k : Int))), (2, (bptr I 0)), (1, xl)] rfl; clear H
     refine a_5 ?_
     refine s1 AG (a_1 rfl (AG.ev rfl)) fun Bl AH => ?_; clear AG A5
     refine s1 AH (f_4 rfl (AH.ev rfl) (evc _ _) (by omega) (by omega)) fun Bm AI => ?_; clear AH Bl
     refine s1 AI (a_0 rfl (AI.ev rfl)) fun B2 BR => ?_; clear AI Bm
     refine e_9 ?_
     exact b_0 ⟨k + 1, ⟨BR.as _ rfl, Ay, by omega, (fun i hi => by rcases Nat.lt_succ_iff_lt_or_eq.1 hi with h | h; exact Ad i h; subst h; exact readB_y (by assumption) (by assumption))⟩, by omega⟩
    skip
    rw [AK] at H
    refine c_3 H rfl ?_
    refine b_8 ?_
    have An := H.as [] rfl; clear H
    refine a_5 ?_
    refine s1 An (a_0 rfl (evc _ _)) fun B3 Ao => ?_; clear An A5
    refine n1 ?_
    refine c_9 ?_
    refine c_6 ?_
    refine a_6 ?_
    refine a_6 ?_
    refine c_6 ?_
    refine a_6 ?_
    refine a_9 Ao (.inl rfl) (a_4 Ao rfl (.tmp rfl)) ?_
    exact ⟨i_2 (Eq.symm (read_2 (k := k) (by assumption) (by omega) (by omega) (readB_n (by first | exact .inl (by assumption) | exact .inr (by assumption))))), Ay.ext⟩
   skip
   have Ap := e.as [(6, (Value.int .i64 (k : Int))), (2, (bptr I 0)), (1, xl)] rfl; clear e
   refine g_3 mixed Ap J 14 [[], [], [0, 1], [2], [3], [], [5], [6], [7], [4, 8], [9], [10], [11], [11]] [(Yd.val xl), (Yd.val (Value.int .i64 (k : Int))), (Yd.val (eptr xl (k * 2))), (Yd.val (eptr xl (k * 2 + 0))), (Yd.val (Value.int .i64 ((l.getD k (0, 0)).1))), (Yd.val (bptr I 2)), (Yd.val vm), (Yd.val (Value.int .i64 (b.macs.length : Int))), (Yd.val (Value.int .i64 ((b.macs.length : Int) - 1))), (Yd.val (Value.bool false)), (Yd.val (Value.bool (!false))), (Yd.val (Value.bool (!false))), (Yd.val undef), (Yd.val undef)] (by decide +kernel) rfl rfl ?_ ?_
   ·skip
    refine dq (fun a w hA hS hd => a_1 rfl (hA.ev rfl)) ?_
    refine dq (fun a w hA hS hd => a_1 rfl (hA.ev rfl)) ?_
    refine dq (fun a w hA hS hd => b_3 rfl z_9 ty_67 (hq hd 0) (i := k) (hq hd 1) (hS.sk 3 rfl) (by decide) (by omega)) ?_
    refine dq (fun a w hA hS hd => d_1 rfl fd_67_0 (hq hd 2) (hS.sk 3 rfl) (by rw [((hS.sk 3 rfl)).1]; omega)) ?_
    refine dq (fun a w hA hS hd => c_4 rfl ty_3 (hq hd 3) (hS.sk 3 rfl) (f_7 (by omega))) ?_
    refine dq (fun a w hA hS hd => a_3 rfl o_7 (hA.ev rfl)) ?_
    refine dq (fun a w hA hS hd => a_2 rfl aa_4 (hq hd 5) (hS.bk 0 rfl) rfl) ?_
    refine dq (fun a w hA hS hd => d_6 rfl aa_8 (hq hd 6) (c_8 (hS.ok 2 _ rfl)).macs) ?_
    refine dq (fun a w hA hS hd => h_9 rfl (hq hd 7) (evc _ _) (by omega) (by omega)) ?_
    refine ⟨fun a w hA hS hd => by have e4 := hx hd 4; have e8 := hx hd 8; exact b_1 rfl (dv (b_4 rfl ab_1 (ev3 (a_7 e4) (evc _ _) (a_7 e8)) (ab_0 _ _ _ _)) hS (by show Value.bool _ = _; simp only [AJ, decide_true, decide_false, Bool.not_true, Bool.not_false])), ?_⟩
    refine dq (fun a w hA hS hd => f_6 rfl (hq hd 9)) ?_
    refine dq (fun a w hA hS hd => a_1 rfl (hq hd 10)) ?_
    refine dn 11 ?_
    refine dn 11 ?_
    trivial
   intro Bn B8 Ar BS n; clear Ap J
   have As := Ar.add (hz n 11); clear Ar
   have At := As.add (hz n 12); clear As
   have Au := At.add (hz n 13); clear At
   clear n
   refine s3 Au fun Bo Av => ?_; clear Au Bn
   refine s3 Av fun Bp AL => ?_; clear Av Bo
   refine s3 AL fun A9 AM => ?_; clear AL Bp
   refine s3 AM fun BA AN => ?_; clear AM A9
   refine s3 AN fun BB Q => ?_; clear AN BA
   refine s1 Q (b_9 rfl (Q.ev rfl) (evc _ _)) fun BC R => ?_; clear Q BB
   refine n1 ?_
   refine c_3 R rfl ?_
   refine b_8 ?_
   have AO := R.as [] rfl; clear R
   refine a_5 ?_
   refine s1 AO (a_0 rfl (evc _ _)) fun Br AP => ?_; clear AO BC
   refine n1 ?_
   refine c_9 ?_
   refine c_6 ?_
   refine a_6 ?_
   refine a_6 ?_
   refine c_6 ?_
   refine a_6 ?_
   refine a_9 AP (.inl rfl) (a_4 AP rfl (.tmp rfl)) ?_
   exact ⟨i_2 (Eq.symm (read_2 (k := k) (by assumption) (by omega) (by omega) (readB_n (by first | exact .inl (by assumption) | exact .inr (by assumption))))), BS.ext⟩
  skip
  rw [decide_eq_false A1] at F
  refine b_7 F rfl ?_
  refine g_8 ?_
  refine b_6 ?_
  refine b_6 ?_
  refine f_5 ?_
  refine b_0 ?_
  refine b_8 ?_
  refine m2 ?_
  refine s1 F (a_0 rfl (evc _ _)) fun BD AQ => ?_; clear F Be
  refine n1 ?_
  refine c_7 ?_
  have AR := AQ.as [(7, (Value.int .i64 0)), (2, (bptr I 0)), (1, xl)] rfl; clear AQ
  refine h_3 (G := Nat) (fun (C : Nat) a_ w_ => Fr 58 [] [(7, (Value.int .i64 (C : Int))), (2, (bptr I 0)), (1, xl)] a_ ∧ Sep NoB w w_ [(blk I 25 [(Value.int .i64 b.scales), vt, vm]), (d_8 false vt lr lb b.tabs), (e_6 false vm lk b.macs), (sl xl 2 l.length (pairs l))] ∧ (C ≤ l.length) ∧ (∀ i, i < C → offB (b.macs.getD (l.getD i (0, 0)).1.toNat mac0) = false)) (fun C => l.length - C) 0 ⟨AR.as _ rfl, J, by omega, (fun _ h => absurd h (Nat.not_lt_zero _))⟩ ?_
  clear AR J BD
  rintro C BE By ⟨S, O, hkk1, A8⟩
  refine b_8 ?_
  refine m2 ?_
  refine s1 S (a_1 rfl (S.ev rfl)) fun BF T => ?_; clear S BE
  refine s1 T (a_1 rfl (T.ev rfl)) fun BG U => ?_; clear T BF
  refine s1 U (d_6 rfl z_9 (U.ev rfl) (O.sk 3 rfl)) fun BH M => ?_; clear U BG
  refine s1 M (f_8 rfl (M.ev rfl) (M.ev rfl)) fun BI B => ?_; clear M BH
  refine n1 ?_
  by_cases Ac : (C : Int) < (l.length : Int)
  ·skip
   rw [decide_eq_true Ac] at B
   have hrb := readB_is (Ad C (by omega)); have hml := (u_1 (by assumption)).mlen
   refine c_3 B rfl ?_
   refine d_0 ?_
   refine b_0 ?_
   refine b_8 ?_
   refine c_7 ?_
   refine b_8 ?_
   have AS := B.as [(7, (Value.int .i64 (C : Int))), (2, (bptr I 0)), (1, xl)] rfl; clear B
   refine g_3 mixed AS O 7 [[], [0], [], [], [2, 3], [4], [5]] [(Yd.val (bptr I 2)), (Yd.val vm), (Yd.val xl), (Yd.val (Value.int .i64 (C : Int))), (Yd.val (eptr xl (C * 2))), (Yd.val (eptr xl (C * 2 + 0))), (Yd.val (Value.int .i64 ((l.getD C (0, 0)).1)))] (by decide +kernel) rfl rfl ?_ ?_
   ·skip
    refine dq (fun a w hA hS hd => a_3 rfl o_7 (hA.ev rfl)) ?_
    refine dq (fun a w hA hS hd => a_2 rfl aa_4 (hq hd 0) (hS.bk 0 rfl) rfl) ?_
    refine dq (fun a w hA hS hd => a_1 rfl (hA.ev rfl)) ?_
    refine dq (fun a w hA hS hd => a_1 rfl (hA.ev rfl)) ?_
    refine dq (fun a w hA hS hd => b_3 rfl z_9 ty_67 (hq hd 2) (i := C) (hq hd 3) (hS.sk 3 rfl) (by decide) (by omega)) ?_
    refine dq (fun a w hA hS hd => d_1 rfl fd_67_0 (hq hd 4) (hS.sk 3 rfl) (by rw [((hS.sk 3 rfl)).1]; omega)) ?_
    refine dq (fun a w hA hS hd => c_4 rfl ty_3 (hq hd 5) (hS.sk 3 rfl) (f_7 (by omega))) ?_
    trivial
   intro BJ Bz AT K j; clear AS O
   have AU := AT.add (hz j 1); clear AT
   have N := AU.add (hz j 6); clear AU
   clear j
   refine s1 N (b_3 rfl aa_8 z_2 (N.ev rfl) (i := ((l.getD C (0, 0)).1).toNat) ((N.ev rfl).trans (h_1 (by omega))) (c_8 (K.ok 2 _ rfl)).macs (by decide) (by omega)) fun BK V => ?_; clear N BJ
   refine s1 V (e_7 rfl z_2 (V.ev rfl) (c_8 (K.ok 2 _ rfl)).macs (u_2 (by omega)) rfl (by decide)) fun BL W => ?_; clear V BK
   refine s2 W (b_4 rfl en_35 (ev1 (W.ev rfl)) (roff_ok _ (b.macs.getD (((l.getD C (0, 0)).1).toNat) mac0) _ _ ((c_8 (K.ok 2 _ rfl)).blk (i := ((l.getD C (0, 0)).1).toNat) (by omega)) ((u_1 (by assumption)).mac (by omega)) (hth.kl _))) ?_
   rintro Ae _ B0 ⟨rfl, Aa⟩ A; have Ab := K.step Aa; clear Aa W K BL
   refine n1 ?_
   rcases Bool.eq_false_or_eq_true ((offB (b.macs.getD (((l.getD C (0, 0)).1).toNat) mac0))) with o | o
   ·skip
    rw [o] at A
    refine c_3 A rfl ?_
    refine b_8 ?_
    have AV := A.as [] rfl; clear A
    refine a_5 ?_
    refine s1 AV (a_0 rfl (evc _ _)) fun Bs AW => ?_; clear AV Ae
    refine n1 ?_
    refine c_9 ?_
    refine c_6 ?_
    refine a_6 ?_
    refine a_6 ?_
    refine c_6 ?_
    refine a_6 ?_
    refine a_9 AW (.inl rfl) (a_4 AW rfl (.tmp rfl)) ?_
    exact ⟨i_2 (Eq.symm (read_11 (k := C) (by assumption) (by omega) (fun i hi => Ad i (by omega)) (by omega) (by assumption))), Ab.ext⟩
   skip
   rw [o] at A
   refine b_7 A rfl ?_
   refine d_0 ?_
   refine h_0 ?_
   refine b_0 ?_
   refine a_5 ?_
   refine s1 A (a_1 rfl (A.ev rfl)) fun BM X => ?_; clear A Ae
   refine s1 X (f_4 rfl (X.ev rfl) (evc _ _) (by omega) (by omega)) fun BN Y => ?_; clear X BM
   refine s1 Y (a_0 rfl (Y.ev rfl)) fun Bt A2 => ?_; clear Y BN
   refine e_9 ?_
   exact b_0 ⟨C + 1, ⟨A2.as _ rfl, Ab, by omega, (fun i hi => by rcases Nat.lt_succ_iff_lt_or_eq.1 hi with h | h; exact A8 i h; subst h; assumption)⟩, by omega⟩
  skip
  rw [decide_eq_false Ac] at B
  refine b_7 B rfl ?_
  refine g_8 ?_
  refine b_6 ?_
  refine b_6 ?_
  refine f_5 ?_
  refine b_0 ?_
  refine b_8 ?_
  have AX := B.as [] rfl; clear B
  refine a_5 ?_
  refine s1 AX (a_0 rfl (evc _ _)) fun Bu AY => ?_; clear AX BI
  refine n1 ?_
  refine c_9 ?_
  refine a_9 AY (.inl rfl) (a_4 AY rfl (.tmp rfl)) ?_
  exact ⟨i_2 (Eq.symm (read_0 (by assumption) (by omega) (fun i hi => Ad i (by omega)) (fun i hi => A8 i (by omega)))), O.ext⟩
 skip
 rw [decide_eq_false Az] at D
 refine c_3 D rfl ?_
 refine b_8 ?_
 have Z := D.as [(5, (Value.int .i64 (f_9 b)))] rfl; clear D
 refine a_5 ?_
 refine s1 Z (a_1 rfl (Z.ev rfl)) fun BO c => ?_; clear Z A3
 refine s1 c (a_0 rfl (c.ev rfl)) fun Bv AZ => ?_; clear c BO
 refine n1 ?_
 refine c_9 ?_
 refine a_6 ?_
 refine a_9 AZ (.inl rfl) (a_4 AZ rfl (.tmp rfl)) ?_
 exact ⟨i_2 (Eq.symm (read_c (by assumption))), P.ext⟩
theorem fault_ok (b : h_6) (vt vm : Value) (lr lb lk : Nat → Value) (w : World) (hT : i_5 w vt lr lb b.tabs) (hM : j_6 w vm lk b.macs) (hth : n_4 b) (l : List (Int × Int)) (xl : Value) (hxl : SlAt w xl 2 l.length (pairs l)) (hlb : l.length ≤ 1000000) :
  Calls Try.prog 27 #[(Value.agg #[(Value.int .i64 b.scales), vt, vm]), xl] w (Ret fun v w' => v = .int .i64 (j_9 b l) ∧ Ext NoB w w') := by
 refine a_8 Try.func27 rfl fun L C => ?_
 replace C : Fr 8 [] [(0, (Value.agg #[(Value.int .i64 b.scales), vt, vm])), (1, xl)] L := C
 have J : Sep NoB w w [(d_8 false vt lr lb b.tabs), (e_6 false vm lk b.macs), (sl xl 2 l.length (pairs l))] := f_1 ⟨rfl, hT, rfl, hM, rfl, hxl, trivial⟩
 refine m2 ?_
 refine s2 C (f_0 J rfl (C.ev rfl) (cs := [(Value.int .i64 b.scales), vt, vm]) rfl) ?_
 rintro O _ U ⟨T, rfl, A⟩ I; clear C J L
 refine s1 I (a_0 rfl (evc _ _)) fun P F => ?_; clear I O
 refine n4 ?_
 refine s1 F (c_5 rfl aa_5 (F.ev rfl) (A.bk 0 rfl) (l := [(Value.int .i64 b.scales), vt, vm]) rfl rfl) fun Q G => ?_; clear F P
 refine s1 G (a_1 rfl (G.ev rfl)) fun M B => ?_; clear G Q
 refine s2 B (b_4 rfl en_59 (ev2 (B.ev rfl) (B.ev rfl)) (rreads_ok b vt vm lr lb lk _ (c_1 (A.ok 1 _ rfl)) (c_8 (A.ok 2 _ rfl)) hth l _ (A.sk 3 rfl) hlb)) ?_
 rintro N _ S ⟨rfl, H⟩ D; have K := A.step H; clear H B A M
 refine s1 D (a_0 rfl (D.ev rfl)) fun R E => ?_; clear D N
 refine n1 ?_
 refine c_9 ?_
 refine a_9 E (.inl rfl) (a_4 E rfl (.tmp rfl)) ?_
 exact ⟨rfl, K.ext⟩
set_option maxHeartbeats 4000000 in
theorem Bias_ok (b : h_6) (vt vm : Value) (lr lb lk : Nat → Value) (w : World) (hT : i_5 w vt lr lb b.tabs) (hM : j_6 w vm lk b.macs) (hth : n_4 b) (i : Int) :
  Calls Try.prog 33 #[(Value.agg #[(Value.int .i64 b.scales), vt, vm]), (Value.int .i64 i)] w (Ret fun v w' => v = .tuple #[.agg #[.int .i64 (y_8 b i).1, .int .i64 (y_8 b i).2], .int .i64 (y_7 b i)] ∧ Ext NoB w w') := by
 refine a_8 Try.func33 rfl fun a0 R => ?_
 replace R : Fr 32 [] [(0, (Value.agg #[(Value.int .i64 b.scales), vt, vm])), (1, (Value.int .i64 i))] a0 := R
 have hml9 := hth.ml
 have AY : Sep NoB w w [(d_8 false vt lr lb b.tabs), (e_6 false vm lk b.macs)] := f_1 ⟨rfl, hT, rfl, hM, trivial⟩
 refine m2 ?_
 refine s2 R (f_0 AY rfl (R.ev rfl) (cs := [(Value.int .i64 b.scales), vt, vm]) rfl) ?_
 rintro a1 _ w3 ⟨S, rfl, AZ⟩ AW; clear R AY a0
 refine s2 AW (e_4 AZ rfl z_3 (cs := [(Value.int .i64 0), (Value.int .i64 0)]) rfl) ?_
 rintro a6 _ w8 ⟨H, rfl, F⟩ AX; clear AW AZ a1
 refine s1 AX (a_0 rfl (evc _ _)) fun Ae T => ?_; clear AX a6
 refine n2 ?_
 refine m2 ?_
 refine s1 T (c_5 rfl t_9 (T.ev rfl) (F.bk 1 rfl) (l := [(Value.int .i64 b.scales), vt, vm]) rfl rfl) fun Af U => ?_; clear T Ae
 refine s2 U (b_4 rfl en_32 (ev1 (U.ev rfl)) (v_4 b vt vm lr lb lk _ (c_1 (F.ok 2 _ rfl)) (c_8 (F.ok 3 _ rfl)) hth)) ?_
 rintro Ag _ BA ⟨rfl, AG⟩ V; have A := F.step AG; clear AG U F Af
 refine s1 V (a_0 rfl (V.ev rfl)) fun Ah W => ?_; clear V Ag
 refine n4 ?_
 refine s1 W (a_1 rfl (W.ev rfl)) fun Ai X => ?_; clear W Ah
 refine s1 X (t_2 rfl (X.ev rfl) (evc _ _)) fun AT C => ?_; clear X Ai
 refine n1 ?_
 by_cases AR : (f_9 b) = 0
 ·skip
  rw [decide_eq_true AR] at C
  refine b_7 C rfl ?_
  refine d_0 ?_
  refine b_0 ?_
  refine b_8 ?_
  refine b_8 ?_
  have Y := C.as [(4, (bptr H 0)), (2, (bptr S 0)), (1, (Value.int .i64 i))] rfl; clear C
  refine a_5 ?_
  refine s1 Y (a_1 rfl (Y.ev rfl)) fun Aj Z => ?_; clear Y AT
  refine s1 Z (a_3 rfl u_8 (Z.ev rfl)) fun Ak a => ?_; clear Z Aj
  refine s1 a (a_2 rfl ty_35 (a.ev rfl) (A.bk 1 rfl) rfl) fun Al c => ?_; clear a Ak
  refine s1 c (d_6 rfl ab_7 (c.ev rfl) (c_8 (A.ok 3 _ rfl)).macs) fun Am d => ?_; clear c Al
  refine s1 d (h_9 rfl (d.ev rfl) (evc _ _) (by omega) (by omega)) fun An K => ?_; clear d Am
  refine s2 K (b_4 rfl en_47 (ev3 (K.ev rfl) (evc _ _) (K.ev rfl)) (o_0 _ _ _ _)) ?_
  rintro Ao _ W_ ⟨rfl, hW_⟩ e; have hW2_ := hW_.symm; subst hW2_; clear hW_ K An
  refine s1 e (f_6 rfl (e.ev rfl)) fun AU D => ?_; clear e Ao
  refine n1 ?_
  rcases Bool.eq_false_or_eq_true ((inB i 0 ((b.macs.length : Int) - 1))) with Q | Q
  ·skip
   rw [Q] at D
   have hib := j_8.1 Q
   refine b_7 D rfl ?_
   refine d_0 ?_
   refine b_0 ?_
   refine b_8 ?_
   have f := D.as [(4, (bptr H 0)), (2, (bptr S 0)), (1, (Value.int .i64 i))] rfl; clear D
   refine a_5 ?_
   refine s1 f (a_3 rfl u_8 (f.ev rfl)) fun Ap g => ?_; clear f AU
   refine s1 g (a_2 rfl ty_35 (g.ev rfl) (A.bk 1 rfl) rfl) fun Aq h => ?_; clear g Ap
   refine s1 h (a_1 rfl (h.ev rfl)) fun Ar L => ?_; clear h Aq
   refine s1 L (b_3 rfl ab_7 t_7 (L.ev rfl) (i := i.toNat) ((L.ev rfl).trans (h_1 (by omega))) (c_8 (A.ok 3 _ rfl)).macs (by decide) (by omega)) fun As j => ?_; clear L Ar
   refine s1 j (e_7 rfl t_7 (j.ev rfl) (c_8 (A.ok 3 _ rfl)).macs (u_2 (by omega)) rfl (by decide)) fun At k => ?_; clear j As
   refine s2 k (b_4 rfl en_67 (ev1 (k.ev rfl)) (bias_ok _ (b.macs.getD i.toNat mac0) _ _ ((c_8 (A.ok 3 _ rfl)).blk (i := i.toNat) (by omega)) ((u_1 (by assumption)).mac (by omega)) (hth.kl _))) ?_
   rintro Au _ BB ⟨rfl, AH⟩ y; have AJ := A.step AH; clear AH k A At
   refine s2 y (e_4 AJ rfl z_3 (cs := [(Value.int .i64 0), (Value.int .i64 0)]) rfl) ?_
   rintro Av _ BC ⟨p, rfl, AK⟩ M; clear y AJ Au
   refine s7 M (c_2 AK rfl g_7 (M.ev rfl) (M.ev rfl) (i := 0) rfl (vs := [(Value.int .i64 ((d_5 (b.macs.getD i.toNat mac0)).1)), (Value.int .i64 ((d_5 (b.macs.getD i.toNat mac0)).2))]) rfl rfl rfl (Nat.le_of_ble_eq_true rfl)) ?_
   intro _ A0 AL z; clear M
   have o : Sep NoB w A0 [(blk p 30 [(Value.int .i64 ((d_5 (b.macs.getD i.toNat mac0)).1)), (Value.int .i64 ((d_5 (b.macs.getD i.toNat mac0)).2))]), (blk H 30 [(Value.int .i64 0), (Value.int .i64 0)]), (blk S 37 [(Value.int .i64 b.scales), vt, vm]), (d_8 false vt lr lb b.tabs), (e_6 false vm lk b.macs)] := AL; clear AL AK
   refine n2 ?_
   refine b_8 ?_
   have m := z.as [(7, (bptr p 0)), (4, (bptr H 0))] rfl; clear z
   refine a_5 ?_
   refine s1 m (c_5 rfl g_7 (m.ev rfl) (o.bk 0 rfl) (l := [(Value.int .i64 ((d_5 (b.macs.getD i.toNat mac0)).1)), (Value.int .i64 ((d_5 (b.macs.getD i.toNat mac0)).2))]) rfl rfl) fun Aw n => ?_; clear m Av
   refine s2 n (b_4 rfl en_68 (ev1 (n.ev rfl)) (empty_ok _ _ _)) ?_
   rintro AV _ BD ⟨rfl, AI⟩ B; have G := o.step AI; clear AI n o Aw
   refine n1 ?_
   by_cases AS : ((d_5 (b.macs.getD i.toNat mac0)).2) < ((d_5 (b.macs.getD i.toNat mac0)).1)
   ·skip
    rw [decide_eq_true AS] at B
    refine c_3 B rfl ?_
    refine m2 ?_
    refine s1 B (e_5 rfl pv0 bd_30_) fun Ax N => ?_; clear B AV
    refine s7 N (c_2 G rfl g_7 (N.ev rfl) (N.ev rfl) (i := 1) rfl (vs := [(Value.int .i64 0), (Value.int .i64 0)]) rfl rfl rfl (Nat.le_of_ble_eq_true rfl)) ?_
    intro _ A1 AM AA; clear N
    have AN : Sep NoB w A1 [(blk p 30 [(Value.int .i64 ((d_5 (b.macs.getD i.toNat mac0)).1)), (Value.int .i64 ((d_5 (b.macs.getD i.toNat mac0)).2))]), (blk H 30 [(Value.int .i64 0), (Value.int .i64 0)]), (blk S 37 [(Value.int .i64 b.scales), vt, vm]), (d_8 false vt lr lb b.tabs), (e_6 false vm lk b.macs)] := AM; clear AM G
    refine s1 AA (a_0 rfl (evc _ _)) fun A8 AB => ?_; clear AA Ax
    refine n1 ?_
    refine c_9 ?_
    refine a_6 ?_
    refine a_9 AB (.inl rfl) (d_2 AB rfl (.cellA rfl g_7 (AN.bk 1 rfl) (l := [(Value.int .i64 0), (Value.int .i64 0)]) rfl rfl) (.tmp rfl)) ?_
    have he_ := (biasE_11 (i := i) (by assumption) (by assumption) (off_t (by assumption)))
    exact ⟨by rw [biasR_n (by rw [he_]; first | assumption | decide), he_], AN.ext⟩
   skip
   rw [decide_eq_false AS] at B
   refine b_7 B rfl ?_
   refine d_0 ?_
   refine b_0 ?_
   refine m2 ?_
   refine s1 B (c_5 rfl g_7 (B.ev rfl) (G.bk 0 rfl) (l := [(Value.int .i64 ((d_5 (b.macs.getD i.toNat mac0)).1)), (Value.int .i64 ((d_5 (b.macs.getD i.toNat mac0)).2))]) rfl rfl) fun Ay O => ?_; clear B AV
   refine s7 O (c_2 G rfl g_7 (O.ev rfl) (O.ev rfl) (i := 1) rfl (vs := [(Value.int .i64 ((d_5 (b.macs.getD i.toNat mac0)).1)), (Value.int .i64 ((d_5 (b.macs.getD i.toNat mac0)).2))]) rfl rfl rfl (Nat.le_of_ble_eq_true rfl)) ?_
   intro _ A2 AO AC; clear O
   have AP : Sep NoB w A2 [(blk p 30 [(Value.int .i64 ((d_5 (b.macs.getD i.toNat mac0)).1)), (Value.int .i64 ((d_5 (b.macs.getD i.toNat mac0)).2))]), (blk H 30 [(Value.int .i64 ((d_5 (b.macs.getD i.toNat mac0)).1)), (Value.int .i64 ((d_5 (b.macs.getD i.toNat mac0)).2))]), (blk S 37 [(Value.int .i64 b.scales), vt, vm]), (d_8 false vt lr lb b.tabs), (e_6 false vm lk b.macs)] := AO; clear AO G
   refine s1 AC (a_0 rfl (evc _ _)) fun A9 AD => ?_; clear AC Ay
   refine n1 ?_
   refine c_9 ?_
   refine a_9 AD (.inl rfl) (d_2 AD rfl (.cellA rfl g_7 (AP.bk 1 rfl) (l := [(Value.int .i64 ((d_5 (b.macs.getD i.toNat mac0)).1)), (Value.int .i64 ((d_5 (b.macs.getD i.toNat mac0)).2))]) rfl rfl) (.tmp rfl)) ?_
   have he_ := (biasE_0 (i := i) (by assumption) (by assumption) (off_f (by assumption)))
   exact ⟨by rw [biasR_y he_, he_], AP.ext⟩
  skip
  rw [Q] at D
  refine c_3 D rfl ?_
  refine b_8 ?_
  have AE := D.as [(4, (bptr H 0))] rfl; clear D
  refine a_5 ?_
  refine s1 AE (e_5 rfl pv0 bd_30_) fun Az P => ?_; clear AE AU
  refine s7 P (c_2 A rfl g_7 (P.ev rfl) (P.ev rfl) (i := 0) rfl (vs := [(Value.int .i64 0), (Value.int .i64 0)]) rfl rfl rfl (Nat.le_of_ble_eq_true rfl)) ?_
  intro _ A3 AQ AF; clear P
  have t : Sep NoB w A3 [(blk H 30 [(Value.int .i64 0), (Value.int .i64 0)]), (blk S 37 [(Value.int .i64 b.scales), vt, vm]), (d_8 false vt lr lb b.tabs), (e_6 false vm lk b.macs)] := AQ; clear AQ A
  refine s1 AF (a_0 rfl (evc _ _)) fun A5 q => ?_; clear AF Az
  refine n1 ?_
  refine c_9 ?_
  refine a_6 ?_
  refine a_9 q (.inl rfl) (d_2 q rfl (.cellA rfl g_7 (t.bk 0 rfl) (l := [(Value.int .i64 0), (Value.int .i64 0)]) rfl rfl) (.tmp rfl)) ?_
  have he_ := (biasE_2 (i := i) (by assumption) (by assumption))
  exact ⟨by rw [biasR_n (by rw [he_]; first | assumption | decide), he_], t.ext⟩
 skip
 rw [decide_eq_false AR] at C
 refine c_3 C rfl ?_
 refine b_8 ?_
 have r := C.as [(6, (Value.int .i64 (f_9 b))), (4, (bptr H 0))] rfl; clear C
 refine a_5 ?_
 refine s1 r (e_5 rfl pv0 bd_30_) fun Aa I => ?_; clear r AT
 refine s1 I (a_1 rfl (I.ev rfl)) fun Ab E => ?_; clear I Aa
 refine s7 E (c_2 A rfl g_7 (E.ev rfl) (E.ev rfl) (i := 0) rfl (vs := [(Value.int .i64 0), (Value.int .i64 0)]) rfl rfl rfl (Nat.le_of_ble_eq_true rfl)) ?_
 intro _ Ac u J; clear E
 have x : Sep NoB w Ac [(blk H 30 [(Value.int .i64 0), (Value.int .i64 0)]), (blk S 37 [(Value.int .i64 b.scales), vt, vm]), (d_8 false vt lr lb b.tabs), (e_6 false vm lk b.macs)] := u; clear u A
 refine s1 J (a_0 rfl (J.ev rfl)) fun A6 s => ?_; clear J Ab
 refine n1 ?_
 refine c_9 ?_
 refine a_6 ?_
 refine a_9 s (.inl rfl) (d_2 s rfl (.cellA rfl g_7 (x.bk 0 rfl) (l := [(Value.int .i64 0), (Value.int .i64 0)]) rfl rfl) (.tmp rfl)) ?_
 have he_ := (biasE_c (i := i) (by assumption))
 exact ⟨by rw [biasR_n (by rw [he_]; first | assumption | decide), he_], x.ext⟩
set_option maxHeartbeats 4000000 in
theorem Convert_ok (b : h_6) (vt vm : Value) (lr lb lk : Nat → Value) (w : World) (hT : i_5 w vt lr lb b.tabs) (hM : j_6 w vm lk b.macs) (hth : n_4 b) (i A B : Int) :
  Calls Try.prog 18 #[(Value.agg #[(Value.int .i64 b.scales), vt, vm]), (Value.int .i64 i), (Value.agg #[(Value.int .i64 A), (Value.int .i64 B)])] w (Ret fun v w' => v = .tuple #[.agg #[.int .i64 (z_1 b i (A, B)).1, .int .i64 (z_1 b i (A, B)).2], .int .i64 (y_9 b i (A, B))] ∧ Ext NoB w w') := by
 refine a_8 Try.func18 rfl fun a0 f => ?_
 replace f : Fr 47 [] [(0, (Value.agg #[(Value.int .i64 b.scales), vt, vm])), (1, (Value.int .i64 i)), (2, (Value.agg #[(Value.int .i64 A), (Value.int .i64 B)]))] a0 := f
 have htl9 := hth.tl
 have A1 : Sep NoB w w [(d_8 false vt lr lb b.tabs), (e_6 false vm lk b.macs)] := f_1 ⟨rfl, hT, rfl, hM, trivial⟩
 refine m2 ?_
 refine s2 f (f_0 A1 rfl (f.ev rfl) (cs := [(Value.int .i64 b.scales), vt, vm]) rfl) ?_
 rintro a1 _ w3 ⟨P, rfl, A2⟩ An; clear f A1 a0
 refine s2 An (f_0 A2 rfl (An.ev rfl) (cs := [(Value.int .i64 A), (Value.int .i64 B)]) rfl) ?_
 rintro a6 _ w8 ⟨Q, rfl, Av⟩ A0; clear An A2 a1
 refine s2 A0 (e_4 Av rfl z_3 (cs := [(Value.int .i64 0), (Value.int .i64 0)]) rfl) ?_
 rintro BJ _ Bt ⟨D, rfl, O⟩ Am; clear A0 Av a6
 refine s1 Am (a_0 rfl (evc _ _)) fun BK g => ?_; clear Am BJ
 refine n2 ?_
 refine m2 ?_
 refine s1 g (c_5 rfl t_9 (g.ev rfl) (O.bk 2 rfl) (l := [(Value.int .i64 b.scales), vt, vm]) rfl rfl) fun BL h => ?_; clear g BK
 refine s2 h (b_4 rfl en_32 (ev1 (h.ev rfl)) (v_4 b vt vm lr lb lk _ (c_1 (O.ok 3 _ rfl)) (c_8 (O.ok 4 _ rfl)) hth)) ?_
 rintro BM _ Bu ⟨rfl, As⟩ j; have E := O.step As; clear As h O BL
 refine s1 j (a_0 rfl (j.ev rfl)) fun BN k => ?_; clear j BM
 refine n4 ?_
 refine s1 k (a_1 rfl (k.ev rfl)) fun BO m => ?_; clear k BN
 refine s1 m (t_2 rfl (m.ev rfl) (evc _ _)) fun Ax F => ?_; clear m BO
 refine n1 ?_
 by_cases Aw : (f_9 b) = 0
 ·skip
  rw [decide_eq_true Aw] at F
  refine b_7 F rfl ?_
  refine d_0 ?_
  refine b_0 ?_
  refine b_8 ?_
  refine b_8 ?_
  have n := F.as [(6, (bptr D 0)), (5, (bptr Q 0)), (3, (bptr P 0)), (1, (Value.int .i64 i))] rfl; clear F
  refine a_5 ?_
  refine s1 n (a_1 rfl (n.ev rfl)) fun BP o => ?_; clear n Ax
  refine s1 o (a_3 rfl w_9 (o.ev rfl)) fun BQ p => ?_; clear o BP
  refine s1 p (a_2 rfl ty_34 (p.ev rfl) (E.bk 2 rfl) rfl) fun BR q => ?_; clear p BQ
  refine s1 q (d_6 rfl z_8 (q.ev rfl) (c_1 (E.ok 3 _ rfl)).tabs) fun BS s => ?_; clear q BR
  refine s1 s (h_9 rfl (s.ev rfl) (evc _ _) (by omega) (by omega)) fun BT V => ?_; clear s BS
  refine s2 V (b_4 rfl en_47 (ev3 (V.ev rfl) (evc _ _) (V.ev rfl)) (o_0 _ _ _ _)) ?_
  rintro BU _ W_ ⟨rfl, hW_⟩ t; have hW2_ := hW_.symm; subst hW2_; clear hW_ V BT
  refine s1 t (f_6 rfl (t.ev rfl)) fun BV u => ?_; clear t BU
  refine s1 u (a_1 rfl (u.ev rfl)) fun Ay I => ?_; clear u BV
  rcases Bool.eq_false_or_eq_true ((inB i 0 ((b.tabs.length : Int) - 1))) with e | e
  ·skip
   rw [e] at I
   have hib := j_8.1 e
   refine s5 I (c_5 rfl g_7 (I.ev rfl) (E.bk 1 rfl) (l := [(Value.int .i64 A), (Value.int .i64 B)]) rfl rfl) fun BW x => ?_; clear I Ay
   refine s6 x (b_4 rfl en_48 (ev1 (x.ev rfl)) (values_ok _ _ _)) ?_
   rintro BX _ Bv ⟨rfl, At⟩ y; have C := E.step At; clear At x E BW
   refine s5 y (f_6 rfl (y.ev rfl)) fun BY W => ?_; clear y BX
   refine s1 W (d_3 rfl (W.ev rfl) (W.ev rfl)) fun Az G => ?_; clear W BY
   refine n1 ?_
   rcases Bool.eq_false_or_eq_true ((y_1 (A, B))) with AJ | AJ
   ·skip
    rw [AJ] at G
    refine b_7 G rfl ?_
    refine d_0 ?_
    refine b_0 ?_
    refine b_8 ?_
    refine b_8 ?_
    have z := G.as [(6, (bptr D 0)), (5, (bptr Q 0)), (3, (bptr P 0)), (1, (Value.int .i64 i))] rfl; clear G
    refine a_5 ?_
    refine s1 z (a_3 rfl w_9 (z.ev rfl)) fun BZ AA => ?_; clear z Az
    refine s1 AA (a_2 rfl ty_34 (AA.ev rfl) (C.bk 2 rfl) rfl) fun Ba AB => ?_; clear AA BZ
    refine s1 AB (a_1 rfl (AB.ev rfl)) fun Bb X => ?_; clear AB Ba
    refine s1 X (b_3 rfl z_8 l_3 (X.ev rfl) (i := i.toNat) ((X.ev rfl).trans (h_1 (by omega))) (c_1 (C.ok 3 _ rfl)).tabs (by decide) (by omega)) fun Bc AC => ?_; clear X Bb
    refine s1 AC (e_7 rfl l_3 (AC.ev rfl) (c_1 (C.ok 3 _ rfl)).tabs (u_5 (by omega)) rfl (by decide)) fun Bd AD => ?_; clear AC Bc
    refine s1 AD (h_5 rfl (ev1 (AD.ev rfl)) ev0) fun Be AE => ?_; clear AD Bd
    refine s1 AE (a_0 rfl (AE.ev rfl)) fun Bf Ao => ?_; clear AE Be
    refine n2 ?_
    have AF := Ao.as [(9, (Value.func (.func 49) #[(Value.agg #[(Value.int .i64 ((b.tabs.getD i.toNat tab0).frm)), (Value.int .i64 ((b.tabs.getD i.toNat tab0).dst)), (lr i.toNat), (lb i.toNat), (Value.int .i64 ((b.tabs.getD i.toNat tab0).err))])] #[])), (6, (bptr D 0)), (5, (bptr Q 0)), (3, (bptr P 0)), (1, (Value.int .i64 i))] rfl; clear Ao
    refine a_5 ?_
    refine s1 AF (a_1 rfl (AF.ev rfl)) fun Bg AG => ?_; clear AF Bf
    refine s1 AG (c_5 rfl g_7 (AG.ev rfl) (C.bk 1 rfl) (l := [(Value.int .i64 A), (Value.int .i64 B)]) rfl rfl) fun Bh Y => ?_; clear AG Bg
    refine s2 Y (k_3 rfl (Y.ev rfl) en_49 (ev1 (Y.ev rfl)) (converts_ok A B (b.tabs.getD i.toNat tab0) _ _ _ ((c_1 (C.ok 3 _ rfl)).row (i := i.toNat) (by omega)) ((c_1 (C.ok 3 _ rfl)).brk (i := i.toNat) (by omega)) (hth.rl _) (hth.bl _) _ ((u_1 (by assumption)).tab (by omega)))) ?_
    rintro Bi _ Bw ⟨rfl, Au⟩ AH; have c := C.step Au; clear Au Y C Bh
    refine s1 AH (f_6 rfl (AH.ev rfl)) fun Bj H => ?_; clear AH Bi
    refine n1 ?_
    rcases Bool.eq_false_or_eq_true ((n_5 (b.tabs.getD i.toNat tab0) (A, B))) with AK | AK
    ·skip
     rw [AK] at H
     refine b_7 H rfl ?_
     refine d_0 ?_
     refine b_0 ?_
     refine b_8 ?_
     have Ap := H.as [(6, (bptr D 0)), (5, (bptr Q 0)), (3, (bptr P 0)), (1, (Value.int .i64 i))] rfl; clear H
     refine g_3 mixed Ap c 6 [[], [0], [], [1, 2], [3], []] [(Yd.val (bptr P 1)), (Yd.val vt), (Yd.val (Value.int .i64 i)), (Yd.val (eptr vt (i.toNat * 5))), (Yd.val (Value.agg #[(Value.int .i64 ((b.tabs.getD i.toNat tab0).frm)), (Value.int .i64 ((b.tabs.getD i.toNat tab0).dst)), (lr i.toNat), (lb i.toNat), (Value.int .i64 ((b.tabs.getD i.toNat tab0).err))])), (Yd.val (Value.agg #[(Value.int .i64 A), (Value.int .i64 B)]))] (by decide +kernel) rfl rfl ?_ ?_
     ·skip
      refine dq (fun a w hA hS hd => a_3 rfl w_9 (hA.ev rfl)) ?_
      refine dq (fun a w hA hS hd => a_2 rfl ty_34 (hq hd 0) (hS.bk 2 rfl) rfl) ?_
      refine dq (fun a w hA hS hd => a_1 rfl (hA.ev rfl)) ?_
      refine dq (fun a w hA hS hd => b_3 rfl z_8 l_3 (hq hd 1) (i := i.toNat) ((hq hd 2).trans (h_1 (by omega))) (c_1 (hS.ok 3 _ rfl)).tabs (by decide) (by omega)) ?_
      refine dq (fun a w hA hS hd => e_7 rfl l_3 (hq hd 3) (c_1 (hS.ok 3 _ rfl)).tabs (u_5 (by omega)) rfl (by decide)) ?_
      refine dq (fun a w hA hS hd => c_5 rfl g_7 (hA.ev rfl) (hS.bk 1 rfl) (l := [(Value.int .i64 A), (Value.int .i64 B)]) rfl rfl) ?_
      trivial
     intro Bk Bx Aq d AI; clear Ap c
     have Ar := Aq.add (hz AI 4); clear Aq
     have Z := Ar.add (hz AI 5); clear Ar
     clear AI
     refine s2 Z (b_4 rfl en_50 (ev2 (Z.ev rfl) (Z.ev rfl)) (convert_ok A B (b.tabs.getD i.toNat tab0) _ _ _ ((c_1 (d.ok 3 _ rfl)).row (i := i.toNat) (by omega)) ((c_1 (d.ok 3 _ rfl)).brk (i := i.toNat) (by omega)) (hth.rl _) (hth.bl _) _ ((u_1 (by assumption)).tab (by omega)))) ?_
     rintro A3 _ Bs ⟨rfl, Aa⟩ J; have Ab := d.step Aa; clear Aa Z d Bk
     refine s7 J (c_2 Ab rfl g_7 (J.ev rfl) (J.ev rfl) (i := 0) rfl (vs := [(Value.int .i64 ((f_3 (b.tabs.getD i.toNat tab0) (A, B)).1)), (Value.int .i64 ((f_3 (b.tabs.getD i.toNat tab0) (A, B)).2))]) rfl rfl rfl (Nat.le_of_ble_eq_true rfl)) ?_
     intro _ BD Ac AL; clear J
     have Ad : Sep NoB w BD [(blk D 30 [(Value.int .i64 ((f_3 (b.tabs.getD i.toNat tab0) (A, B)).1)), (Value.int .i64 ((f_3 (b.tabs.getD i.toNat tab0) (A, B)).2))]), (blk Q 30 [(Value.int .i64 A), (Value.int .i64 B)]), (blk P 37 [(Value.int .i64 b.scales), vt, vm]), (d_8 false vt lr lb b.tabs), (e_6 false vm lk b.macs)] := Ac; clear Ac Ab
     refine s1 AL (a_0 rfl (evc _ _)) fun Bm AM => ?_; clear AL A3
     refine n1 ?_
     refine c_9 ?_
     refine a_9 AM (.inl rfl) (d_2 AM rfl (.cellA rfl g_7 (Ad.bk 0 rfl) (l := [(Value.int .i64 ((f_3 (b.tabs.getD i.toNat tab0) (A, B)).1)), (Value.int .i64 ((f_3 (b.tabs.getD i.toNat tab0) (A, B)).2))]) rfl rfl) (.tmp rfl)) ?_
     have he_ := (convE_0 (i := i) (r := (A, B)) (by assumption) (by assumption) (by assumption) (by assumption))
     exact ⟨by rw [convR_y he_, he_], Ad.ext⟩
    skip
    rw [AK] at H
    refine c_3 H rfl ?_
    refine b_8 ?_
    have AN := H.as [(6, (bptr D 0))] rfl; clear H
    refine a_5 ?_
    refine s1 AN (e_5 rfl pv0 bd_30_) fun A4 K => ?_; clear AN Bj
    refine s7 K (c_2 c rfl g_7 (K.ev rfl) (K.ev rfl) (i := 0) rfl (vs := [(Value.int .i64 0), (Value.int .i64 0)]) rfl rfl rfl (Nat.le_of_ble_eq_true rfl)) ?_
    intro _ BE Ae AO; clear K
    have Af : Sep NoB w BE [(blk D 30 [(Value.int .i64 0), (Value.int .i64 0)]), (blk Q 30 [(Value.int .i64 A), (Value.int .i64 B)]), (blk P 37 [(Value.int .i64 b.scales), vt, vm]), (d_8 false vt lr lb b.tabs), (e_6 false vm lk b.macs)] := Ae; clear Ae c
    refine s1 AO (a_0 rfl (evc _ _)) fun Bn AP => ?_; clear AO A4
    refine n1 ?_
    refine c_9 ?_
    refine a_6 ?_
    refine a_9 AP (.inl rfl) (d_2 AP rfl (.cellA rfl g_7 (Af.bk 0 rfl) (l := [(Value.int .i64 0), (Value.int .i64 0)]) rfl rfl) (.tmp rfl)) ?_
    have he_ := (convE_10 (i := i) (r := (A, B)) (by assumption) (by assumption) (by assumption) (by assumption))
    exact ⟨by rw [convR_n (by rw [he_]; first | assumption | decide), he_], Af.ext⟩
   skip
   rw [AJ] at G
   refine c_3 G rfl ?_
   refine b_8 ?_
   have AQ := G.as [(6, (bptr D 0))] rfl; clear G
   refine a_5 ?_
   refine s1 AQ (e_5 rfl pv0 bd_30_) fun A5 L => ?_; clear AQ Az
   refine s7 L (c_2 C rfl g_7 (L.ev rfl) (L.ev rfl) (i := 0) rfl (vs := [(Value.int .i64 0), (Value.int .i64 0)]) rfl rfl rfl (Nat.le_of_ble_eq_true rfl)) ?_
   intro _ BF Ag AR; clear L
   have Ah : Sep NoB w BF [(blk D 30 [(Value.int .i64 0), (Value.int .i64 0)]), (blk Q 30 [(Value.int .i64 A), (Value.int .i64 B)]), (blk P 37 [(Value.int .i64 b.scales), vt, vm]), (d_8 false vt lr lb b.tabs), (e_6 false vm lk b.macs)] := Ag; clear Ag C
   refine s1 AR (a_0 rfl (evc _ _)) fun Bo AS => ?_; clear AR A5
   refine n1 ?_
   refine c_9 ?_
   refine a_6 ?_
   refine a_9 AS (.inl rfl) (d_2 AS rfl (.cellA rfl g_7 (Ah.bk 0 rfl) (l := [(Value.int .i64 0), (Value.int .i64 0)]) rfl rfl) (.tmp rfl)) ?_
   have he_ := (convE_2 (i := i) (r := (A, B)) (by assumption) (by first | exact .inl (by assumption) | exact .inr (by assumption)))
   exact ⟨by rw [convR_n (by rw [he_]; first | assumption | decide), he_], Ah.ext⟩
  skip
  rw [e] at I
  refine s3 I fun A6 AT => ?_; clear I Ay
  refine s3 AT fun A7 AU => ?_; clear AT A6
  refine s3 AU fun A8 R => ?_; clear AU A7
  refine s1 R (b_9 rfl (R.ev rfl) (evc _ _)) fun A9 S => ?_; clear R A8
  refine n1 ?_
  refine c_3 S rfl ?_
  refine b_8 ?_
  have AV := S.as [(6, (bptr D 0))] rfl; clear S
  refine a_5 ?_
  refine s1 AV (e_5 rfl pv0 bd_30_) fun BA M => ?_; clear AV A9
  refine s7 M (c_2 E rfl g_7 (M.ev rfl) (M.ev rfl) (i := 0) rfl (vs := [(Value.int .i64 0), (Value.int .i64 0)]) rfl rfl rfl (Nat.le_of_ble_eq_true rfl)) ?_
  intro _ BG Ai AW; clear M
  have Aj : Sep NoB w BG [(blk D 30 [(Value.int .i64 0), (Value.int .i64 0)]), (blk Q 30 [(Value.int .i64 A), (Value.int .i64 B)]), (blk P 37 [(Value.int .i64 b.scales), vt, vm]), (d_8 false vt lr lb b.tabs), (e_6 false vm lk b.macs)] := Ai; clear Ai E
  refine s1 AW (a_0 rfl (evc _ _)) fun Bp AX => ?_; clear AW BA
  refine n1 ?_
  refine c_9 ?_
  refine a_6 ?_
  refine a_9 AX (.inl rfl) (d_2 AX rfl (.cellA rfl g_7 (Aj.bk 0 rfl) (l := [(Value.int .i64 0), (Value.int .i64 0)]) rfl rfl) (.tmp rfl)) ?_
  have he_ := (convE_2 (i := i) (r := (A, B)) (by assumption) (by first | exact .inl (by assumption) | exact .inr (by assumption)))
  exact ⟨by rw [convR_n (by rw [he_]; first | assumption | decide), he_], Aj.ext⟩
 skip
 rw [decide_eq_false Aw] at F
 refine c_3 F rfl ?_
 refine b_8 ?_
 have AY := F.as [(8, (Value.int .i64 (f_9 b))), (6, (bptr D 0))] rfl; clear F
 refine a_5 ?_
 refine s1 AY (e_5 rfl pv0 bd_30_) fun BB T => ?_; clear AY Ax
 refine s1 T (a_1 rfl (T.ev rfl)) fun BC N => ?_; clear T BB
 refine s7 N (c_2 E rfl g_7 (N.ev rfl) (N.ev rfl) (i := 0) rfl (vs := [(Value.int .i64 0), (Value.int .i64 0)]) rfl rfl rfl (Nat.le_of_ble_eq_true rfl)) ?_
 intro _ BH Ak U; clear N
 have Al : Sep NoB w BH [(blk D 30 [(Value.int .i64 0), (Value.int .i64 0)]), (blk Q 30 [(Value.int .i64 A), (Value.int .i64 B)]), (blk P 37 [(Value.int .i64 b.scales), vt, vm]), (d_8 false vt lr lb b.tabs), (e_6 false vm lk b.macs)] := Ak; clear Ak E
 refine s1 U (a_0 rfl (U.ev rfl)) fun Bq AZ => ?_; clear U BC
 refine n1 ?_
 refine c_9 ?_
 refine a_6 ?_
 refine a_9 AZ (.inl rfl) (d_2 AZ rfl (.cellA rfl g_7 (Al.bk 0 rfl) (l := [(Value.int .i64 0), (Value.int .i64 0)]) rfl rfl) (.tmp rfl)) ?_
 have he_ := (convE_c (i := i) (r := (A, B)) (by assumption))
 exact ⟨by rw [convR_n (by rw [he_]; first | assumption | decide), he_], Al.ext⟩
end Go.Proofs.Ytohgladndklciaa

namespace Go.Hard
open Go.RowKit Go.Eng
def selU (ts : List TabD) (k : Nat) (i j : Int) : List Nat := (List.range k).filter fun q => decide ((ts.getD q tab0).frm = i) && decide ((ts.getD q tab0).dst = j)
def selT (ts : List TabD) (l : List Nat) : List TabD := l.map fun q => ts.getD q tab0
def selV (v : Nat → Value) (l : List Nat) : Nat → Value := fun p => v (l.getD p 0)
def bN (ts : List TabD) (k : Nat) (i j : Int) : Nat := (selU ts k i j).length
def bC (lr lb : Nat → Value) (ts : List TabD) (k : Nat) (i j : Int) : List Value := m_3 (selV lr (selU ts k i j)) (selV lb (selU ts k i j)) (selT ts (selU ts k i j))
theorem s_4 (ts : List TabD) (l : List Nat) : (selT ts l).length = l.length := by simp [selT]
theorem x_8 {ts : List TabD} {k q : Nat} {i j : Int} (h : q ∈ selU ts k i j) : q < k := by
  unfold selU at h
  rw [List.mem_filter, List.mem_range] at h; exact h.1
section
variable {lr lb : Nat → Value} {ts : List TabD} {k : Nat} {i j : Int}
theorem bC_zero (h : bN ts k i j = 0) : bC lr lb ts k i j = [] := by
  have : selU ts k i j = [] := List.eq_nil_of_length_eq_zero h
  unfold bC; rw [this]; rfl
theorem sel_no (h : ¬ (i = (ts.getD k tab0).frm ∧ j = (ts.getD k tab0).dst)) : selU ts (k + 1) i j = selU ts k i j := by
  unfold selU; rw [List.range_succ, List.filter_append]
  have : (decide ((ts.getD k tab0).frm = i) && decide ((ts.getD k tab0).dst = j)) = false := by
    rw [Bool.and_eq_false_iff]
    rcases Decidable.em ((ts.getD k tab0).frm = i) with h1 | h1
    · exact .inr (decide_eq_false fun h2 => h ⟨h1.symm, h2.symm⟩)
    · exact .inl (decide_eq_false h1)
  rw [List.filter_cons, if_neg (by rw [this]; decide), List.filter_nil, List.append_nil]
theorem sel_yes : selU ts (k + 1) (ts.getD k tab0).frm (ts.getD k tab0).dst = selU ts k (ts.getD k tab0).frm (ts.getD k tab0).dst ++ [k] := by
  unfold selU; rw [List.range_succ, List.filter_append]; simp
theorem b_other (lr lb : Nat → Value) : ∀ a b, ¬ (a = (ts.getD k tab0).frm ∧ b = (ts.getD k tab0).dst) → bN ts (k + 1) a b = bN ts k a b ∧ bC lr lb ts (k + 1) a b = bC lr lb ts k a b := fun a b h => by
  unfold bN bC; rw [sel_no h]; exact ⟨rfl, rfl⟩
theorem bN_next : bN ts (k + 1) (ts.getD k tab0).frm (ts.getD k tab0).dst = bN ts k (ts.getD k tab0).frm (ts.getD k tab0).dst + 1 := by
  unfold bN; rw [sel_yes, List.length_append]; rfl
theorem bC_next : bC lr lb ts (k + 1) (ts.getD k tab0).frm (ts.getD k tab0).dst = bC lr lb ts k (ts.getD k tab0).frm (ts.getD k tab0).dst ++ [.int .i64 (ts.getD k tab0).frm, .int .i64 (ts.getD k tab0).dst, lr k, lb k, .int .i64 (ts.getD k tab0).err] := by
  unfold bC
  rw [sel_yes]
  generalize selU ts k (ts.getD k tab0).frm (ts.getD k tab0).dst = l
  rw [tabs_snoc]
  have e : selT ts (l ++ [k]) = selT ts l ++ [ts.getD k tab0] := by simp [selT]
  rw [e]
  unfold m_3
  refine t_1 fun p hp => ?_
  rw [List.length_append, List.length_singleton, s_4] at hp
  unfold tabC selV
  rw [s_4]
  rcases Nat.lt_or_ge p l.length with h | h
  · rw [x_6 _ _ h, x_6 _ _ h, getD_old h]
  · obtain rfl : p = l.length := by omega
    rw [x_5, x_5, getD_new]
theorem s_5 {w : World} {v u : Value} {l : List Nat} (h : i_5 w v lr lb ts) (hl : ∀ q ∈ l, q < ts.length) (hs : SlAt w u 5 l.length (m_3 (selV lr l) (selV lb l) (selT ts l))) : i_5 w u (selV lr l) (selV lb l) (selT ts l) := by
  have at' : ∀ p, p < (selT ts l).length → (selT ts l).getD p tab0 = ts.getD (l.getD p 0) tab0 ∧ l.getD p 0 < ts.length := fun p hp => by
    rw [s_4] at hp
    refine ⟨?_, hl _ ?_⟩
    · simp [selT, List.getD, List.getElem?_map, List.getElem?_eq_getElem hp]
    · simp only [List.getD, List.getElem?_eq_getElem hp, Option.getD_some]; exact List.getElem_mem hp
  refine ⟨by rw [s_4]; exact hs, fun p hp => ?_, fun p hp => ?_⟩
  · have := h.rows _ (at' p hp).2
    unfold k_6 k_5 at this ⊢
    rw [(at' p hp).1]; exact this
  · have := h.brks _ (at' p hp).2
    unfold brkN brkC at this ⊢
    rw [(at' p hp).1]; exact this
theorem sel_at {l : List Nat} {p : Nat} (hp : p < l.length) : (selT ts l).getD p tab0 = ts.getD (l.getD p 0) tab0 := by
  simp [selT, List.getD, List.getElem?_map, List.getElem?_eq_getElem hp]
theorem bN_le (ts : List TabD) (k : Nat) (i j : Int) : bN ts k i j ≤ k := by
  unfold bN selU
  have := List.length_filter_le (fun q => decide ((ts.getD q tab0).frm = i) && decide ((ts.getD q tab0).dst = j)) (List.range k)
  rw [List.length_range] at this; exact this
end
end Go.Hard

namespace Go.Proofs.Ytohgladndklciaa
open Go.RowKit Go.Shelf Go.Eng Go.Hard
theorem bd_146_0ivva_1m (x0_0 : Int) (x0_1 : Value) (x0_2 : Value) (x1_0 : Option Nat) (w : World) : (Instr.build 146 #[(0, .agg #[(.int .i64 x0_0), x0_1, x0_2]), (1, (.map x1_0))]).run Try.prog w = .ok (.agg #[(.int .i64 x0_0), x0_1, x0_2, (.map x1_0)]) w := by kernel_rfl
theorem ze_106 : (Try.prog.info? 106).bind (·.zero) = some (Value.agg #[(Value.int .i64 0), (Value.int .i64 0), (Value.slice none 0 0), (Value.slice none 0 0), (Value.int .i64 0)]) := by kernel_rfl
theorem bd_162_0i_1i (x0_0 : Int) (x1_0 : Int) (w : World) : (Instr.build 162 #[(0, (.int .i64 x0_0)), (1, (.int .i64 x1_0))]).run Try.prog w = .ok (.agg #[(.int .i64 x0_0), (.int .i64 x1_0)]) w := by kernel_rfl
theorem ze_162 : (Try.prog.info? 162).bind (·.zero) = some (Value.agg #[(Value.int .i64 0), (Value.int .i64 0)]) := by kernel_rfl
theorem ty_162 : tyK Try.prog 162 = some (true, 2) := by kernel_rfl
theorem fd_146_1 : fldK Try.prog 146 1 = some 3 := by kernel_rfl
theorem ty_144 : tyK Try.prog 144 = some (false, 1) := by kernel_rfl
theorem bs_106_1_0iivvia (x0_0 : Int) (x0_1 : Int) (x0_2 : Value) (x0_3 : Value) (x0_4 : Int) : Instr.fill (fun i => some (i * 5, 5)) ((Array.range (1 * 5)).map ((Value.agg #[(Value.int .i64 0), (Value.int .i64 0), (Value.slice none 0 0), (Value.slice none 0 0), (Value.int .i64 0)]).cells[· % (Value.agg #[(Value.int .i64 0), (Value.int .i64 0), (Value.slice none 0 0), (Value.slice none 0 0), (Value.int .i64 0)]).cells.size]!)) [(0, .agg #[(.int .i64 x0_0), (.int .i64 x0_1), x0_2, x0_3, (.int .i64 x0_4)])] = some (([(.int .i64 x0_0), (.int .i64 x0_1), x0_2, x0_3, (.int .i64 x0_4)] : List Value).toArray) := by kernel_rfl
theorem zs_34 : (Try.prog.info? 34).bind (·.zero) = some (.slice none 0 0) := by kernel_rfl
theorem pair_162 : j_2 Try.prog 162 = true := by kernel_rfl
theorem un_144 : Try.prog.underlying 144 = some (.map 162 34) := by kernel_rfl
theorem el_106 : elK Try.prog 106 = some ((Value.agg #[(Value.int .i64 0), (Value.int .i64 0), (Value.slice none 0 0), (Value.slice none 0 0), (Value.int .i64 0)]), 5, 72) := by kernel_rfl
theorem bench_ok (b : h_6) (vt vm : Value) (lr lb lk : Nat → Value) (w : World) (hT : i_5 w vt lr lb b.tabs) (hM : j_6 w vm lk b.macs) (hth : n_4 b) :
  Calls Try.prog 86 #[(Value.agg #[(Value.int .i64 b.scales), vt, vm])] w (Ret fun v w' => ∃ bx bm es ck, v = bptr bx 0 ∧ s_8 bm es ck (bN b.tabs b.tabs.length) ∧ Sep NoB w w' [blk bx 146 [.int .i64 b.scales, vt, vm, .map (some bm)], (mapX true bm es ck es.size 106 5 (bN b.tabs b.tabs.length) (bC lr lb b.tabs b.tabs.length))]) := by
 refine a_8 Try.func86 rfl fun a0 S => ?_
 replace S : Fr 36 [] [(0, (Value.agg #[(Value.int .i64 b.scales), vt, vm]))] a0 := S
 have htl9 := hth.tl
 have Ai : Sep NoB w w [(d_8 false vt lr lb b.tabs), (e_6 false vm lk b.macs)] := f_1 ⟨rfl, hT, rfl, hM, trivial⟩
 refine m2 ?_
 refine s2 S (f_0 Ai rfl (S.ev rfl) (cs := [(Value.int .i64 b.scales), vt, vm]) rfl) ?_
 rintro a1 _ w3 ⟨R, rfl, AN⟩ Ag; clear S Ai a0
 refine s1 Ag (a_0 rfl (evc _ _)) fun a6 AE => ?_; clear Ag a1
 refine n4 ?_
 refine s1 AE (c_5 rfl t_9 (AE.ev rfl) (AN.bk 0 rfl) (l := [(Value.int .i64 b.scales), vt, vm]) rfl rfl) fun a8 Ah => ?_; clear AE a6
 refine s2 Ah (op_makeMapX (te := 106) (sz := 5) (n := bN b.tabs 0) (c := bC lr lb b.tabs 0) AN rfl) ?_
 rintro BE _ CW ⟨bm, rfl, AM⟩ I; clear Ah AN a8
 refine s1 I (e_5 rfl (pv2 (I.ev rfl) (I.ev rfl)) (bd_146_0ivva_1m _ _ _ _)) fun BF W => ?_; clear I BE
 refine s2 W (f_0 AM rfl (W.ev rfl) (cs := [(Value.int .i64 b.scales), vt, vm, (Value.map (some bm))]) rfl) ?_
 rintro BG _ CX ⟨B, rfl, N⟩ X; clear W AM BF
 refine s1 X (a_0 rfl (X.ev rfl)) fun BH y => ?_; clear X BG
 refine n2 ?_
 refine b_8 ?_
 have Y := y.as [(3, (bptr B 0)), (1, (bptr R 0))] rfl; clear y
 refine a_5 ?_
 refine s1 Y (a_3 rfl w_9 (Y.ev rfl)) fun BI Z => ?_; clear Y BH
 refine s1 Z (a_2 rfl ty_34 (Z.ev rfl) (N.bk 2 rfl) rfl) fun BJ d => ?_; clear Z BI
 refine s1 d (d_6 rfl z_8 (d.ev rfl) (c_1 (N.ok 3 _ rfl)).tabs) fun BK z => ?_; clear d BJ
 refine s1 z (a_1 rfl (evc _ _)) fun BL AA => ?_; clear z BK
 refine n1 ?_
 refine c_7 ?_
 have AB := AA.as [(14, (Value.int .i64 0)), (13, (Value.int .i64 (b.tabs.length : Int))), (12, vt), (3, (bptr B 0))] rfl; clear AA
 refine h_3 (G := Nat) (fun (k : Nat) a_ w_ => ∃ es_ : Array MapEntry, ∃ ck_ : Nat, Fr 36 [] [(14, (Value.int .i64 (k : Int))), (13, (Value.int .i64 (b.tabs.length : Int))), (12, vt), (3, (bptr B 0))] a_ ∧ Sep NoB w w_ [(blk B 146 [(Value.int .i64 b.scales), vt, vm, (Value.map (some bm))]), (mapX true bm es_ ck_ es_.size 106 5 (bN b.tabs k) (bC lr lb b.tabs k)), (blk R 37 [(Value.int .i64 b.scales), vt, vm]), (d_8 false vt lr lb b.tabs), (e_6 false vm lk b.macs)] ∧ (k ≤ b.tabs.length) ∧ (s_8 bm es_ ck_ (bN b.tabs k))) (fun k => b.tabs.length - k) 0 ⟨#[], 0, AB.as _ rfl, N, by omega, (s_8.none (fun _ _ => rfl))⟩ ?_
 clear AB N BL
 rintro k BM CY ⟨es_, ck_, J, H, hk, hMO⟩
 refine m2 ?_
 refine s1 J (f_8 rfl (J.ev rfl) (J.ev rfl)) fun Af C => ?_; clear J BM
 refine n2 ?_
 by_cases AX : (k : Int) < (b.tabs.length : Int)
 ·skip
  rw [decide_eq_true AX] at C
  refine c_3 C rfl ?_
  refine d_0 ?_
  refine b_0 ?_
  refine b_8 ?_
  refine c_7 ?_
  refine m2 ?_
  refine s1 C (b_3 rfl z_8 l_3 (C.ev rfl) (i := k) (C.ev rfl) (c_1 (H.ok 3 _ rfl)).tabs (by decide) (by omega)) fun BN f => ?_; clear C Af
  refine s1 f (e_7 rfl l_3 (f.ev rfl) (c_1 (H.ok 3 _ rfl)).tabs (u_5 (by omega)) rfl (by decide)) fun BO AC => ?_; clear f BN
  refine s2 AC (e_4 H rfl ze_106 (cs := [(Value.int .i64 0), (Value.int .i64 0), (Value.slice none 0 0), (Value.slice none 0 0), (Value.int .i64 0)]) rfl) ?_
  rintro BP _ CZ ⟨D, rfl, O⟩ K; clear AC H BO
  refine s7 K (c_2 O rfl l_3 (K.ev rfl) (K.ev rfl) (i := 0) rfl (vs := [(Value.int .i64 ((b.tabs.getD k tab0).frm)), (Value.int .i64 ((b.tabs.getD k tab0).dst)), (lr k), (lb k), (Value.int .i64 ((b.tabs.getD k tab0).err))]) rfl rfl (i_3 rfl (i_3 rfl (i_3 (SlAt.one ((c_1 (O.ok 4 _ rfl)).row (i := k) (by omega))) (i_3 (SlAt.one ((c_1 (O.ok 4 _ rfl)).brk (i := k) (by omega))) (i_3 rfl v_3))))) (Nat.le_of_ble_eq_true rfl)) ?_
  intro _ B1 AO g; clear K
  have P : Sep NoB w B1 [(blk D 106 [(Value.int .i64 ((b.tabs.getD k tab0).frm)), (Value.int .i64 ((b.tabs.getD k tab0).dst)), (lr k), (lb k), (Value.int .i64 ((b.tabs.getD k tab0).err))]), (blk B 146 [(Value.int .i64 b.scales), vt, vm, (Value.map (some bm))]), (mapX true bm es_ ck_ es_.size 106 5 (bN b.tabs k) (bC lr lb b.tabs k)), (blk R 37 [(Value.int .i64 b.scales), vt, vm]), (d_8 false vt lr lb b.tabs), (e_6 false vm lk b.macs)] := AO; clear AO O
  refine n4 ?_
  refine s1 g (a_3 rfl fd_106_0 (g.ev rfl)) fun BQ h => ?_; clear g BP
  refine s1 h (a_2 rfl ty_3 (h.ev rfl) (P.bk 0 rfl) rfl) fun BR j => ?_; clear h BQ
  refine s1 j (a_3 rfl fd_106_1 (j.ev rfl)) fun BS m => ?_; clear j BR
  refine s1 m (a_2 rfl ty_3 (m.ev rfl) (P.bk 0 rfl) rfl) fun BT L => ?_; clear m BS
  refine s1 L (e_5 rfl (pv2 (L.ev rfl) (L.ev rfl)) (bd_162_0i_1i _ _)) fun BU AD => ?_; clear L BT
  refine s2 AD (e_4 P rfl ze_162 (cs := [(Value.int .i64 0), (Value.int .i64 0)]) rfl) ?_
  rintro CG _ Ca ⟨E, rfl, AP⟩ M; clear AD P BU
  refine s7 M (c_2 AP rfl ty_162 (M.ev rfl) (M.ev rfl) (i := 0) rfl (vs := [(Value.int .i64 ((b.tabs.getD k tab0).frm)), (Value.int .i64 ((b.tabs.getD k tab0).dst))]) rfl rfl rfl (Nat.le_of_ble_eq_true rfl)) ?_
  intro _ Ak AQ AF; clear M
  have AR : Sep NoB w Ak [(blk E 162 [(Value.int .i64 ((b.tabs.getD k tab0).frm)), (Value.int .i64 ((b.tabs.getD k tab0).dst))]), (blk D 106 [(Value.int .i64 ((b.tabs.getD k tab0).frm)), (Value.int .i64 ((b.tabs.getD k tab0).dst)), (lr k), (lb k), (Value.int .i64 ((b.tabs.getD k tab0).err))]), (blk B 146 [(Value.int .i64 b.scales), vt, vm, (Value.map (some bm))]), (mapX true bm es_ ck_ es_.size 106 5 (bN b.tabs k) (bC lr lb b.tabs k)), (blk R 37 [(Value.int .i64 b.scales), vt, vm]), (d_8 false vt lr lb b.tabs), (e_6 false vm lk b.macs)] := AQ; clear AQ AP
  refine n1 ?_
  have AG := AF.as [(6, (bptr E 0)), (5, (bptr D 0)), (14, (Value.int .i64 (k : Int))), (13, (Value.int .i64 (b.tabs.length : Int))), (12, vt), (3, (bptr B 0))] rfl; clear AF
  have AH := AG.as [(6, (bptr E 0)), (5, (bptr D 0)), (14, (Value.int .i64 (k : Int))), (13, (Value.int .i64 (b.tabs.length : Int))), (12, vt), (3, (bptr B 0))] rfl; clear AG
  obtain ⟨es1, ck1, q, e, hMO1, AZ, AY, hEn⟩ := map_entry ((b.tabs.getD k tab0).frm) ((b.tabs.getD k tab0).dst) hMO
  skip
  have AS : Sep NoB w Ak [(mapX true bm es_ ck_ es_.size 106 5 (bN b.tabs k) (bC lr lb b.tabs k)), (blk E 162 [(Value.int .i64 ((b.tabs.getD k tab0).frm)), (Value.int .i64 ((b.tabs.getD k tab0).dst))]), (blk D 106 [(Value.int .i64 ((b.tabs.getD k tab0).frm)), (Value.int .i64 ((b.tabs.getD k tab0).dst)), (lr k), (lb k), (Value.int .i64 ((b.tabs.getD k tab0).err))]), (blk B 146 [(Value.int .i64 b.scales), vt, vm, (Value.map (some bm))]), (blk R 37 [(Value.int .i64 b.scales), vt, vm]), (d_8 false vt lr lb b.tabs), (e_6 false vm lk b.macs)] := AR.keep [3, 0, 1, 2, 4, 5, 6] (by decide) _ rfl rfl; clear AR
  refine c_drawCE mixed AH (mapX true bm es_ ck_ es_.size 106 5 (bN b.tabs k) (bC lr lb b.tabs k)) AS 11 3 [(7, 3), (9, 7)] [[], [0], [1], [2], [], [], [5], [3, 4], [7], [6, 7, 8], [7]] [(fun (A : Nat → Value) (v_ : Value) (rs_ : List Res) => v_ = (bptr B 0) ∧ rs_ = []), (fun (A : Nat → Value) (v_ : Value) (rs_ : List Res) => v_ = (bptr B 0) ∧ rs_ = []), (fun (A : Nat → Value) (v_ : Value) (rs_ : List Res) => v_ = (bptr B 3) ∧ rs_ = []), (fun (A : Nat → Value) (v_ : Value) (rs_ : List Res) => v_ = (Value.map (some bm)) ∧ rs_ = [(mapX true bm es_ ck_ es_.size 106 5 (bN b.tabs k) (bC lr lb b.tabs k))]), (fun (A : Nat → Value) (v_ : Value) (rs_ : List Res) => v_ = (Value.agg #[(Value.int .i64 ((b.tabs.getD k tab0).frm)), (Value.int .i64 ((b.tabs.getD k tab0).dst))]) ∧ rs_ = []), (fun (A : Nat → Value) (v_ : Value) (rs_ : List Res) => v_ = (Value.agg #[(Value.int .i64 ((b.tabs.getD k tab0).frm)), (Value.int .i64 ((b.tabs.getD k tab0).dst)), (lr k), (lb k), (Value.int .i64 ((b.tabs.getD k tab0).err))]) ∧ rs_ = []), (fun (A : Nat → Value) (v_ : Value) (rs_ : List Res) => True ∧ rs_ = [(row v_ 106 5 1 [(Value.int .i64 ((b.tabs.getD k tab0).frm)), (Value.int .i64 ((b.tabs.getD k tab0).dst)), (lr k), (lb k), (Value.int .i64 ((b.tabs.getD k tab0).err))])]), (fun (A : Nat → Value) (v_ : Value) (rs_ : List Res) => v_ = (Value.tuple #[e.val, .int .i64 (e.born : Int)]) ∧ rs_ = [(row e.val 106 5 (bN b.tabs k (b.tabs.getD k tab0).frm (b.tabs.getD k tab0).dst) (bC lr lb b.tabs k (b.tabs.getD k tab0).frm (b.tabs.getD k tab0).dst)), (mapX true bm es1 ck1 q 106 5 (bN b.tabs k) (bC lr lb b.tabs k))]), (fun (A : Nat → Value) (v_ : Value) (rs_ : List Res) => v_ = e.val ∧ rs_ = []), (fun (A : Nat → Value) (v_ : Value) (rs_ : List Res) => True ∧ rs_ = [(row v_ 106 5 (bN b.tabs k (b.tabs.getD k tab0).frm (b.tabs.getD k tab0).dst + 1) (bC lr lb b.tabs k (b.tabs.getD k tab0).frm (b.tabs.getD k tab0).dst ++ [.int .i64 (b.tabs.getD k tab0).frm, .int .i64 (b.tabs.getD k tab0).dst, lr k, lb k, .int .i64 (b.tabs.getD k tab0).err])), (mapX true bm es1 ck1 q 106 5 (bN b.tabs k) (bC lr lb b.tabs k))]), (fun (A : Nat → Value) (v_ : Value) (rs_ : List Res) => v_ = (Value.int .i64 (e.born : Int)) ∧ rs_ = [])] (by decide +kernel) (by decide +kernel) (by decide +kernel) (by decide +kernel) (by decide +kernel) rfl rfl ⟨(fun _ _ _ _ _ h_ => h_), (fun _ _ _ _ _ h_ => h_), (fun _ _ _ _ _ h_ => h_), (fun _ _ _ _ _ h_ => h_), (fun _ _ _ _ _ h_ => h_), (fun _ _ _ _ _ h_ => h_), (fun _ _ _ _ _ h_ => h_), (fun _ _ _ _ _ h_ => h_), (fun _ _ _ _ _ h_ => h_), (fun _ _ _ _ _ h_ => h_), (fun _ _ _ _ _ h_ => h_), trivial⟩ ?_ ?_ ?_ ?_
  ·skip
   refine ⟨fun hj_ hj1_ a w A hA hS hd => ?_, ?_⟩
   ·skip
    exact b_1 rfl (vv (a_1 rfl (hA.ev rfl)) (And.intro rfl rfl))
   refine ⟨fun hj_ hj1_ a w A hA hS hd => ?_, ?_⟩
   ·skip
    obtain ⟨e0, Aj, V, CJ⟩ := hd 0 (by decide)
    obtain ⟨Bn, Bf⟩ := V; subst Bf
    rw [Bn] at e0
    exact b_1 rfl (vv (o_2 rfl (a_7 (b_5 e0 rfl))) (And.intro rfl rfl))
   refine ⟨fun hj_ hj1_ a w A hA hS hd => ?_, ?_⟩
   ·skip
    obtain ⟨e1, CQ, Bu, CK⟩ := hd 1 (by decide)
    obtain ⟨Bo, Bg⟩ := Bu; subst Bg
    rw [Bo] at e1
    exact b_1 rfl (vv (a_3 rfl fd_146_1 (a_7 (b_5 e1 rfl))) (And.intro rfl rfl))
   refine ⟨fun _ hj_ => absurd rfl hj_, ?_⟩
   refine ⟨fun hj_ hj1_ a w A hA hS hd => ?_, ?_⟩
   ·skip
    exact b_1 rfl (vv (c_5 rfl ty_162 (hA.ev rfl) (hS.bk 0 rfl) (l := [(Value.int .i64 ((b.tabs.getD k tab0).frm)), (Value.int .i64 ((b.tabs.getD k tab0).dst))]) rfl rfl) (And.intro rfl rfl))
   refine ⟨fun hj_ hj1_ a w A hA hS hd => ?_, ?_⟩
   ·skip
    exact b_1 rfl (vv (c_5 rfl l_3 (hA.ev rfl) (hS.bk 1 rfl) (l := [(Value.int .i64 ((b.tabs.getD k tab0).frm)), (Value.int .i64 ((b.tabs.getD k tab0).dst)), (lr k), (lb k), (Value.int .i64 ((b.tabs.getD k tab0).err))]) rfl rfl) (And.intro rfl rfl))
   refine ⟨fun hj_ hj1_ a w A hA hS hd => ?_, ?_⟩
   ·skip
    obtain ⟨e5, CT, Bx, CN⟩ := hd 5 (by decide)
    obtain ⟨Bs, Bk⟩ := Bx; subst Bk
    rw [Bs] at e5
    exact b_1 rfl (vblt rfl (pv1 (a_7 (b_5 e5 rfl))) z_8 l_3 ze_106 (by decide) (cs := [(Value.int .i64 ((b.tabs.getD k tab0).frm)), (Value.int .i64 ((b.tabs.getD k tab0).dst)), (lr k), (lb k), (Value.int .i64 ((b.tabs.getD k tab0).err))]) (bs_106_1_0iivvia _ _ _ _ _) rfl (by decide) (fun _ => And.intro trivial rfl))
   refine ⟨fun hj_ => absurd hj_ (by decide), ?_⟩
   refine ⟨fun hj_ hj1_ a w A hA hS hd => ?_, ?_⟩
   ·skip
    obtain ⟨x, B0, Ab, Be⟩ := hd 7 (by decide)
    obtain ⟨U, T⟩ := Ab; subst T
    rw [U] at x
    exact b_1 rfl (vv (d_9 rfl (a_7 (b_5 x rfl)) rfl) (And.intro rfl rfl))
   refine ⟨fun hj_ => absurd hj_ (by decide), ?_⟩
   refine ⟨fun hj_ hj1_ a w A hA hS hd => ?_, ?_⟩
   ·skip
    obtain ⟨x, B0, Ab, Be⟩ := hd 7 (by decide)
    obtain ⟨U, T⟩ := Ab; subst T
    rw [U] at x
    exact b_1 rfl (vv (d_9 rfl (a_7 (b_5 x rfl)) rfl) (And.intro rfl rfl))
   trivial
  ·skip
   intro o_ ho_ a w A Lr hA hd hL hS; obtain rfl := Option.some.inj ho_; clear ho_
   obtain ⟨e2, CR, Bv, CL⟩ := hd 2 (by decide)
   obtain ⟨Bp, Bh⟩ := Bv; subst Bh
   rw [Bp] at e2
   exact b_1 rfl (q_8 (a_2 rfl ty_144 (a_7 (b_5 e2 rfl)) (hL.bk 2 rfl) rfl) (fun v_ w_ h_ => by obtain ⟨rfl, rfl⟩ := h_; exact ⟨⟨rfl, rfl⟩, hS⟩))
  ·skip
   refine ⟨fun o_ ho_ => ?_, ⟨fun o_ ho_ => ?_, trivial⟩⟩
   ·skip
    obtain rfl := Option.some.inj ho_; clear ho_
    intro a w A Aj Lr hA u V hd hL hS; obtain ⟨Bq, Bi⟩ := V; subst Bi; rw [Bq] at u
    obtain ⟨e4, CS, Bw, CM⟩ := hd 4 (by decide) (by decide)
    obtain ⟨Br, Bj⟩ := Bw; subst Bj
    rw [Br] at e4
    exact b_1 rfl (q_8 (op_mapEntryF hS rfl un_144 pair_162 zs_34 (a_7 (b_5 u rfl)) (a_7 (b_5 e4 rfl)) hMO (fun _ _ => bC_zero) hEn AZ AY) fun v_ w_ h_ => ⟨_, ⟨h_.1, rfl⟩, h_.2⟩)
   skip
   obtain rfl := Option.some.inj ho_; clear ho_
   intro a w A Aj Lr hA u V hd hL hS; obtain ⟨U, T⟩ := V; subst T; rw [U] at u
   obtain ⟨e6, CU, By, Bd⟩ := hd 6 (by decide) (by decide)
   obtain ⟨CP, Bl⟩ := By; subst Bl
   have hp6_0 := Bd (by decide) _ (List.mem_of_getElem? (i := 0) rfl)
   obtain ⟨e8, CV, Bz, CO⟩ := hd 8 (by decide) (by decide)
   obtain ⟨Bt, Bm⟩ := Bz; subst Bm
   rw [Bt] at e8
   exact b_1 rfl (q_8 (p_0 hS rfl z_8 el_106 (a_7 (b_5 e8 rfl)) (a_7 (b_5 e6 rfl)) (i := 0) rfl (SlAt.d_7 hp6_0) (i_3 rfl (i_3 rfl (i_3 (((c_1 (hL.ok 4 _ rfl)).row (i := k) (by omega)).one) (i_3 (((c_1 (hL.ok 4 _ rfl)).brk (i := k) (by omega)).one) (i_3 rfl v_3))))) (by have := bN_le b.tabs k ((b.tabs.getD k tab0).frm) ((b.tabs.getD k tab0).dst); simp only [maxLen]; omega) (by have := bN_le b.tabs k ((b.tabs.getD k tab0).frm) ((b.tabs.getD k tab0).dst); omega)) fun v_ w_ h_ => ⟨_, And.intro trivial rfl, h_⟩)
  skip
  intro t Al A rsf AI hH hrq AT; clear AH AS
  have hrq_3 := hrq (7, 3) (by decide); have hrq_7 := hrq (9, 7) (by decide)
  obtain ⟨Aw, rs_0, A4, hf_0⟩ := hH 0 (by decide); obtain ⟨B8, Ao⟩ := A4; replace hf_0 := (hf_0 (by decide)).trans Ao
  obtain ⟨Ax, rs_1, A5, hf_1⟩ := hH 1 (by decide); obtain ⟨B9, Ap⟩ := A5; replace hf_1 := (hf_1 (by decide)).trans Ap
  obtain ⟨Ay, rs_2, A6, hf_2⟩ := hH 2 (by decide); obtain ⟨CA, Aq⟩ := A6; replace hf_2 := (hf_2 (by decide)).trans Aq
  obtain ⟨Az, rs_4, A8, hf_4⟩ := hH 4 (by decide); obtain ⟨CB, Ar⟩ := A8; replace hf_4 := (hf_4 (by decide)).trans Ar
  obtain ⟨A0, rs_5, A9, hf_5⟩ := hH 5 (by decide); obtain ⟨CC, As⟩ := A9; replace hf_5 := (hf_5 (by decide)).trans As
  obtain ⟨A1, rs_6, BA, hf_6⟩ := hH 6 (by decide); obtain ⟨CD, At⟩ := BA; replace hf_6 := (hf_6 (by decide)).trans At
  obtain ⟨A2, rs_8, BB, hf_8⟩ := hH 8 (by decide); obtain ⟨CE, Au⟩ := BB; replace hf_8 := (hf_8 (by decide)).trans Au
  obtain ⟨Aa, rs_9, BC, hf_9⟩ := hH 9 (by decide); obtain ⟨CF, Av⟩ := BC; replace hf_9 := (hf_9 (by decide)).trans Av
  obtain ⟨Q, rs_10, Ae, hf_10⟩ := hH 10 (by decide); obtain ⟨Ad, Ac⟩ := Ae; replace hf_10 := (hf_10 (by decide)).trans Ac
  obtain ⟨s, rs_3, A7, hf_3⟩ := hH 3 (by decide); obtain ⟨A3, B7⟩ := A7
  have AU : Sep NoB w Al [(row (A 6) 106 5 1 [(Value.int .i64 ((b.tabs.getD k tab0).frm)), (Value.int .i64 ((b.tabs.getD k tab0).dst)), (lr k), (lb k), (Value.int .i64 ((b.tabs.getD k tab0).err))]), (row (A 9) 106 5 (bN b.tabs k (b.tabs.getD k tab0).frm (b.tabs.getD k tab0).dst + 1) (bC lr lb b.tabs k (b.tabs.getD k tab0).frm (b.tabs.getD k tab0).dst ++ [.int .i64 (b.tabs.getD k tab0).frm, .int .i64 (b.tabs.getD k tab0).dst, lr k, lb k, .int .i64 (b.tabs.getD k tab0).err])), (mapX true bm es1 ck1 q 106 5 (bN b.tabs k) (bC lr lb b.tabs k)), (blk E 162 [(Value.int .i64 ((b.tabs.getD k tab0).frm)), (Value.int .i64 ((b.tabs.getD k tab0).dst))]), (blk D 106 [(Value.int .i64 ((b.tabs.getD k tab0).frm)), (Value.int .i64 ((b.tabs.getD k tab0).dst)), (lr k), (lb k), (Value.int .i64 ((b.tabs.getD k tab0).err))]), (blk B 146 [(Value.int .i64 b.scales), vt, vm, (Value.map (some bm))]), (blk R 37 [(Value.int .i64 b.scales), vt, vm]), (d_8 false vt lr lb b.tabs), (e_6 false vm lk b.macs)] := by rw [show catR rsf 0 11 = ([(row (A 6) 106 5 1 [(Value.int .i64 ((b.tabs.getD k tab0).frm)), (Value.int .i64 ((b.tabs.getD k tab0).dst)), (lr k), (lb k), (Value.int .i64 ((b.tabs.getD k tab0).err))]), (row (A 9) 106 5 (bN b.tabs k (b.tabs.getD k tab0).frm (b.tabs.getD k tab0).dst + 1) (bC lr lb b.tabs k (b.tabs.getD k tab0).frm (b.tabs.getD k tab0).dst ++ [.int .i64 (b.tabs.getD k tab0).frm, .int .i64 (b.tabs.getD k tab0).dst, lr k, lb k, .int .i64 (b.tabs.getD k tab0).err])), (mapX true bm es1 ck1 q 106 5 (bN b.tabs k) (bC lr lb b.tabs k))] : List Res) by (try simp only [catR, hf_0, hf_1, hf_2, hf_4, hf_5, hf_6, hf_8, hf_9, hf_10, hrq_3, hrq_7]); (try rfl)] at AT; exact AT
  rw [A3] at s
  have AJ : Fr 36 [] [(26, (Value.map (some bm))), (6, (bptr E 0)), (5, (bptr D 0)), (14, (Value.int .i64 (k : Int))), (13, (Value.int .i64 (b.tabs.length : Int))), (12, vt), (3, (bptr B 0))] t := AI.add (b_5 s rfl); clear AI
  rw [Ad] at Q
  have AK : Fr 36 [] [(33, (Value.int .i64 (e.born : Int))), (26, (Value.map (some bm))), (6, (bptr E 0)), (5, (bptr D 0)), (14, (Value.int .i64 (k : Int))), (13, (Value.int .i64 (b.tabs.length : Int))), (12, vt), (3, (bptr B 0))] t := AJ.add (b_5 Q rfl); clear AJ
  have F : Fr 36 [] [(32, (A 9)), (33, (Value.int .i64 (e.born : Int))), (26, (Value.map (some bm))), (6, (bptr E 0)), (5, (bptr D 0)), (14, (Value.int .i64 (k : Int))), (13, (Value.int .i64 (b.tabs.length : Int))), (12, vt), (3, (bptr B 0))] t := AK.add (b_5 Aa rfl); clear AK
  clear hH Aw Ax Ay Az A0 A1 A2 Aa Q s
  have AV : Sep NoB w Al [(row (A 9) 106 5 (bN b.tabs k (b.tabs.getD k tab0).frm (b.tabs.getD k tab0).dst + 1) (bC lr lb b.tabs k (b.tabs.getD k tab0).frm (b.tabs.getD k tab0).dst ++ [.int .i64 (b.tabs.getD k tab0).frm, .int .i64 (b.tabs.getD k tab0).dst, lr k, lb k, .int .i64 (b.tabs.getD k tab0).err])), (mapX true bm es1 ck1 q 106 5 (bN b.tabs k) (bC lr lb b.tabs k)), (row (A 6) 106 5 1 [(Value.int .i64 ((b.tabs.getD k tab0).frm)), (Value.int .i64 ((b.tabs.getD k tab0).dst)), (lr k), (lb k), (Value.int .i64 ((b.tabs.getD k tab0).err))]), (blk E 162 [(Value.int .i64 ((b.tabs.getD k tab0).frm)), (Value.int .i64 ((b.tabs.getD k tab0).dst))]), (blk D 106 [(Value.int .i64 ((b.tabs.getD k tab0).frm)), (Value.int .i64 ((b.tabs.getD k tab0).dst)), (lr k), (lb k), (Value.int .i64 ((b.tabs.getD k tab0).err))]), (blk B 146 [(Value.int .i64 b.scales), vt, vm, (Value.map (some bm))]), (blk R 37 [(Value.int .i64 b.scales), vt, vm]), (d_8 false vt lr lb b.tabs), (e_6 false vm lk b.macs)] := AU.keep [1, 2, 0, 3, 4, 5, 6, 7, 8] (by decide) _ rfl rfl; clear AU
  refine s7 F (op_entryStore (n' := bN b.tabs (k + 1)) (c' := bC lr lb b.tabs (k + 1)) AV rfl (F.ev rfl) (F.ev rfl) (F.ev rfl) hMO1 AZ AY bN_next bC_next (b_other lr lb)) ?_
  intro _ B2 AW o; clear F AV
  refine e_9 ?_
  refine h_0 ?_
  refine b_0 ?_
  refine a_5 ?_
  refine s1 o (f_4 rfl (o.ev rfl) (evc _ _) (by omega) (by omega)) fun BV p => ?_; clear o t
  refine s1 p (a_1 rfl (p.ev rfl)) fun CH Am => ?_; clear p BV
  refine e_9 ?_
  have An : Sep NoB w B2 [(blk B 146 [(Value.int .i64 b.scales), vt, vm, (Value.map (some bm))]), (mapX true bm (es1.modify q fun e => { e with val := (A 9) }) ck1 ((es1.modify q fun e => { e with val := (A 9) }).size) 106 5 (bN b.tabs (k + 1)) (bC lr lb b.tabs (k + 1))), (blk R 37 [(Value.int .i64 b.scales), vt, vm]), (d_8 false vt lr lb b.tabs), (e_6 false vm lk b.macs)] := AW.keep [4, 0, 5, 6, 7] (by decide) _ rfl rfl; clear AW
  exact b_0 ⟨k + 1, ⟨(es1.modify q fun e => { e with val := (A 9) }), ck1, Am.as _ rfl, An, by omega, (hMO1.store AZ AY (fun a_ b_ h_ => (b_other lr lb a_ b_ h_).1))⟩, by omega⟩
 skip
 rw [decide_eq_false AX] at C
 refine b_7 C rfl ?_
 refine g_8 ?_
 refine b_6 ?_
 refine b_6 ?_
 refine f_5 ?_
 refine b_0 ?_
 refine m2 ?_
 refine s1 C (a_1 rfl (C.ev rfl)) fun BW r => ?_; clear C Af
 refine s1 r (a_0 rfl (r.ev rfl)) fun CI AL => ?_; clear r BW
 refine n1 ?_
 refine c_9 ?_
 refine a_9 AL (.inl rfl) (a_4 AL rfl (.tmp rfl)) ?_
 have hkk : k = b.tabs.length := by omega
 subst hkk
 exact ⟨_, bm, es_, ck_, rfl, hMO, H.keep [0, 1] (by decide) _ rfl rfl⟩
end Go.Proofs.Ytohgladndklciaa

namespace Go.Hard
open Go.RowKit Go.Eng
def y_4 (ts : List TabD) (i j : Int) : List TabD := ts.filter fun t => decide (t.frm = i) && decide (t.dst = j)
def toL (n : Nat) (ts : List TabD) (k : Nat) : List TabD := (List.range n).flatMap fun (f : Nat) => y_4 ts (f : Int) (k : Int)
def rest0 (n : Nat) (ts : List TabD) (k : Nat) : List TabD := ((List.range n).drop k).flatMap (toL n ts)
def rest1 (n : Nat) (ts : List TabD) (k k2 : Nat) : List TabD := ((List.range n).drop k2).flatMap fun (f : Nat) => y_4 ts (f : Int) (k : Int)
theorem drop_range {n k : Nat} (h : k < n) : (List.range n).drop k = k :: (List.range n).drop (k + 1) := by
  rw [List.drop_eq_getElem_cons (by simpa using h), List.getElem_range]
theorem rest0_next {n k : Nat} {ts : List TabD} (h : k < n) : rest0 n ts k = toL n ts k ++ rest0 n ts (k + 1) := by
  unfold rest0; rw [drop_range h, List.flatMap_cons]
theorem rest0_end {n k : Nat} {ts : List TabD} (h : n ≤ k) : rest0 n ts k = [] := by
  unfold rest0; rw [List.drop_eq_nil_of_le (by simpa using h)]; rfl
theorem rest1_zero (n k : Nat) (ts : List TabD) : rest1 n ts k 0 = toL n ts k := rfl
theorem rest1_next {n k k2 : Nat} {ts : List TabD} (h : k2 < n) : rest1 n ts k k2 = y_4 ts (k2 : Int) (k : Int) ++ rest1 n ts k (k2 + 1) := by
  unfold rest1; rw [drop_range h, List.flatMap_cons]
theorem rest1_end {n k k2 : Nat} {ts : List TabD} (h : n ≤ k2) : rest1 n ts k k2 = [] := by
  unfold rest1; rw [List.drop_eq_nil_of_le (by simpa using h)]; rfl
theorem getD_range_map (ts : List TabD) : (List.range ts.length).map (fun q => ts.getD q tab0) = ts := by
  refine List.ext_getElem (by simp) fun i h1 h2 => ?_
  simp [List.getD, List.getElem?_eq_getElem h2]
theorem sel_is (ts : List TabD) (i j : Int) : selT ts (selU ts ts.length i j) = y_4 ts i j := by
  unfold selT selU y_4
  have h := getD_range_map ts
  conv => rhs; rw [← h]
  rw [List.filter_map]; rfl
theorem w_0 {ts : List TabD} {i j : Int} {p : Nat} (hp : p < bN ts ts.length i j) : ((selT ts (selU ts ts.length i j)).getD p tab0).frm = i ∧ ((selT ts (selU ts ts.length i j)).getD p tab0).dst = j ∧ (selT ts (selU ts ts.length i j)).getD p tab0 ∈ ts := by
  have hl : p < (selT ts (selU ts ts.length i j)).length := by rw [s_4]; exact hp
  have hm : (selT ts (selU ts ts.length i j)).getD p tab0 ∈ y_4 ts i j := by
    rw [← sel_is]; simp only [List.getD, List.getElem?_eq_getElem hl, Option.getD_some]; exact List.getElem_mem hl
  unfold y_4 at hm
  rw [List.mem_filter, Bool.and_eq_true, decide_eq_true_eq, decide_eq_true_eq] at hm
  exact ⟨hm.2.1, hm.2.2, hm.1⟩
theorem sel_rl {b : h_6} (h : n_4 b) (l : List Nat) (p : Nat) : ((selT b.tabs l).getD p tab0).rows.length ≤ 1000000 ∧ ((selT b.tabs l).getD p tab0).brk.length ≤ 1000000 := by
  rcases Nat.lt_or_ge p l.length with hp | hp
  · rw [sel_at hp]; exact ⟨h.rl _, h.bl _⟩
  · rw [getD_out (by rw [s_4]; exact hp)]; exact ⟨by decide, by decide⟩
def Cut0 (n : Nat) (ts : List TabD) (s : g_6) (k : Nat) (x : g_6) : Prop := (rest0 n ts k).foldl goS (x, false) = h_4 (g_2 n ts) s
def Cut1 (n : Nat) (ts : List TabD) (s : g_6) (k k2 : Nat) (x : g_6) : Prop := (rest1 n ts k k2 ++ rest0 n ts (k + 1)).foldl goS (x, false) = h_4 (g_2 n ts) s
def Cut2 (n : Nat) (ts : List TabD) (s : g_6) (k k2 k3 : Nat) (x : g_6) : Prop := ((y_4 ts (k2 : Int) (k : Int)).drop k3 ++ (rest1 n ts k (k2 + 1) ++ rest0 n ts (k + 1))).foldl goS (x, false) = h_4 (g_2 n ts) s
section
variable {n : Nat} {ts : List TabD} {s x : g_6} {k k2 k3 : Nat}
theorem cut_00 : Cut0 n ts s 0 s := rfl
theorem cut_01 (hk : k < n) (h : Cut0 n ts s k x) : Cut1 n ts s k 0 x := by
  unfold Cut1; rw [rest1_zero, ← rest0_next hk]; exact h
theorem cut_12 (hk : k2 < n) (h : Cut1 n ts s k k2 x) : Cut2 n ts s k k2 0 x := by
  unfold Cut2; rw [List.drop_zero, ← List.append_assoc, ← rest1_next hk]; exact h
theorem cut_21 (hk : bN ts ts.length (k2 : Int) (k : Int) ≤ k3) (h : Cut2 n ts s k k2 k3 x) : Cut1 n ts s k (k2 + 1) x := by
  unfold Cut2 at h
  rw [List.drop_eq_nil_of_le (by rw [← sel_is, s_4]; exact hk), List.nil_append] at h; exact h
theorem cut_10 (hk : n ≤ k2) (h : Cut1 n ts s k k2 x) : Cut0 n ts s (k + 1) x := by
  unfold Cut1 at h; rw [rest1_end hk, List.nil_append] at h; exact h
theorem cut_end (hk : n ≤ k) (h : Cut0 n ts s k x) : h_4 (g_2 n ts) s = (x, false) := by
  unfold Cut0 at h; rw [rest0_end hk] at h; exact h.symm
theorem cut_go (hk : k3 < bN ts ts.length (k2 : Int) (k : Int)) (h : Cut2 n ts s k k2 k3 x) : ((y_4 ts (k2 : Int) (k : Int)).drop (k3 + 1) ++ (rest1 n ts k (k2 + 1) ++ rest0 n ts (k + 1))).foldl goS (goS (x, false) ((selT ts (selU ts ts.length (k2 : Int) (k : Int))).getD k3 tab0)) = h_4 (g_2 n ts) s := by
  unfold Cut2 at h
  have hl : k3 < (y_4 ts (k2 : Int) (k : Int)).length := by rw [← sel_is, s_4]; exact hk
  rw [List.drop_eq_getElem_cons hl, List.cons_append, List.foldl_cons] at h
  rw [sel_is, show (y_4 ts (k2 : Int) (k : Int)).getD k3 tab0 = (y_4 ts (k2 : Int) (k : Int))[k3] by simp [List.getD, List.getElem?_eq_getElem hl]]
  exact h
theorem cut_brk (hk : k3 < bN ts ts.length (k2 : Int) (k : Int)) (h : Cut2 n ts s k k2 k3 x) (he : (at' x k).2 < (at' x k).1) : h_4 (g_2 n ts) s = (x, true) := by
  have h1 := cut_go hk h
  have hd := (w_0 hk).2.1
  have : goS (x, false) ((selT ts (selU ts ts.length (k2 : Int) (k : Int))).getD k3 tab0) = (x, true) := by
    unfold goS; rw [hd, Int.toNat_natCast, if_neg (show ¬ false = true by decide), if_pos he]
  rw [this, go_stop] at h1
  exact h1.symm
theorem cut_y (hk : k3 < bN ts ts.length (k2 : Int) (k : Int)) (h : Cut2 n ts s k k2 k3 x) (he : ¬ (at' x k).2 < (at' x k).1) (hc : n_5 ((selT ts (selU ts ts.length (k2 : Int) (k : Int))).getD k3 tab0) (at' x k2) = true) :
    Cut2 n ts s k k2 (k3 + 1) (x.set k (cutR (at' x k) (f_3 ((selT ts (selU ts ts.length (k2 : Int) (k : Int))).getD k3 tab0) (at' x k2)))) := by
  have h1 := cut_go hk h
  have hd := w_0 hk
  unfold Cut2
  rw [← h1]
  congr 1
  unfold goS r_4
  rw [hd.2.1, hd.1, Int.toNat_natCast, Int.toNat_natCast, if_neg (show ¬ false = true by decide), if_neg he, if_pos hc]
theorem cut_n (hk : k3 < bN ts ts.length (k2 : Int) (k : Int)) (h : Cut2 n ts s k k2 k3 x) (he : ¬ (at' x k).2 < (at' x k).1) (hc : n_5 ((selT ts (selU ts ts.length (k2 : Int) (k : Int))).getD k3 tab0) (at' x k2) = false) :
    Cut2 n ts s k k2 (k3 + 1) x := by
  have h1 := cut_go hk h
  have hd := w_0 hk
  unfold Cut2
  rw [← h1]
  congr 1
  unfold goS r_4
  rw [hd.2.1, hd.1, Int.toNat_natCast, Int.toNat_natCast, if_neg (show ¬ false = true by decide), if_neg he, if_neg (by rw [hc]; decide)]
end
theorem full_any {n : Nat} {s : g_6} (h : n ≤ s.length) : (!(List.range (s.take n).length).any fun i => decide (((s.take n).getD i (0, 0)).2 < ((s.take n).getD i (0, 0)).1)) = ab_4 n s := by
  rw [List.length_take, Nat.min_eq_left h, Bool.eq_iff_iff, Bool.not_eq_true', List.any_eq_false, o_8]
  have at'' : ∀ i, i < n → (s.take n).getD i (0, 0) = at' s i := fun i hi => by
    unfold at'; simp [List.getD, List.getElem?_take, hi]
  constructor
  · intro h1 i hi
    have := h1 i (List.mem_range.2 hi)
    rw [at'' i hi, decide_eq_true_eq] at this
    omega
  · intro h1 i hi
    have hi := List.mem_range.1 hi
    have := h1 i hi
    rw [at'' i hi, decide_eq_true_eq]
    omega
end Go.Hard

namespace Go.Proofs.Ytohgladndklciaa
open Go.RowKit Go.Shelf Go.Eng Go.Hard
theorem fd_98_0 : fldK Try.prog 98 0 = some 0 := by kernel_rfl
theorem fd_98_1 : fldK Try.prog 98 1 = some 1 := by kernel_rfl
theorem en_83 : ∀ args w, (callFunc 83 args).run Try.prog w = .ok (.enter 83 args) w := enters_of Try.func83 (by kernel_rfl) rfl
theorem en_84 : ∀ args w, (callFunc 84 args).run Try.prog w = .ok (.enter 84 args) w := enters_of Try.func84 (by kernel_rfl) rfl
theorem en_85 : ∀ args w, (callFunc 85 args).run Try.prog w = .ok (.enter 85 args) w := enters_of Try.func85 (by kernel_rfl) rfl
theorem en_86 : ∀ args w, (callFunc 86 args).run Try.prog w = .ok (.enter 86 args) w := enters_of Try.func86 (by kernel_rfl) rfl
theorem right_ok (b : h_6) (vt vm : Value) (lr lb lk : Nat → Value) (w : World) (hT : i_5 w vt lr lb b.tabs) (hM : j_6 w vm lk b.macs) (hth : n_4 b) (X Z : Int) (Y : Nat) (g2 : (blk Y 37 [.int .i64 b.scales, vt, vm]).p w) :
  Calls Try.prog 83 #[(Value.agg #[(Value.int .i64 X), (Value.int .i64 Z)]), (bptr Y 0)] w (Ret fun v w' => v = .bool (r_2 b (X, Z)) ∧ Ext NoB w w') := by
 refine a_8 Try.func83 rfl fun f E => ?_
 replace E : Fr 16 [] [(0, (Value.agg #[(Value.int .i64 X), (Value.int .i64 Z)])), (1, (bptr Y 0))] f := E
 have hml9 := hth.ml
 have d : Sep NoB w w [(rob Y 37 [(Value.int .i64 b.scales), vt, vm]), (d_8 false vt lr lb b.tabs), (e_6 false vm lk b.macs)] := f_1 ⟨rfl, g2, rfl, hT, rfl, hM, trivial⟩
 refine m2 ?_
 refine s2 E (f_0 d rfl (E.ev rfl) (cs := [(Value.int .i64 X), (Value.int .i64 Z)]) rfl) ?_
 rintro x _ w3 ⟨b4, rfl, B⟩ c; clear E d f
 refine s1 c (a_0 rfl (evc _ _)) fun y U => ?_; clear c x
 refine n4 ?_
 refine s1 U (a_3 rfl fd_98_0 (U.ev rfl)) fun z V => ?_; clear U y
 refine s1 V (a_2 rfl ty_3 (V.ev rfl) (B.bk 0 rfl) rfl) fun g F => ?_; clear V z
 refine s1 F (a_3 rfl u_8 (F.ev rfl)) fun h G => ?_; clear F g
 refine s1 G (a_2 rfl ty_35 (G.ev rfl) (B.rk 1 rfl) rfl) fun i H => ?_; clear G h
 refine s1 H (d_6 rfl ab_7 (H.ev rfl) (c_8 (B.ok 3 _ rfl)).macs) fun j I => ?_; clear H i
 refine s1 I (h_9 rfl (I.ev rfl) (evc _ _) (by omega) (by omega)) fun k C => ?_; clear I j
 refine s2 C (b_4 rfl en_47 (ev3 (C.ev rfl) (evc _ _) (C.ev rfl)) (o_0 _ _ _ _)) ?_
 rintro l _ W_ ⟨rfl, hW_⟩ J; have hW2_ := hW_.symm; subst hW2_; clear hW_ C k
 refine s1 J (a_1 rfl (J.ev rfl)) fun a A => ?_; clear J l
 rcases Bool.eq_false_or_eq_true ((inB X 0 ((b.macs.length : Int) - 1))) with P | P
 ·skip
  rw [P] at A
  refine s5 A (a_3 rfl fd_98_1 (A.ev rfl)) fun m K => ?_; clear A a
  refine s5 K (a_2 rfl ty_3 (K.ev rfl) (B.bk 0 rfl) rfl) fun n L => ?_; clear K m
  refine s6 L (b_4 rfl en_70 (ev1 (L.ev rfl)) (value_ok _ _)) ?_
  rintro o _ AD ⟨rfl, W⟩ D; have e := B.step W; clear W L B n
  refine s1 D (b_9 rfl (D.ev rfl) (D.ev rfl)) fun q M => ?_; clear D o
  refine s1 M (a_0 rfl (M.ev rfl)) fun AB Q => ?_; clear M q
  refine n1 ?_
  refine c_9 ?_
  refine a_9 Q (.inl rfl) (a_4 Q rfl (.tmp rfl)) ?_
  exact ⟨congrArg Value.bool (by unfold r_2; simp [*]), e.ext⟩
 skip
 rw [P] at A
 refine s3 A fun r R => ?_; clear A a
 refine s3 R fun s S => ?_; clear R r
 refine s3 S fun t N => ?_; clear S s
 refine s1 N (d_3 rfl (N.ev rfl) (evc _ _)) fun u O => ?_; clear N t
 refine s1 O (a_0 rfl (O.ev rfl)) fun AC T => ?_; clear O u
 refine n1 ?_
 refine c_9 ?_
 refine a_9 T (.inl rfl) (a_4 T rfl (.tmp rfl)) ?_
 exact ⟨congrArg Value.bool (by unfold r_2; simp [*]), B.ext⟩
theorem notoff_ok (b : h_6) (vt vm : Value) (lr lb lk : Nat → Value) (w : World) (hT : i_5 w vt lr lb b.tabs) (hM : j_6 w vm lk b.macs) (hth : n_4 b) (C V : Int) (R : Nat) (k : (blk R 37 [.int .i64 b.scales, vt, vm]).p w) (hb : n_0 b) (hx : 0 ≤ C ∧ C ≤ (b.macs.length : Int) - 1) :
  Calls Try.prog 85 #[(Value.agg #[(Value.int .i64 C), (Value.int .i64 V)]), (bptr R 0)] w (Ret fun v w' => v = .bool (!offB (b.macs.getD C.toNat mac0)) ∧ Ext NoB w w') := by
 refine a_8 Try.func85 rfl fun W D => ?_
 replace D : Fr 13 [] [(0, (Value.agg #[(Value.int .i64 C), (Value.int .i64 V)])), (1, (bptr R 0))] W := D
 have hml9 := hth.ml
 have T : Sep NoB w w [(rob R 37 [(Value.int .i64 b.scales), vt, vm]), (d_8 false vt lr lb b.tabs), (e_6 false vm lk b.macs)] := f_1 ⟨rfl, k, rfl, hT, rfl, hM, trivial⟩
 refine m2 ?_
 refine s2 D (f_0 T rfl (D.ev rfl) (cs := [(Value.int .i64 C), (Value.int .i64 V)]) rfl) ?_
 rintro g _ q ⟨o, rfl, A⟩ S; clear D T W
 refine s1 S (a_0 rfl (evc _ _)) fun h M => ?_; clear S g
 refine n4 ?_
 refine s1 M (a_3 rfl u_8 (M.ev rfl)) fun j N => ?_; clear M h
 refine s1 N (a_2 rfl ty_35 (N.ev rfl) (A.rk 1 rfl) rfl) fun X E => ?_; clear N j
 refine s1 E (a_3 rfl fd_98_0 (E.ev rfl)) fun Y F => ?_; clear E X
 refine s1 F (a_2 rfl ty_3 (F.ev rfl) (A.bk 0 rfl) rfl) fun Z B => ?_; clear F Y
 refine s1 B (b_3 rfl ab_7 t_7 (B.ev rfl) (i := C.toNat) ((B.ev rfl).trans (h_1 (by omega))) (c_8 (A.ok 3 _ rfl)).macs (by decide) (by omega)) fun a G => ?_; clear B Z
 refine s1 G (e_7 rfl t_7 (G.ev rfl) (c_8 (A.ok 3 _ rfl)).macs (u_2 (by omega)) rfl (by decide)) fun c H => ?_; clear G a
 refine s2 H (b_4 rfl en_67 (ev1 (H.ev rfl)) (bias_ok _ (b.macs.getD C.toNat mac0) _ _ ((c_8 (A.ok 3 _ rfl)).blk (i := C.toNat) (by omega)) (hb.mac (by omega)) (hth.kl _))) ?_
 rintro d _ m ⟨rfl, O⟩ I; have Q := A.step O; clear O H A c
 refine s2 I (b_4 rfl en_68 (ev1 (I.ev rfl)) (empty_ok _ _ _)) ?_
 rintro e _ n ⟨rfl, P⟩ J; have U := Q.step P; clear P I Q d
 refine s1 J (f_6 rfl (J.ev rfl)) fun f K => ?_; clear J e
 refine s1 K (a_0 rfl (K.ev rfl)) fun l L => ?_; clear K f
 refine n1 ?_
 refine c_9 ?_
 refine a_9 L (.inl rfl) (a_4 L rfl (.tmp rfl)) ?_
 exact ⟨rfl, U.ext⟩
theorem read_bad0 (b : h_6) (vt vm : Value) (lr lb lk : Nat → Value) (w : World) (hT : i_5 w vt lr lb b.tabs) (hM : j_6 w vm lk b.macs) (hth : n_4 b) (l : List (Int × Int)) (xl : Value) (hxl : SlAt w xl 2 l.length (pairs l)) (he : f_9 b ≠ 0) :
  Calls Try.prog 56 #[(Value.agg #[(Value.int .i64 b.scales), vt, vm]), xl] w (Ret fun v w' => v = .tuple #[.pointer none, .int .i64 (j_9 b l)] ∧ Ext NoB w w') := by
 refine a_8 Try.func56 rfl fun S B => ?_
 replace B : Fr 30 [] [(0, (Value.agg #[(Value.int .i64 b.scales), vt, vm])), (1, xl)] S := B
 have P : Sep NoB w w [(d_8 false vt lr lb b.tabs), (e_6 false vm lk b.macs), (sl xl 2 l.length (pairs l))] := f_1 ⟨rfl, hT, rfl, hM, rfl, hxl, trivial⟩
 refine m2 ?_
 refine s2 B (f_0 P rfl (B.ev rfl) (cs := [(Value.int .i64 b.scales), vt, vm]) rfl) ?_
 rintro a _ h ⟨g, rfl, C⟩ N; clear B P S
 refine s1 N (a_0 rfl (evc _ _)) fun c O => ?_; clear N a
 refine s1 O (a_0 rfl (evc _ _)) fun d L => ?_; clear O c
 refine n2 ?_
 refine m2 ?_
 refine s1 L (c_5 rfl t_9 (L.ev rfl) (C.bk 0 rfl) (l := [(Value.int .i64 b.scales), vt, vm]) rfl rfl) fun T D => ?_; clear L d
 refine s2 D (b_4 rfl en_32 (ev1 (D.ev rfl)) (v_4 b vt vm lr lb lk _ (c_1 (C.ok 1 _ rfl)) (c_8 (C.ok 2 _ rfl)) hth)) ?_
 rintro U _ f ⟨rfl, M⟩ E; have Q := C.step M; clear M D C T
 refine s1 E (a_0 rfl (E.ev rfl)) fun V F => ?_; clear E U
 refine n4 ?_
 refine s1 F (a_1 rfl (F.ev rfl)) fun W G => ?_; clear F V
 refine s1 G (t_2 rfl (G.ev rfl) (evc _ _)) fun X A => ?_; clear G W
 have R : ¬ ((f_9 b) = 0) := he
 rw [decide_eq_false R] at A
 refine n1 ?_
 refine c_3 A rfl ?_
 refine b_8 ?_
 have H := A.as [(6, (Value.int .i64 (f_9 b)))] rfl; clear A
 refine a_5 ?_
 refine s1 H (a_1 rfl (H.ev rfl)) fun Y J => ?_; clear H X
 refine s1 J (a_0 rfl (evc _ _)) fun Z I => ?_; clear J Y
 refine s1 I (a_0 rfl (I.ev rfl)) fun e K => ?_; clear I Z
 refine n1 ?_
 refine c_9 ?_
 refine a_6 ?_
 refine a_9 K (.inl rfl) (d_2 K rfl (.tmp rfl) (.tmp rfl)) ?_
 exact ⟨by rw [read_c he], Q.ext⟩
theorem read_bad1 (b : h_6) (vt vm : Value) (lr lb lk : Nat → Value) (w : World) (hT : i_5 w vt lr lb b.tabs) (hM : j_6 w vm lk b.macs) (hth : n_4 b) (l : List (Int × Int)) (xl : Value) (hxl : SlAt w xl 2 l.length (pairs l)) (hlb : l.length ≤ 1000000) (he : f_9 b = 0) (hr : j_9 b l ≠ 0) :
  Calls Try.prog 56 #[(Value.agg #[(Value.int .i64 b.scales), vt, vm]), xl] w (Ret fun v w' => v = .tuple #[.pointer none, .int .i64 (j_9 b l)] ∧ Ext NoB w w') := by
 refine a_8 Try.func56 rfl fun a0 J => ?_
 replace J : Fr 30 [] [(0, (Value.agg #[(Value.int .i64 b.scales), vt, vm])), (1, xl)] a0 := J
 have AK : Sep NoB w w [(d_8 false vt lr lb b.tabs), (e_6 false vm lk b.macs), (sl xl 2 l.length (pairs l))] := f_1 ⟨rfl, hT, rfl, hM, rfl, hxl, trivial⟩
 refine m2 ?_
 refine s2 J (f_0 AK rfl (J.ev rfl) (cs := [(Value.int .i64 b.scales), vt, vm]) rfl) ?_
 rintro a1 _ w3 ⟨L, rfl, K⟩ AI; clear J AK a0
 refine s1 AI (a_0 rfl (evc _ _)) fun a6 AJ => ?_; clear AI a1
 refine s1 AJ (a_0 rfl (evc _ _)) fun a8 s => ?_; clear AJ a6
 refine n2 ?_
 refine m2 ?_
 refine s1 s (c_5 rfl t_9 (s.ev rfl) (K.bk 0 rfl) (l := [(Value.int .i64 b.scales), vt, vm]) rfl rfl) fun AN M => ?_; clear s a8
 refine s2 M (b_4 rfl en_32 (ev1 (M.ev rfl)) (v_4 b vt vm lr lb lk _ (c_1 (K.ok 1 _ rfl)) (c_8 (K.ok 2 _ rfl)) hth)) ?_
 rintro AO _ At ⟨rfl, AA⟩ N; have D := K.step AA; clear AA M K AN
 refine s1 N (a_0 rfl (N.ev rfl)) fun AP O => ?_; clear N AO
 refine n4 ?_
 refine s1 O (a_1 rfl (O.ev rfl)) fun AQ P => ?_; clear O AP
 refine s1 P (t_2 rfl (P.ev rfl) (evc _ _)) fun AR G => ?_; clear P AQ
 have AL : (f_9 b) = 0 := he
 rw [decide_eq_true AL] at G
 refine n1 ?_
 refine b_7 G rfl ?_
 refine d_0 ?_
 refine b_0 ?_
 refine b_8 ?_
 have Q := G.as [(2, (bptr L 0)), (1, xl)] rfl; clear G
 refine a_5 ?_
 refine s1 Q (h_5 rfl ev0 (ev1 (Q.ev rfl))) fun AS R => ?_; clear Q AR
 refine s1 R (a_0 rfl (R.ev rfl)) fun AT S => ?_; clear R AS
 refine n2 ?_
 refine c_7 ?_
 refine m2 ?_
 refine s1 S (a_1 rfl (S.ev rfl)) fun AU T => ?_; clear S AT
 refine s1 T (d_6 rfl un_53 (T.ev rfl) (D.sk 3 rfl)) fun AV U => ?_; clear T AU
 refine s1 U (j_0 rfl (U.ev rfl) (evc _ _)) fun AW V => ?_; clear U AV
 refine s1 V (a_0 rfl (V.ev rfl)) fun AF A => ?_; clear V AW
 refine n1 ?_
 by_cases AE : 8 < (l.length : Int)
 ·skip
  rw [decide_eq_true AE] at A
  refine c_3 A rfl ?_
  refine b_8 ?_
  have m := A.as [] rfl; clear A
  refine a_5 ?_
  refine s1 m (a_0 rfl (evc _ _)) fun AX n => ?_; clear m AF
  refine s1 n (a_0 rfl (evc _ _)) fun Ap o => ?_; clear n AX
  refine n1 ?_
  refine c_9 ?_
  refine c_6 ?_
  refine a_6 ?_
  refine a_9 o (.inl rfl) (d_2 o rfl (.tmp rfl) (.tmp rfl)) ?_
  exact ⟨by rw [(read_3 he (by omega))], D.ext⟩
 skip
 rw [decide_eq_false AE] at A
 refine b_7 A rfl ?_
 refine m2 ?_
 refine s1 A (a_1 rfl (A.ev rfl)) fun AY X => ?_; clear A AF
 refine s1 X (a_1 rfl (X.ev rfl)) fun AZ H => ?_; clear X AY
 refine s2 H (b_4 rfl en_84 (ev2 (H.ev rfl) (H.ev rfl)) (all_read l _ 83 #[] #[(bptr L 0)] (fun i => r_2 b (l.getD i (0, 0))) _ (D.sk 3 rfl) (by omega) ⟨en_83, fun i hi W hW => right_ok b vt vm lr lb lk W (c_1 ((D.step hW).ok 1 _ rfl)) (c_8 ((D.step hW).ok 2 _ rfl)) hth _ _ L ((D.step hW).bk 0 rfl)⟩)) ?_
 rintro Aa _ Au ⟨rfl, AB⟩ Y; have E := D.step AB; clear AB H D AZ
 refine s1 Y (f_6 rfl (Y.ev rfl)) fun Ab Z => ?_; clear Y Aa
 refine s1 Z (a_0 rfl (Z.ev rfl)) fun AG B => ?_; clear Z Ab
 refine n1 ?_
 rcases Bool.eq_false_or_eq_true (((List.range l.length).all (fun i => r_2 b (l.getD i (0, 0))))) with j | j
 ·skip
  rw [j] at B
  refine b_7 B rfl ?_
  refine b_8 ?_
  have a := B.as [(2, (bptr L 0)), (1, xl)] rfl; clear B
  refine a_5 ?_
  refine s1 a (a_1 rfl (a.ev rfl)) fun Ac c => ?_; clear a AG
  refine s1 c (h_5 rfl ev0 (ev1 (c.ev rfl))) fun Ad I => ?_; clear c Ac
  refine s2 I (b_4 rfl en_84 (ev2 (I.ev rfl) (I.ev rfl)) (all_read l _ 85 #[] #[(bptr L 0)] (fun i => !offB (b.macs.getD (l.getD i (0, 0)).1.toNat mac0)) _ (E.sk 3 rfl) (by omega) ⟨en_85, fun i hi W hW => notoff_ok b vt vm lr lb lk W (c_1 ((E.step hW).ok 1 _ rfl)) (c_8 ((E.step hW).ok 2 _ rfl)) hth _ _ L ((E.step hW).bk 0 rfl) (u_1 he) (readB_is (h_7.1 (show allI l.length (fun i => r_2 b (l.getD i (0, 0))) = true from (by assumption)) i hi)).1⟩)) ?_
  rintro Ae _ Av ⟨rfl, AC⟩ d; have F := E.step AC; clear AC I E Ad
  refine s1 d (f_6 rfl (d.ev rfl)) fun Af e => ?_; clear d Ae
  refine s1 e (a_0 rfl (e.ev rfl)) fun AH C => ?_; clear e Af
  refine n1 ?_
  rcases Bool.eq_false_or_eq_true (((List.range l.length).all (fun i => !offB (b.macs.getD (l.getD i (0, 0)).1.toNat mac0)))) with k | k
  ·skip
   rw [k] at C
   refine b_7 C rfl ?_
   refine d_0 ?_
   refine h_0 ?_
   refine b_0 ?_
   refine b_8 ?_
   have f := C.as [(2, (bptr L 0))] rfl; clear C
   refine a_5 ?_
   refine s1 f (c_5 rfl t_9 (f.ev rfl) (F.bk 0 rfl) (l := [(Value.int .i64 b.scales), vt, vm]) rfl rfl) fun Ag g => ?_; clear f AH
   refine s2 g (b_4 rfl en_86 (ev1 (g.ev rfl)) (bench_ok b vt vm lr lb lk _ (c_1 (F.ok 1 _ rfl)) (c_8 (F.ok 2 _ rfl)) hth)) ?_
   rintro Ah _ Aw ⟨bx80, bm81, es82, ck83, rfl, hMO84, AD⟩ h; have Ao := F.w_7 AD rfl; clear AD g F Ag
   refine s1 h (a_0 rfl (h.ev rfl)) fun Ai p => ?_; clear h Ah
   refine s1 p (a_0 rfl (evc _ _)) fun Aq q => ?_; clear p Ai
   refine n1 ?_
   refine c_9 ?_
   refine a_9 q (.inl rfl) (d_2 q rfl (.tmp rfl) (.tmp rfl)) ?_
   exact absurd (read_0' he (by omega) (by assumption) (by assumption)) hr
  skip
  rw [k] at C
  refine c_3 C rfl ?_
  refine b_8 ?_
  have r := C.as [] rfl; clear C
  refine a_5 ?_
  refine s1 r (a_0 rfl (evc _ _)) fun Aj t => ?_; clear r AH
  refine s1 t (a_0 rfl (evc _ _)) fun Ar u => ?_; clear t Aj
  refine n1 ?_
  refine c_9 ?_
  refine c_6 ?_
  refine a_6 ?_
  refine a_9 u (.inl rfl) (d_2 u rfl (.tmp rfl) (.tmp rfl)) ?_
  exact ⟨by rw [(read_11' he (by omega) (by assumption) (by assumption))], F.ext⟩
 skip
 rw [j] at B
 refine c_3 B rfl ?_
 refine b_8 ?_
 have x := B.as [] rfl; clear B
 refine a_5 ?_
 refine s1 x (a_0 rfl (evc _ _)) fun Ak y => ?_; clear x AG
 refine s1 y (a_0 rfl (evc _ _)) fun As z => ?_; clear y Ak
 refine n1 ?_
 refine c_9 ?_
 refine c_6 ?_
 refine a_6 ?_
 refine a_9 z (.inl rfl) (d_2 z rfl (.tmp rfl) (.tmp rfl)) ?_
 exact ⟨by rw [(read_2' he (by omega) (by assumption))], E.ext⟩
theorem read_bad (b : h_6) (vt vm : Value) (lr lb lk : Nat → Value) (w : World) (hT : i_5 w vt lr lb b.tabs) (hM : j_6 w vm lk b.macs) (hth : n_4 b) (l : List (Int × Int)) (xl : Value) (hxl : SlAt w xl 2 l.length (pairs l)) (hlb : l.length ≤ 1000000) (hr : j_9 b l ≠ 0) : Calls Try.prog 56 #[.agg #[.int .i64 b.scales, vt, vm], xl] w (Ret fun v w' => v = .tuple #[.pointer none, .int .i64 (j_9 b l)] ∧ Ext NoB w w') := by
 by_cases he : f_9 b = 0
 ·exact read_bad1 b vt vm lr lb lk w hT hM hth l xl hxl hlb he hr
 exact read_bad0 b vt vm lr lb lk w hT hM hth l xl hxl he
theorem read_yes (b : h_6) (vt vm : Value) (lr lb lk : Nat → Value) (w : World) (hT : i_5 w vt lr lb b.tabs) (hM : j_6 w vm lk b.macs) (hth : n_4 b) (l : List (Int × Int)) (xl : Value) (hxl : SlAt w xl 2 l.length (pairs l)) (hlb : l.length ≤ 1000000) (he : f_9 b = 0) (hr : j_9 b l = 0) :
  Calls Try.prog 56 #[(Value.agg #[(Value.int .i64 b.scales), vt, vm]), xl] w (Ret fun v w' => ∃ bx bm es ck, v = .tuple #[bptr bx 0, .int .i64 0] ∧ s_8 bm es ck (bN b.tabs b.tabs.length) ∧ Sep NoB w w' [blk bx 146 [.int .i64 b.scales, vt, vm, .map (some bm)], (mapX true bm es ck es.size 106 5 (bN b.tabs b.tabs.length) (bC lr lb b.tabs b.tabs.length))]) := by
 refine a_8 Try.func56 rfl fun a0 J => ?_
 replace J : Fr 30 [] [(0, (Value.agg #[(Value.int .i64 b.scales), vt, vm])), (1, xl)] a0 := J
 have AK : Sep NoB w w [(d_8 false vt lr lb b.tabs), (e_6 false vm lk b.macs), (sl xl 2 l.length (pairs l))] := f_1 ⟨rfl, hT, rfl, hM, rfl, hxl, trivial⟩
 refine m2 ?_
 refine s2 J (f_0 AK rfl (J.ev rfl) (cs := [(Value.int .i64 b.scales), vt, vm]) rfl) ?_
 rintro a1 _ w3 ⟨L, rfl, K⟩ AI; clear J AK a0
 refine s1 AI (a_0 rfl (evc _ _)) fun a6 AJ => ?_; clear AI a1
 refine s1 AJ (a_0 rfl (evc _ _)) fun a8 s => ?_; clear AJ a6
 refine n2 ?_
 refine m2 ?_
 refine s1 s (c_5 rfl t_9 (s.ev rfl) (K.bk 0 rfl) (l := [(Value.int .i64 b.scales), vt, vm]) rfl rfl) fun AO M => ?_; clear s a8
 refine s2 M (b_4 rfl en_32 (ev1 (M.ev rfl)) (v_4 b vt vm lr lb lk _ (c_1 (K.ok 1 _ rfl)) (c_8 (K.ok 2 _ rfl)) hth)) ?_
 rintro AP _ At ⟨rfl, AA⟩ N; have D := K.step AA; clear AA M K AO
 refine s1 N (a_0 rfl (N.ev rfl)) fun AQ O => ?_; clear N AP
 refine n4 ?_
 refine s1 O (a_1 rfl (O.ev rfl)) fun AR P => ?_; clear O AQ
 refine s1 P (t_2 rfl (P.ev rfl) (evc _ _)) fun AS G => ?_; clear P AR
 have AM : (f_9 b) = 0 := he
 rw [decide_eq_true AM] at G
 refine n1 ?_
 refine b_7 G rfl ?_
 refine d_0 ?_
 refine b_0 ?_
 refine b_8 ?_
 have Q := G.as [(2, (bptr L 0)), (1, xl)] rfl; clear G
 refine a_5 ?_
 refine s1 Q (h_5 rfl ev0 (ev1 (Q.ev rfl))) fun AT R => ?_; clear Q AS
 refine s1 R (a_0 rfl (R.ev rfl)) fun AU S => ?_; clear R AT
 refine n2 ?_
 refine c_7 ?_
 refine m2 ?_
 refine s1 S (a_1 rfl (S.ev rfl)) fun AV T => ?_; clear S AU
 refine s1 T (d_6 rfl un_53 (T.ev rfl) (D.sk 3 rfl)) fun AW U => ?_; clear T AV
 refine s1 U (j_0 rfl (U.ev rfl) (evc _ _)) fun AX V => ?_; clear U AW
 refine s1 V (a_0 rfl (V.ev rfl)) fun AF A => ?_; clear V AX
 refine n1 ?_
 by_cases AE : 8 < (l.length : Int)
 ·skip
  rw [decide_eq_true AE] at A
  refine c_3 A rfl ?_
  refine b_8 ?_
  have m := A.as [] rfl; clear A
  refine a_5 ?_
  refine s1 m (a_0 rfl (evc _ _)) fun AY n => ?_; clear m AF
  refine s1 n (a_0 rfl (evc _ _)) fun Ap o => ?_; clear n AY
  refine n1 ?_
  refine c_9 ?_
  refine c_6 ?_
  refine a_6 ?_
  refine a_9 o (.inl rfl) (d_2 o rfl (.tmp rfl) (.tmp rfl)) ?_
  exact absurd (hr.symm.trans (read_3 he (by omega))) (by decide)
 skip
 rw [decide_eq_false AE] at A
 refine b_7 A rfl ?_
 refine m2 ?_
 refine s1 A (a_1 rfl (A.ev rfl)) fun AZ X => ?_; clear A AF
 refine s1 X (a_1 rfl (X.ev rfl)) fun Aa H => ?_; clear X AZ
 refine s2 H (b_4 rfl en_84 (ev2 (H.ev rfl) (H.ev rfl)) (all_read l _ 83 #[] #[(bptr L 0)] (fun i => r_2 b (l.getD i (0, 0))) _ (D.sk 3 rfl) (by omega) ⟨en_83, fun i hi W hW => right_ok b vt vm lr lb lk W (c_1 ((D.step hW).ok 1 _ rfl)) (c_8 ((D.step hW).ok 2 _ rfl)) hth _ _ L ((D.step hW).bk 0 rfl)⟩)) ?_
 rintro Ab _ Au ⟨rfl, AB⟩ Y; have E := D.step AB; clear AB H D Aa
 refine s1 Y (f_6 rfl (Y.ev rfl)) fun Ac Z => ?_; clear Y Ab
 refine s1 Z (a_0 rfl (Z.ev rfl)) fun AG B => ?_; clear Z Ac
 refine n1 ?_
 rcases Bool.eq_false_or_eq_true (((List.range l.length).all (fun i => r_2 b (l.getD i (0, 0))))) with j | j
 ·skip
  rw [j] at B
  refine b_7 B rfl ?_
  refine b_8 ?_
  have a := B.as [(2, (bptr L 0)), (1, xl)] rfl; clear B
  refine a_5 ?_
  refine s1 a (a_1 rfl (a.ev rfl)) fun Ad c => ?_; clear a AG
  refine s1 c (h_5 rfl ev0 (ev1 (c.ev rfl))) fun Ae I => ?_; clear c Ad
  refine s2 I (b_4 rfl en_84 (ev2 (I.ev rfl) (I.ev rfl)) (all_read l _ 85 #[] #[(bptr L 0)] (fun i => !offB (b.macs.getD (l.getD i (0, 0)).1.toNat mac0)) _ (E.sk 3 rfl) (by omega) ⟨en_85, fun i hi W hW => notoff_ok b vt vm lr lb lk W (c_1 ((E.step hW).ok 1 _ rfl)) (c_8 ((E.step hW).ok 2 _ rfl)) hth _ _ L ((E.step hW).bk 0 rfl) (u_1 he) (readB_is (h_7.1 (show allI l.length (fun i => r_2 b (l.getD i (0, 0))) = true from (by assumption)) i hi)).1⟩)) ?_
  rintro Af _ Av ⟨rfl, AC⟩ d; have F := E.step AC; clear AC I E Ae
  refine s1 d (f_6 rfl (d.ev rfl)) fun Ag e => ?_; clear d Af
  refine s1 e (a_0 rfl (e.ev rfl)) fun AH C => ?_; clear e Ag
  refine n1 ?_
  rcases Bool.eq_false_or_eq_true (((List.range l.length).all (fun i => !offB (b.macs.getD (l.getD i (0, 0)).1.toNat mac0)))) with k | k
  ·skip
   rw [k] at C
   refine b_7 C rfl ?_
   refine d_0 ?_
   refine h_0 ?_
   refine b_0 ?_
   refine b_8 ?_
   have f := C.as [(2, (bptr L 0))] rfl; clear C
   refine a_5 ?_
   refine s1 f (c_5 rfl t_9 (f.ev rfl) (F.bk 0 rfl) (l := [(Value.int .i64 b.scales), vt, vm]) rfl rfl) fun Ah g => ?_; clear f AH
   refine s2 g (b_4 rfl en_86 (ev1 (g.ev rfl)) (bench_ok b vt vm lr lb lk _ (c_1 (F.ok 1 _ rfl)) (c_8 (F.ok 2 _ rfl)) hth)) ?_
   rintro Ai _ Aw ⟨bx80, bm81, es82, ck83, rfl, hMO84, AD⟩ h; have AL := F.w_7 AD rfl; clear AD g F Ah
   refine s1 h (a_0 rfl (h.ev rfl)) fun Aj p => ?_; clear h Ai
   refine s1 p (a_0 rfl (evc _ _)) fun Aq q => ?_; clear p Aj
   refine n1 ?_
   refine c_9 ?_
   refine a_9 q (.inl rfl) (d_2 q rfl (.tmp rfl) (.tmp rfl)) ?_
   exact ⟨_, bm81, es82, ck83, rfl, hMO84, AL.keep [0, 1] (by decide) _ rfl rfl⟩
  skip
  rw [k] at C
  refine c_3 C rfl ?_
  refine b_8 ?_
  have r := C.as [] rfl; clear C
  refine a_5 ?_
  refine s1 r (a_0 rfl (evc _ _)) fun Ak t => ?_; clear r AH
  refine s1 t (a_0 rfl (evc _ _)) fun Ar u => ?_; clear t Ak
  refine n1 ?_
  refine c_9 ?_
  refine c_6 ?_
  refine a_6 ?_
  refine a_9 u (.inl rfl) (d_2 u rfl (.tmp rfl) (.tmp rfl)) ?_
  exact absurd (hr.symm.trans (read_11' he (by omega) (by assumption) (by assumption))) (by decide)
 skip
 rw [j] at B
 refine c_3 B rfl ?_
 refine b_8 ?_
 have x := B.as [] rfl; clear B
 refine a_5 ?_
 refine s1 x (a_0 rfl (evc _ _)) fun Al y => ?_; clear x AG
 refine s1 y (a_0 rfl (evc _ _)) fun As z => ?_; clear y Al
 refine n1 ?_
 refine c_9 ?_
 refine c_6 ?_
 refine a_6 ?_
 refine a_9 z (.inl rfl) (d_2 z rfl (.tmp rfl) (.tmp rfl)) ?_
 exact absurd (hr.symm.trans (read_2' he (by omega) (by assumption))) (by decide)
end Go.Proofs.Ytohgladndklciaa

namespace Go.Proofs.Ytohgladndklciaa
open Go.RowKit Go.Shelf Go.Eng Go.Hard
theorem ze_120 : (Try.prog.info? 120).bind (·.zero) = some (Value.agg #[(Value.int .i64 0), (Value.int .i64 0), (Value.int .i64 0), (Value.int .i64 0), (Value.int .i64 0), (Value.int .i64 0), (Value.int .i64 0), (Value.int .i64 0)]) := by kernel_rfl
theorem fd_146_0 : fldK Try.prog 146 0 = some 0 := by kernel_rfl
theorem y_5 : Try.prog.underlying 120 = some (.array 4 30) := by kernel_rfl
theorem l_4 : tyK Try.prog 120 = some (true, 8) := by kernel_rfl
theorem en_108 : ∀ args w, (callFunc 108 args).run Try.prog w = .ok (.enter 108 args) w := enters_of Try.func108 (by kernel_rfl) rfl
set_option maxHeartbeats 4000000 in
theorem cutb_ok (b : h_6) (vt vm : Value) (lr lb lk : Nat → Value) (w : World) (hT : i_5 w vt lr lb b.tabs) (hM : j_6 w vm lk b.macs) (hth : n_4 b) (bx bm : Nat) (es : Array MapEntry) (ck : Nat) (hMO : s_8 bm es ck (bN b.tabs b.tabs.length)) (hbx : (blk bx 146 [.int .i64 b.scales, vt, vm, .map (some bm)]).p w) (hmx : (mapX false bm es ck es.size 106 5 (bN b.tabs b.tabs.length) (bC lr lb b.tabs b.tabs.length)).p w) (hb : n_0 b) (s : List (Int × Int)) (hs : s.length = 4) :
  Calls Try.prog 88 #[(bptr bx 0), (Value.agg (pairs s).toArray)] w (Ret fun v w' => v = .tuple #[.agg (pairs (h_4 (g_2 b.scales.toNat b.tabs) s).1).toArray, .bool (ab_4 b.scales.toNat (h_4 (g_2 b.scales.toNat b.tabs) s).1)] ∧ Ext NoB w w') := by
 refine a_8 Try.func88 rfl fun a0 A8 => ?_
 replace A8 : Fr 71 [] [(0, (bptr bx 0)), (1, (Value.agg (pairs s).toArray))] a0 := A8
 have hsc := hb.scales; have htl9 := hth.tl
 have C4 : Sep NoB w w [(rob bx 146 [(Value.int .i64 b.scales), vt, vm, (Value.map (some bm))]), (mapX false bm es ck es.size 106 5 (bN b.tabs b.tabs.length) (bC lr lb b.tabs b.tabs.length)), (d_8 false vt lr lb b.tabs), (e_6 false vm lk b.macs)] := f_1 ⟨rfl, hbx, rfl, hmx, rfl, hT, rfl, hM, trivial⟩
 refine m2 ?_
 refine s2 A8 (f_0 C4 rfl (A8.ev rfl) (cs := (pairs s)) rfl) ?_
 rintro a1 _ w3 ⟨H, rfl, C5⟩ C2; clear A8 C4 a0
 refine s2 C2 (e_4 C5 rfl ze_120 (cs := (pairs ([(0, 0), (0, 0), (0, 0), (0, 0)]))) rfl) ?_
 rintro a6 _ w8 ⟨J, rfl, Bb⟩ C3; clear C2 C5 a1
 refine s1 C3 (a_0 rfl (evc _ _)) fun DS BH => ?_; clear C3 a6
 refine n1 ?_
 refine c_scope ?_
 refine b_8 ?_
 refine c_label ?_
 refine b_0 ?_
 refine b_8 ?_
 refine m2 ?_
 refine s1 BH (a_1 rfl (BH.ev rfl)) fun DT BI => ?_; clear BH DS
 refine s1 BI (o_2 rfl (BI.ev rfl)) fun DU BJ => ?_; clear BI DT
 refine s1 BJ (a_3 rfl fd_146_0 (BJ.ev rfl)) fun DV BK => ?_; clear BJ DU
 refine s1 BK (a_3 rfl fd_37_0 (BK.ev rfl)) fun DW BL => ?_; clear BK DV
 refine s1 BL (a_2 rfl ty_3 (BL.ev rfl) (Bb.rk 2 rfl) rfl) fun DX CK => ?_; clear BL DW
 refine s1 CK (a_1 rfl (evc _ _)) fun DY CL => ?_; clear CK DX
 refine n1 ?_
 refine c_7 ?_
 have CM := CL.as [(15, (Value.int .i64 0)), (14, (Value.int .i64 b.scales)), (4, (bptr J 0)), (3, (bptr H 0)), (0, (bptr bx 0))] rfl; clear CL
 refine h_3 (G := Nat) (fun (k : Nat) a_ w_ => ∃ F : List (Int × Int), Fr 71 [] [(15, (Value.int .i64 (k : Int))), (14, (Value.int .i64 b.scales)), (4, (bptr J 0)), (3, (bptr H 0)), (0, (bptr bx 0))] a_ ∧ Sep NoB w w_ [(blk J 120 (pairs ([(0, 0), (0, 0), (0, 0), (0, 0)]))), (blk H 120 (pairs F)), (rob bx 146 [(Value.int .i64 b.scales), vt, vm, (Value.map (some bm))]), (mapX false bm es ck es.size 106 5 (bN b.tabs b.tabs.length) (bC lr lb b.tabs b.tabs.length)), (d_8 false vt lr lb b.tabs), (e_6 false vm lk b.macs)] ∧ (k ≤ b.scales.toNat) ∧ (F.length = 4) ∧ (Cut0 b.scales.toNat b.tabs s k F)) (fun k => b.scales.toNat - k) 0 ⟨s, CM.as _ rfl, Bb, by omega, hs, cut_00⟩ ?_
 clear CM Bb DY
 rintro k DZ Eb ⟨F, Au, AP, hk, D0, CY⟩
 refine m2 ?_
 refine s1 Au (f_8 rfl (Au.ev rfl) (Au.ev rfl)) fun Da f => ?_; clear Au DZ
 refine n2 ?_
 by_cases CV : (k : Int) < b.scales
 ·skip
  rw [decide_eq_true CV] at f
  refine c_3 f rfl ?_
  refine d_0 ?_
  refine b_0 ?_
  refine b_8 ?_
  refine c_7 ?_
  refine m2 ?_
  refine s1 f (a_1 rfl (f.ev rfl)) fun Db BM => ?_; clear f Da
  refine s1 BM (a_0 rfl (BM.ev rfl)) fun Dc BN => ?_; clear BM Db
  refine n4 ?_
  refine s1 BN (a_1 rfl (BN.ev rfl)) fun Dd BO => ?_; clear BN Dc
  refine s1 BO (o_2 rfl (BO.ev rfl)) fun De BP => ?_; clear BO Dd
  refine s1 BP (a_3 rfl fd_146_0 (BP.ev rfl)) fun Df BQ => ?_; clear BP De
  refine s1 BQ (a_3 rfl fd_37_0 (BQ.ev rfl)) fun Dg BR => ?_; clear BQ Df
  refine s1 BR (a_2 rfl ty_3 (BR.ev rfl) (AP.rk 2 rfl) rfl) fun Dh CN => ?_; clear BR Dg
  refine s1 CN (a_1 rfl (evc _ _)) fun Di CO => ?_; clear CN Dh
  refine n1 ?_
  refine c_7 ?_
  have CP := CO.as [(23, (Value.int .i64 0)), (22, (Value.int .i64 b.scales)), (6, (Value.int .i64 (k : Int))), (15, (Value.int .i64 (k : Int))), (14, (Value.int .i64 b.scales)), (4, (bptr J 0)), (3, (bptr H 0)), (0, (bptr bx 0))] rfl; clear CO
  refine h_3 (G := Nat) (fun (A : Nat) a_ w_ => ∃ x1 : List (Int × Int), Fr 71 [] [(23, (Value.int .i64 (A : Int))), (22, (Value.int .i64 b.scales)), (6, (Value.int .i64 (k : Int))), (15, (Value.int .i64 (k : Int))), (14, (Value.int .i64 b.scales)), (4, (bptr J 0)), (3, (bptr H 0)), (0, (bptr bx 0))] a_ ∧ Sep NoB w w_ [(blk J 120 (pairs ([(0, 0), (0, 0), (0, 0), (0, 0)]))), (blk H 120 (pairs x1)), (rob bx 146 [(Value.int .i64 b.scales), vt, vm, (Value.map (some bm))]), (mapX false bm es ck es.size 106 5 (bN b.tabs b.tabs.length) (bC lr lb b.tabs b.tabs.length)), (d_8 false vt lr lb b.tabs), (e_6 false vm lk b.macs)] ∧ (A ≤ b.scales.toNat) ∧ (x1.length = 4) ∧ (Cut1 b.scales.toNat b.tabs s k A x1)) (fun A => b.scales.toNat - A) 0 ⟨F, CP.as _ rfl, AP, by omega, D0, (cut_01 (by omega) CY)⟩ ?_
  clear CP AP Di
  rintro A Dj Ec ⟨x1, Av, m, EZ, C7, C6⟩
  refine m2 ?_
  refine s1 Av (f_8 rfl (Av.ev rfl) (Av.ev rfl)) fun C0 e => ?_; clear Av Dj
  refine n2 ?_
  by_cases CW : (A : Int) < b.scales
  ·skip
   rw [decide_eq_true CW] at e
   refine c_3 e rfl ?_
   refine d_0 ?_
   refine b_0 ?_
   refine b_8 ?_
   refine c_7 ?_
   refine m2 ?_
   refine s1 e (a_1 rfl (e.ev rfl)) fun Dk BS => ?_; clear e C0
   refine s1 BS (a_0 rfl (BS.ev rfl)) fun Dl BT => ?_; clear BS Dk
   refine n4 ?_
   refine s1 BT (a_1 rfl (BT.ev rfl)) fun Dm BU => ?_; clear BT Dl
   refine s1 BU (o_2 rfl (BU.ev rfl)) fun Dn BV => ?_; clear BU Dm
   refine s1 BV (a_3 rfl fd_146_1 (BV.ev rfl)) fun Do BW => ?_; clear BV Dn
   refine s1 BW (a_2 rfl ty_144 (BW.ev rfl) (m.rk 2 rfl) rfl) fun Dp BX => ?_; clear BW Do
   refine s1 BX (a_1 rfl (BX.ev rfl)) fun Dq BY => ?_; clear BX Dp
   refine s1 BY (a_1 rfl (BY.ev rfl)) fun Dr Aw => ?_; clear BY Dq
   refine s1 Aw (e_5 rfl (pv2 (Aw.ev rfl) (Aw.ev rfl)) (bd_162_0i_1i _ _)) fun Ds Ax => ?_; clear Aw Dr
   refine s2 Ax (op_lookupF m rfl un_144 pair_162 zs_34 (Ax.ev rfl) (Ax.ev rfl) (ix := 3) rfl hMO (fun _ _ => bC_zero)) ?_
   rintro Dt u W_ ⟨hW_, hu⟩ BZ; have hW2_ := hW_.symm; subst hW2_; clear hW_ Ax Ds
   have hsl : (selT b.tabs (selU b.tabs b.tabs.length (A : Int) (k : Int))).length = bN b.tabs b.tabs.length (A : Int) (k : Int) := s_4 _ _; have hbn := bN_le b.tabs b.tabs.length (A : Int) (k : Int)
   refine s1 BZ (d_6 rfl z_8 (BZ.ev rfl) (s_5 (c_1 (m.ok 4 _ rfl)) (fun q_ h_ => x_8 h_) (hu _ (m.ok 3 _ rfl))).tabs) fun Du CQ => ?_; clear BZ Dt
   refine s1 CQ (a_1 rfl (evc _ _)) fun Dv CR => ?_; clear CQ Du
   refine n1 ?_
   refine c_7 ?_
   have CS := CR.as [(35, (Value.int .i64 0)), (34, (Value.int .i64 ((selT b.tabs (selU b.tabs b.tabs.length (A : Int) (k : Int))).length : Int))), (33, u), (7, (Value.int .i64 (A : Int))), (23, (Value.int .i64 (A : Int))), (22, (Value.int .i64 b.scales)), (6, (Value.int .i64 (k : Int))), (15, (Value.int .i64 (k : Int))), (14, (Value.int .i64 b.scales)), (4, (bptr J 0)), (3, (bptr H 0)), (0, (bptr bx 0))] rfl; clear CR
   refine h_3 (G := Nat) (fun (C : Nat) a_ w_ => ∃ B : List (Int × Int), Fr 71 [] [(35, (Value.int .i64 (C : Int))), (34, (Value.int .i64 ((selT b.tabs (selU b.tabs b.tabs.length (A : Int) (k : Int))).length : Int))), (33, u), (7, (Value.int .i64 (A : Int))), (23, (Value.int .i64 (A : Int))), (22, (Value.int .i64 b.scales)), (6, (Value.int .i64 (k : Int))), (15, (Value.int .i64 (k : Int))), (14, (Value.int .i64 b.scales)), (4, (bptr J 0)), (3, (bptr H 0)), (0, (bptr bx 0))] a_ ∧ Sep NoB w w_ [(blk J 120 (pairs ([(0, 0), (0, 0), (0, 0), (0, 0)]))), (blk H 120 (pairs B)), (rob bx 146 [(Value.int .i64 b.scales), vt, vm, (Value.map (some bm))]), (mapX false bm es ck es.size 106 5 (bN b.tabs b.tabs.length) (bC lr lb b.tabs b.tabs.length)), (d_8 false vt lr lb b.tabs), (e_6 false vm lk b.macs)] ∧ (C ≤ (selT b.tabs (selU b.tabs b.tabs.length (A : Int) (k : Int))).length) ∧ (B.length = 4) ∧ (Cut2 b.scales.toNat b.tabs s k A C B)) (fun C => (selT b.tabs (selU b.tabs b.tabs.length (A : Int) (k : Int))).length - C) 0 ⟨x1, CS.as _ rfl, m, by omega, C7, (cut_12 (by omega) C6)⟩ ?_
   clear CS m Dv
   rintro C Dw Ed ⟨B, Ay, n, Ea, A9, Aa⟩
   refine m2 ?_
   refine s1 Ay (f_8 rfl (Ay.ev rfl) (Ay.ev rfl)) fun C1 P => ?_; clear Ay Dw
   refine n2 ?_
   by_cases CX : (C : Int) < ((selT b.tabs (selU b.tabs b.tabs.length (A : Int) (k : Int))).length : Int)
   ·skip
    rw [decide_eq_true CX] at P
    refine c_3 P rfl ?_
    refine d_0 ?_
    refine b_0 ?_
    refine b_8 ?_
    refine c_7 ?_
    refine m2 ?_
    refine s1 P (b_3 rfl z_8 l_3 (P.ev rfl) (i := C) (P.ev rfl) (s_5 (c_1 (n.ok 4 _ rfl)) (fun q_ h_ => x_8 h_) (hu _ (n.ok 3 _ rfl))).tabs (by decide) (by omega)) fun Dx Ba => ?_; clear P C1
    refine s1 Ba (e_7 rfl l_3 (Ba.ev rfl) (s_5 (c_1 (n.ok 4 _ rfl)) (fun q_ h_ => x_8 h_) (hu _ (n.ok 3 _ rfl))).tabs (u_5 (by omega)) rfl (by decide)) fun Dy CT => ?_; clear Ba Dx
    refine s2 CT (e_4 n rfl ze_106 (cs := [(Value.int .i64 0), (Value.int .i64 0), (Value.slice none 0 0), (Value.slice none 0 0), (Value.int .i64 0)]) rfl) ?_
    rintro Dz _ Ee ⟨Ad, rfl, AQ⟩ Az; clear CT n Dy
    refine s7 Az (c_2 AQ rfl l_3 (Az.ev rfl) (Az.ev rfl) (i := 0) rfl (vs := [(Value.int .i64 (((selT b.tabs (selU b.tabs b.tabs.length (A : Int) (k : Int))).getD C tab0).frm)), (Value.int .i64 (((selT b.tabs (selU b.tabs b.tabs.length (A : Int) (k : Int))).getD C tab0).dst)), ((selV lr (selU b.tabs b.tabs.length (A : Int) (k : Int))) C), ((selV lb (selU b.tabs b.tabs.length (A : Int) (k : Int))) C), (Value.int .i64 (((selT b.tabs (selU b.tabs b.tabs.length (A : Int) (k : Int))).getD C tab0).err))]) rfl rfl (i_3 rfl (i_3 rfl (i_3 (SlAt.one ((s_5 (c_1 (AQ.ok 5 _ rfl)) (fun q_ h_ => x_8 h_) (hu _ (AQ.ok 4 _ rfl))).row (i := C) (by omega))) (i_3 (SlAt.one ((s_5 (c_1 (AQ.ok 5 _ rfl)) (fun q_ h_ => x_8 h_) (hu _ (AQ.ok 4 _ rfl))).brk (i := C) (by omega))) (i_3 rfl v_3))))) (Nat.le_of_ble_eq_true rfl)) ?_
    intro _ EF CU Ae; clear Az
    have A2 : Sep NoB w EF [(blk Ad 106 [(Value.int .i64 (((selT b.tabs (selU b.tabs b.tabs.length (A : Int) (k : Int))).getD C tab0).frm)), (Value.int .i64 (((selT b.tabs (selU b.tabs b.tabs.length (A : Int) (k : Int))).getD C tab0).dst)), ((selV lr (selU b.tabs b.tabs.length (A : Int) (k : Int))) C), ((selV lb (selU b.tabs b.tabs.length (A : Int) (k : Int))) C), (Value.int .i64 (((selT b.tabs (selU b.tabs b.tabs.length (A : Int) (k : Int))).getD C tab0).err))]), (blk J 120 (pairs ([(0, 0), (0, 0), (0, 0), (0, 0)]))), (blk H 120 (pairs B)), (rob bx 146 [(Value.int .i64 b.scales), vt, vm, (Value.map (some bm))]), (mapX false bm es ck es.size 106 5 (bN b.tabs b.tabs.length) (bC lr lb b.tabs b.tabs.length)), (d_8 false vt lr lb b.tabs), (e_6 false vm lk b.macs)] := CU; clear CU AQ
    refine n2 ?_
    refine m2 ?_
    refine s1 Ae (a_1 rfl (Ae.ev rfl)) fun C8 AR => ?_; clear Ae Dz
    refine s1 AR (p_1 rfl y_5 g_7 (AR.ev rfl) (i := k) (AR.ev rfl) (by omega)) fun C9 Af => ?_; clear AR C8
    refine s1 Af (c_5 rfl g_7 (Af.ev rfl) (A2.bk 2 rfl) (l := [(Value.int .i64 ((B.getD k (0, 0)).1)), (Value.int .i64 ((B.getD k (0, 0)).2))]) (s_7 (xs := B) (i := k) (by omega)) rfl) fun DA Ag => ?_; clear Af C9
    refine s2 Ag (b_4 rfl en_68 (ev1 (Ag.ev rfl)) (empty_ok _ _ _)) ?_
    rintro EH _ ES ⟨rfl, Bx⟩ d; have AO := A2.step Bx; clear Bx Ag A2 DA
    refine n1 ?_
    by_cases CE : ((B.getD k (0, 0)).2) < ((B.getD k (0, 0)).1)
    ·skip
     rw [decide_eq_true CE] at d
     refine c_3 d rfl ?_
     refine g_8 ?_
     refine b_6 ?_
     refine blk_miss (by decide) ?_
     refine b_6 ?_
     refine b_6 ?_
     refine blk_miss (by decide) ?_
     refine blk_miss (by decide) ?_
     refine b_6 ?_
     refine b_6 ?_
     refine blk_miss (by decide) ?_
     refine blk_miss (by decide) ?_
     refine b_6 ?_
     refine b_6 ?_
     refine f_5 ?_
     refine b_0 ?_
     refine b_8 ?_
     have Bd := d.as [(4, (bptr J 0)), (3, (bptr H 0)), (0, (bptr bx 0))] rfl; clear d
     have Ah := Bd.as [(4, (bptr J 0)), (3, (bptr H 0)), (0, (bptr bx 0))] rfl; clear Bd
     refine c_drawF mixed Ah AO 9 8 rfl rfl [[], [], [1], [2], [3], [4], [5], [6], [7]] [(fun (D : Nat → Value) (v_ : Value) (rs_ : List Res) => v_ = (Value.agg (pairs B).toArray) ∧ rs_ = []), (fun (D : Nat → Value) (v_ : Value) (rs_ : List Res) => v_ = (bptr bx 0) ∧ rs_ = []), (fun (D : Nat → Value) (v_ : Value) (rs_ : List Res) => v_ = (bptr bx 0) ∧ rs_ = []), (fun (D : Nat → Value) (v_ : Value) (rs_ : List Res) => v_ = (bptr bx 0) ∧ rs_ = []), (fun (D : Nat → Value) (v_ : Value) (rs_ : List Res) => v_ = (bptr bx 0) ∧ rs_ = []), (fun (D : Nat → Value) (v_ : Value) (rs_ : List Res) => v_ = (Value.int .i64 b.scales) ∧ rs_ = []), (fun (D : Nat → Value) (v_ : Value) (rs_ : List Res) => v_ = (Value.slice (some ⟨H, 0, none⟩) b.scales.toNat 4) ∧ rs_ = []), (fun (D : Nat → Value) (v_ : Value) (rs_ : List Res) => v_ = (Value.bool ((List.range (B.take b.scales.toNat).length).any fun i => decide (((B.take b.scales.toNat).getD i (0, 0)).2 < ((B.take b.scales.toNat).getD i (0, 0)).1))) ∧ rs_ = []), (fun (D : Nat → Value) (v_ : Value) (rs_ : List Res) => v_ = (Value.bool (!((List.range (B.take b.scales.toNat).length).any fun i => decide (((B.take b.scales.toNat).getD i (0, 0)).2 < ((B.take b.scales.toNat).getD i (0, 0)).1)))) ∧ rs_ = [])] (by decide +kernel) (by decide +kernel) (by decide +kernel) rfl rfl ⟨(fun _ _ _ _ _ h_ => h_), (fun _ _ _ _ _ h_ => h_), (fun _ _ _ _ _ h_ => h_), (fun _ _ _ _ _ h_ => h_), (fun _ _ _ _ _ h_ => h_), (fun _ _ _ _ _ h_ => h_), (fun _ _ _ _ _ h_ => h_), (fun _ _ _ _ _ h_ => h_), (fun _ _ _ _ _ h_ => h_), trivial⟩ ?_ ?_ ?_
     ·skip
      refine ⟨fun a w D hA hS hd => ?_, ?_⟩
      ·skip
       exact b_1 rfl (vv (c_5 rfl l_4 (hA.ev rfl) (hS.bk 2 rfl) (l := (pairs B)) (g_4 _ _ (show (pairs B).length = 8 from by simp only [b_2, List.length_set]; omega)) (show (pairs B).length = 8 from by simp only [b_2, List.length_set]; omega)) (And.intro rfl rfl))
      refine ⟨fun a w D hA hS hd => ?_, ?_⟩
      ·skip
       exact b_1 rfl (vv (a_1 rfl (hA.ev rfl)) (And.intro rfl rfl))
      refine ⟨fun a w D hA hS hd => ?_, ?_⟩
      ·skip
       obtain ⟨e1, D8, Cn, D1⟩ := hd 1 (by decide)
       obtain ⟨Cg, CZ⟩ := Cn; subst CZ
       rw [Cg] at e1
       exact b_1 rfl (vv (o_2 rfl (a_7 (b_5 e1 rfl))) (And.intro rfl rfl))
      refine ⟨fun a w D hA hS hd => ?_, ?_⟩
      ·skip
       obtain ⟨e2, D9, Co, D2⟩ := hd 2 (by decide)
       obtain ⟨Ch, Ca⟩ := Co; subst Ca
       rw [Ch] at e2
       exact b_1 rfl (vv (a_3 rfl fd_146_0 (a_7 (b_5 e2 rfl))) (And.intro rfl rfl))
      refine ⟨fun a w D hA hS hd => ?_, ?_⟩
      ·skip
       obtain ⟨e3, EA, Cp, D3⟩ := hd 3 (by decide)
       obtain ⟨Ci, Cb⟩ := Cp; subst Cb
       rw [Ci] at e3
       exact b_1 rfl (vv (a_3 rfl fd_37_0 (a_7 (b_5 e3 rfl))) (And.intro rfl rfl))
      refine ⟨fun a w D hA hS hd => ?_, ?_⟩
      ·skip
       obtain ⟨e4, EB, Cq, D4⟩ := hd 4 (by decide)
       obtain ⟨Cj, Cc⟩ := Cq; subst Cc
       rw [Cj] at e4
       exact b_1 rfl (vv (a_2 rfl ty_3 (a_7 (b_5 e4 rfl)) (hS.rk 3 rfl) rfl) (And.intro rfl rfl))
      refine ⟨fun a w D hA hS hd => ?_, ?_⟩
      ·skip
       obtain ⟨e5, EC, Cr, D5⟩ := hd 5 (by decide)
       obtain ⟨Ck, Cd⟩ := Cr; subst Cd
       rw [Ck] at e5
       exact b_1 rfl (vv (op_sliceArr rfl y_5 g_7 (hA.ev rfl) (h := b.scales.toNat) ((a_7 (b_5 e5 rfl)).trans (h_1 (by omega))) (by omega)) (And.intro rfl rfl))
      refine ⟨fun a w D hA hS hd => ?_, ?_⟩
      ·skip
       obtain ⟨e6, ED, Cs, D6⟩ := hd 6 (by decide)
       obtain ⟨Cl, Ce⟩ := Cs; subst Ce
       rw [Cl] at e6
       exact b_1 rfl (vx (b_4 rfl en_108 (ev2 (a_7 (b_5 e6 rfl)) (evf _ _)) (contf_rng (B.take b.scales.toNat) _ 68 #[] #[] (fun i => decide (((B.take b.scales.toNat).getD i (0, 0)).2 < ((B.take b.scales.toNat).getD i (0, 0)).1)) _ ((SlAt.of_blkCut (hS.bk 2 rfl) (by rw [b_2]; omega) (by omega) (by decide)).say (by rw [List.length_take]; omega) (pairs_takeH _ _)) (by rw [List.length_take]; omega) ⟨en_68, fun i hi W hW => empty_ok _ _ W⟩)) (And.intro rfl rfl))
      refine ⟨fun a w D hA hS hd => ?_, ?_⟩
      ·skip
       obtain ⟨e7, EE, Ct, D7⟩ := hd 7 (by decide)
       obtain ⟨Cm, Cf⟩ := Ct; subst Cf
       rw [Cm] at e7
       exact b_1 rfl (vv (f_6 rfl (a_7 (b_5 e7 rfl))) (And.intro rfl rfl))
      trivial
     ·skip
      intro BA DL D rsf122 Be K A3; clear Ah AO
      obtain ⟨I, AG⟩ := K 0 (by decide)
      obtain ⟨c, Q⟩ := AG
      obtain ⟨o, AH⟩ := K 1 (by decide)
      obtain ⟨AA, R⟩ := AH
      obtain ⟨q, AI⟩ := K 2 (by decide)
      obtain ⟨AB, S⟩ := AI
      obtain ⟨r, AJ⟩ := K 3 (by decide)
      obtain ⟨AC, T⟩ := AJ
      obtain ⟨t, AK⟩ := K 4 (by decide)
      obtain ⟨AD, U⟩ := AK
      obtain ⟨x, AL⟩ := K 5 (by decide)
      obtain ⟨AE, V⟩ := AL
      obtain ⟨y, AM⟩ := K 6 (by decide)
      obtain ⟨AF, X⟩ := AM
      obtain ⟨Z, AN⟩ := K 7 (by decide)
      obtain ⟨g, Y⟩ := AN
      obtain ⟨z, Bc⟩ := K 8 (by decide)
      obtain ⟨Ac, Ab⟩ := Bc
      have Bz : Sep NoB w DL [(blk Ad 106 [(Value.int .i64 (((selT b.tabs (selU b.tabs b.tabs.length (A : Int) (k : Int))).getD C tab0).frm)), (Value.int .i64 (((selT b.tabs (selU b.tabs b.tabs.length (A : Int) (k : Int))).getD C tab0).dst)), ((selV lr (selU b.tabs b.tabs.length (A : Int) (k : Int))) C), ((selV lb (selU b.tabs b.tabs.length (A : Int) (k : Int))) C), (Value.int .i64 (((selT b.tabs (selU b.tabs b.tabs.length (A : Int) (k : Int))).getD C tab0).err))]), (blk J 120 (pairs ([(0, 0), (0, 0), (0, 0), (0, 0)]))), (blk H 120 (pairs B)), (rob bx 146 [(Value.int .i64 b.scales), vt, vm, (Value.map (some bm))]), (mapX false bm es ck es.size 106 5 (bN b.tabs b.tabs.length) (bC lr lb b.tabs b.tabs.length)), (d_8 false vt lr lb b.tabs), (e_6 false vm lk b.macs)] := by rw [show catR rsf122 0 9 = ([] : List Res) by (try simp only [catR, Q, R, S, T, U, V, X, Y, Ab]); (try rfl)] at A3; exact A3
      rw [c] at I
      have Bf : Fr 71 [] [(62, (Value.agg (pairs B).toArray)), (4, (bptr J 0)), (3, (bptr H 0)), (0, (bptr bx 0))] BA := Be.add (b_5 I rfl); clear Be
      rw [Ac] at z
      have AS : Fr 71 [] [(70, (Value.bool (!((List.range (B.take b.scales.toNat).length).any fun i => decide (((B.take b.scales.toNat).getD i (0, 0)).2 < ((B.take b.scales.toNat).getD i (0, 0)).1))))), (62, (Value.agg (pairs B).toArray)), (4, (bptr J 0)), (3, (bptr H 0)), (0, (bptr bx 0))] BA := Bf.add (b_5 z rfl); clear Bf
      clear K A3 I o q r t x y Z z
      clear Q
      clear c
      clear R
      clear AA
      clear S
      clear AB
      clear T
      clear AC
      clear U
      clear AD
      clear V
      clear AE
      clear X
      clear AF
      clear Y
      clear g
      clear Ab
      clear Ac
      refine s7 AS (c_2 Bz rfl l_4 (AS.ev rfl) (AS.ev rfl) (i := 1) rfl (vs := (pairs B)) rfl (show (pairs B).length = 8 from by simp only [b_2, List.length_set]; omega) (m_2 _) (by simp only [b_2, List.length_set, List.length_cons, List.length_nil]; omega)) ?_
      intro _ ET B0 Ai; have B1 := B0.o_1 (i := 1) rfl (cs' := (pairs B)) (k_1 _ _ (by first | (simp only [b_2, List.length_set, List.length_cons, List.length_nil]; done) | (simp only [b_2, List.length_set, List.length_cons, List.length_nil]; omega))); clear B0 AS Bz
      refine s1 Ai (a_0 rfl (Ai.ev rfl)) fun EI Bg => ?_; clear Ai BA
      refine n1 ?_
      refine c_9 ?_
      refine ng_ret ?_
      refine a_9 Bg (.inl rfl) (d_2 Bg rfl (.cellA rfl l_4 (B1.bk 1 rfl) (l := (pairs B)) (g_4 _ _ (show (pairs B).length = 8 from by simp only [b_2, List.length_set]; omega)) (show (pairs B).length = 8 from by simp only [b_2, List.length_set]; omega)) (.tmp rfl)) ?_
      have hz : h_4 (g_2 b.scales.toNat b.tabs) s = (B, true) := cut_brk (by omega) Aa (by assumption)
      exact ⟨by rw [hz, ← full_any (s := B) (by omega)], B1.ext⟩
     skip
     intro BB DM D rsf137 Bh N hrq A4; clear Ah AO
     obtain ⟨I, AG⟩ := N 0 (by decide) (by decide)
     obtain ⟨c, Q⟩ := AG
     obtain ⟨o, AH⟩ := N 1 (by decide) (by decide)
     obtain ⟨AA, R⟩ := AH
     obtain ⟨q, AI⟩ := N 2 (by decide) (by decide)
     obtain ⟨AB, S⟩ := AI
     obtain ⟨r, AJ⟩ := N 3 (by decide) (by decide)
     obtain ⟨AC, T⟩ := AJ
     obtain ⟨t, AK⟩ := N 4 (by decide) (by decide)
     obtain ⟨AD, U⟩ := AK
     obtain ⟨x, AL⟩ := N 5 (by decide) (by decide)
     obtain ⟨AE, V⟩ := AL
     obtain ⟨y, AM⟩ := N 6 (by decide) (by decide)
     obtain ⟨AF, X⟩ := AM
     obtain ⟨Z, AN⟩ := N 7 (by decide) (by decide)
     obtain ⟨g, Y⟩ := AN
     have B2 : Sep NoB w DM [(blk Ad 106 [(Value.int .i64 (((selT b.tabs (selU b.tabs b.tabs.length (A : Int) (k : Int))).getD C tab0).frm)), (Value.int .i64 (((selT b.tabs (selU b.tabs b.tabs.length (A : Int) (k : Int))).getD C tab0).dst)), ((selV lr (selU b.tabs b.tabs.length (A : Int) (k : Int))) C), ((selV lb (selU b.tabs b.tabs.length (A : Int) (k : Int))) C), (Value.int .i64 (((selT b.tabs (selU b.tabs b.tabs.length (A : Int) (k : Int))).getD C tab0).err))]), (blk J 120 (pairs ([(0, 0), (0, 0), (0, 0), (0, 0)]))), (blk H 120 (pairs B)), (rob bx 146 [(Value.int .i64 b.scales), vt, vm, (Value.map (some bm))]), (mapX false bm es ck es.size 106 5 (bN b.tabs b.tabs.length) (bC lr lb b.tabs b.tabs.length)), (d_8 false vt lr lb b.tabs), (e_6 false vm lk b.macs)] := by rw [show catR rsf137 0 9 = ([] : List Res) by (try simp only [catR, Q, R, S, T, U, V, X, Y, hrq]); (try rfl)] at A4; exact A4
     rw [c] at I
     have Bi : Fr 71 [] [(62, (Value.agg (pairs B).toArray)), (4, (bptr J 0)), (3, (bptr H 0)), (0, (bptr bx 0))] BB := Bh.add (b_5 I rfl); clear Bh
     rw [g] at Z
     have AT : Fr 71 [] [(69, (Value.bool ((List.range (B.take b.scales.toNat).length).any fun i => decide (((B.take b.scales.toNat).getD i (0, 0)).2 < ((B.take b.scales.toNat).getD i (0, 0)).1)))), (62, (Value.agg (pairs B).toArray)), (4, (bptr J 0)), (3, (bptr H 0)), (0, (bptr bx 0))] BB := Bi.add (b_5 Z rfl); clear Bi
     clear N A4 I o q r t x y Z hrq
     clear Q
     clear c
     clear R
     clear AA
     clear S
     clear AB
     clear T
     clear AC
     clear U
     clear AD
     clear V
     clear AE
     clear X
     clear AF
     clear Y
     clear g
     refine s7 AT (c_2 B2 rfl l_4 (AT.ev rfl) (AT.ev rfl) (i := 1) rfl (vs := (pairs B)) rfl (show (pairs B).length = 8 from by simp only [b_2, List.length_set]; omega) (m_2 _) (by simp only [b_2, List.length_set, List.length_cons, List.length_nil]; omega)) ?_
     intro _ EU B3 Aj; have B4 := B3.o_1 (i := 1) rfl (cs' := (pairs B)) (k_1 _ _ (by first | (simp only [b_2, List.length_set, List.length_cons, List.length_nil]; done) | (simp only [b_2, List.length_set, List.length_cons, List.length_nil]; omega))); clear B3 AT B2
     refine s1 Aj (f_6 rfl (Aj.ev rfl)) fun DB Ak => ?_; clear Aj BB
     refine s1 Ak (a_0 rfl (Ak.ev rfl)) fun EJ Bj => ?_; clear Ak DB
     refine n1 ?_
     refine c_9 ?_
     refine ng_ret ?_
     refine a_9 Bj (.inl rfl) (d_2 Bj rfl (.cellA rfl l_4 (B4.bk 1 rfl) (l := (pairs B)) (g_4 _ _ (show (pairs B).length = 8 from by simp only [b_2, List.length_set]; omega)) (show (pairs B).length = 8 from by simp only [b_2, List.length_set]; omega)) (.tmp rfl)) ?_
     have hz : h_4 (g_2 b.scales.toNat b.tabs) s = (B, true) := cut_brk (by omega) Aa (by assumption)
     exact ⟨by rw [hz, ← full_any (s := B) (by omega)], B4.ext⟩
    skip
    rw [decide_eq_false CE] at d
    refine b_7 d rfl ?_
    refine d_0 ?_
    refine b_0 ?_
    refine b_8 ?_
    have Bk := d.as [(9, (bptr Ad 0)), (35, (Value.int .i64 (C : Int))), (34, (Value.int .i64 ((selT b.tabs (selU b.tabs b.tabs.length (A : Int) (k : Int))).length : Int))), (33, u), (7, (Value.int .i64 (A : Int))), (23, (Value.int .i64 (A : Int))), (22, (Value.int .i64 b.scales)), (6, (Value.int .i64 (k : Int))), (15, (Value.int .i64 (k : Int))), (14, (Value.int .i64 b.scales)), (4, (bptr J 0)), (3, (bptr H 0)), (0, (bptr bx 0))] rfl; clear d
    have Bl := Bk.as [(9, (bptr Ad 0)), (35, (Value.int .i64 (C : Int))), (34, (Value.int .i64 ((selT b.tabs (selU b.tabs b.tabs.length (A : Int) (k : Int))).length : Int))), (33, u), (7, (Value.int .i64 (A : Int))), (23, (Value.int .i64 (A : Int))), (22, (Value.int .i64 b.scales)), (6, (Value.int .i64 (k : Int))), (15, (Value.int .i64 (k : Int))), (14, (Value.int .i64 b.scales)), (4, (bptr J 0)), (3, (bptr H 0)), (0, (bptr bx 0))] rfl; clear Bk
    refine g_3 mixed Bl AO 4 [[], [], [1], [2]] [(Yd.val (Value.agg #[(Value.int .i64 (((selT b.tabs (selU b.tabs b.tabs.length (A : Int) (k : Int))).getD C tab0).frm)), (Value.int .i64 (((selT b.tabs (selU b.tabs b.tabs.length (A : Int) (k : Int))).getD C tab0).dst)), ((selV lr (selU b.tabs b.tabs.length (A : Int) (k : Int))) C), ((selV lb (selU b.tabs b.tabs.length (A : Int) (k : Int))) C), (Value.int .i64 (((selT b.tabs (selU b.tabs b.tabs.length (A : Int) (k : Int))).getD C tab0).err))])), (Yd.val (Value.int .i64 (A : Int))), (Yd.val (bptr H (0 + A * 2))), (Yd.val (Value.agg #[(Value.int .i64 ((B.getD A (0, 0)).1)), (Value.int .i64 ((B.getD A (0, 0)).2))]))] (by decide +kernel) rfl rfl ?_ ?_
    ·skip
     refine dq (fun a w hA hS hd => c_5 rfl l_3 (hA.ev rfl) (hS.bk 0 rfl) (l := [(Value.int .i64 (((selT b.tabs (selU b.tabs b.tabs.length (A : Int) (k : Int))).getD C tab0).frm)), (Value.int .i64 (((selT b.tabs (selU b.tabs b.tabs.length (A : Int) (k : Int))).getD C tab0).dst)), ((selV lr (selU b.tabs b.tabs.length (A : Int) (k : Int))) C), ((selV lb (selU b.tabs b.tabs.length (A : Int) (k : Int))) C), (Value.int .i64 (((selT b.tabs (selU b.tabs b.tabs.length (A : Int) (k : Int))).getD C tab0).err))]) rfl rfl) ?_
     refine dq (fun a w hA hS hd => a_1 rfl (hA.ev rfl)) ?_
     refine dq (fun a w hA hS hd => p_1 rfl y_5 g_7 (hA.ev rfl) (i := A) (hq hd 1) (by omega)) ?_
     refine dq (fun a w hA hS hd => c_5 rfl g_7 (hq hd 2) (hS.bk 2 rfl) (l := [(Value.int .i64 ((B.getD A (0, 0)).1)), (Value.int .i64 ((B.getD A (0, 0)).2))]) (s_7 (xs := B) (i := A) (by omega)) rfl) ?_
     trivial
    intro DC EV Bm j A0; clear Bl AO
    have Bn := Bm.add (hz A0 0); clear Bm
    have AU := Bn.add (hz A0 3); clear Bn
    clear A0
    refine s2 AU (b_4 rfl en_49 (ev2 (AU.ev rfl) (AU.ev rfl)) (converts_ok ((B.getD A (0, 0)).1) ((B.getD A (0, 0)).2) ((selT b.tabs (selU b.tabs b.tabs.length (A : Int) (k : Int))).getD C tab0) _ _ _ ((s_5 (c_1 (j.ok 5 _ rfl)) (fun q_ h_ => x_8 h_) (hu _ (j.ok 4 _ rfl))).row (i := C) (by omega)) ((s_5 (c_1 (j.ok 5 _ rfl)) (fun q_ h_ => x_8 h_) (hu _ (j.ok 4 _ rfl))).brk (i := C) (by omega)) (sel_rl hth _ _).1 (sel_rl hth _ _).2 _ (hb.tabs _ (w_0 (by omega)).2.2))) ?_
    rintro DD _ DN ⟨rfl, By⟩ M; have AZ := j.step By; clear By AU j DC
    refine n1 ?_
    rcases Bool.eq_false_or_eq_true ((n_5 ((selT b.tabs (selU b.tabs b.tabs.length (A : Int) (k : Int))).getD C tab0) ((B.getD A (0, 0)).1, (B.getD A (0, 0)).2))) with A7 | A7
    ·skip
     rw [A7] at M
     refine c_3 M rfl ?_
     have Bo := M.as [(9, (bptr Ad 0)), (35, (Value.int .i64 (C : Int))), (34, (Value.int .i64 ((selT b.tabs (selU b.tabs b.tabs.length (A : Int) (k : Int))).length : Int))), (33, u), (7, (Value.int .i64 (A : Int))), (23, (Value.int .i64 (A : Int))), (22, (Value.int .i64 b.scales)), (6, (Value.int .i64 (k : Int))), (15, (Value.int .i64 (k : Int))), (14, (Value.int .i64 b.scales)), (4, (bptr J 0)), (3, (bptr H 0)), (0, (bptr bx 0))] rfl; clear M
     refine g_3 mixed Bo AZ 10 [[], [], [1], [2], [], [], [5], [6], [4, 7], [3, 8]] [(Yd.val (Value.int .i64 (k : Int))), (Yd.val (Value.int .i64 (k : Int))), (Yd.val (bptr H (0 + k * 2))), (Yd.val (Value.agg #[(Value.int .i64 ((B.getD k (0, 0)).1)), (Value.int .i64 ((B.getD k (0, 0)).2))])), (Yd.val (Value.agg #[(Value.int .i64 (((selT b.tabs (selU b.tabs b.tabs.length (A : Int) (k : Int))).getD C tab0).frm)), (Value.int .i64 (((selT b.tabs (selU b.tabs b.tabs.length (A : Int) (k : Int))).getD C tab0).dst)), ((selV lr (selU b.tabs b.tabs.length (A : Int) (k : Int))) C), ((selV lb (selU b.tabs b.tabs.length (A : Int) (k : Int))) C), (Value.int .i64 (((selT b.tabs (selU b.tabs b.tabs.length (A : Int) (k : Int))).getD C tab0).err))])), (Yd.val (Value.int .i64 (A : Int))), (Yd.val (bptr H (0 + A * 2))), (Yd.val (Value.agg #[(Value.int .i64 ((B.getD A (0, 0)).1)), (Value.int .i64 ((B.getD A (0, 0)).2))])), (Yd.val (Value.agg #[(Value.int .i64 ((f_3 ((selT b.tabs (selU b.tabs b.tabs.length (A : Int) (k : Int))).getD C tab0) ((B.getD A (0, 0)).1, (B.getD A (0, 0)).2)).1)), (Value.int .i64 ((f_3 ((selT b.tabs (selU b.tabs b.tabs.length (A : Int) (k : Int))).getD C tab0) ((B.getD A (0, 0)).1, (B.getD A (0, 0)).2)).2))])), (Yd.val (Value.agg #[(Value.int .i64 ((cutR ((B.getD k (0, 0)).1, (B.getD k (0, 0)).2) ((f_3 ((selT b.tabs (selU b.tabs b.tabs.length (A : Int) (k : Int))).getD C tab0) ((B.getD A (0, 0)).1, (B.getD A (0, 0)).2)).1, (f_3 ((selT b.tabs (selU b.tabs b.tabs.length (A : Int) (k : Int))).getD C tab0) ((B.getD A (0, 0)).1, (B.getD A (0, 0)).2)).2)).1)), (Value.int .i64 ((cutR ((B.getD k (0, 0)).1, (B.getD k (0, 0)).2) ((f_3 ((selT b.tabs (selU b.tabs b.tabs.length (A : Int) (k : Int))).getD C tab0) ((B.getD A (0, 0)).1, (B.getD A (0, 0)).2)).1, (f_3 ((selT b.tabs (selU b.tabs b.tabs.length (A : Int) (k : Int))).getD C tab0) ((B.getD A (0, 0)).1, (B.getD A (0, 0)).2)).2)).2))]))] (by decide +kernel) rfl rfl ?_ ?_
     ·skip
      refine dq (fun a w hA hS hd => a_1 rfl (hA.ev rfl)) ?_
      refine dq (fun a w hA hS hd => a_1 rfl (hA.ev rfl)) ?_
      refine dq (fun a w hA hS hd => p_1 rfl y_5 g_7 (hA.ev rfl) (i := k) (hq hd 1) (by omega)) ?_
      refine dq (fun a w hA hS hd => c_5 rfl g_7 (hq hd 2) (hS.bk 2 rfl) (l := [(Value.int .i64 ((B.getD k (0, 0)).1)), (Value.int .i64 ((B.getD k (0, 0)).2))]) (s_7 (xs := B) (i := k) (by omega)) rfl) ?_
      refine dq (fun a w hA hS hd => c_5 rfl l_3 (hA.ev rfl) (hS.bk 0 rfl) (l := [(Value.int .i64 (((selT b.tabs (selU b.tabs b.tabs.length (A : Int) (k : Int))).getD C tab0).frm)), (Value.int .i64 (((selT b.tabs (selU b.tabs b.tabs.length (A : Int) (k : Int))).getD C tab0).dst)), ((selV lr (selU b.tabs b.tabs.length (A : Int) (k : Int))) C), ((selV lb (selU b.tabs b.tabs.length (A : Int) (k : Int))) C), (Value.int .i64 (((selT b.tabs (selU b.tabs b.tabs.length (A : Int) (k : Int))).getD C tab0).err))]) rfl rfl) ?_
      refine dq (fun a w hA hS hd => a_1 rfl (hA.ev rfl)) ?_
      refine dq (fun a w hA hS hd => p_1 rfl y_5 g_7 (hA.ev rfl) (i := A) (hq hd 5) (by omega)) ?_
      refine dq (fun a w hA hS hd => c_5 rfl g_7 (hq hd 6) (hS.bk 2 rfl) (l := [(Value.int .i64 ((B.getD A (0, 0)).1)), (Value.int .i64 ((B.getD A (0, 0)).2))]) (s_7 (xs := B) (i := A) (by omega)) rfl) ?_
      refine ⟨fun a w hA hS hd => by have e4 := hx hd 4; have e7 := hx hd 7; exact b_1 rfl (dx (b_4 rfl en_50 (ev2 (a_7 e4) (a_7 e7)) (convert_ok ((B.getD A (0, 0)).1) ((B.getD A (0, 0)).2) ((selT b.tabs (selU b.tabs b.tabs.length (A : Int) (k : Int))).getD C tab0) _ _ _ ((s_5 (c_1 (hS.ok 5 _ rfl)) (fun q_ h_ => x_8 h_) (hu _ (hS.ok 4 _ rfl))).row (i := C) (by omega)) ((s_5 (c_1 (hS.ok 5 _ rfl)) (fun q_ h_ => x_8 h_) (hu _ (hS.ok 4 _ rfl))).brk (i := C) (by omega)) (sel_rl hth _ _).1 (sel_rl hth _ _).2 _ (hb.tabs _ (w_0 (by omega)).2.2))) hS (fun _ => rfl)), ?_⟩
      refine ⟨fun a w hA hS hd => by have e3 := hx hd 3; have e8 := hx hd 8; exact b_1 rfl (dx (b_4 rfl en_87 (ev2 (a_7 e3) (a_7 e8)) (cut_ok _ _ _ _ _)) hS (fun _ => rfl)), ?_⟩
      trivial
     intro DE EW Bp B5 A1; clear Bo AZ
     have Bq := Bp.add (hz A1 0); clear Bp
     have AV := Bq.add (hz A1 9); clear Bq
     clear A1
     refine s1 AV (p_1 rfl y_5 g_7 (AV.ev rfl) (i := k) (AV.ev rfl) (by omega)) fun DF AW => ?_; clear AV DE
     refine s7 AW (c_2 B5 rfl g_7 (AW.ev rfl) (AW.ev rfl) (i := 2) rfl (vs := [(Value.int .i64 ((cutR ((B.getD k (0, 0)).1, (B.getD k (0, 0)).2) ((f_3 ((selT b.tabs (selU b.tabs b.tabs.length (A : Int) (k : Int))).getD C tab0) ((B.getD A (0, 0)).1, (B.getD A (0, 0)).2)).1, (f_3 ((selT b.tabs (selU b.tabs b.tabs.length (A : Int) (k : Int))).getD C tab0) ((B.getD A (0, 0)).1, (B.getD A (0, 0)).2)).2)).1)), (Value.int .i64 ((cutR ((B.getD k (0, 0)).1, (B.getD k (0, 0)).2) ((f_3 ((selT b.tabs (selU b.tabs b.tabs.length (A : Int) (k : Int))).getD C tab0) ((B.getD A (0, 0)).1, (B.getD A (0, 0)).2)).1, (f_3 ((selT b.tabs (selU b.tabs b.tabs.length (A : Int) (k : Int))).getD C tab0) ((B.getD A (0, 0)).1, (B.getD A (0, 0)).2)).2)).2))]) rfl rfl rfl (by simp only [b_2, List.length_set, List.length_cons, List.length_nil]; omega)) ?_
     intro _ DO B6 Al; have B7 := B6.o_1 (i := 2) rfl (cs' := (pairs (B.set k ((cutR ((B.getD k (0, 0)).1, (B.getD k (0, 0)).2) ((f_3 ((selT b.tabs (selU b.tabs b.tabs.length (A : Int) (k : Int))).getD C tab0) ((B.getD A (0, 0)).1, (B.getD A (0, 0)).2)).1, (f_3 ((selT b.tabs (selU b.tabs b.tabs.length (A : Int) (k : Int))).getD C tab0) ((B.getD A (0, 0)).1, (B.getD A (0, 0)).2)).2)).1, (cutR ((B.getD k (0, 0)).1, (B.getD k (0, 0)).2) ((f_3 ((selT b.tabs (selU b.tabs b.tabs.length (A : Int) (k : Int))).getD C tab0) ((B.getD A (0, 0)).1, (B.getD A (0, 0)).2)).1, (f_3 ((selT b.tabs (selU b.tabs b.tabs.length (A : Int) (k : Int))).getD C tab0) ((B.getD A (0, 0)).1, (B.getD A (0, 0)).2)).2)).2)))) (pairs_setZ _ _ _ _); clear B6 AW B5
     refine e_9 ?_
     refine h_0 ?_
     refine b_0 ?_
     refine a_5 ?_
     refine s1 Al (f_4 rfl (Al.ev rfl) (evc _ _) (by omega) (by omega)) fun DG Am => ?_; clear Al DF
     refine s1 Am (a_1 rfl (Am.ev rfl)) fun EK Cu => ?_; clear Am DG
     refine e_9 ?_
     have Cy : Sep NoB w DO [(blk J 120 (pairs ([(0, 0), (0, 0), (0, 0), (0, 0)]))), (blk H 120 (pairs (B.set k ((cutR ((B.getD k (0, 0)).1, (B.getD k (0, 0)).2) ((f_3 ((selT b.tabs (selU b.tabs b.tabs.length (A : Int) (k : Int))).getD C tab0) ((B.getD A (0, 0)).1, (B.getD A (0, 0)).2)).1, (f_3 ((selT b.tabs (selU b.tabs b.tabs.length (A : Int) (k : Int))).getD C tab0) ((B.getD A (0, 0)).1, (B.getD A (0, 0)).2)).2)).1, (cutR ((B.getD k (0, 0)).1, (B.getD k (0, 0)).2) ((f_3 ((selT b.tabs (selU b.tabs b.tabs.length (A : Int) (k : Int))).getD C tab0) ((B.getD A (0, 0)).1, (B.getD A (0, 0)).2)).1, (f_3 ((selT b.tabs (selU b.tabs b.tabs.length (A : Int) (k : Int))).getD C tab0) ((B.getD A (0, 0)).1, (B.getD A (0, 0)).2)).2)).2)))), (rob bx 146 [(Value.int .i64 b.scales), vt, vm, (Value.map (some bm))]), (mapX false bm es ck es.size 106 5 (bN b.tabs b.tabs.length) (bC lr lb b.tabs b.tabs.length)), (d_8 false vt lr lb b.tabs), (e_6 false vm lk b.macs)] := B7.keep [1, 2, 3, 4, 5, 6] (by decide) _ rfl rfl; clear B7
     exact b_0 ⟨C + 1, ⟨(B.set k ((cutR ((B.getD k (0, 0)).1, (B.getD k (0, 0)).2) ((f_3 ((selT b.tabs (selU b.tabs b.tabs.length (A : Int) (k : Int))).getD C tab0) ((B.getD A (0, 0)).1, (B.getD A (0, 0)).2)).1, (f_3 ((selT b.tabs (selU b.tabs b.tabs.length (A : Int) (k : Int))).getD C tab0) ((B.getD A (0, 0)).1, (B.getD A (0, 0)).2)).2)).1, (cutR ((B.getD k (0, 0)).1, (B.getD k (0, 0)).2) ((f_3 ((selT b.tabs (selU b.tabs b.tabs.length (A : Int) (k : Int))).getD C tab0) ((B.getD A (0, 0)).1, (B.getD A (0, 0)).2)).1, (f_3 ((selT b.tabs (selU b.tabs b.tabs.length (A : Int) (k : Int))).getD C tab0) ((B.getD A (0, 0)).1, (B.getD A (0, 0)).2)).2)).2)), Cu.as _ rfl, Cy, by omega, (by first | exact A9 | (rw [List.length_set]; exact A9)), (by first | exact cut_n (by omega) Aa (by assumption) (by assumption) | exact cut_y (by omega) Aa (by assumption) (by assumption))⟩, by omega⟩
    skip
    rw [A7] at M
    refine b_7 M rfl ?_
    refine d_0 ?_
    refine h_0 ?_
    refine b_0 ?_
    refine a_5 ?_
    refine s1 M (f_4 rfl (M.ev rfl) (evc _ _) (by omega) (by omega)) fun DH An => ?_; clear M DD
    refine s1 An (a_1 rfl (An.ev rfl)) fun EL Cv => ?_; clear An DH
    refine e_9 ?_
    have Cz : Sep NoB w DN [(blk J 120 (pairs ([(0, 0), (0, 0), (0, 0), (0, 0)]))), (blk H 120 (pairs B)), (rob bx 146 [(Value.int .i64 b.scales), vt, vm, (Value.map (some bm))]), (mapX false bm es ck es.size 106 5 (bN b.tabs b.tabs.length) (bC lr lb b.tabs b.tabs.length)), (d_8 false vt lr lb b.tabs), (e_6 false vm lk b.macs)] := AZ.keep [1, 2, 3, 4, 5, 6] (by decide) _ rfl rfl; clear AZ
    exact b_0 ⟨C + 1, ⟨B, Cv.as _ rfl, Cz, by omega, (by first | exact A9 | (rw [List.length_set]; exact A9)), (by first | exact cut_n (by omega) Aa (by assumption) (by assumption) | exact cut_y (by omega) Aa (by assumption) (by assumption))⟩, by omega⟩
   skip
   rw [decide_eq_false CX] at P
   refine b_7 P rfl ?_
   refine g_8 ?_
   refine b_6 ?_
   refine b_6 ?_
   refine f_5 ?_
   refine h_0 ?_
   refine b_0 ?_
   refine a_5 ?_
   refine s1 P (f_4 rfl (P.ev rfl) (evc _ _) (by omega) (by omega)) fun DI Ao => ?_; clear P C1
   refine s1 Ao (a_1 rfl (Ao.ev rfl)) fun EM Cw => ?_; clear Ao DI
   refine e_9 ?_
   exact b_0 ⟨A + 1, ⟨B, Cw.as _ rfl, n, by omega, A9, (cut_21 (by omega) Aa)⟩, by omega⟩
  skip
  rw [decide_eq_false CW] at e
  refine b_7 e rfl ?_
  refine g_8 ?_
  refine b_6 ?_
  refine b_6 ?_
  refine f_5 ?_
  refine h_0 ?_
  refine b_0 ?_
  refine a_5 ?_
  refine s1 e (f_4 rfl (e.ev rfl) (evc _ _) (by omega) (by omega)) fun DJ Ap => ?_; clear e C0
  refine s1 Ap (a_1 rfl (Ap.ev rfl)) fun EN Cx => ?_; clear Ap DJ
  refine e_9 ?_
  exact b_0 ⟨k + 1, ⟨x1, Cx.as _ rfl, m, by omega, C7, (cut_10 (by omega) C6)⟩, by omega⟩
 skip
 rw [decide_eq_false CV] at f
 refine b_7 f rfl ?_
 refine g_8 ?_
 refine b_6 ?_
 refine b_6 ?_
 refine f_5 ?_
 refine b_0 ?_
 refine b_8 ?_
 have Aq := f.as [(4, (bptr J 0)), (3, (bptr H 0)), (0, (bptr bx 0))] rfl; clear f
 refine c_drawF mixed Aq AP 9 8 rfl rfl [[], [], [1], [2], [3], [4], [5], [6], [7]] [(fun (E : Nat → Value) (v_ : Value) (rs_ : List Res) => v_ = (Value.agg (pairs F).toArray) ∧ rs_ = []), (fun (E : Nat → Value) (v_ : Value) (rs_ : List Res) => v_ = (bptr bx 0) ∧ rs_ = []), (fun (E : Nat → Value) (v_ : Value) (rs_ : List Res) => v_ = (bptr bx 0) ∧ rs_ = []), (fun (E : Nat → Value) (v_ : Value) (rs_ : List Res) => v_ = (bptr bx 0) ∧ rs_ = []), (fun (E : Nat → Value) (v_ : Value) (rs_ : List Res) => v_ = (bptr bx 0) ∧ rs_ = []), (fun (E : Nat → Value) (v_ : Value) (rs_ : List Res) => v_ = (Value.int .i64 b.scales) ∧ rs_ = []), (fun (E : Nat → Value) (v_ : Value) (rs_ : List Res) => v_ = (Value.slice (some ⟨H, 0, none⟩) b.scales.toNat 4) ∧ rs_ = []), (fun (E : Nat → Value) (v_ : Value) (rs_ : List Res) => v_ = (Value.bool ((List.range (F.take b.scales.toNat).length).any fun i => decide (((F.take b.scales.toNat).getD i (0, 0)).2 < ((F.take b.scales.toNat).getD i (0, 0)).1))) ∧ rs_ = []), (fun (E : Nat → Value) (v_ : Value) (rs_ : List Res) => v_ = (Value.bool (!((List.range (F.take b.scales.toNat).length).any fun i => decide (((F.take b.scales.toNat).getD i (0, 0)).2 < ((F.take b.scales.toNat).getD i (0, 0)).1)))) ∧ rs_ = [])] (by decide +kernel) (by decide +kernel) (by decide +kernel) rfl rfl ⟨(fun _ _ _ _ _ h_ => h_), (fun _ _ _ _ _ h_ => h_), (fun _ _ _ _ _ h_ => h_), (fun _ _ _ _ _ h_ => h_), (fun _ _ _ _ _ h_ => h_), (fun _ _ _ _ _ h_ => h_), (fun _ _ _ _ _ h_ => h_), (fun _ _ _ _ _ h_ => h_), (fun _ _ _ _ _ h_ => h_), trivial⟩ ?_ ?_ ?_
 ·skip
  refine ⟨fun a w E hA hS hd => ?_, ?_⟩
  ·skip
   exact b_1 rfl (vv (c_5 rfl l_4 (hA.ev rfl) (hS.bk 1 rfl) (l := (pairs F)) (g_4 _ _ (show (pairs F).length = 8 from by simp only [b_2, List.length_set]; omega)) (show (pairs F).length = 8 from by simp only [b_2, List.length_set]; omega)) (And.intro rfl rfl))
  refine ⟨fun a w E hA hS hd => ?_, ?_⟩
  ·skip
   exact b_1 rfl (vv (a_1 rfl (hA.ev rfl)) (And.intro rfl rfl))
  refine ⟨fun a w E hA hS hd => ?_, ?_⟩
  ·skip
   obtain ⟨e1, D8, Cn, D1⟩ := hd 1 (by decide)
   obtain ⟨Cg, CZ⟩ := Cn; subst CZ
   rw [Cg] at e1
   exact b_1 rfl (vv (o_2 rfl (a_7 (b_5 e1 rfl))) (And.intro rfl rfl))
  refine ⟨fun a w E hA hS hd => ?_, ?_⟩
  ·skip
   obtain ⟨e2, D9, Co, D2⟩ := hd 2 (by decide)
   obtain ⟨Ch, Ca⟩ := Co; subst Ca
   rw [Ch] at e2
   exact b_1 rfl (vv (a_3 rfl fd_146_0 (a_7 (b_5 e2 rfl))) (And.intro rfl rfl))
  refine ⟨fun a w E hA hS hd => ?_, ?_⟩
  ·skip
   obtain ⟨e3, EA, Cp, D3⟩ := hd 3 (by decide)
   obtain ⟨Ci, Cb⟩ := Cp; subst Cb
   rw [Ci] at e3
   exact b_1 rfl (vv (a_3 rfl fd_37_0 (a_7 (b_5 e3 rfl))) (And.intro rfl rfl))
  refine ⟨fun a w E hA hS hd => ?_, ?_⟩
  ·skip
   obtain ⟨e4, EB, Cq, D4⟩ := hd 4 (by decide)
   obtain ⟨Cj, Cc⟩ := Cq; subst Cc
   rw [Cj] at e4
   exact b_1 rfl (vv (a_2 rfl ty_3 (a_7 (b_5 e4 rfl)) (hS.rk 2 rfl) rfl) (And.intro rfl rfl))
  refine ⟨fun a w E hA hS hd => ?_, ?_⟩
  ·skip
   obtain ⟨e5, EC, Cr, D5⟩ := hd 5 (by decide)
   obtain ⟨Ck, Cd⟩ := Cr; subst Cd
   rw [Ck] at e5
   exact b_1 rfl (vv (op_sliceArr rfl y_5 g_7 (hA.ev rfl) (h := b.scales.toNat) ((a_7 (b_5 e5 rfl)).trans (h_1 (by omega))) (by omega)) (And.intro rfl rfl))
  refine ⟨fun a w E hA hS hd => ?_, ?_⟩
  ·skip
   obtain ⟨e6, ED, Cs, D6⟩ := hd 6 (by decide)
   obtain ⟨Cl, Ce⟩ := Cs; subst Ce
   rw [Cl] at e6
   exact b_1 rfl (vx (b_4 rfl en_108 (ev2 (a_7 (b_5 e6 rfl)) (evf _ _)) (contf_rng (F.take b.scales.toNat) _ 68 #[] #[] (fun i => decide (((F.take b.scales.toNat).getD i (0, 0)).2 < ((F.take b.scales.toNat).getD i (0, 0)).1)) _ ((SlAt.of_blkCut (hS.bk 1 rfl) (by rw [b_2]; omega) (by omega) (by decide)).say (by rw [List.length_take]; omega) (pairs_takeH _ _)) (by rw [List.length_take]; omega) ⟨en_68, fun i hi W hW => empty_ok _ _ W⟩)) (And.intro rfl rfl))
  refine ⟨fun a w E hA hS hd => ?_, ?_⟩
  ·skip
   obtain ⟨e7, EE, Ct, D7⟩ := hd 7 (by decide)
   obtain ⟨Cm, Cf⟩ := Ct; subst Cf
   rw [Cm] at e7
   exact b_1 rfl (vv (f_6 rfl (a_7 (b_5 e7 rfl))) (And.intro rfl rfl))
  trivial
 ·skip
  intro BC DP E rsf205 Br L A5; clear Aq AP
  obtain ⟨I, AG⟩ := L 0 (by decide)
  obtain ⟨c, Q⟩ := AG
  obtain ⟨o, AH⟩ := L 1 (by decide)
  obtain ⟨AA, R⟩ := AH
  obtain ⟨q, AI⟩ := L 2 (by decide)
  obtain ⟨AB, S⟩ := AI
  obtain ⟨r, AJ⟩ := L 3 (by decide)
  obtain ⟨AC, T⟩ := AJ
  obtain ⟨t, AK⟩ := L 4 (by decide)
  obtain ⟨AD, U⟩ := AK
  obtain ⟨x, AL⟩ := L 5 (by decide)
  obtain ⟨AE, V⟩ := AL
  obtain ⟨y, AM⟩ := L 6 (by decide)
  obtain ⟨AF, X⟩ := AM
  obtain ⟨Z, AN⟩ := L 7 (by decide)
  obtain ⟨g, Y⟩ := AN
  obtain ⟨z, Bc⟩ := L 8 (by decide)
  obtain ⟨Ac, Ab⟩ := Bc
  have B8 : Sep NoB w DP [(blk J 120 (pairs ([(0, 0), (0, 0), (0, 0), (0, 0)]))), (blk H 120 (pairs F)), (rob bx 146 [(Value.int .i64 b.scales), vt, vm, (Value.map (some bm))]), (mapX false bm es ck es.size 106 5 (bN b.tabs b.tabs.length) (bC lr lb b.tabs b.tabs.length)), (d_8 false vt lr lb b.tabs), (e_6 false vm lk b.macs)] := by rw [show catR rsf205 0 9 = ([] : List Res) by (try simp only [catR, Q, R, S, T, U, V, X, Y, Ab]); (try rfl)] at A5; exact A5
  rw [c] at I
  have Bs : Fr 71 [] [(62, (Value.agg (pairs F).toArray)), (4, (bptr J 0)), (3, (bptr H 0)), (0, (bptr bx 0))] BC := Br.add (b_5 I rfl); clear Br
  rw [Ac] at z
  have AX : Fr 71 [] [(70, (Value.bool (!((List.range (F.take b.scales.toNat).length).any fun i => decide (((F.take b.scales.toNat).getD i (0, 0)).2 < ((F.take b.scales.toNat).getD i (0, 0)).1))))), (62, (Value.agg (pairs F).toArray)), (4, (bptr J 0)), (3, (bptr H 0)), (0, (bptr bx 0))] BC := Bs.add (b_5 z rfl); clear Bs
  clear L A5 I o q r t x y Z z
  clear Q
  clear c
  clear R
  clear AA
  clear S
  clear AB
  clear T
  clear AC
  clear U
  clear AD
  clear V
  clear AE
  clear X
  clear AF
  clear Y
  clear g
  clear Ab
  clear Ac
  refine s7 AX (c_2 B8 rfl l_4 (AX.ev rfl) (AX.ev rfl) (i := 0) rfl (vs := (pairs F)) rfl (show (pairs F).length = 8 from by simp only [b_2, List.length_set]; omega) (m_2 _) (by simp only [b_2, List.length_set, List.length_cons, List.length_nil]; omega)) ?_
  intro _ EX B9 Ar; have CA := B9.o_1 (i := 0) rfl (cs' := (pairs F)) (k_1 _ _ (by first | (simp only [b_2, List.length_set, List.length_cons, List.length_nil]; done) | (simp only [b_2, List.length_set, List.length_cons, List.length_nil]; omega))); clear B9 AX B8
  refine s1 Ar (a_0 rfl (Ar.ev rfl)) fun EO Bt => ?_; clear Ar BC
  refine n1 ?_
  refine c_9 ?_
  refine ng_ret ?_
  refine a_9 Bt (.inl rfl) (d_2 Bt rfl (.cellA rfl l_4 (CA.bk 0 rfl) (l := (pairs F)) (g_4 _ _ (show (pairs F).length = 8 from by simp only [b_2, List.length_set]; omega)) (show (pairs F).length = 8 from by simp only [b_2, List.length_set]; omega)) (.tmp rfl)) ?_
  have hz : h_4 (g_2 b.scales.toNat b.tabs) s = (F, false) := cut_end (by omega) CY
  exact ⟨by rw [hz, ← full_any (s := F) (by omega)], CA.ext⟩
 skip
 intro BD DQ E rsf220 Bu O hrq A6; clear Aq AP
 obtain ⟨I, AG⟩ := O 0 (by decide) (by decide)
 obtain ⟨c, Q⟩ := AG
 obtain ⟨o, AH⟩ := O 1 (by decide) (by decide)
 obtain ⟨AA, R⟩ := AH
 obtain ⟨q, AI⟩ := O 2 (by decide) (by decide)
 obtain ⟨AB, S⟩ := AI
 obtain ⟨r, AJ⟩ := O 3 (by decide) (by decide)
 obtain ⟨AC, T⟩ := AJ
 obtain ⟨t, AK⟩ := O 4 (by decide) (by decide)
 obtain ⟨AD, U⟩ := AK
 obtain ⟨x, AL⟩ := O 5 (by decide) (by decide)
 obtain ⟨AE, V⟩ := AL
 obtain ⟨y, AM⟩ := O 6 (by decide) (by decide)
 obtain ⟨AF, X⟩ := AM
 obtain ⟨Z, AN⟩ := O 7 (by decide) (by decide)
 obtain ⟨g, Y⟩ := AN
 have CB : Sep NoB w DQ [(blk J 120 (pairs ([(0, 0), (0, 0), (0, 0), (0, 0)]))), (blk H 120 (pairs F)), (rob bx 146 [(Value.int .i64 b.scales), vt, vm, (Value.map (some bm))]), (mapX false bm es ck es.size 106 5 (bN b.tabs b.tabs.length) (bC lr lb b.tabs b.tabs.length)), (d_8 false vt lr lb b.tabs), (e_6 false vm lk b.macs)] := by rw [show catR rsf220 0 9 = ([] : List Res) by (try simp only [catR, Q, R, S, T, U, V, X, Y, hrq]); (try rfl)] at A6; exact A6
 rw [c] at I
 have Bv : Fr 71 [] [(62, (Value.agg (pairs F).toArray)), (4, (bptr J 0)), (3, (bptr H 0)), (0, (bptr bx 0))] BD := Bu.add (b_5 I rfl); clear Bu
 rw [g] at Z
 have AY : Fr 71 [] [(69, (Value.bool ((List.range (F.take b.scales.toNat).length).any fun i => decide (((F.take b.scales.toNat).getD i (0, 0)).2 < ((F.take b.scales.toNat).getD i (0, 0)).1)))), (62, (Value.agg (pairs F).toArray)), (4, (bptr J 0)), (3, (bptr H 0)), (0, (bptr bx 0))] BD := Bv.add (b_5 Z rfl); clear Bv
 clear O A6 I o q r t x y Z hrq
 clear Q
 clear c
 clear R
 clear AA
 clear S
 clear AB
 clear T
 clear AC
 clear U
 clear AD
 clear V
 clear AE
 clear X
 clear AF
 clear Y
 clear g
 refine s7 AY (c_2 CB rfl l_4 (AY.ev rfl) (AY.ev rfl) (i := 0) rfl (vs := (pairs F)) rfl (show (pairs F).length = 8 from by simp only [b_2, List.length_set]; omega) (m_2 _) (by simp only [b_2, List.length_set, List.length_cons, List.length_nil]; omega)) ?_
 intro _ EY CC As; have CD := CC.o_1 (i := 0) rfl (cs' := (pairs F)) (k_1 _ _ (by first | (simp only [b_2, List.length_set, List.length_cons, List.length_nil]; done) | (simp only [b_2, List.length_set, List.length_cons, List.length_nil]; omega))); clear CC AY CB
 refine s1 As (f_6 rfl (As.ev rfl)) fun DK At => ?_; clear As BD
 refine s1 At (a_0 rfl (At.ev rfl)) fun EP Bw => ?_; clear At DK
 refine n1 ?_
 refine c_9 ?_
 refine ng_ret ?_
 refine a_9 Bw (.inl rfl) (d_2 Bw rfl (.cellA rfl l_4 (CD.bk 0 rfl) (l := (pairs F)) (g_4 _ _ (show (pairs F).length = 8 from by simp only [b_2, List.length_set]; omega)) (show (pairs F).length = 8 from by simp only [b_2, List.length_set]; omega)) (.tmp rfl)) ?_
 have hz : h_4 (g_2 b.scales.toNat b.tabs) s = (F, false) := cut_end (by omega) CY
 exact ⟨by rw [hz, ← full_any (s := F) (by omega)], CD.ext⟩
end Go.Proofs.Ytohgladndklciaa

namespace Go.Hard
open Go.RowKit Go.Eng
theorem biasU_bd {n : Int} {m : MacD} (h : MacV n m) : ∀ k, k ≤ m.blocks.length → (-100000 ≤ (i_8 m.blocks k).1 ∧ (i_8 m.blocks k).1 ≤ 100000) ∧ -100000 ≤ (i_8 m.blocks k).2 ∧ (i_8 m.blocks k).2 ≤ 100000
  | 0, _ => by unfold i_8; exact ⟨⟨by decide, by decide⟩, by decide, by decide⟩
  | k + 1, hk => by
    have ih := biasU_bd h k (by omega)
    have hb := h.blocks k (by omega)
    rw [i_8]; dsimp only [cutR]; omega
theorem biasF_bd {n : Int} {m : MacD} (h : MacV n m) : (-100000 ≤ (d_5 m).1 ∧ (d_5 m).1 ≤ 100000) ∧ -100000 ≤ (d_5 m).2 ∧ (d_5 m).2 ≤ 100000 := biasU_bd h _ (Nat.le_refl _)
def zero4 : g_6 := [(0, 0), (0, 0), (0, 0), (0, 0)]
def fillU : Nat → g_6
  | 0 => zero4
  | k + 1 => (fillU k).set k rng0
theorem fillU_len : ∀ k, (fillU k).length = 4
  | 0 => rfl
  | k + 1 => by rw [fillU, List.length_set]; exact fillU_len k
theorem fill4 : fillU 4 = e_8 := by decide
theorem full_free {n : Nat} (hn : n ≤ 4) : Full n e_8 := fun i hi => by
  match i, hi with
  | 0, _ => decide
  | 1, _ => decide
  | 2, _ => decide
  | 3, _ => decide
  | i + 4, hi => omega
section
variable {b : h_6} {l : List (Int × Int)} {k : Nat}
theorem start_mono (hb : n_0 b) (hl : u_6 b l) {s : g_6} (hs : b.scales.toNat ≤ s.length) {k m : Nat} (h : k ≤ m) (hm : m ≤ l.length) : Sub b.scales.toNat (c_0 b l s m) (c_0 b l s k) := by
  have h1 := (start_iff hb hl rfl hs (s' := c_0 b l s m) m hm).1 (Sub.refl _ _)
  exact (start_iff hb hl rfl hs (s' := c_0 b l s m) k (by omega)).2 ⟨h1.1, fun j hj => h1.2 j (by omega)⟩
theorem spans_none (h : ¬ Full b.scales.toNat (s_1 b l)) : k_8 b l = none := by
  unfold k_8; rw [if_neg]; rw [o_8]; exact h
theorem spans_go (h : Full b.scales.toNat (s_1 b l)) : k_8 b l = r_3 b.scales.toNat (g_2 b.scales.toNat b.tabs) 400001 (s_1 b l) := by
  unfold k_8; rw [if_pos (o_8.2 h)]
theorem start_empty (hb : n_0 b) (hl : u_6 b l) (hk : k < l.length) (he : (at' (c_0 b l e_8 (k + 1)) (o_4 b l k)).2 < (at' (c_0 b l e_8 (k + 1)) (o_4 b l k)).1) : k_8 b l = none := by
  refine spans_none fun hf => ?_
  have hsc := x_7 hb hl hk
  have h1 := start_mono hb hl (s := e_8) hb.four (show k + 1 ≤ l.length by omega) (Nat.le_refl _) _ hsc
  have h2 := hf _ hsc
  unfold s_1 at h2
  omega
theorem start_next (hb : n_0 b) (hl : u_6 b l) (hk : k < l.length) (hf : Full b.scales.toNat (c_0 b l e_8 k)) (he : ¬ (at' (c_0 b l e_8 (k + 1)) (o_4 b l k)).2 < (at' (c_0 b l e_8 (k + 1)) (o_4 b l k)).1) : Full b.scales.toNat (c_0 b l e_8 (k + 1)) := fun i hi => by
  have hsc := x_7 hb hl hk
  have hlen := n_8 b l e_8 k
  have h4 : e_8.length = 4 := rfl
  have hn := hb.four
  by_cases e : o_4 b l k = i
  · subst e; omega
  · rw [t_6, at_set (by omega), if_neg e]; exact hf i hi
variable {n : Nat} {ts : List TabD} {s : g_6} {g : Nat}
theorem k_fail (h : ab_4 n (h_4 ts s).1 = false) : r_3 n ts g s = none := by
  cases g with
  | zero => rfl
  | succ g => rw [r_3, if_neg (by rw [h]; decide)]
theorem k_done (hg : 0 < g) (h : ab_4 n (h_4 ts s).1 = true) (he : (h_4 ts s).1 = s) : r_3 n ts g s = some (s.take n) := by
  obtain ⟨g, rfl⟩ : ∃ g', g = g' + 1 := ⟨g - 1, by omega⟩
  rw [r_3, if_pos h, if_pos he]
theorem k_next (hg : 0 < g) (h : ab_4 n (h_4 ts s).1 = true) (he : ¬ (h_4 ts s).1 = s) : r_3 n ts g s = r_3 n ts (g - 1) (h_4 ts s).1 := by
  obtain ⟨g, rfl⟩ : ∃ g', g = g' + 1 := ⟨g - 1, by omega⟩
  rw [r_3, if_pos h, if_neg he]; rfl
end
end Go.Hard

namespace Go.Proofs.Ytohgladndklciaa
open Go.RowKit Go.Shelf Go.Eng Go.Hard
theorem ze_98 : (Try.prog.info? 98).bind (·.zero) = some (Value.agg #[(Value.int .i64 0), (Value.int .i64 0)]) := by kernel_rfl
theorem en_88 : ∀ args w, (callFunc 88 args).run Try.prog w = .ok (.enter 88 args) w := enters_of Try.func88 (by kernel_rfl) rfl
theorem ar_120 : Try.prog.underlying 120 = some (.array 4 30) := by kernel_rfl
theorem tw_30 : j_2 Try.prog 30 = true := by kernel_rfl
theorem gt_120 : Try.prog.eqGuardType Try.prog.depth 120 = false := by kernel_rfl
set_option maxHeartbeats 4000000 in
theorem spansb_ok (b : h_6) (vt vm : Value) (lr lb lk : Nat → Value) (w : World) (hT : i_5 w vt lr lb b.tabs) (hM : j_6 w vm lk b.macs) (hth : n_4 b) (bx bm : Nat) (es : Array MapEntry) (ck : Nat) (hMO : s_8 bm es ck (bN b.tabs b.tabs.length)) (hbx : (blk bx 146 [.int .i64 b.scales, vt, vm, .map (some bm)]).p w) (hmx : (mapX false bm es ck es.size 106 5 (bN b.tabs b.tabs.length) (bC lr lb b.tabs b.tabs.length)).p w) (hb : n_0 b) (l : List (Int × Int)) (xl : Value) (hxl : SlAt w xl 2 l.length (pairs l)) (hl : u_6 b l) :
  Calls Try.prog 57 #[(bptr bx 0), xl] w (Ret fun v w' => ∃ x, x.length = 4 ∧ v = .tuple #[.agg (pairs x).toArray, .bool (k_8 b l).isSome] ∧ (∀ t, k_8 b l = some t → x.take b.scales.toNat = t) ∧ Ext NoB w w') := by
 refine a_8 Try.func57 rfl fun a0 Ak => ?_
 replace Ak : Fr 79 [] [(0, (bptr bx 0)), (1, xl)] a0 := Ak
 have hsc := hb.scales; have htl9 := hth.tl; have hml9 := hth.ml; have hll := hl.len
 have B4 : Sep NoB w w [(rob bx 146 [(Value.int .i64 b.scales), vt, vm, (Value.map (some bm))]), (mapX false bm es ck es.size 106 5 (bN b.tabs b.tabs.length) (bC lr lb b.tabs b.tabs.length)), (d_8 false vt lr lb b.tabs), (e_6 false vm lk b.macs), (sl xl 2 l.length (pairs l))] := f_1 ⟨rfl, hbx, rfl, hmx, rfl, hT, rfl, hM, rfl, hxl, trivial⟩
 refine m2 ?_
 refine s2 Ak (e_4 B4 rfl ze_120 (cs := (pairs zero4)) rfl) ?_
 rintro a1 _ w3 ⟨C, rfl, B5⟩ B1; clear Ak B4 a0
 refine s1 B1 (a_0 rfl (evc _ _)) fun a6 B2 => ?_; clear B1 a1
 refine n2 ?_
 refine m2 ?_
 refine s1 B2 (a_1 rfl (evc _ _)) fun a8 B3 => ?_; clear B2 a6
 refine n1 ?_
 refine c_7 ?_
 have BG := B3.as [(13, (Value.int .i64 0)), (4, (bptr C 0)), (0, (bptr bx 0)), (1, xl)] rfl; clear B3
 refine h_3 (G := Nat) (fun (k : Nat) a_ w_ => Fr 79 [] [(13, (Value.int .i64 (k : Int))), (4, (bptr C 0)), (0, (bptr bx 0)), (1, xl)] a_ ∧ Sep NoB w w_ [(blk C 120 (pairs (fillU k))), (rob bx 146 [(Value.int .i64 b.scales), vt, vm, (Value.map (some bm))]), (mapX false bm es ck es.size 106 5 (bN b.tabs b.tabs.length) (bC lr lb b.tabs b.tabs.length)), (d_8 false vt lr lb b.tabs), (e_6 false vm lk b.macs), (sl xl 2 l.length (pairs l))] ∧ (k ≤ 4)) (fun k => 4 - k) 0 ⟨BG.as _ rfl, B5, by omega⟩ ?_
 clear BG B5 a8
 rintro k C4 EU ⟨AW, c, hk⟩
 have hfl := fillU_len k
 refine m2 ?_
 refine s1 AW (f_8 rfl (AW.ev rfl) (evc _ _)) fun Bz H => ?_; clear AW C4
 refine n2 ?_
 by_cases Bf : (k : Int) < 4
 ·skip
  rw [decide_eq_true Bf] at H
  refine c_3 H rfl ?_
  refine d_0 ?_
  refine b_0 ?_
  refine b_8 ?_
  refine c_7 ?_
  refine m2 ?_
  refine s1 H (a_1 rfl (H.ev rfl)) fun C5 AX => ?_; clear H Bz
  refine s1 AX (a_0 rfl (AX.ev rfl)) fun C6 AY => ?_; clear AX C5
  refine n3 ?_
  refine s1 AY (a_1 rfl (AY.ev rfl)) fun C7 BH => ?_; clear AY C6
  refine s1 BH (e_5 rfl (pv2 (evc _ _) (evc _ _)) (l_7 _ _)) fun C8 AN => ?_; clear BH C7
  refine s1 AN (p_1 rfl y_5 g_7 (AN.ev rfl) (i := k) (AN.ev rfl) (by omega)) fun C9 AO => ?_; clear AN C8
  refine s7 AO (c_2 c rfl g_7 (AO.ev rfl) (AO.ev rfl) (i := 0) rfl (vs := [(Value.int .i64 0), (Value.int .i64 100000)]) rfl rfl rfl (by simp only [b_2, List.length_set, List.length_cons, List.length_nil]; omega)) ?_
  intro _ EV BW BI; have Ca := BW.o_1 (i := 0) rfl (cs' := (pairs ((fillU k).set k (0, 100000)))) (pairs_setZ _ _ _ _); clear BW AO c
  refine e_9 ?_
  refine h_0 ?_
  refine b_0 ?_
  have AZ := BI.as [(13, (Value.int .i64 (k : Int))), (4, (bptr C 0)), (0, (bptr bx 0)), (1, xl)] rfl; clear BI
  refine a_5 ?_
  refine s1 AZ (f_4 rfl (AZ.ev rfl) (evc _ _) (by omega) (by omega)) fun DA Aa => ?_; clear AZ C9
  refine s1 Aa (a_1 rfl (Aa.ev rfl)) fun EA CZ => ?_; clear Aa DA
  refine e_9 ?_
  exact b_0 ⟨k + 1, ⟨CZ.as _ rfl, Ca, by omega⟩, by omega⟩
 skip
 rw [decide_eq_false Bf] at H
 refine b_7 H rfl ?_
 refine g_8 ?_
 refine b_6 ?_
 refine b_6 ?_
 refine f_5 ?_
 refine b_0 ?_
 refine b_8 ?_
 refine m2 ?_
 refine s1 H (a_1 rfl (H.ev rfl)) fun DB Ab => ?_; clear H Bz
 refine s1 Ab (d_6 rfl un_53 (Ab.ev rfl) (c.sk 5 rfl)) fun DC BJ => ?_; clear Ab DB
 refine s1 BJ (a_1 rfl (evc _ _)) fun DD BK => ?_; clear BJ DC
 refine n1 ?_
 refine c_7 ?_
 have BL := BK.as [(22, (Value.int .i64 0)), (21, (Value.int .i64 (l.length : Int))), (20, xl), (4, (bptr C 0)), (0, (bptr bx 0))] rfl; clear BK
 refine h_3 (G := Nat) (fun (k : Nat) a_ w_ => Fr 79 [] [(22, (Value.int .i64 (k : Int))), (21, (Value.int .i64 (l.length : Int))), (20, xl), (4, (bptr C 0)), (0, (bptr bx 0))] a_ ∧ Sep NoB w w_ [(blk C 120 (pairs (c_0 b l e_8 k))), (rob bx 146 [(Value.int .i64 b.scales), vt, vm, (Value.map (some bm))]), (mapX false bm es ck es.size 106 5 (bN b.tabs b.tabs.length) (bC lr lb b.tabs b.tabs.length)), (d_8 false vt lr lb b.tabs), (e_6 false vm lk b.macs), (sl xl 2 l.length (pairs l))] ∧ (k ≤ l.length) ∧ (Full b.scales.toNat (c_0 b l e_8 k))) (fun k => l.length - k) 0 ⟨BL.as _ rfl, (c.o_1 (i := 0) rfl (by rw [show k = 4 by omega, fill4]; rfl)), Nat.zero_le _, full_free hb.four⟩ ?_
 clear BL c DD
 rintro k DE EW ⟨AP, N, hk, hfu⟩
 have hsl := n_8 b l e_8 k; have ED : e_8.length = 4 := rfl
 refine m2 ?_
 refine s1 AP (f_8 rfl (AP.ev rfl) (AP.ev rfl)) fun B0 I => ?_; clear AP DE
 refine n2 ?_
 by_cases Bg : (k : Int) < (l.length : Int)
 ·skip
  rw [decide_eq_true Bg] at I
  have hscl := x_7 hb hl (k := k) (by omega); unfold o_4 at hscl; have hmv := hl.macV hb (k := k) (by omega); have hsv := hmv.scale; have hbb := biasF_bd hmv; have hlm := hl.mac k (by omega); have hlr := hl.read k (by omega); have hsl1 := n_8 b l e_8 (k + 1); have hb4_ := hb.four
  refine c_3 I rfl ?_
  refine d_0 ?_
  refine b_0 ?_
  refine b_8 ?_
  refine c_7 ?_
  refine m2 ?_
  refine s1 I (b_3 rfl un_53 ty_98 (I.ev rfl) (i := k) (I.ev rfl) (N.sk 5 rfl) (by decide) (by omega)) fun DF Ac => ?_; clear I B0
  refine s1 Ac (e_7 rfl ty_98 (Ac.ev rfl) (N.sk 5 rfl) (g_9 (by omega)) rfl (by decide)) fun DG BM => ?_; clear Ac DF
  refine s2 BM (e_4 N rfl ze_98 (cs := [(Value.int .i64 0), (Value.int .i64 0)]) rfl) ?_
  rintro EB _ EX ⟨L, rfl, BX⟩ AQ; clear BM N DG
  refine s7 AQ (c_2 BX rfl ty_98 (AQ.ev rfl) (AQ.ev rfl) (i := 0) rfl (vs := [(Value.int .i64 ((l.getD k (0, 0)).1)), (Value.int .i64 ((l.getD k (0, 0)).2))]) rfl rfl rfl (Nat.le_of_ble_eq_true rfl)) ?_
  intro _ Dq BY BN; clear AQ
  have BZ : Sep NoB w Dq [(blk L 98 [(Value.int .i64 ((l.getD k (0, 0)).1)), (Value.int .i64 ((l.getD k (0, 0)).2))]), (blk C 120 (pairs (c_0 b l e_8 k))), (rob bx 146 [(Value.int .i64 b.scales), vt, vm, (Value.map (some bm))]), (mapX false bm es ck es.size 106 5 (bN b.tabs b.tabs.length) (bC lr lb b.tabs b.tabs.length)), (d_8 false vt lr lb b.tabs), (e_6 false vm lk b.macs), (sl xl 2 l.length (pairs l))] := BY; clear BY BX
  refine n2 ?_
  have BO := BN.as [(8, (bptr L 0)), (22, (Value.int .i64 (k : Int))), (21, (Value.int .i64 (l.length : Int))), (20, xl), (4, (bptr C 0)), (0, (bptr bx 0))] rfl; clear BN
  refine w_6 mixed BO BZ 10 [[], [0], [1], [2], [3], [], [5], [4, 6], [7], []] [(fun (A : Nat → Value) (v_ : Value) (rs_ : List Res) => v_ = (bptr bx 0) ∧ rs_ = []), (fun (A : Nat → Value) (v_ : Value) (rs_ : List Res) => v_ = (bptr bx 0) ∧ rs_ = []), (fun (A : Nat → Value) (v_ : Value) (rs_ : List Res) => v_ = (bptr bx 0) ∧ rs_ = []), (fun (A : Nat → Value) (v_ : Value) (rs_ : List Res) => v_ = (bptr bx 2) ∧ rs_ = []), (fun (A : Nat → Value) (v_ : Value) (rs_ : List Res) => v_ = vm ∧ rs_ = []), (fun (A : Nat → Value) (v_ : Value) (rs_ : List Res) => v_ = (bptr L 0) ∧ rs_ = []), (fun (A : Nat → Value) (v_ : Value) (rs_ : List Res) => v_ = (Value.int .i64 ((l.getD k (0, 0)).1)) ∧ rs_ = []), (fun (A : Nat → Value) (v_ : Value) (rs_ : List Res) => v_ = (eptr vm (((l.getD k (0, 0)).1).toNat * 2)) ∧ rs_ = []), (fun (A : Nat → Value) (v_ : Value) (rs_ : List Res) => v_ = (Value.agg #[(Value.int .i64 ((b.macs.getD (((l.getD k (0, 0)).1).toNat) mac0).scale)), (lk (((l.getD k (0, 0)).1).toNat))]) ∧ rs_ = []), (fun (A : Nat → Value) (v_ : Value) (rs_ : List Res) => ∃ (b9_ : Nat), v_ = (bptr b9_ 0) ∧ rs_ = [(blk b9_ 103 [(Value.int .i64 0), (Value.slice none 0 0)])])] (by decide +kernel) (by decide +kernel) rfl rfl ⟨(fun _ _ _ _ _ h_ => h_), (fun _ _ _ _ _ h_ => h_), (fun _ _ _ _ _ h_ => h_), (fun _ _ _ _ _ h_ => h_), (fun _ _ _ _ _ h_ => h_), (fun _ _ _ _ _ h_ => h_), (fun _ _ _ _ _ h_ => h_), (fun _ _ _ _ _ h_ => h_), (fun _ _ _ _ _ h_ => h_), (fun _ _ _ _ _ h_ => h_), trivial⟩ ?_ ?_
  ·skip
   refine ⟨fun a w A hA hS hd => ?_, ?_⟩
   ·skip
    exact b_1 rfl (vv (a_1 rfl (hA.ev rfl)) (And.intro rfl rfl))
   refine ⟨fun a w A hA hS hd => ?_, ?_⟩
   ·skip
    obtain ⟨e0, EM, Di, EE⟩ := hd 0 (by decide)
    obtain ⟨Da, DS⟩ := Di; subst DS
    rw [Da] at e0
    exact b_1 rfl (vv (o_2 rfl (a_7 (b_5 e0 rfl))) (And.intro rfl rfl))
   refine ⟨fun a w A hA hS hd => ?_, ?_⟩
   ·skip
    obtain ⟨e1, EN, Dj, EF⟩ := hd 1 (by decide)
    obtain ⟨Db, DT⟩ := Dj; subst DT
    rw [Db] at e1
    exact b_1 rfl (vv (a_3 rfl fd_146_0 (a_7 (b_5 e1 rfl))) (And.intro rfl rfl))
   refine ⟨fun a w A hA hS hd => ?_, ?_⟩
   ·skip
    obtain ⟨e2, EO, Dk, EG⟩ := hd 2 (by decide)
    obtain ⟨Dc, DU⟩ := Dk; subst DU
    rw [Dc] at e2
    exact b_1 rfl (vv (a_3 rfl u_8 (a_7 (b_5 e2 rfl))) (And.intro rfl rfl))
   refine ⟨fun a w A hA hS hd => ?_, ?_⟩
   ·skip
    obtain ⟨e3, EP, Dl, EH⟩ := hd 3 (by decide)
    obtain ⟨Dd, DV⟩ := Dl; subst DV
    rw [Dd] at e3
    exact b_1 rfl (vv (a_2 rfl ty_35 (a_7 (b_5 e3 rfl)) (hS.rk 2 rfl) rfl) (And.intro rfl rfl))
   refine ⟨fun a w A hA hS hd => ?_, ?_⟩
   ·skip
    exact b_1 rfl (vv (a_3 rfl fd_98_0 (hA.ev rfl)) (And.intro rfl rfl))
   refine ⟨fun a w A hA hS hd => ?_, ?_⟩
   ·skip
    obtain ⟨e5, ER, Dn, EI⟩ := hd 5 (by decide)
    obtain ⟨Df, DX⟩ := Dn; subst DX
    rw [Df] at e5
    exact b_1 rfl (vv (a_2 rfl ty_3 (a_7 (b_5 e5 rfl)) (hS.bk 0 rfl) rfl) (And.intro rfl rfl))
   refine ⟨fun a w A hA hS hd => ?_, ?_⟩
   ·skip
    obtain ⟨e4, EQ, Dm, Bh⟩ := hd 4 (by decide)
    obtain ⟨De, DW⟩ := Dm; subst DW
    rw [De] at e4
    obtain ⟨e6, ES, Do, EJ⟩ := hd 6 (by decide)
    obtain ⟨Dg, DY⟩ := Do; subst DY
    rw [Dg] at e6
    exact b_1 rfl (vv (b_3 rfl ab_7 t_7 (a_7 (b_5 e4 rfl)) (i := ((l.getD k (0, 0)).1).toNat) ((a_7 (b_5 e6 rfl)).trans (h_1 (by omega))) (c_8 (hS.ok 5 _ rfl)).macs (by decide) (by omega)) (And.intro rfl rfl))
   refine ⟨fun a w A hA hS hd => ?_, ?_⟩
   ·skip
    obtain ⟨e7, ET, Dp, EK⟩ := hd 7 (by decide)
    obtain ⟨Dh, DZ⟩ := Dp; subst DZ
    rw [Dh] at e7
    exact b_1 rfl (vv (e_7 rfl t_7 (a_7 (b_5 e7 rfl)) (c_8 (hS.ok 5 _ rfl)).macs (u_2 (by omega)) rfl (by decide)) (And.intro rfl rfl))
   refine ⟨fun a w A hA hS hd => ?_, ?_⟩
   ·skip
    exact b_1 rfl (valloc rfl ze_103 (cs := [(Value.int .i64 0), (Value.slice none 0 0)]) rfl (fun b_ => ⟨b_, rfl, rfl⟩))
   trivial
  intro BF Dr A rsf71 BP D Af; clear BO BZ
  obtain ⟨Cb, Cr⟩ := D 0 (by decide)
  obtain ⟨Cj, Bi⟩ := Cr
  obtain ⟨Cc, Cs⟩ := D 1 (by decide)
  obtain ⟨Ck, Bj⟩ := Cs
  obtain ⟨Cd, Ct⟩ := D 2 (by decide)
  obtain ⟨Cl, Bk⟩ := Ct
  obtain ⟨Ce, Cu⟩ := D 3 (by decide)
  obtain ⟨Cm, Bl⟩ := Cu
  obtain ⟨Cf, Cv⟩ := D 4 (by decide)
  obtain ⟨Cn, Bm⟩ := Cv
  obtain ⟨Cg, Cw⟩ := D 5 (by decide)
  obtain ⟨Co, Bn⟩ := Cw
  obtain ⟨Ch, Cx⟩ := D 6 (by decide)
  obtain ⟨Cp, Bo⟩ := Cx
  obtain ⟨Ci, Cy⟩ := D 7 (by decide)
  obtain ⟨Cq, Bp⟩ := Cy
  obtain ⟨Ah, Cz⟩ := D 8 (by decide)
  obtain ⟨Bs, Bq⟩ := Cz
  obtain ⟨Ai, C0⟩ := D 9 (by decide)
  obtain ⟨b9_, Bt, Br⟩ := C0
  have Ag : Sep NoB w Dr [(blk b9_ 103 [(Value.int .i64 0), (Value.slice none 0 0)]), (blk L 98 [(Value.int .i64 ((l.getD k (0, 0)).1)), (Value.int .i64 ((l.getD k (0, 0)).2))]), (blk C 120 (pairs (c_0 b l e_8 k))), (rob bx 146 [(Value.int .i64 b.scales), vt, vm, (Value.map (some bm))]), (mapX false bm es ck es.size 106 5 (bN b.tabs b.tabs.length) (bC lr lb b.tabs b.tabs.length)), (d_8 false vt lr lb b.tabs), (e_6 false vm lk b.macs), (sl xl 2 l.length (pairs l))] := by rw [show catR rsf71 0 10 = ([(blk b9_ 103 [(Value.int .i64 0), (Value.slice none 0 0)])] : List Res) by (try simp only [catR, Bi, Bj, Bk, Bl, Bm, Bn, Bo, Bp, Bq, Br]); (try rfl)] at Af; exact Af
  rw [Bs] at Ah
  have BQ : Fr 79 [] [(34, (Value.agg #[(Value.int .i64 ((b.macs.getD (((l.getD k (0, 0)).1).toNat) mac0).scale)), (lk (((l.getD k (0, 0)).1).toNat))])), (8, (bptr L 0)), (22, (Value.int .i64 (k : Int))), (21, (Value.int .i64 (l.length : Int))), (20, xl), (4, (bptr C 0)), (0, (bptr bx 0))] BF := BP.add (b_5 Ah rfl); clear BP
  rw [Bt] at Ai
  have AR : Fr 79 [] [(9, (bptr b9_ 0)), (34, (Value.agg #[(Value.int .i64 ((b.macs.getD (((l.getD k (0, 0)).1).toNat) mac0).scale)), (lk (((l.getD k (0, 0)).1).toNat))])), (8, (bptr L 0)), (22, (Value.int .i64 (k : Int))), (21, (Value.int .i64 (l.length : Int))), (20, xl), (4, (bptr C 0)), (0, (bptr bx 0))] BF := BQ.add (b_5 Ai rfl); clear BQ
  clear D Af Cb Cc Cd Ce Cf Cg Ch Ci Ah Ai
  clear Bi
  clear Cj
  clear Bj
  clear Ck
  clear Bk
  clear Cl
  clear Bl
  clear Cm
  clear Bm
  clear Cn
  clear Bn
  clear Co
  clear Bo
  clear Cp
  clear Bp
  clear Cq
  clear Bq
  clear Bs
  clear Br
  clear Bt
  refine s7 AR (c_2 Ag rfl t_7 (AR.ev rfl) (AR.ev rfl) (i := 0) rfl (vs := [(Value.int .i64 ((b.macs.getD (((l.getD k (0, 0)).1).toNat) mac0).scale)), (lk (((l.getD k (0, 0)).1).toNat))]) rfl rfl (i_3 rfl (i_3 (SlAt.one ((c_8 (Ag.ok 6 _ rfl)).blk (i := ((l.getD k (0, 0)).1).toNat) (by omega))) v_3)) (Nat.le_of_ble_eq_true rfl)) ?_
  intro _ Ds Ba Ad; clear AR
  have AU : Sep NoB w Ds [(blk b9_ 103 [(Value.int .i64 ((b.macs.getD (((l.getD k (0, 0)).1).toNat) mac0).scale)), (lk (((l.getD k (0, 0)).1).toNat))]), (blk L 98 [(Value.int .i64 ((l.getD k (0, 0)).1)), (Value.int .i64 ((l.getD k (0, 0)).2))]), (blk C 120 (pairs (c_0 b l e_8 k))), (rob bx 146 [(Value.int .i64 b.scales), vt, vm, (Value.map (some bm))]), (mapX false bm es ck es.size 106 5 (bN b.tabs b.tabs.length) (bC lr lb b.tabs b.tabs.length)), (d_8 false vt lr lb b.tabs), (e_6 false vm lk b.macs), (sl xl 2 l.length (pairs l))] := Ba; clear Ba Ag
  refine n4 ?_
  refine s1 Ad (c_5 rfl t_7 (Ad.ev rfl) (AU.bk 0 rfl) (l := [(Value.int .i64 ((b.macs.getD (((l.getD k (0, 0)).1).toNat) mac0).scale)), (lk (((l.getD k (0, 0)).1).toNat))]) rfl rfl) fun DH Ae => ?_; clear Ad BF
  refine s2 Ae (b_4 rfl en_67 (ev1 (Ae.ev rfl)) (bias_ok _ (b.macs.getD (((l.getD k (0, 0)).1).toNat) mac0) _ _ ((c_8 (AU.ok 6 _ rfl)).blk (i := ((l.getD k (0, 0)).1).toNat) (by omega)) (hl.macV hb (by omega)) (hth.kl _))) ?_
  rintro DI _ EY ⟨rfl, BV⟩ BR; have Bb := AU.step BV; clear BV Ae AU DH
  refine s2 BR (e_4 Bb rfl z_3 (cs := [(Value.int .i64 0), (Value.int .i64 0)]) rfl) ?_
  rintro EC _ EZ ⟨Aj, rfl, Bc⟩ AS; clear BR Bb DI
  refine s7 AS (c_2 Bc rfl g_7 (AS.ev rfl) (AS.ev rfl) (i := 0) rfl (vs := [(Value.int .i64 ((d_5 (b.macs.getD (((l.getD k (0, 0)).1).toNat) mac0)).1)), (Value.int .i64 ((d_5 (b.macs.getD (((l.getD k (0, 0)).1).toNat) mac0)).2))]) rfl rfl rfl (Nat.le_of_ble_eq_true rfl)) ?_
  intro _ Dt Bd BS; clear AS
  have Be : Sep NoB w Dt [(blk Aj 30 [(Value.int .i64 ((d_5 (b.macs.getD (((l.getD k (0, 0)).1).toNat) mac0)).1)), (Value.int .i64 ((d_5 (b.macs.getD (((l.getD k (0, 0)).1).toNat) mac0)).2))]), (blk b9_ 103 [(Value.int .i64 ((b.macs.getD (((l.getD k (0, 0)).1).toNat) mac0).scale)), (lk (((l.getD k (0, 0)).1).toNat))]), (blk L 98 [(Value.int .i64 ((l.getD k (0, 0)).1)), (Value.int .i64 ((l.getD k (0, 0)).2))]), (blk C 120 (pairs (c_0 b l e_8 k))), (rob bx 146 [(Value.int .i64 b.scales), vt, vm, (Value.map (some bm))]), (mapX false bm es ck es.size 106 5 (bN b.tabs b.tabs.length) (bC lr lb b.tabs b.tabs.length)), (d_8 false vt lr lb b.tabs), (e_6 false vm lk b.macs), (sl xl 2 l.length (pairs l))] := Bd; clear Bd Bc
  refine n2 ?_
  have BT := BS.as [(10, (bptr Aj 0)), (9, (bptr b9_ 0)), (8, (bptr L 0)), (22, (Value.int .i64 (k : Int))), (21, (Value.int .i64 (l.length : Int))), (20, xl), (4, (bptr C 0)), (0, (bptr bx 0))] rfl; clear BS
  refine g_3 mixed BT Be 18 [[], [0], [], [2], [3], [4], [], [6], [], [8], [7, 9], [], [11], [], [13], [12, 14], [10, 15], [5, 16]] [(Yd.val (bptr b9_ 0)), (Yd.val (Value.int .i64 ((b.macs.getD (((l.getD k (0, 0)).1).toNat) mac0).scale))), (Yd.val (bptr b9_ 0)), (Yd.val (Value.int .i64 ((b.macs.getD (((l.getD k (0, 0)).1).toNat) mac0).scale))), (Yd.val (bptr C (0 + ((b.macs.getD (((l.getD k (0, 0)).1).toNat) mac0).scale).toNat * 2))), (Yd.val (Value.agg #[(Value.int .i64 (((c_0 b l e_8 k).getD (((b.macs.getD (((l.getD k (0, 0)).1).toNat) mac0).scale).toNat) (0, 0)).1)), (Value.int .i64 (((c_0 b l e_8 k).getD (((b.macs.getD (((l.getD k (0, 0)).1).toNat) mac0).scale).toNat) (0, 0)).2))])), (Yd.val (bptr L 1)), (Yd.val (Value.int .i64 ((l.getD k (0, 0)).2))), (Yd.val (bptr Aj 1)), (Yd.val (Value.int .i64 ((d_5 (b.macs.getD (((l.getD k (0, 0)).1).toNat) mac0)).2))), (Yd.val (Value.int .i64 (((l.getD k (0, 0)).2) - ((d_5 (b.macs.getD (((l.getD k (0, 0)).1).toNat) mac0)).2)))), (Yd.val (bptr L 1)), (Yd.val (Value.int .i64 ((l.getD k (0, 0)).2))), (Yd.val (bptr Aj 0)), (Yd.val (Value.int .i64 ((d_5 (b.macs.getD (((l.getD k (0, 0)).1).toNat) mac0)).1))), (Yd.val (Value.int .i64 (((l.getD k (0, 0)).2) - ((d_5 (b.macs.getD (((l.getD k (0, 0)).1).toNat) mac0)).1)))), (Yd.val (Value.agg #[(Value.int .i64 (((l.getD k (0, 0)).2) - ((d_5 (b.macs.getD (((l.getD k (0, 0)).1).toNat) mac0)).2))), (Value.int .i64 (((l.getD k (0, 0)).2) - ((d_5 (b.macs.getD (((l.getD k (0, 0)).1).toNat) mac0)).1)))])), (Yd.val (Value.agg #[(Value.int .i64 ((cutR (((c_0 b l e_8 k).getD (((b.macs.getD (((l.getD k (0, 0)).1).toNat) mac0).scale).toNat) (0, 0)).1, ((c_0 b l e_8 k).getD (((b.macs.getD (((l.getD k (0, 0)).1).toNat) mac0).scale).toNat) (0, 0)).2) (((l.getD k (0, 0)).2) - ((d_5 (b.macs.getD (((l.getD k (0, 0)).1).toNat) mac0)).2), ((l.getD k (0, 0)).2) - ((d_5 (b.macs.getD (((l.getD k (0, 0)).1).toNat) mac0)).1))).1)), (Value.int .i64 ((cutR (((c_0 b l e_8 k).getD (((b.macs.getD (((l.getD k (0, 0)).1).toNat) mac0).scale).toNat) (0, 0)).1, ((c_0 b l e_8 k).getD (((b.macs.getD (((l.getD k (0, 0)).1).toNat) mac0).scale).toNat) (0, 0)).2) (((l.getD k (0, 0)).2) - ((d_5 (b.macs.getD (((l.getD k (0, 0)).1).toNat) mac0)).2), ((l.getD k (0, 0)).2) - ((d_5 (b.macs.getD (((l.getD k (0, 0)).1).toNat) mac0)).1))).2))]))] (by decide +kernel) rfl rfl ?_ ?_
  ·skip
   refine dq (fun a w hA hS hd => a_3 rfl fd_103_0 (hA.ev rfl)) ?_
   refine dq (fun a w hA hS hd => a_2 rfl ty_3 (hq hd 0) (hS.bk 1 rfl) rfl) ?_
   refine dq (fun a w hA hS hd => a_3 rfl fd_103_0 (hA.ev rfl)) ?_
   refine dq (fun a w hA hS hd => a_2 rfl ty_3 (hq hd 2) (hS.bk 1 rfl) rfl) ?_
   refine dq (fun a w hA hS hd => p_1 rfl y_5 g_7 (hA.ev rfl) (i := ((b.macs.getD (((l.getD k (0, 0)).1).toNat) mac0).scale).toNat) ((hq hd 3).trans (h_1 (by omega))) (by omega)) ?_
   refine dq (fun a w hA hS hd => c_5 rfl g_7 (hq hd 4) (hS.bk 3 rfl) (l := [(Value.int .i64 (((c_0 b l e_8 k).getD (((b.macs.getD (((l.getD k (0, 0)).1).toNat) mac0).scale).toNat) (0, 0)).1)), (Value.int .i64 (((c_0 b l e_8 k).getD (((b.macs.getD (((l.getD k (0, 0)).1).toNat) mac0).scale).toNat) (0, 0)).2))]) (s_7 (xs := (c_0 b l e_8 k)) (i := ((b.macs.getD (((l.getD k (0, 0)).1).toNat) mac0).scale).toNat) (by omega)) rfl) ?_
   refine dq (fun a w hA hS hd => a_3 rfl fd_98_1 (hA.ev rfl)) ?_
   refine dq (fun a w hA hS hd => a_2 rfl ty_3 (hq hd 6) (hS.bk 2 rfl) rfl) ?_
   refine dq (fun a w hA hS hd => a_3 rfl p_8 (hA.ev rfl)) ?_
   refine dq (fun a w hA hS hd => a_2 rfl ty_3 (hq hd 8) (hS.bk 0 rfl) rfl) ?_
   refine dq (fun a w hA hS hd => h_9 rfl (hq hd 7) (hq hd 9) (by omega) (by omega)) ?_
   refine dq (fun a w hA hS hd => a_3 rfl fd_98_1 (hA.ev rfl)) ?_
   refine dq (fun a w hA hS hd => a_2 rfl ty_3 (hq hd 11) (hS.bk 2 rfl) rfl) ?_
   refine dq (fun a w hA hS hd => a_3 rfl p_7 (hA.ev rfl)) ?_
   refine dq (fun a w hA hS hd => a_2 rfl ty_3 (hq hd 13) (hS.bk 0 rfl) rfl) ?_
   refine dq (fun a w hA hS hd => h_9 rfl (hq hd 12) (hq hd 14) (by omega) (by omega)) ?_
   refine dq (fun a w hA hS hd => e_5 rfl (pv2 (hq hd 10) (hq hd 15)) (l_7 _ _)) ?_
   refine ⟨fun a w hA hS hd => by have e5 := hx hd 5; have DM := hx hd 16; exact b_1 rfl (dx (b_4 rfl en_87 (ev2 (a_7 e5) (a_7 DM)) (cut_ok _ _ _ _ _)) hS (fun _ => rfl)), ?_⟩
   trivial
  intro DJ Ea BU Ax AT; clear BT Be
  have Al := BU.add (hz AT 1); clear BU
  have O := Al.add (hz AT 17); clear Al
  clear AT
  refine s1 O (p_1 rfl y_5 g_7 (O.ev rfl) (i := ((b.macs.getD (((l.getD k (0, 0)).1).toNat) mac0).scale).toNat) ((O.ev rfl).trans (h_1 (by omega))) (by omega)) fun B6 P => ?_; clear O DJ
  refine s7 P (c_2 Ax rfl g_7 (P.ev rfl) (P.ev rfl) (i := 3) rfl (vs := [(Value.int .i64 ((cutR (((c_0 b l e_8 k).getD (((b.macs.getD (((l.getD k (0, 0)).1).toNat) mac0).scale).toNat) (0, 0)).1, ((c_0 b l e_8 k).getD (((b.macs.getD (((l.getD k (0, 0)).1).toNat) mac0).scale).toNat) (0, 0)).2) (((l.getD k (0, 0)).2) - ((d_5 (b.macs.getD (((l.getD k (0, 0)).1).toNat) mac0)).2), ((l.getD k (0, 0)).2) - ((d_5 (b.macs.getD (((l.getD k (0, 0)).1).toNat) mac0)).1))).1)), (Value.int .i64 ((cutR (((c_0 b l e_8 k).getD (((b.macs.getD (((l.getD k (0, 0)).1).toNat) mac0).scale).toNat) (0, 0)).1, ((c_0 b l e_8 k).getD (((b.macs.getD (((l.getD k (0, 0)).1).toNat) mac0).scale).toNat) (0, 0)).2) (((l.getD k (0, 0)).2) - ((d_5 (b.macs.getD (((l.getD k (0, 0)).1).toNat) mac0)).2), ((l.getD k (0, 0)).2) - ((d_5 (b.macs.getD (((l.getD k (0, 0)).1).toNat) mac0)).1))).2))]) rfl rfl rfl (by simp only [b_2, List.length_set, List.length_cons, List.length_nil]; omega)) ?_
  intro _ D2 Ay e; have Z := Ay.o_1 (i := 3) rfl (cs' := (pairs ((c_0 b l e_8 k).set (((b.macs.getD (((l.getD k (0, 0)).1).toNat) mac0).scale).toNat) ((cutR (((c_0 b l e_8 k).getD (((b.macs.getD (((l.getD k (0, 0)).1).toNat) mac0).scale).toNat) (0, 0)).1, ((c_0 b l e_8 k).getD (((b.macs.getD (((l.getD k (0, 0)).1).toNat) mac0).scale).toNat) (0, 0)).2) (((l.getD k (0, 0)).2) - ((d_5 (b.macs.getD (((l.getD k (0, 0)).1).toNat) mac0)).2), ((l.getD k (0, 0)).2) - ((d_5 (b.macs.getD (((l.getD k (0, 0)).1).toNat) mac0)).1))).1, (cutR (((c_0 b l e_8 k).getD (((b.macs.getD (((l.getD k (0, 0)).1).toNat) mac0).scale).toNat) (0, 0)).1, ((c_0 b l e_8 k).getD (((b.macs.getD (((l.getD k (0, 0)).1).toNat) mac0).scale).toNat) (0, 0)).2) (((l.getD k (0, 0)).2) - ((d_5 (b.macs.getD (((l.getD k (0, 0)).1).toNat) mac0)).2), ((l.getD k (0, 0)).2) - ((d_5 (b.macs.getD (((l.getD k (0, 0)).1).toNat) mac0)).1))).2)))) (pairs_setZ _ _ _ _); clear Ay P Ax
  refine n4 ?_
  refine s1 e (a_3 rfl fd_103_0 (e.ev rfl)) fun B7 f => ?_; clear e B6
  refine s1 f (a_2 rfl ty_3 (f.ev rfl) (Z.bk 1 rfl) rfl) fun B8 Q => ?_; clear f B7
  refine s1 Q (p_1 rfl y_5 g_7 (Q.ev rfl) (i := ((b.macs.getD (((l.getD k (0, 0)).1).toNat) mac0).scale).toNat) ((Q.ev rfl).trans (h_1 (by omega))) (by omega)) fun B9 h => ?_; clear Q B8
  refine s1 h (c_5 rfl g_7 (h.ev rfl) (Z.bk 3 rfl) (l := [(Value.int .i64 ((((c_0 b l e_8 k).set (((b.macs.getD (((l.getD k (0, 0)).1).toNat) mac0).scale).toNat) ((cutR (((c_0 b l e_8 k).getD (((b.macs.getD (((l.getD k (0, 0)).1).toNat) mac0).scale).toNat) (0, 0)).1, ((c_0 b l e_8 k).getD (((b.macs.getD (((l.getD k (0, 0)).1).toNat) mac0).scale).toNat) (0, 0)).2) (((l.getD k (0, 0)).2) - ((d_5 (b.macs.getD (((l.getD k (0, 0)).1).toNat) mac0)).2), ((l.getD k (0, 0)).2) - ((d_5 (b.macs.getD (((l.getD k (0, 0)).1).toNat) mac0)).1))).1, (cutR (((c_0 b l e_8 k).getD (((b.macs.getD (((l.getD k (0, 0)).1).toNat) mac0).scale).toNat) (0, 0)).1, ((c_0 b l e_8 k).getD (((b.macs.getD (((l.getD k (0, 0)).1).toNat) mac0).scale).toNat) (0, 0)).2) (((l.getD k (0, 0)).2) - ((d_5 (b.macs.getD (((l.getD k (0, 0)).1).toNat) mac0)).2), ((l.getD k (0, 0)).2) - ((d_5 (b.macs.getD (((l.getD k (0, 0)).1).toNat) mac0)).1))).2)).getD (((b.macs.getD (((l.getD k (0, 0)).1).toNat) mac0).scale).toNat) (0, 0)).1)), (Value.int .i64 ((((c_0 b l e_8 k).set (((b.macs.getD (((l.getD k (0, 0)).1).toNat) mac0).scale).toNat) ((cutR (((c_0 b l e_8 k).getD (((b.macs.getD (((l.getD k (0, 0)).1).toNat) mac0).scale).toNat) (0, 0)).1, ((c_0 b l e_8 k).getD (((b.macs.getD (((l.getD k (0, 0)).1).toNat) mac0).scale).toNat) (0, 0)).2) (((l.getD k (0, 0)).2) - ((d_5 (b.macs.getD (((l.getD k (0, 0)).1).toNat) mac0)).2), ((l.getD k (0, 0)).2) - ((d_5 (b.macs.getD (((l.getD k (0, 0)).1).toNat) mac0)).1))).1, (cutR (((c_0 b l e_8 k).getD (((b.macs.getD (((l.getD k (0, 0)).1).toNat) mac0).scale).toNat) (0, 0)).1, ((c_0 b l e_8 k).getD (((b.macs.getD (((l.getD k (0, 0)).1).toNat) mac0).scale).toNat) (0, 0)).2) (((l.getD k (0, 0)).2) - ((d_5 (b.macs.getD (((l.getD k (0, 0)).1).toNat) mac0)).2), ((l.getD k (0, 0)).2) - ((d_5 (b.macs.getD (((l.getD k (0, 0)).1).toNat) mac0)).1))).2)).getD (((b.macs.getD (((l.getD k (0, 0)).1).toNat) mac0).scale).toNat) (0, 0)).2))]) (s_7 (xs := ((c_0 b l e_8 k).set (((b.macs.getD (((l.getD k (0, 0)).1).toNat) mac0).scale).toNat) ((cutR (((c_0 b l e_8 k).getD (((b.macs.getD (((l.getD k (0, 0)).1).toNat) mac0).scale).toNat) (0, 0)).1, ((c_0 b l e_8 k).getD (((b.macs.getD (((l.getD k (0, 0)).1).toNat) mac0).scale).toNat) (0, 0)).2) (((l.getD k (0, 0)).2) - ((d_5 (b.macs.getD (((l.getD k (0, 0)).1).toNat) mac0)).2), ((l.getD k (0, 0)).2) - ((d_5 (b.macs.getD (((l.getD k (0, 0)).1).toNat) mac0)).1))).1, (cutR (((c_0 b l e_8 k).getD (((b.macs.getD (((l.getD k (0, 0)).1).toNat) mac0).scale).toNat) (0, 0)).1, ((c_0 b l e_8 k).getD (((b.macs.getD (((l.getD k (0, 0)).1).toNat) mac0).scale).toNat) (0, 0)).2) (((l.getD k (0, 0)).2) - ((d_5 (b.macs.getD (((l.getD k (0, 0)).1).toNat) mac0)).2), ((l.getD k (0, 0)).2) - ((d_5 (b.macs.getD (((l.getD k (0, 0)).1).toNat) mac0)).1))).2))) (i := ((b.macs.getD (((l.getD k (0, 0)).1).toNat) mac0).scale).toNat) (by simp only [List.length_set]; omega)) rfl) fun CA j => ?_; clear h B9
  refine s2 j (b_4 rfl en_68 (ev1 (j.ev rfl)) (empty_ok _ _ _)) ?_
  rintro BC _ C1 ⟨rfl, Av⟩ E; have M := Z.step Av; clear Av j Z CA
  refine n1 ?_
  by_cases BA : ((((c_0 b l e_8 k).set (((b.macs.getD (((l.getD k (0, 0)).1).toNat) mac0).scale).toNat) ((cutR (((c_0 b l e_8 k).getD (((b.macs.getD (((l.getD k (0, 0)).1).toNat) mac0).scale).toNat) (0, 0)).1, ((c_0 b l e_8 k).getD (((b.macs.getD (((l.getD k (0, 0)).1).toNat) mac0).scale).toNat) (0, 0)).2) (((l.getD k (0, 0)).2) - ((d_5 (b.macs.getD (((l.getD k (0, 0)).1).toNat) mac0)).2), ((l.getD k (0, 0)).2) - ((d_5 (b.macs.getD (((l.getD k (0, 0)).1).toNat) mac0)).1))).1, (cutR (((c_0 b l e_8 k).getD (((b.macs.getD (((l.getD k (0, 0)).1).toNat) mac0).scale).toNat) (0, 0)).1, ((c_0 b l e_8 k).getD (((b.macs.getD (((l.getD k (0, 0)).1).toNat) mac0).scale).toNat) (0, 0)).2) (((l.getD k (0, 0)).2) - ((d_5 (b.macs.getD (((l.getD k (0, 0)).1).toNat) mac0)).2), ((l.getD k (0, 0)).2) - ((d_5 (b.macs.getD (((l.getD k (0, 0)).1).toNat) mac0)).1))).2)).getD (((b.macs.getD (((l.getD k (0, 0)).1).toNat) mac0).scale).toNat) (0, 0)).2) < ((((c_0 b l e_8 k).set (((b.macs.getD (((l.getD k (0, 0)).1).toNat) mac0).scale).toNat) ((cutR (((c_0 b l e_8 k).getD (((b.macs.getD (((l.getD k (0, 0)).1).toNat) mac0).scale).toNat) (0, 0)).1, ((c_0 b l e_8 k).getD (((b.macs.getD (((l.getD k (0, 0)).1).toNat) mac0).scale).toNat) (0, 0)).2) (((l.getD k (0, 0)).2) - ((d_5 (b.macs.getD (((l.getD k (0, 0)).1).toNat) mac0)).2), ((l.getD k (0, 0)).2) - ((d_5 (b.macs.getD (((l.getD k (0, 0)).1).toNat) mac0)).1))).1, (cutR (((c_0 b l e_8 k).getD (((b.macs.getD (((l.getD k (0, 0)).1).toNat) mac0).scale).toNat) (0, 0)).1, ((c_0 b l e_8 k).getD (((b.macs.getD (((l.getD k (0, 0)).1).toNat) mac0).scale).toNat) (0, 0)).2) (((l.getD k (0, 0)).2) - ((d_5 (b.macs.getD (((l.getD k (0, 0)).1).toNat) mac0)).2), ((l.getD k (0, 0)).2) - ((d_5 (b.macs.getD (((l.getD k (0, 0)).1).toNat) mac0)).1))).2)).getD (((b.macs.getD (((l.getD k (0, 0)).1).toNat) mac0).scale).toNat) (0, 0)).1)
  ·skip
   rw [decide_eq_true BA] at E
   refine c_3 E rfl ?_
   refine b_8 ?_
   have m := E.as [(4, (bptr C 0))] rfl; clear E
   refine a_5 ?_
   refine s1 m (c_5 rfl l_4 (m.ev rfl) (M.bk 3 rfl) (l := (pairs ((c_0 b l e_8 k).set (((b.macs.getD (((l.getD k (0, 0)).1).toNat) mac0).scale).toNat) ((cutR (((c_0 b l e_8 k).getD (((b.macs.getD (((l.getD k (0, 0)).1).toNat) mac0).scale).toNat) (0, 0)).1, ((c_0 b l e_8 k).getD (((b.macs.getD (((l.getD k (0, 0)).1).toNat) mac0).scale).toNat) (0, 0)).2) (((l.getD k (0, 0)).2) - ((d_5 (b.macs.getD (((l.getD k (0, 0)).1).toNat) mac0)).2), ((l.getD k (0, 0)).2) - ((d_5 (b.macs.getD (((l.getD k (0, 0)).1).toNat) mac0)).1))).1, (cutR (((c_0 b l e_8 k).getD (((b.macs.getD (((l.getD k (0, 0)).1).toNat) mac0).scale).toNat) (0, 0)).1, ((c_0 b l e_8 k).getD (((b.macs.getD (((l.getD k (0, 0)).1).toNat) mac0).scale).toNat) (0, 0)).2) (((l.getD k (0, 0)).2) - ((d_5 (b.macs.getD (((l.getD k (0, 0)).1).toNat) mac0)).2), ((l.getD k (0, 0)).2) - ((d_5 (b.macs.getD (((l.getD k (0, 0)).1).toNat) mac0)).1))).2)))) (g_4 _ _ (show (pairs ((c_0 b l e_8 k).set (((b.macs.getD (((l.getD k (0, 0)).1).toNat) mac0).scale).toNat) ((cutR (((c_0 b l e_8 k).getD (((b.macs.getD (((l.getD k (0, 0)).1).toNat) mac0).scale).toNat) (0, 0)).1, ((c_0 b l e_8 k).getD (((b.macs.getD (((l.getD k (0, 0)).1).toNat) mac0).scale).toNat) (0, 0)).2) (((l.getD k (0, 0)).2) - ((d_5 (b.macs.getD (((l.getD k (0, 0)).1).toNat) mac0)).2), ((l.getD k (0, 0)).2) - ((d_5 (b.macs.getD (((l.getD k (0, 0)).1).toNat) mac0)).1))).1, (cutR (((c_0 b l e_8 k).getD (((b.macs.getD (((l.getD k (0, 0)).1).toNat) mac0).scale).toNat) (0, 0)).1, ((c_0 b l e_8 k).getD (((b.macs.getD (((l.getD k (0, 0)).1).toNat) mac0).scale).toNat) (0, 0)).2) (((l.getD k (0, 0)).2) - ((d_5 (b.macs.getD (((l.getD k (0, 0)).1).toNat) mac0)).2), ((l.getD k (0, 0)).2) - ((d_5 (b.macs.getD (((l.getD k (0, 0)).1).toNat) mac0)).1))).2))).length = 8 from by simp only [b_2, List.length_set]; omega)) (show (pairs ((c_0 b l e_8 k).set (((b.macs.getD (((l.getD k (0, 0)).1).toNat) mac0).scale).toNat) ((cutR (((c_0 b l e_8 k).getD (((b.macs.getD (((l.getD k (0, 0)).1).toNat) mac0).scale).toNat) (0, 0)).1, ((c_0 b l e_8 k).getD (((b.macs.getD (((l.getD k (0, 0)).1).toNat) mac0).scale).toNat) (0, 0)).2) (((l.getD k (0, 0)).2) - ((d_5 (b.macs.getD (((l.getD k (0, 0)).1).toNat) mac0)).2), ((l.getD k (0, 0)).2) - ((d_5 (b.macs.getD (((l.getD k (0, 0)).1).toNat) mac0)).1))).1, (cutR (((c_0 b l e_8 k).getD (((b.macs.getD (((l.getD k (0, 0)).1).toNat) mac0).scale).toNat) (0, 0)).1, ((c_0 b l e_8 k).getD (((b.macs.getD (((l.getD k (0, 0)).1).toNat) mac0).scale).toNat) (0, 0)).2) (((l.getD k (0, 0)).2) - ((d_5 (b.macs.getD (((l.getD k (0, 0)).1).toNat) mac0)).2), ((l.getD k (0, 0)).2) - ((d_5 (b.macs.getD (((l.getD k (0, 0)).1).toNat) mac0)).1))).2))).length = 8 from by simp only [b_2, List.length_set]; omega)) fun CB R => ?_; clear m BC
   refine s7 R (c_2 M rfl l_4 (R.ev rfl) (R.ev rfl) (i := 3) rfl (vs := (pairs ((c_0 b l e_8 k).set (((b.macs.getD (((l.getD k (0, 0)).1).toNat) mac0).scale).toNat) ((cutR (((c_0 b l e_8 k).getD (((b.macs.getD (((l.getD k (0, 0)).1).toNat) mac0).scale).toNat) (0, 0)).1, ((c_0 b l e_8 k).getD (((b.macs.getD (((l.getD k (0, 0)).1).toNat) mac0).scale).toNat) (0, 0)).2) (((l.getD k (0, 0)).2) - ((d_5 (b.macs.getD (((l.getD k (0, 0)).1).toNat) mac0)).2), ((l.getD k (0, 0)).2) - ((d_5 (b.macs.getD (((l.getD k (0, 0)).1).toNat) mac0)).1))).1, (cutR (((c_0 b l e_8 k).getD (((b.macs.getD (((l.getD k (0, 0)).1).toNat) mac0).scale).toNat) (0, 0)).1, ((c_0 b l e_8 k).getD (((b.macs.getD (((l.getD k (0, 0)).1).toNat) mac0).scale).toNat) (0, 0)).2) (((l.getD k (0, 0)).2) - ((d_5 (b.macs.getD (((l.getD k (0, 0)).1).toNat) mac0)).2), ((l.getD k (0, 0)).2) - ((d_5 (b.macs.getD (((l.getD k (0, 0)).1).toNat) mac0)).1))).2)))) rfl (show (pairs ((c_0 b l e_8 k).set (((b.macs.getD (((l.getD k (0, 0)).1).toNat) mac0).scale).toNat) ((cutR (((c_0 b l e_8 k).getD (((b.macs.getD (((l.getD k (0, 0)).1).toNat) mac0).scale).toNat) (0, 0)).1, ((c_0 b l e_8 k).getD (((b.macs.getD (((l.getD k (0, 0)).1).toNat) mac0).scale).toNat) (0, 0)).2) (((l.getD k (0, 0)).2) - ((d_5 (b.macs.getD (((l.getD k (0, 0)).1).toNat) mac0)).2), ((l.getD k (0, 0)).2) - ((d_5 (b.macs.getD (((l.getD k (0, 0)).1).toNat) mac0)).1))).1, (cutR (((c_0 b l e_8 k).getD (((b.macs.getD (((l.getD k (0, 0)).1).toNat) mac0).scale).toNat) (0, 0)).1, ((c_0 b l e_8 k).getD (((b.macs.getD (((l.getD k (0, 0)).1).toNat) mac0).scale).toNat) (0, 0)).2) (((l.getD k (0, 0)).2) - ((d_5 (b.macs.getD (((l.getD k (0, 0)).1).toNat) mac0)).2), ((l.getD k (0, 0)).2) - ((d_5 (b.macs.getD (((l.getD k (0, 0)).1).toNat) mac0)).1))).2))).length = 8 from by simp only [b_2, List.length_set]; omega) (m_2 _) (by simp only [b_2, List.length_set, List.length_cons, List.length_nil]; omega)) ?_
   intro _ D3 Az Am; have A0 := Az.o_1 (i := 3) rfl (cs' := (pairs ((c_0 b l e_8 k).set (((b.macs.getD (((l.getD k (0, 0)).1).toNat) mac0).scale).toNat) ((cutR (((c_0 b l e_8 k).getD (((b.macs.getD (((l.getD k (0, 0)).1).toNat) mac0).scale).toNat) (0, 0)).1, ((c_0 b l e_8 k).getD (((b.macs.getD (((l.getD k (0, 0)).1).toNat) mac0).scale).toNat) (0, 0)).2) (((l.getD k (0, 0)).2) - ((d_5 (b.macs.getD (((l.getD k (0, 0)).1).toNat) mac0)).2), ((l.getD k (0, 0)).2) - ((d_5 (b.macs.getD (((l.getD k (0, 0)).1).toNat) mac0)).1))).1, (cutR (((c_0 b l e_8 k).getD (((b.macs.getD (((l.getD k (0, 0)).1).toNat) mac0).scale).toNat) (0, 0)).1, ((c_0 b l e_8 k).getD (((b.macs.getD (((l.getD k (0, 0)).1).toNat) mac0).scale).toNat) (0, 0)).2) (((l.getD k (0, 0)).2) - ((d_5 (b.macs.getD (((l.getD k (0, 0)).1).toNat) mac0)).2), ((l.getD k (0, 0)).2) - ((d_5 (b.macs.getD (((l.getD k (0, 0)).1).toNat) mac0)).1))).2)))) (k_1 _ _ (by first | (simp only [b_2, List.length_set, List.length_cons, List.length_nil]; done) | (simp only [b_2, List.length_set, List.length_cons, List.length_nil]; omega))); clear Az R M
   refine s1 Am (a_0 rfl (evc _ _)) fun Dv An => ?_; clear Am CB
   refine n1 ?_
   refine c_9 ?_
   refine c_6 ?_
   refine a_6 ?_
   refine a_6 ?_
   refine c_6 ?_
   refine a_6 ?_
   refine a_9 An (.inl rfl) (d_2 An rfl (.cellA rfl l_4 (A0.bk 3 rfl) (l := (pairs ((c_0 b l e_8 k).set (((b.macs.getD (((l.getD k (0, 0)).1).toNat) mac0).scale).toNat) ((cutR (((c_0 b l e_8 k).getD (((b.macs.getD (((l.getD k (0, 0)).1).toNat) mac0).scale).toNat) (0, 0)).1, ((c_0 b l e_8 k).getD (((b.macs.getD (((l.getD k (0, 0)).1).toNat) mac0).scale).toNat) (0, 0)).2) (((l.getD k (0, 0)).2) - ((d_5 (b.macs.getD (((l.getD k (0, 0)).1).toNat) mac0)).2), ((l.getD k (0, 0)).2) - ((d_5 (b.macs.getD (((l.getD k (0, 0)).1).toNat) mac0)).1))).1, (cutR (((c_0 b l e_8 k).getD (((b.macs.getD (((l.getD k (0, 0)).1).toNat) mac0).scale).toNat) (0, 0)).1, ((c_0 b l e_8 k).getD (((b.macs.getD (((l.getD k (0, 0)).1).toNat) mac0).scale).toNat) (0, 0)).2) (((l.getD k (0, 0)).2) - ((d_5 (b.macs.getD (((l.getD k (0, 0)).1).toNat) mac0)).2), ((l.getD k (0, 0)).2) - ((d_5 (b.macs.getD (((l.getD k (0, 0)).1).toNat) mac0)).1))).2)))) (g_4 _ _ (show (pairs ((c_0 b l e_8 k).set (((b.macs.getD (((l.getD k (0, 0)).1).toNat) mac0).scale).toNat) ((cutR (((c_0 b l e_8 k).getD (((b.macs.getD (((l.getD k (0, 0)).1).toNat) mac0).scale).toNat) (0, 0)).1, ((c_0 b l e_8 k).getD (((b.macs.getD (((l.getD k (0, 0)).1).toNat) mac0).scale).toNat) (0, 0)).2) (((l.getD k (0, 0)).2) - ((d_5 (b.macs.getD (((l.getD k (0, 0)).1).toNat) mac0)).2), ((l.getD k (0, 0)).2) - ((d_5 (b.macs.getD (((l.getD k (0, 0)).1).toNat) mac0)).1))).1, (cutR (((c_0 b l e_8 k).getD (((b.macs.getD (((l.getD k (0, 0)).1).toNat) mac0).scale).toNat) (0, 0)).1, ((c_0 b l e_8 k).getD (((b.macs.getD (((l.getD k (0, 0)).1).toNat) mac0).scale).toNat) (0, 0)).2) (((l.getD k (0, 0)).2) - ((d_5 (b.macs.getD (((l.getD k (0, 0)).1).toNat) mac0)).2), ((l.getD k (0, 0)).2) - ((d_5 (b.macs.getD (((l.getD k (0, 0)).1).toNat) mac0)).1))).2))).length = 8 from by simp only [b_2, List.length_set]; omega)) (show (pairs ((c_0 b l e_8 k).set (((b.macs.getD (((l.getD k (0, 0)).1).toNat) mac0).scale).toNat) ((cutR (((c_0 b l e_8 k).getD (((b.macs.getD (((l.getD k (0, 0)).1).toNat) mac0).scale).toNat) (0, 0)).1, ((c_0 b l e_8 k).getD (((b.macs.getD (((l.getD k (0, 0)).1).toNat) mac0).scale).toNat) (0, 0)).2) (((l.getD k (0, 0)).2) - ((d_5 (b.macs.getD (((l.getD k (0, 0)).1).toNat) mac0)).2), ((l.getD k (0, 0)).2) - ((d_5 (b.macs.getD (((l.getD k (0, 0)).1).toNat) mac0)).1))).1, (cutR (((c_0 b l e_8 k).getD (((b.macs.getD (((l.getD k (0, 0)).1).toNat) mac0).scale).toNat) (0, 0)).1, ((c_0 b l e_8 k).getD (((b.macs.getD (((l.getD k (0, 0)).1).toNat) mac0).scale).toNat) (0, 0)).2) (((l.getD k (0, 0)).2) - ((d_5 (b.macs.getD (((l.getD k (0, 0)).1).toNat) mac0)).2), ((l.getD k (0, 0)).2) - ((d_5 (b.macs.getD (((l.getD k (0, 0)).1).toNat) mac0)).1))).2))).length = 8 from by simp only [b_2, List.length_set]; omega)) (.tmp rfl)) ?_
   have hz := start_empty hb hl (k := k) (by omega) (by assumption)
   exact ⟨_, hsl1, by rw [hz]; rfl, fun t h_ => by rw [hz] at h_; (cases h_), A0.ext⟩
  skip
  rw [decide_eq_false BA] at E
  refine b_7 E rfl ?_
  refine d_0 ?_
  refine h_0 ?_
  refine b_0 ?_
  have n := E.as [(22, (Value.int .i64 (k : Int))), (21, (Value.int .i64 (l.length : Int))), (20, xl), (4, (bptr C 0)), (0, (bptr bx 0))] rfl; clear E
  refine a_5 ?_
  refine s1 n (f_4 rfl (n.ev rfl) (evc _ _) (by omega) (by omega)) fun CC o => ?_; clear n BC
  refine s1 o (a_1 rfl (o.ev rfl)) fun Dw Bv => ?_; clear o CC
  refine e_9 ?_
  have Bx : Sep NoB w C1 [(blk C 120 (pairs ((c_0 b l e_8 k).set (((b.macs.getD (((l.getD k (0, 0)).1).toNat) mac0).scale).toNat) ((cutR (((c_0 b l e_8 k).getD (((b.macs.getD (((l.getD k (0, 0)).1).toNat) mac0).scale).toNat) (0, 0)).1, ((c_0 b l e_8 k).getD (((b.macs.getD (((l.getD k (0, 0)).1).toNat) mac0).scale).toNat) (0, 0)).2) (((l.getD k (0, 0)).2) - ((d_5 (b.macs.getD (((l.getD k (0, 0)).1).toNat) mac0)).2), ((l.getD k (0, 0)).2) - ((d_5 (b.macs.getD (((l.getD k (0, 0)).1).toNat) mac0)).1))).1, (cutR (((c_0 b l e_8 k).getD (((b.macs.getD (((l.getD k (0, 0)).1).toNat) mac0).scale).toNat) (0, 0)).1, ((c_0 b l e_8 k).getD (((b.macs.getD (((l.getD k (0, 0)).1).toNat) mac0).scale).toNat) (0, 0)).2) (((l.getD k (0, 0)).2) - ((d_5 (b.macs.getD (((l.getD k (0, 0)).1).toNat) mac0)).2), ((l.getD k (0, 0)).2) - ((d_5 (b.macs.getD (((l.getD k (0, 0)).1).toNat) mac0)).1))).2)))), (rob bx 146 [(Value.int .i64 b.scales), vt, vm, (Value.map (some bm))]), (mapX false bm es ck es.size 106 5 (bN b.tabs b.tabs.length) (bC lr lb b.tabs b.tabs.length)), (d_8 false vt lr lb b.tabs), (e_6 false vm lk b.macs), (sl xl 2 l.length (pairs l))] := M.keep [3, 4, 5, 6, 7, 8] (by decide) _ rfl rfl; clear M
  exact b_0 ⟨k + 1, ⟨Bv.as _ rfl, Bx, by omega, (start_next hb hl (by omega) hfu (by assumption))⟩, by omega⟩
 skip
 rw [decide_eq_false Bg] at I
 refine b_7 I rfl ?_
 refine g_8 ?_
 refine b_6 ?_
 refine b_6 ?_
 refine f_5 ?_
 refine b_0 ?_
 refine c_7 ?_
 have Ao := I.as [(4, (bptr C 0)), (0, (bptr bx 0))] rfl; clear I
 refine h_3 (G := Nat) (fun (g : Nat) a_ w_ => ∃ x_ : List (Int × Int), Fr 79 [] [(4, (bptr C 0)), (0, (bptr bx 0))] a_ ∧ Sep NoB w w_ [(blk C 120 (pairs x_)), (rob bx 146 [(Value.int .i64 b.scales), vt, vm, (Value.map (some bm))]), (mapX false bm es ck es.size 106 5 (bN b.tabs b.tabs.length) (bC lr lb b.tabs b.tabs.length)), (d_8 false vt lr lb b.tabs), (e_6 false vm lk b.macs), (sl xl 2 l.length (pairs l))] ∧ (Go.Hard.Loop b.scales.toNat b.tabs (s_1 b l) x_) ∧ (k_8 b l = r_3 b.scales.toNat (g_2 b.scales.toNat b.tabs) g x_) ∧ (width x_ < g)) (fun g => g) 400001 ⟨(c_0 b l e_8 k), Ao.as _ rfl, N, (by have hkl : k = l.length := (by omega); subst hkl; exact loop_start hb hl hfu), (by have hkl : k = l.length := (by omega); subst hkl; exact spans_go hfu), (by have hkl : k = l.length := (by omega); subst hkl; exact Nat.lt_succ_of_le (start_width hb hl))⟩ ?_
 clear Ao N B0
 rintro g CD D4 ⟨x_, q, K, hlp, hsp, hwd⟩
 have EL : x_.length = 4 := hlp.len; have Bh : (h_4 (g_2 b.scales.toNat b.tabs) x_).1.length = 4 := (hlp.pass hb.four hb.orderV).1
 refine c_7 ?_
 refine m2 ?_
 refine s1 q (a_1 rfl (q.ev rfl)) fun CE r => ?_; clear q CD
 refine s1 r (c_5 rfl l_4 (r.ev rfl) (K.bk 0 rfl) (l := (pairs x_)) (g_4 _ _ (show (pairs x_).length = 8 from by simp only [b_2, List.length_set]; omega)) (show (pairs x_).length = 8 from by simp only [b_2, List.length_set]; omega)) fun CF S => ?_; clear r CE
 refine s2 S (b_4 rfl en_88 (ev2 (S.ev rfl) (S.ev rfl)) (cutb_ok b vt vm lr lb lk _ (c_1 (K.ok 3 _ rfl)) (c_8 (K.ok 4 _ rfl)) hth bx bm _ _ hMO (K.rk 1 rfl) (K.ok 2 _ rfl) hb x_ (by omega))) ?_
 rintro CG _ D5 ⟨rfl, Aw⟩ s; have A1 := K.step Aw; clear Aw S K CF
 refine s1 s (a_1 rfl (s.ev rfl)) fun CH u => ?_; clear s CG
 refine s1 u (d_9 rfl (u.ev rfl) rfl) fun CI y => ?_; clear u CH
 refine s1 y (d_9 rfl (y.ev rfl) rfl) fun CJ Ap => ?_; clear y CI
 refine s2 Ap (e_4 A1 rfl ze_120 (cs := [(Value.int .i64 0), (Value.int .i64 0), (Value.int .i64 0), (Value.int .i64 0), (Value.int .i64 0), (Value.int .i64 0), (Value.int .i64 0), (Value.int .i64 0)]) rfl) ?_
 rintro CK _ D6 ⟨d, rfl, A2⟩ T; clear Ap A1 CJ
 refine s7 T (c_2 A2 rfl l_4 (T.ev rfl) (T.ev rfl) (i := 0) rfl (vs := (pairs ((h_4 (g_2 b.scales.toNat b.tabs) x_).1))) rfl (show (pairs ((h_4 (g_2 b.scales.toNat b.tabs) x_).1)).length = 8 from by simp only [b_2, List.length_set]; omega) (m_2 _) (by decide)) ?_
 intro _ D7 A3 z; have B := A3.o_1 (i := 0) rfl (cs' := (pairs ((h_4 (g_2 b.scales.toNat b.tabs) x_).1))) (k_1 _ _ (Eq.symm (show (pairs ((h_4 (g_2 b.scales.toNat b.tabs) x_).1)).length = 8 from by simp only [b_2, List.length_set]; omega))); clear A3 T A2
 refine s1 z (a_0 rfl (z.ev rfl)) fun CL Aq => ?_; clear z CK
 refine n2 ?_
 refine b_8 ?_
 have AA := Aq.as [(12, (Value.bool (ab_4 b.scales.toNat (h_4 (g_2 b.scales.toNat b.tabs) x_).1))), (11, (bptr d 0)), (4, (bptr C 0)), (0, (bptr bx 0))] rfl; clear Aq
 refine a_5 ?_
 refine s1 AA (a_1 rfl (AA.ev rfl)) fun CM AB => ?_; clear AA CL
 refine s1 AB (f_6 rfl (AB.ev rfl)) fun CN AC => ?_; clear AB CM
 refine s1 AC (a_1 rfl (AC.ev rfl)) fun BD J => ?_; clear AC CN
 rcases Bool.eq_false_or_eq_true ((ab_4 b.scales.toNat (h_4 (g_2 b.scales.toNat b.tabs) x_).1)) with AV | AV
 ·skip
  rw [AV] at J
  refine s5 J (c_5 rfl l_4 (J.ev rfl) (B.bk 0 rfl) (l := (pairs ((h_4 (g_2 b.scales.toNat b.tabs) x_).1))) (g_4 _ _ (show (pairs ((h_4 (g_2 b.scales.toNat b.tabs) x_).1)).length = 8 from by simp only [b_2, List.length_set]; omega)) (show (pairs ((h_4 (g_2 b.scales.toNat b.tabs) x_).1)).length = 8 from by simp only [b_2, List.length_set]; omega)) fun CO AD => ?_; clear J BD
  refine s5 AD (c_5 rfl l_4 (AD.ev rfl) (B.bk 1 rfl) (l := (pairs x_)) (g_4 _ _ (show (pairs x_).length = 8 from by simp only [b_2, List.length_set]; omega)) (show (pairs x_).length = 8 from by simp only [b_2, List.length_set]; omega)) fun CP U => ?_; clear AD CO
  refine s5 U (op_eqlAP ar_120 tw_30 g_7 gt_120 rfl (U.ev rfl) (U.ev rfl) (by omega) (by omega)) fun CQ V => ?_; clear U CP
  refine s1 V (d_3 rfl (V.ev rfl) (V.ev rfl)) fun BE F => ?_; clear V CQ
  refine n1 ?_
  by_cases BB : (h_4 (g_2 b.scales.toNat b.tabs) x_).1 = x_
  ·skip
   rw [decide_eq_true BB] at F
   refine c_3 F rfl ?_
   refine b_8 ?_
   have AE := F.as [(12, (Value.bool true)), (11, (bptr d 0)), (4, (bptr C 0))] rfl; clear F
   refine a_5 ?_
   refine s1 AE (c_5 rfl l_4 (AE.ev rfl) (B.bk 0 rfl) (l := (pairs ((h_4 (g_2 b.scales.toNat b.tabs) x_).1))) (g_4 _ _ (show (pairs ((h_4 (g_2 b.scales.toNat b.tabs) x_).1)).length = 8 from by simp only [b_2, List.length_set]; omega)) (show (pairs ((h_4 (g_2 b.scales.toNat b.tabs) x_).1)).length = 8 from by simp only [b_2, List.length_set]; omega)) fun CR AF => ?_; clear AE BE
   refine s1 AF (a_1 rfl (AF.ev rfl)) fun CS W => ?_; clear AF CR
   refine s7 W (c_2 B rfl l_4 (W.ev rfl) (W.ev rfl) (i := 1) rfl (vs := (pairs ((h_4 (g_2 b.scales.toNat b.tabs) x_).1))) rfl (show (pairs ((h_4 (g_2 b.scales.toNat b.tabs) x_).1)).length = 8 from by simp only [b_2, List.length_set]; omega) (m_2 _) (by simp only [b_2, List.length_set, List.length_cons, List.length_nil]; omega)) ?_
   intro _ D8 A4 AG; have A5 := A4.o_1 (i := 1) rfl (cs' := (pairs ((h_4 (g_2 b.scales.toNat b.tabs) x_).1))) (k_1 _ _ (by first | (simp only [b_2, List.length_set, List.length_cons, List.length_nil]; done) | (simp only [b_2, List.length_set, List.length_cons, List.length_nil]; omega))); clear A4 W B
   refine s1 AG (a_0 rfl (AG.ev rfl)) fun Dx Ar => ?_; clear AG CS
   refine n1 ?_
   refine c_9 ?_
   refine a_6 ?_
   refine c_6 ?_
   refine a_6 ?_
   refine c_6 ?_
   refine a_9 Ar (.inl rfl) (d_2 Ar rfl (.cellA rfl l_4 (A5.bk 1 rfl) (l := (pairs ((h_4 (g_2 b.scales.toNat b.tabs) x_).1))) (g_4 _ _ (show (pairs ((h_4 (g_2 b.scales.toNat b.tabs) x_).1)).length = 8 from by simp only [b_2, List.length_set]; omega)) (show (pairs ((h_4 (g_2 b.scales.toNat b.tabs) x_).1)).length = 8 from by simp only [b_2, List.length_set]; omega)) (.tmp rfl)) ?_
   have hz := hsp.trans (k_done (by omega) (by assumption) (by assumption))
   exact ⟨_, Bh, by rw [hz]; rfl, fun t h_ => by rw [hz] at h_; rw [← Option.some.inj h_]; congr 1, A5.ext⟩
  skip
  rw [decide_eq_false BB] at F
  refine b_7 F rfl ?_
  refine d_0 ?_
  refine b_0 ?_
  have AH := F.as [(11, (bptr d 0)), (4, (bptr C 0)), (0, (bptr bx 0))] rfl; clear F
  refine a_5 ?_
  refine s1 AH (c_5 rfl l_4 (AH.ev rfl) (B.bk 0 rfl) (l := (pairs ((h_4 (g_2 b.scales.toNat b.tabs) x_).1))) (g_4 _ _ (show (pairs ((h_4 (g_2 b.scales.toNat b.tabs) x_).1)).length = 8 from by simp only [b_2, List.length_set]; omega)) (show (pairs ((h_4 (g_2 b.scales.toNat b.tabs) x_).1)).length = 8 from by simp only [b_2, List.length_set]; omega)) fun Dy X => ?_; clear AH BE
  refine s7 X (c_2 B rfl l_4 (X.ev rfl) (X.ev rfl) (i := 1) rfl (vs := (pairs ((h_4 (g_2 b.scales.toNat b.tabs) x_).1))) rfl (show (pairs ((h_4 (g_2 b.scales.toNat b.tabs) x_).1)).length = 8 from by simp only [b_2, List.length_set]; omega) (m_2 _) (by simp only [b_2, List.length_set, List.length_cons, List.length_nil]; omega)) ?_
  intro _ C2 A6 Bw; have A7 := A6.o_1 (i := 1) rfl (cs' := (pairs ((h_4 (g_2 b.scales.toNat b.tabs) x_).1))) (k_1 _ _ (by first | (simp only [b_2, List.length_set, List.length_cons, List.length_nil]; done) | (simp only [b_2, List.length_set, List.length_cons, List.length_nil]; omega))); clear A6 X B
  refine e_9 ?_
  refine h_0 ?_
  have By : Sep NoB w C2 [(blk C 120 (pairs ((h_4 (g_2 b.scales.toNat b.tabs) x_).1))), (rob bx 146 [(Value.int .i64 b.scales), vt, vm, (Value.map (some bm))]), (mapX false bm es ck es.size 106 5 (bN b.tabs b.tabs.length) (bC lr lb b.tabs b.tabs.length)), (d_8 false vt lr lb b.tabs), (e_6 false vm lk b.macs), (sl xl 2 l.length (pairs l))] := A7.keep [1, 2, 3, 4, 5, 6] (by decide) _ rfl rfl; clear A7
  exact b_0 ⟨(g - 1), ⟨(h_4 (g_2 b.scales.toNat b.tabs) x_).1, Bw.as _ rfl, By, (hlp.next hb.four hb.orderV (o_8.1 (by assumption)) (by assumption)).1, (hsp.trans (k_next (by omega) (by assumption) (by assumption))), (by have := (hlp.next hb.four hb.orderV (o_8.1 (by assumption)) (by assumption)).2; omega)⟩, by omega⟩
 skip
 rw [AV] at J
 refine s3 J fun CT As => ?_; clear J BD
 refine s3 As fun CU At => ?_; clear As CT
 refine s3 At fun CV AI => ?_; clear At CU
 refine s1 AI (b_9 rfl (AI.ev rfl) (evc _ _)) fun CW AJ => ?_; clear AI CV
 refine n1 ?_
 refine c_3 AJ rfl ?_
 refine b_8 ?_
 have AK := AJ.as [(12, (Value.bool false)), (11, (bptr d 0)), (4, (bptr C 0))] rfl; clear AJ
 refine a_5 ?_
 refine s1 AK (c_5 rfl l_4 (AK.ev rfl) (B.bk 0 rfl) (l := (pairs ((h_4 (g_2 b.scales.toNat b.tabs) x_).1))) (g_4 _ _ (show (pairs ((h_4 (g_2 b.scales.toNat b.tabs) x_).1)).length = 8 from by simp only [b_2, List.length_set]; omega)) (show (pairs ((h_4 (g_2 b.scales.toNat b.tabs) x_).1)).length = 8 from by simp only [b_2, List.length_set]; omega)) fun CX AL => ?_; clear AK CW
 refine s1 AL (a_1 rfl (AL.ev rfl)) fun CY Y => ?_; clear AL CX
 refine s7 Y (c_2 B rfl l_4 (Y.ev rfl) (Y.ev rfl) (i := 1) rfl (vs := (pairs ((h_4 (g_2 b.scales.toNat b.tabs) x_).1))) rfl (show (pairs ((h_4 (g_2 b.scales.toNat b.tabs) x_).1)).length = 8 from by simp only [b_2, List.length_set]; omega) (m_2 _) (by simp only [b_2, List.length_set, List.length_cons, List.length_nil]; omega)) ?_
 intro _ D9 A8 AM; have A9 := A8.o_1 (i := 1) rfl (cs' := (pairs ((h_4 (g_2 b.scales.toNat b.tabs) x_).1))) (k_1 _ _ (by first | (simp only [b_2, List.length_set, List.length_cons, List.length_nil]; done) | (simp only [b_2, List.length_set, List.length_cons, List.length_nil]; omega))); clear A8 Y B
 refine s1 AM (a_0 rfl (AM.ev rfl)) fun Dz Au => ?_; clear AM CY
 refine n1 ?_
 refine c_9 ?_
 refine a_6 ?_
 refine c_6 ?_
 refine a_6 ?_
 refine c_6 ?_
 refine a_9 Au (.inl rfl) (d_2 Au rfl (.cellA rfl l_4 (A9.bk 1 rfl) (l := (pairs ((h_4 (g_2 b.scales.toNat b.tabs) x_).1))) (g_4 _ _ (show (pairs ((h_4 (g_2 b.scales.toNat b.tabs) x_).1)).length = 8 from by simp only [b_2, List.length_set]; omega)) (show (pairs ((h_4 (g_2 b.scales.toNat b.tabs) x_).1)).length = 8 from by simp only [b_2, List.length_set]; omega)) (.tmp rfl)) ?_
 have hz := hsp.trans (k_fail (by assumption))
 exact ⟨_, Bh, by rw [hz]; rfl, fun t h_ => by rw [hz] at h_; (cases h_), A9.ext⟩
end Go.Proofs.Ytohgladndklciaa

namespace Go.Proofs.Ytohgladndklciaa
open Go.RowKit Go.Shelf Go.Eng Go.Hard
theorem bs_30_0_  : Instr.fill (fun i => some (i * 2, 2)) ((Array.range (0 * 2)).map ((Value.agg #[(Value.int .i64 0), (Value.int .i64 0)]).cells[· % (Value.agg #[(Value.int .i64 0), (Value.int .i64 0)]).cells.size]!)) [] = some (([] : List Value).toArray) := by kernel_rfl
theorem el_30 : elK Try.prog 30 = some ((Value.agg #[(Value.int .i64 0), (Value.int .i64 0)]), 2, 16) := by kernel_rfl
theorem el_98 : elK Try.prog 98 = some ((Value.agg #[(Value.int .i64 0), (Value.int .i64 0)]), 2, 16) := by kernel_rfl
theorem clone_rng (xs : List (Int × Int)) (v : Value) (w : World) (hv : SlAt w v 2 xs.length (pairs xs)) (hlen : xs.length ≤ 1000000) :
  Calls Try.prog 58 #[v] w (Ret fun v w' => Ext NoB w w' ∧ w'.ownsRow w.heap.size 30 2 v xs.length (pairs xs)) := by
 refine a_8 Try.func58 rfl fun P F => ?_
 replace F : Fr 8 [] [(0, v)] P := F
 have G : Sep NoB w w [(sl v 2 xs.length (pairs xs))] := f_1 ⟨rfl, hv, trivial⟩
 refine m2 ?_
 refine s1 F (a_0 rfl (evc _ _)) fun V I => ?_; clear F P
 refine n2 ?_
 refine m2 ?_
 refine s1 I (a_1 rfl (I.ev rfl)) fun W K => ?_; clear I V
 refine s2 K (op_eqlNil aa_9 rfl (K.ev rfl) (evc _ _) (G.sk 0 rfl) (by decide)) ?_
 rintro T _ _ ⟨bn7, rfl, rfl, U⟩ A; clear K W
 refine n1 ?_
 rcases Bool.eq_false_or_eq_true (bn7) with O | O
 ·skip
  rw [O] at A
  refine c_3 A rfl ?_
  refine m2 ?_
  refine s1 A (a_0 rfl (evc _ _)) fun X H => ?_; clear A T
  refine n1 ?_
  refine c_9 ?_
  refine a_6 ?_
  refine a_9 H (.inl rfl) (a_4 H rfl (.tmp rfl)) ?_
  exact ⟨G.ext, by have hz := (U (by assumption)); rw [hz.1, hz.2]; exact ⟨by simp, .inl ⟨rfl, rfl⟩⟩⟩
 skip
 rw [O] at A
 refine b_7 A rfl ?_
 refine d_0 ?_
 refine b_0 ?_
 refine m2 ?_
 refine s2 A (h_8 G rfl pv0 aa_9 g_7 z_3 (by decide) (cs := []) bs_30_0_) ?_
 rintro Q _ b ⟨Z, rfl, L⟩ C; clear A G T
 refine s1 C (a_1 rfl (C.ev rfl)) fun R B => ?_; clear C Q
 have E := L.w_5 (i := 0) (sz := 2) (n := 0) rfl rfl (by decide); clear L
 refine s2 B (p_0 E rfl aa_9 el_30 (B.ev rfl) (B.ev rfl) (i := 0) rfl (E.sk 1 rfl) (m_2 _) (by simp [maxLen]; omega) (by omega)) ?_
 intro S a c M D
 have N := M.i_4 (i := 0) rfl (n' := xs.length) (xs' := (pairs xs)) (by simp) (by simp); clear M B E R
 refine s1 D (a_0 rfl (D.ev rfl)) fun Y J => ?_; clear D S
 refine n1 ?_
 refine c_9 ?_
 refine a_9 J (.inl rfl) (a_4 J rfl (.tmp rfl)) ?_
 exact ⟨N.ext, N.row_new (i := 0) rfl⟩
end Go.Proofs.Ytohgladndklciaa

namespace Go.Proofs.Ytohgladndklciaa
open Go.RowKit Go.Shelf Go.Eng Go.Hard
theorem en_56 : ∀ args w, (callFunc 56 args).run Try.prog w = .ok (.enter 56 args) w := enters_of Try.func56 (by kernel_rfl) rfl
theorem en_57 : ∀ args w, (callFunc 57 args).run Try.prog w = .ok (.enter 57 args) w := enters_of Try.func57 (by kernel_rfl) rfl
theorem en_58 : ∀ args w, (callFunc 58 args).run Try.prog w = .ok (.enter 58 args) w := enters_of Try.func58 (by kernel_rfl) rfl
def spE (b : h_6) (l : List (Int × Int)) : Int := if j_9 b l ≠ 0 then j_9 b l else if k_8 b l = none then 9 else 0
theorem spE_r {b : h_6} {l : List (Int × Int)} (h : j_9 b l ≠ 0) : spE b l = j_9 b l := if_pos h
theorem spE_9 {b : h_6} {l : List (Int × Int)} (h : j_9 b l = 0) (A : k_8 b l = none) : spE b l = 9 := by unfold spE; rw [if_neg (not_not_intro h), if_pos A]
theorem Spans_bad (b : h_6) (vt vm : Value) (lr lb lk : Nat → Value) (w : World) (hT : i_5 w vt lr lb b.tabs) (hM : j_6 w vm lk b.macs) (hth : n_4 b) (l : List (Int × Int)) (xl : Value) (hxl : SlAt w xl 2 l.length (pairs l)) (hlb : l.length ≤ 1000000) (hr : j_9 b l ≠ 0) :
  Calls Try.prog 25 #[(Value.agg #[(Value.int .i64 b.scales), vt, vm]), xl] w (Ret fun v w' => v = .tuple #[.slice none 0 0, .int .i64 (spE b l)] ∧ Ext NoB w w') := by
 refine a_8 Try.func25 rfl fun X D => ?_
 replace D : Fr 31 [] [(0, (Value.agg #[(Value.int .i64 b.scales), vt, vm])), (1, xl)] X := D
 have U : Sep NoB w w [(d_8 false vt lr lb b.tabs), (e_6 false vm lk b.macs), (sl xl 2 l.length (pairs l))] := f_1 ⟨rfl, hT, rfl, hM, rfl, hxl, trivial⟩
 refine m2 ?_
 refine s2 D (f_0 U rfl (D.ev rfl) (cs := [(Value.int .i64 b.scales), vt, vm]) rfl) ?_
 rintro m _ s ⟨p, rfl, B⟩ S; clear D U X
 refine s1 S (a_0 rfl (evc _ _)) fun n T => ?_; clear S m
 refine s1 T (a_0 rfl (evc _ _)) fun o Q => ?_; clear T n
 refine n4 ?_
 refine s1 Q (c_5 rfl t_9 (Q.ev rfl) (B.bk 0 rfl) (l := [(Value.int .i64 b.scales), vt, vm]) rfl rfl) fun Y E => ?_; clear Q o
 refine s1 E (a_1 rfl (E.ev rfl)) fun Z C => ?_; clear E Y
 refine s2 C (b_4 rfl en_56 (ev2 (C.ev rfl) (C.ev rfl)) (read_bad b vt vm lr lb lk _ (c_1 (B.ok 1 _ rfl)) (c_8 (B.ok 2 _ rfl)) hth l _ (B.sk 3 rfl) (by omega) hr)) ?_
 rintro a _ r ⟨rfl, R⟩ F; have V := B.step R; clear R C B Z
 refine s1 F (a_1 rfl (F.ev rfl)) fun c G => ?_; clear F a
 refine s1 G (d_9 rfl (G.ev rfl) rfl) fun d H => ?_; clear G c
 refine s1 H (d_9 rfl (H.ev rfl) rfl) fun e I => ?_; clear H d
 refine s1 I (a_0 rfl (I.ev rfl)) fun f J => ?_; clear I e
 refine s1 J (a_0 rfl (J.ev rfl)) fun g N => ?_; clear J f
 refine n2 ?_
 refine b_8 ?_
 have K := N.as [(7, (Value.int .i64 (j_9 b l))), (6, (Value.pointer none)), (2, (bptr p 0)), (1, xl)] rfl; clear N
 refine a_5 ?_
 refine s1 K (a_1 rfl (K.ev rfl)) fun h L => ?_; clear K g
 refine s1 L (t_2 rfl (L.ev rfl) (evc _ _)) fun i A => ?_; clear L h
 have W : ¬ ((j_9 b l) = 0) := hr
 rw [decide_eq_false W] at A
 refine n1 ?_
 refine c_3 A rfl ?_
 refine m2 ?_
 refine s1 A (a_1 rfl (A.ev rfl)) fun j O => ?_; clear A i
 refine s1 O (a_0 rfl (evc _ _)) fun k M => ?_; clear O j
 refine s1 M (a_0 rfl (M.ev rfl)) fun q P => ?_; clear M k
 refine n1 ?_
 refine c_9 ?_
 refine a_6 ?_
 refine a_9 P (.inl rfl) (d_2 P rfl (.tmp rfl) (.tmp rfl)) ?_
 exact ⟨by rw [spE_r hr], V.ext⟩
theorem Spans_none (b : h_6) (vt vm : Value) (lr lb lk : Nat → Value) (w : World) (hT : i_5 w vt lr lb b.tabs) (hM : j_6 w vm lk b.macs) (hth : n_4 b) (l : List (Int × Int)) (xl : Value) (hxl : SlAt w xl 2 l.length (pairs l)) (hlb : l.length ≤ 1000000) (hr : j_9 b l = 0) (hs : k_8 b l = none) :
  Calls Try.prog 25 #[(Value.agg #[(Value.int .i64 b.scales), vt, vm]), xl] w (Ret fun v w' => v = .tuple #[.slice none 0 0, .int .i64 (spE b l)] ∧ Ext NoB w w') := by
 refine a_8 Try.func25 rfl fun r G => ?_
 replace G : Fr 31 [] [(0, (Value.agg #[(Value.int .i64 b.scales), vt, vm])), (1, xl)] r := G
 have hc : f_9 b = 0 := read_check hr; have hbl := read_ok hr; have hb := hbl.1; have hl := hbl.2; have hll := hl.len; have hsc := hb.scales
 have o : Sep NoB w w [(d_8 false vt lr lb b.tabs), (e_6 false vm lk b.macs), (sl xl 2 l.length (pairs l))] := f_1 ⟨rfl, hT, rfl, hM, rfl, hxl, trivial⟩
 refine m2 ?_
 refine s2 G (f_0 o rfl (G.ev rfl) (cs := [(Value.int .i64 b.scales), vt, vm]) rfl) ?_
 rintro a1 _ w3 ⟨b4, rfl, B⟩ m; clear G o r
 refine s1 m (a_0 rfl (evc _ _)) fun a6 n => ?_; clear m a1
 refine s1 n (a_0 rfl (evc _ _)) fun a8 e => ?_; clear n a6
 refine n4 ?_
 refine s1 e (c_5 rfl t_9 (e.ev rfl) (B.bk 0 rfl) (l := [(Value.int .i64 b.scales), vt, vm]) rfl rfl) fun s H => ?_; clear e a8
 refine s1 H (a_1 rfl (H.ev rfl)) fun t C => ?_; clear H s
 refine s2 C (b_4 rfl en_56 (ev2 (C.ev rfl) (C.ev rfl)) (read_yes b vt vm lr lb lk _ (c_1 (B.ok 1 _ rfl)) (c_8 (B.ok 2 _ rfl)) hth l _ (B.sk 3 rfl) (by omega) hc hr)) ?_
 rintro u _ AW ⟨bx19, bm20, es21, ck22, rfl, hMO23, k⟩ I; have A := B.w_7 k rfl; clear k C B t
 refine s1 I (a_1 rfl (I.ev rfl)) fun x J => ?_; clear I u
 refine s1 J (d_9 rfl (J.ev rfl) rfl) fun y K => ?_; clear J x
 refine s1 K (d_9 rfl (K.ev rfl) rfl) fun z L => ?_; clear K y
 refine s1 L (a_0 rfl (L.ev rfl)) fun AA M => ?_; clear L z
 refine s1 M (a_0 rfl (M.ev rfl)) fun AB Z => ?_; clear M AA
 refine n2 ?_
 refine b_8 ?_
 have N := Z.as [(7, (Value.int .i64 0)), (6, (bptr bx19 0)), (2, (bptr b4 0)), (1, xl)] rfl; clear Z
 refine a_5 ?_
 refine s1 N (a_1 rfl (N.ev rfl)) fun AC O => ?_; clear N AB
 refine s1 O (t_2 rfl (O.ev rfl) (evc _ _)) fun AD D => ?_; clear O AC
 refine n1 ?_
 refine b_7 D rfl ?_
 refine d_0 ?_
 refine b_0 ?_
 refine m2 ?_
 refine s1 D (a_1 rfl (D.ev rfl)) fun AE P => ?_; clear D AD
 refine s1 P (a_1 rfl (P.ev rfl)) fun AF E => ?_; clear P AE
 refine s2 E (b_4 rfl en_57 (ev2 (E.ev rfl) (E.ev rfl)) (spansb_ok b vt vm lr lb lk _ (c_1 (A.ok 3 _ rfl)) (c_8 (A.ok 4 _ rfl)) hth bx19 bm20 _ _ (by assumption) (A.bk 0 rfl) (mapX_ro (A.ok 1 _ rfl)) hb l _ (A.sk 5 rfl) hl)) ?_
 rintro AG _ AX ⟨Y, AU, rfl, htk48, f⟩ Q; have g := A.step f; clear f E A AF
 refine s1 Q (a_1 rfl (Q.ev rfl)) fun AH R => ?_; clear Q AG
 refine s1 R (d_9 rfl (R.ev rfl) rfl) fun AI S => ?_; clear R AH
 refine s1 S (d_9 rfl (S.ev rfl) rfl) fun AJ T => ?_; clear S AI
 have q : ((k_8 b l).isSome) = false := (by rw [hs]; rfl)
 rw [q] at T
 refine s2 T (e_4 g rfl ze_120 (cs := [(Value.int .i64 0), (Value.int .i64 0), (Value.int .i64 0), (Value.int .i64 0), (Value.int .i64 0), (Value.int .i64 0), (Value.int .i64 0), (Value.int .i64 0)]) rfl) ?_
 rintro AK _ AY ⟨AQ, rfl, h⟩ F; clear T g AJ
 refine s7 F (c_2 h rfl l_4 (F.ev rfl) (F.ev rfl) (i := 0) rfl (vs := (pairs Y)) rfl (show (pairs Y).length = 8 from by simp only [b_2, List.length_set]; omega) (m_2 _) (by decide)) ?_
 intro _ AZ j U; have p := j.o_1 (i := 0) rfl (cs' := (pairs Y)) (k_1 _ _ (Eq.symm (show (pairs Y).length = 8 from by simp only [b_2, List.length_set]; omega))); clear j F h
 refine s1 U (a_0 rfl (U.ev rfl)) fun AL a => ?_; clear U AK
 refine n2 ?_
 refine b_8 ?_
 have V := a.as [(9, (Value.bool false)), (8, (bptr AQ 0)), (2, (bptr b4 0))] rfl; clear a
 refine a_5 ?_
 refine s1 V (a_1 rfl (V.ev rfl)) fun AM W => ?_; clear V AL
 refine s1 W (f_6 rfl (W.ev rfl)) fun AN X => ?_; clear W AM
 refine n1 ?_
 refine c_3 X rfl ?_
 refine m2 ?_
 refine s1 X (a_0 rfl (evc _ _)) fun AO c => ?_; clear X AN
 refine s1 c (a_0 rfl (evc _ _)) fun AV d => ?_; clear c AO
 refine n1 ?_
 refine c_9 ?_
 refine a_6 ?_
 refine a_9 d (.inl rfl) (d_2 d rfl (.tmp rfl) (.tmp rfl)) ?_
 exact ⟨by rw [spE_9 hr hs], p.ext⟩
theorem Spans_ok (b : h_6) (vt vm : Value) (lr lb lk : Nat → Value) (w : World) (hT : i_5 w vt lr lb b.tabs) (hM : j_6 w vm lk b.macs) (hth : n_4 b) (l : List (Int × Int)) (xl : Value) (hxl : SlAt w xl 2 l.length (pairs l)) (hlb : l.length ≤ 1000000) (t : g_6) (hr : j_9 b l = 0) (hs : k_8 b l = some t) :
  Calls Try.prog 25 #[(Value.agg #[(Value.int .i64 b.scales), vt, vm]), xl] w (Ret fun v w' => ∃ u, v = .tuple #[u, .int .i64 0] ∧ Sep NoB w w' [row u 30 2 t.length (pairs t)]) := by
 refine a_8 Try.func25 rfl fun a0 J => ?_
 replace J : Fr 31 [] [(0, (Value.agg #[(Value.int .i64 b.scales), vt, vm])), (1, xl)] a0 := J
 have hc : f_9 b = 0 := read_check hr; have hbl := read_ok hr; have hb := hbl.1; have hl := hbl.2; have hll := hl.len; have hsc := hb.scales
 have z : Sep NoB w w [(d_8 false vt lr lb b.tabs), (e_6 false vm lk b.macs), (sl xl 2 l.length (pairs l))] := f_1 ⟨rfl, hT, rfl, hM, rfl, hxl, trivial⟩
 refine m2 ?_
 refine s2 J (f_0 z rfl (J.ev rfl) (cs := [(Value.int .i64 b.scales), vt, vm]) rfl) ?_
 rintro a1 _ w3 ⟨b4, rfl, B⟩ x; clear J z a0
 refine s1 x (a_0 rfl (evc _ _)) fun a6 y => ?_; clear x a1
 refine s1 y (a_0 rfl (evc _ _)) fun a8 k => ?_; clear y a6
 refine n4 ?_
 refine s1 k (c_5 rfl t_9 (k.ev rfl) (B.bk 0 rfl) (l := [(Value.int .i64 b.scales), vt, vm]) rfl rfl) fun AD L => ?_; clear k a8
 refine s1 L (a_1 rfl (L.ev rfl)) fun AE C => ?_; clear L AD
 refine s2 C (b_4 rfl en_56 (ev2 (C.ev rfl) (C.ev rfl)) (read_yes b vt vm lr lb lk _ (c_1 (B.ok 1 _ rfl)) (c_8 (B.ok 2 _ rfl)) hth l _ (B.sk 3 rfl) (by omega) hc hr)) ?_
 rintro AF _ Ak ⟨bx19, bm20, es21, ck22, rfl, hMO23, s⟩ M; have A := B.w_7 s rfl; clear s C B AE
 refine s1 M (a_1 rfl (M.ev rfl)) fun AG N => ?_; clear M AF
 refine s1 N (d_9 rfl (N.ev rfl) rfl) fun AH O => ?_; clear N AG
 refine s1 O (d_9 rfl (O.ev rfl) rfl) fun AI P => ?_; clear O AH
 refine s1 P (a_0 rfl (P.ev rfl)) fun AJ Q => ?_; clear P AI
 refine s1 Q (a_0 rfl (Q.ev rfl)) fun AK f => ?_; clear Q AJ
 refine n2 ?_
 refine b_8 ?_
 have R := f.as [(7, (Value.int .i64 0)), (6, (bptr bx19 0)), (2, (bptr b4 0)), (1, xl)] rfl; clear f
 refine a_5 ?_
 refine s1 R (a_1 rfl (R.ev rfl)) fun AL S => ?_; clear R AK
 refine s1 S (t_2 rfl (S.ev rfl) (evc _ _)) fun AM D => ?_; clear S AL
 refine n1 ?_
 refine b_7 D rfl ?_
 refine d_0 ?_
 refine b_0 ?_
 refine m2 ?_
 refine s1 D (a_1 rfl (D.ev rfl)) fun AN T => ?_; clear D AM
 refine s1 T (a_1 rfl (T.ev rfl)) fun AO E => ?_; clear T AN
 refine s2 E (b_4 rfl en_57 (ev2 (E.ev rfl) (E.ev rfl)) (spansb_ok b vt vm lr lb lk _ (c_1 (A.ok 3 _ rfl)) (c_8 (A.ok 4 _ rfl)) hth bx19 bm20 _ _ (by assumption) (A.bk 0 rfl) (mapX_ro (A.ok 1 _ rfl)) hb l _ (A.sk 5 rfl) hl)) ?_
 rintro AP _ Al ⟨K, Ah, rfl, htk48, n⟩ U; have p := A.step n; clear n E A AO
 refine s1 U (a_1 rfl (U.ev rfl)) fun AQ V => ?_; clear U AP
 refine s1 V (d_9 rfl (V.ev rfl) rfl) fun AR W => ?_; clear V AQ
 refine s1 W (d_9 rfl (W.ev rfl) rfl) fun AS X => ?_; clear W AR
 have AB : ((k_8 b l).isSome) = true := (by rw [hs]; rfl)
 rw [AB] at X
 refine s2 X (e_4 p rfl ze_120 (cs := [(Value.int .i64 0), (Value.int .i64 0), (Value.int .i64 0), (Value.int .i64 0), (Value.int .i64 0), (Value.int .i64 0), (Value.int .i64 0), (Value.int .i64 0)]) rfl) ?_
 rintro AT _ Am ⟨Ad, rfl, q⟩ F; clear X p AS
 refine s7 F (c_2 q rfl l_4 (F.ev rfl) (F.ev rfl) (i := 0) rfl (vs := (pairs K)) rfl (show (pairs K).length = 8 from by simp only [b_2, List.length_set]; omega) (m_2 _) (by decide)) ?_
 intro _ An r Y; have I := r.o_1 (i := 0) rfl (cs' := (pairs K)) (k_1 _ _ (Eq.symm (show (pairs K).length = 8 from by simp only [b_2, List.length_set]; omega))); clear r F q
 refine s1 Y (a_0 rfl (Y.ev rfl)) fun AU g => ?_; clear Y AT
 refine n2 ?_
 refine b_8 ?_
 have Z := g.as [(9, (Value.bool true)), (8, (bptr Ad 0)), (2, (bptr b4 0))] rfl; clear g
 refine a_5 ?_
 refine s1 Z (a_1 rfl (Z.ev rfl)) fun AV a => ?_; clear Z AU
 refine s1 a (f_6 rfl (a.ev rfl)) fun AW G => ?_; clear a AV
 refine n1 ?_
 refine b_7 G rfl ?_
 refine d_0 ?_
 refine b_0 ?_
 refine m2 ?_
 refine s1 G (a_3 rfl fd_37_0 (G.ev rfl)) fun AX c => ?_; clear G AW
 refine s1 c (a_2 rfl ty_3 (c.ev rfl) (I.bk 3 rfl) rfl) fun AY H => ?_; clear c AX
 refine s1 H (op_sliceArr rfl y_5 g_7 (H.ev rfl) (h := b.scales.toNat) ((H.ev rfl).trans (h_1 (by omega))) (by omega)) fun AZ d => ?_; clear H AY
 refine s2 d (b_4 rfl en_58 (ev1 (d.ev rfl)) (clone_rng (K.take b.scales.toNat) _ _ ((SlAt.of_blkCut (I.bk 0 rfl) (by rw [b_2]; omega) (by omega) (by decide)).say (by rw [List.length_take]; omega) (pairs_takeH _ _)) (by rw [List.length_take]; omega))) ?_
 rintro Aa Aj Ao ⟨o, hO84⟩ e; have AA := I.new_row o hO84; clear o hO84 d I AZ
 refine s1 e (a_0 rfl (e.ev rfl)) fun Ab j => ?_; clear e Aa
 refine s1 j (a_0 rfl (evc _ _)) fun Ai m => ?_; clear j Ab
 refine n1 ?_
 refine c_9 ?_
 refine a_9 m (.inl rfl) (d_2 m rfl (.tmp rfl) (.tmp rfl)) ?_
 have hz := AA.keep [0] (by decide) [_] rfl rfl
 rw [htk48 _ hs] at hz
 exact ⟨_, rfl, hz⟩
end Go.Proofs.Ytohgladndklciaa

namespace Go.Hard
open Go.RowKit Go.Eng
section
variable {X : Nat → Prop} {w0 w : World} {L : List Res}
theorem q_0 (h : Sep X w0 w L) (v : Nat → Value) (sz : Nat) (k : Nat → Nat) (c : Nat → List Value) : Sep X w0 w (slsR true 0 v sz k c :: L) :=
  h.push (Ext.refl _ _) (fun i hi => absurd hi (Nat.not_lt_zero _)) (fun b hb => by obtain ⟨i, hi, _⟩ := hb; exact absurd hi (Nat.not_lt_zero _))
theorem k_7 {u : Value} {e sz m n : Nat} {xs : List Value} {v : Nat → Value} {k k' : Nat → Nat} {c c' : Nat → List Value} (h : Sep X w0 w (row u e sz m xs :: slsR true n v sz k c :: L)) (hk : k' n = m) (hc : c' n = xs) (hold : ∀ i, i < n → k' i = k i ∧ c' i = c i) :
    Sep X w0 w (slsR true (n + 1) (putV n v u) sz k' c' :: L) := by
  have h0 := h.e_2 0 rfl
  have h1 := h.ok 1 _ rfl
  refine h.join (t := slsR true (n + 1) (putV n v u) sz k' c') (fun i hi => ?_) (fun b hb => ?_) (fun _ => ⟨rfl, rfl⟩) (fun _ => trivial)
  · rcases Nat.lt_succ_iff_lt_or_eq.1 hi with hi | rfl
    · rw [x_6 _ _ hi, (hold i hi).1, (hold i hi).2]; exact h1 i hi
    · rw [x_5, hk, hc]; exact SlAt.d_7 h0
  · obtain ⟨i, hi, hb⟩ := hb
    rcases Nat.lt_succ_iff_lt_or_eq.1 hi with hi | rfl
    · rw [x_6 _ _ hi, (hold i hi).2] at hb; exact .inr ⟨i, hi, hb⟩
    · rw [x_5, hc] at hb; exact .inl (w_1 hb)
theorem sep_sls_say {i : Nat} {o : Bool} {sz n n' : Nat} {v v' : Nat → Value} {k k' : Nat → Nat} {c c' : Nat → List Value} (h : Sep X w0 w L) (hi : L[i]? = some (slsR o n v sz k c)) (hn : n = n') (he : ∀ i, i < n → v' i = v i ∧ k' i = k i ∧ c' i = c i) : Sep X w0 w (L.set i (slsR o n' v' sz k' c')) := by
  subst hn
  have h1 := h.ok i _ hi
  refine h.say hi (fun q hq => ?_) (fun b hb => ?_) (fun ho => ho)
  · rw [(he q hq).1, (he q hq).2.1, (he q hq).2.2]; exact h1 q hq
  · obtain ⟨q, hq, hb⟩ := hb
    rw [(he q hq).1, (he q hq).2.2] at hb; exact ⟨q, hq, hb⟩
theorem sep_tabs_join {vt : Value} {lr lb : Nat → Value} {ts : List TabD} (h : Sep X w0 w (row vt 106 5 ts.length (m_3 lr lb ts) :: slsR true ts.length lr 2 (k_6 ts) (k_5 ts) :: slsR true ts.length lb 1 (brkN ts) (brkC ts) :: L)) : Sep X w0 w (d_8 true vt lr lb ts :: L) := by
  have h0 := h.e_2 0 rfl
  have hp := h.pw
  have ap := List.pairwise_cons.1 hp
  -- the row and both together
  refine Sep.of_pw h.ext (fun r hr => ?_) (fun r hr ho b hb => ?_) (List.pairwise_cons.2 ⟨fun r hr => ?_, (List.pairwise_cons.1 (List.pairwise_cons.1 ap.2).2).2⟩)
  · rcases List.mem_cons.1 hr with rfl | hr
    · exact ⟨SlAt.d_7 h0, h.ok 1 _ rfl, h.ok 2 _ rfl⟩
    · exact h.mem (List.mem_cons_of_mem _ (List.mem_cons_of_mem _ (List.mem_cons_of_mem _ hr)))
  · rcases List.mem_cons.1 hr with rfl | hr
    · rcases hb with hb | hb | hb
      · exact h.mine 0 _ rfl rfl b (w_1 hb)
      · exact h.mine 1 _ rfl rfl b hb
      · exact h.mine 2 _ rfl rfl b hb
    · exact h.mineM (List.mem_cons_of_mem _ (List.mem_cons_of_mem _ (List.mem_cons_of_mem _ hr))) ho b hb
  · have a0 := ap.1 r (List.mem_cons_of_mem _ (List.mem_cons_of_mem _ hr))
    have a1 := (List.pairwise_cons.1 ap.2).1 r (List.mem_cons_of_mem _ hr)
    have a2 := (List.pairwise_cons.1 (List.pairwise_cons.1 ap.2).2).1 r hr
    refine ⟨fun _ b hb => ?_, fun ho b hb hb' => ?_⟩
    · rcases hb with hb | hb | hb
      · exact a0.1 rfl b (w_1 hb)
      · exact a1.1 rfl b hb
      · exact a2.1 rfl b hb
    · rcases hb' with hb' | hb' | hb'
      · exact a0.2 ho b hb (w_1 hb')
      · exact a1.2 ho b hb hb'
      · exact a2.2 ho b hb hb'
theorem sep_macs_join {vm : Value} {lk : Nat → Value} {ms : List MacD} (h : Sep X w0 w (row vm 103 2 ms.length (n_2 lk ms) :: slsR true ms.length lk 3 (blkN ms) (blkC ms) :: L)) : Sep X w0 w (e_6 true vm lk ms :: L) := by
  have h0 := h.e_2 0 rfl
  refine h.join (t := e_6 true vm lk ms) ⟨SlAt.d_7 h0, h.ok 1 _ rfl⟩ (fun b hb => ?_) (fun _ => ⟨rfl, rfl⟩) (fun _ => trivial)
  rcases hb with hb | hb
  · exact .inl (w_1 hb)
  · exact .inr hb
end
theorem r_1 {α : Type} {l : List α} {d : α} {k : Nat} (h : k < l.length) : l.take k ++ [l.getD k d] = l.take (k + 1) := by
  rw [List.take_add_one, List.getElem?_eq_getElem h, List.getD, List.getElem?_eq_getElem h]; rfl
section
variable {ts : List TabD} {ms : List MacD} {k : Nat}
theorem take_at {α : Type} {l : List α} {d : α} {k i : Nat} (hk : i < k) : (l.take k).getD i d = l.getD i d := by
  simp [List.getD, List.getElem?_take, hk]
theorem rowsN_new (h : k < ts.length) : k_6 (ts.take (k + 1)) (ts.take k).length = (ts.getD k tab0).rows.length ∧ k_5 (ts.take (k + 1)) (ts.take k).length = pairs (ts.getD k tab0).rows ∧ brkN (ts.take (k + 1)) (ts.take k).length = (ts.getD k tab0).brk.length ∧ brkC (ts.take (k + 1)) (ts.take k).length = ints (ts.getD k tab0).brk := by
  rw [List.length_take, Nat.min_eq_left (by omega)]
  unfold k_6 k_5 brkN brkC
  rw [take_at (Nat.lt_succ_self k)]
  exact ⟨rfl, rfl, rfl, rfl⟩
theorem rowsN_old (i : Nat) (hi : i < (ts.take k).length) : (k_6 (ts.take (k + 1)) i = k_6 (ts.take k) i ∧ k_5 (ts.take (k + 1)) i = k_5 (ts.take k) i) ∧ brkN (ts.take (k + 1)) i = brkN (ts.take k) i ∧ brkC (ts.take (k + 1)) i = brkC (ts.take k) i := by
  have hk : i < k := by rw [List.length_take] at hi; omega
  unfold k_6 k_5 brkN brkC
  rw [take_at (show i < k + 1 by omega), take_at hk]
  exact ⟨⟨rfl, rfl⟩, rfl, rfl⟩
theorem blkN_new (h : k < ms.length) : blkN (ms.take (k + 1)) (ms.take k).length = (ms.getD k mac0).blocks.length ∧ blkC (ms.take (k + 1)) (ms.take k).length = trips (ms.getD k mac0).blocks := by
  rw [List.length_take, Nat.min_eq_left (by omega)]
  unfold blkN blkC
  rw [take_at (Nat.lt_succ_self k)]
  exact ⟨rfl, rfl⟩
theorem blkN_old (i : Nat) (hi : i < (ms.take k).length) : blkN (ms.take (k + 1)) i = blkN (ms.take k) i ∧ blkC (ms.take (k + 1)) i = blkC (ms.take k) i := by
  have hk : i < k := by rw [List.length_take] at hi; omega
  unfold blkN blkC
  rw [take_at (show i < k + 1 by omega), take_at hk]
  exact ⟨rfl, rfl⟩
theorem take_len1 {α : Type} {l : List α} (h : k < l.length) : (l.take k).length + 1 = (l.take (k + 1)).length := by simp only [List.length_take]; omega
end
end Go.Hard

namespace Go.Proofs.Ytohgladndklciaa
open Go.RowKit Go.Shelf Go.Eng Go.Hard
theorem bd_98_0i_1i (x0_0 : Int) (x1_0 : Int) (w : World) : (Instr.build 98 #[(0, (.int .i64 x0_0)), (1, (.int .i64 x1_0))]).run Try.prog w = .ok (.agg #[(.int .i64 x0_0), (.int .i64 x1_0)]) w := by kernel_rfl
theorem bs_98_1_0iia (x0_0 : Int) (x0_1 : Int) : Instr.fill (fun i => some (i * 2, 2)) ((Array.range (1 * 2)).map ((Value.agg #[(Value.int .i64 0), (Value.int .i64 0)]).cells[· % (Value.agg #[(Value.int .i64 0), (Value.int .i64 0)]).cells.size]!)) [(0, .agg #[(.int .i64 x0_0), (.int .i64 x0_1)])] = some (([(.int .i64 x0_0), (.int .i64 x0_1)] : List Value).toArray) := by kernel_rfl
theorem list_ok (l : List Int) (xl : Value) (w : World) (hxl : SlAt w xl 1 l.length (ints l)) (hlen : l.length ≤ 1000000) :
  Calls Try.prog 40 #[xl] w (Ret fun v w' => Ext NoB w w' ∧ w'.ownsRow w.heap.size 3 1 v l.length (ints l)) := by
 refine a_8 Try.func40 rfl fun J A => ?_
 replace A : Fr 5 [] [(0, xl)] J := A
 have I : Sep NoB w w [(sl xl 1 l.length (ints l))] := f_1 ⟨rfl, hxl, trivial⟩
 refine m2 ?_
 refine s1 A (a_0 rfl (evc _ _)) fun K C => ?_; clear A J
 refine n4 ?_
 refine s1 C (a_1 rfl (C.ev rfl)) fun L D => ?_; clear C K
 have H := I.x_3 3 1; clear I
 refine s2 D (p_0 H rfl p_4 el_3 (evc _ _) (D.ev rfl) (i := 0) rfl (H.sk 1 rfl) (ints_one _) (by simp only [maxLen]; omega) (by omega)) ?_
 intro M O P F E
 have G := F.i_4 (i := 0) rfl (n' := l.length) (xs' := (ints l)) (by simp) (by simp); clear F D H L
 refine s1 E (a_0 rfl (E.ev rfl)) fun N B => ?_; clear E M
 refine n1 ?_
 refine c_9 ?_
 refine a_9 B (.inl rfl) (a_4 B rfl (.tmp rfl)) ?_
 exact ⟨G.ext, G.row_new (i := 0) rfl⟩
theorem Readings_ok (l : List (Int × Int)) (xl : Value) (w : World) (hxl : SlAt w xl 2 l.length (pairs l)) (Bo : l.length ≤ 12) :
  Calls Try.prog 26 #[xl] w (Ret fun v w' => Ext NoB w w' ∧ w'.ownsRow w.heap.size 98 2 v l.length (pairs l)) := by
 refine a_8 Try.func26 rfl fun a0 T => ?_
 replace T : Fr 26 [] [(0, xl)] a0 := T
 have AL : Sep NoB w w [(sl xl 2 l.length (pairs l))] := f_1 ⟨rfl, hxl, trivial⟩
 refine m2 ?_
 refine s1 T (a_0 rfl (evc _ _)) fun a1 AH => ?_; clear T a0
 refine n4 ?_
 refine s1 AH (a_0 rfl (evc _ _)) fun a3 AI => ?_; clear AH a1
 have AM := AL.x_3 98 2; clear AL
 refine n2 ?_
 refine m2 ?_
 refine s1 AI (a_0 rfl (evc _ _)) fun a6 AJ => ?_; clear AI a3
 refine n1 ?_
 refine c_7 ?_
 have AK := AJ.as [(4, (Value.int .i64 0)), (3, (Value.slice none 0 0)), (0, xl)] rfl; clear AJ
 refine h_3 (G := Nat) (fun (k : Nat) a_ w_ => ∃ v3_ : Value, Fr 26 [] [(4, (Value.int .i64 (k : Int))), (3, v3_), (0, xl)] a_ ∧ Sep NoB w w_ [(row v3_ 98 2 ((l.take k).length) (pairs (l.take k))), (sl xl 2 l.length (pairs l))] ∧ (k ≤ l.length)) (fun k => l.length - k) 0 ⟨(Value.slice none 0 0), AK.as _ rfl, (AM.i_4 (i := 0) rfl (by rfl) (by rfl)), by omega⟩ ?_
 clear AK AM a6
 rintro k a9 CD ⟨v3_, H, F, hkk⟩
 have hlt_ : (l.take k).length ≤ 12 := by simp only [List.length_take]; omega
 refine b_8 ?_
 refine m2 ?_
 refine s1 H (a_1 rfl (H.ev rfl)) fun Az I => ?_; clear H a9
 refine s1 I (a_1 rfl (I.ev rfl)) fun A0 J => ?_; clear I Az
 refine s1 J (d_6 rfl z_9 (J.ev rfl) (F.sk 1 rfl)) fun A1 D => ?_; clear J A0
 refine s1 D (f_8 rfl (D.ev rfl) (D.ev rfl)) fun A2 C => ?_; clear D A1
 refine n1 ?_
 by_cases g : (k : Int) < (l.length : Int)
 ·skip
  rw [decide_eq_true g] at C
  refine c_3 C rfl ?_
  refine d_0 ?_
  refine b_0 ?_
  refine b_8 ?_
  refine c_7 ?_
  have Z := C.as [(4, (Value.int .i64 (k : Int))), (3, v3_), (0, xl)] rfl; clear C
  refine w_6 mixed Z F 13 [[], [], [], [1, 2], [3], [4], [], [], [6, 7], [8], [9], [5, 10], [11]] [(fun (A : Nat → Value) (v_ : Value) (rs_ : List Res) => v_ = v3_ ∧ rs_ = []), (fun (A : Nat → Value) (v_ : Value) (rs_ : List Res) => v_ = xl ∧ rs_ = []), (fun (A : Nat → Value) (v_ : Value) (rs_ : List Res) => v_ = (Value.int .i64 (k : Int)) ∧ rs_ = []), (fun (A : Nat → Value) (v_ : Value) (rs_ : List Res) => v_ = (eptr xl (k * 2)) ∧ rs_ = []), (fun (A : Nat → Value) (v_ : Value) (rs_ : List Res) => v_ = (eptr xl (k * 2 + 0)) ∧ rs_ = []), (fun (A : Nat → Value) (v_ : Value) (rs_ : List Res) => v_ = (Value.int .i64 ((l.getD k (0, 0)).1)) ∧ rs_ = []), (fun (A : Nat → Value) (v_ : Value) (rs_ : List Res) => v_ = xl ∧ rs_ = []), (fun (A : Nat → Value) (v_ : Value) (rs_ : List Res) => v_ = (Value.int .i64 (k : Int)) ∧ rs_ = []), (fun (A : Nat → Value) (v_ : Value) (rs_ : List Res) => v_ = (eptr xl (k * 2)) ∧ rs_ = []), (fun (A : Nat → Value) (v_ : Value) (rs_ : List Res) => v_ = (eptr xl (k * 2 + 1)) ∧ rs_ = []), (fun (A : Nat → Value) (v_ : Value) (rs_ : List Res) => v_ = (Value.int .i64 ((l.getD k (0, 0)).2)) ∧ rs_ = []), (fun (A : Nat → Value) (v_ : Value) (rs_ : List Res) => v_ = (Value.agg #[(Value.int .i64 ((l.getD k (0, 0)).1)), (Value.int .i64 ((l.getD k (0, 0)).2))]) ∧ rs_ = []), (fun (A : Nat → Value) (v_ : Value) (rs_ : List Res) => True ∧ rs_ = [(row v_ 98 2 1 [(Value.int .i64 ((l.getD k (0, 0)).1)), (Value.int .i64 ((l.getD k (0, 0)).2))])])] (by decide +kernel) (by decide +kernel) rfl rfl ⟨(fun _ _ _ _ _ h_ => h_), (fun _ _ _ _ _ h_ => h_), (fun _ _ _ _ _ h_ => h_), (fun _ _ _ _ _ h_ => h_), (fun _ _ _ _ _ h_ => h_), (fun _ _ _ _ _ h_ => h_), (fun _ _ _ _ _ h_ => h_), (fun _ _ _ _ _ h_ => h_), (fun _ _ _ _ _ h_ => h_), (fun _ _ _ _ _ h_ => h_), (fun _ _ _ _ _ h_ => h_), (fun _ _ _ _ _ h_ => h_), (fun _ _ _ _ _ h_ => h_), trivial⟩ ?_ ?_
  ·skip
   refine ⟨fun a w A hA hS hd => ?_, ?_⟩
   ·skip
    exact b_1 rfl (vv (a_1 rfl (hA.ev rfl)) (And.intro rfl rfl))
   refine ⟨fun a w A hA hS hd => ?_, ?_⟩
   ·skip
    exact b_1 rfl (vv (a_1 rfl (hA.ev rfl)) (And.intro rfl rfl))
   refine ⟨fun a w A hA hS hd => ?_, ?_⟩
   ·skip
    exact b_1 rfl (vv (a_1 rfl (hA.ev rfl)) (And.intro rfl rfl))
   refine ⟨fun a w A hA hS hd => ?_, ?_⟩
   ·skip
    obtain ⟨e1, B4, BZ, Bv⟩ := hd 1 (by decide)
    obtain ⟨BQ, BH⟩ := BZ; subst BH
    rw [BQ] at e1
    obtain ⟨e2, B5, Ba, Bw⟩ := hd 2 (by decide)
    obtain ⟨BR, BI⟩ := Ba; subst BI
    rw [BR] at e2
    exact b_1 rfl (vv (b_3 rfl z_9 ty_67 (a_7 (b_5 e1 rfl)) (i := k) (a_7 (b_5 e2 rfl)) (hS.sk 1 rfl) (by decide) (by omega)) (And.intro rfl rfl))
   refine ⟨fun a w A hA hS hd => ?_, ?_⟩
   ·skip
    obtain ⟨e3, B6, Bb, Bx⟩ := hd 3 (by decide)
    obtain ⟨BS, BJ⟩ := Bb; subst BJ
    rw [BS] at e3
    exact b_1 rfl (vv (d_1 rfl fd_67_0 (a_7 (b_5 e3 rfl)) (hS.sk 1 rfl) (by rw [((hS.sk 1 rfl)).1]; omega)) (And.intro rfl rfl))
   refine ⟨fun a w A hA hS hd => ?_, ?_⟩
   ·skip
    obtain ⟨e4, B7, Bc, By⟩ := hd 4 (by decide)
    obtain ⟨BT, BK⟩ := Bc; subst BK
    rw [BT] at e4
    exact b_1 rfl (vv (c_4 rfl ty_3 (a_7 (b_5 e4 rfl)) (hS.sk 1 rfl) (f_7 (by omega))) (And.intro rfl rfl))
   refine ⟨fun a w A hA hS hd => ?_, ?_⟩
   ·skip
    exact b_1 rfl (vv (a_1 rfl (hA.ev rfl)) (And.intro rfl rfl))
   refine ⟨fun a w A hA hS hd => ?_, ?_⟩
   ·skip
    exact b_1 rfl (vv (a_1 rfl (hA.ev rfl)) (And.intro rfl rfl))
   refine ⟨fun a w A hA hS hd => ?_, ?_⟩
   ·skip
    obtain ⟨e6, B9, Be, B0⟩ := hd 6 (by decide)
    obtain ⟨BV, BM⟩ := Be; subst BM
    rw [BV] at e6
    obtain ⟨e7, CA, Bf, B1⟩ := hd 7 (by decide)
    obtain ⟨BW, BN⟩ := Bf; subst BN
    rw [BW] at e7
    exact b_1 rfl (vv (b_3 rfl z_9 ty_67 (a_7 (b_5 e6 rfl)) (i := k) (a_7 (b_5 e7 rfl)) (hS.sk 1 rfl) (by decide) (by omega)) (And.intro rfl rfl))
   refine ⟨fun a w A hA hS hd => ?_, ?_⟩
   ·skip
    obtain ⟨e8, CB, Bg, B2⟩ := hd 8 (by decide)
    obtain ⟨BX, BO⟩ := Bg; subst BO
    rw [BX] at e8
    exact b_1 rfl (vv (d_1 rfl fd_67_1 (a_7 (b_5 e8 rfl)) (hS.sk 1 rfl) (by rw [((hS.sk 1 rfl)).1]; omega)) (And.intro rfl rfl))
   refine ⟨fun a w A hA hS hd => ?_, ?_⟩
   ·skip
    obtain ⟨e9, CC, Bh, B3⟩ := hd 9 (by decide)
    obtain ⟨BY, BP⟩ := Bh; subst BP
    rw [BY] at e9
    exact b_1 rfl (vv (c_4 rfl ty_3 (a_7 (b_5 e9 rfl)) (hS.sk 1 rfl) (h_2 (by omega))) (And.intro rfl rfl))
   refine ⟨fun a w A hA hS hd => ?_, ?_⟩
   ·skip
    obtain ⟨e5, B8, Bd, Bz⟩ := hd 5 (by decide)
    obtain ⟨BU, BL⟩ := Bd; subst BL
    rw [BU] at e5
    obtain ⟨AF, Br, Am, Bp⟩ := hd 10 (by decide)
    obtain ⟨Ab, AQ⟩ := Am; subst AQ
    rw [Ab] at AF
    exact b_1 rfl (vv (e_5 rfl (pv2 (a_7 (b_5 e5 rfl)) (a_7 (b_5 AF rfl))) (bd_98_0i_1i _ _)) (And.intro rfl rfl))
   refine ⟨fun a w A hA hS hd => ?_, ?_⟩
   ·skip
    obtain ⟨AG, Bs, An, Bq⟩ := hd 11 (by decide)
    obtain ⟨Ac, AR⟩ := An; subst AR
    rw [Ac] at AG
    exact b_1 rfl (vblt rfl (pv1 (a_7 (b_5 AG rfl))) un_53 ty_98 ze_98 (by decide) (cs := [(Value.int .i64 ((l.getD k (0, 0)).1)), (Value.int .i64 ((l.getD k (0, 0)).2))]) (bs_98_1_0iia _ _) rfl (by decide) (fun _ => And.intro trivial rfl))
   trivial
  intro Y Bi A rsf29 b B Q; clear Z F
  obtain ⟨S, Ao⟩ := B 0 (by decide)
  obtain ⟨u, h⟩ := Ao
  obtain ⟨AS, Ap⟩ := B 1 (by decide)
  obtain ⟨Ad, j⟩ := Ap
  obtain ⟨AT, Aq⟩ := B 2 (by decide)
  obtain ⟨Ae, m⟩ := Aq
  obtain ⟨AU, Ar⟩ := B 3 (by decide)
  obtain ⟨Af, n⟩ := Ar
  obtain ⟨AV, As⟩ := B 4 (by decide)
  obtain ⟨Ag, o⟩ := As
  obtain ⟨AW, At⟩ := B 5 (by decide)
  obtain ⟨Ah, p⟩ := At
  obtain ⟨AX, Au⟩ := B 6 (by decide)
  obtain ⟨Ai, q⟩ := Au
  obtain ⟨AY, Av⟩ := B 7 (by decide)
  obtain ⟨Aj, r⟩ := Av
  obtain ⟨AZ, Aw⟩ := B 8 (by decide)
  obtain ⟨Ak, s⟩ := Aw
  obtain ⟨Aa, Ax⟩ := B 9 (by decide)
  obtain ⟨Al, t⟩ := Ax
  obtain ⟨x, AC⟩ := B 10 (by decide)
  obtain ⟨z, U⟩ := AC
  obtain ⟨y, AD⟩ := B 11 (by decide)
  obtain ⟨AA, V⟩ := AD
  obtain ⟨X, AE⟩ := B 12 (by decide)
  obtain ⟨AB, W⟩ := AE
  have R : Sep NoB w Bi [(row (A 12) 98 2 1 [(Value.int .i64 ((l.getD k (0, 0)).1)), (Value.int .i64 ((l.getD k (0, 0)).2))]), (row v3_ 98 2 ((l.take k).length) (pairs (l.take k))), (sl xl 2 l.length (pairs l))] := by rw [show catR rsf29 0 13 = ([(row (A 12) 98 2 1 [(Value.int .i64 ((l.getD k (0, 0)).1)), (Value.int .i64 ((l.getD k (0, 0)).2))])] : List Res) by (try simp only [catR, h, j, m, n, o, p, q, r, s, t, U, V, W]); (try rfl)] at Q; exact Q
  rw [u] at S
  have c : Fr 26 [] [(11, v3_), (4, (Value.int .i64 (k : Int))), (3, v3_), (0, xl)] Y := b.add (b_5 S rfl); clear b
  have E : Fr 26 [] [(23, (A 12)), (11, v3_), (4, (Value.int .i64 (k : Int))), (3, v3_), (0, xl)] Y := c.add (b_5 X rfl); clear c
  clear B Q S AS AT AU AV AW AX AY AZ Aa x y X
  clear h
  clear u
  clear j
  clear Ad
  clear m
  clear Ae
  clear n
  clear Af
  clear o
  clear Ag
  clear p
  clear Ah
  clear q
  clear Ai
  clear r
  clear Aj
  clear s
  clear Ak
  clear t
  clear Al
  clear U
  clear z
  clear V
  clear AA
  clear W
  clear AB
  refine s2 E (p_0 R rfl un_53 el_98 (E.ev rfl) (E.ev rfl) (i := 1) rfl (SlAt.d_7 (R.e_2 0 rfl)) rfl (by simp only [maxLen]; omega) (by omega)) ?_
  intro A3 AN Bj e K
  have f := e.i_4 (i := 1) rfl (n' := ((l.take k) ++ [l.getD k (0, 0)]).length) (xs' := (pairs ((l.take k) ++ [l.getD k (0, 0)]))) (by simp) (by simp [pairs]); clear e E R Y
  refine s1 K (a_0 rfl (K.ev rfl)) fun A4 L => ?_; clear K A3
  refine e_9 ?_
  refine h_0 ?_
  refine b_0 ?_
  refine a_5 ?_
  refine s1 L (a_1 rfl (L.ev rfl)) fun A5 M => ?_; clear L A4
  refine s1 M (f_4 rfl (M.ev rfl) (evc _ _) (by omega) (by omega)) fun A6 N => ?_; clear M A5
  refine s1 N (a_0 rfl (N.ev rfl)) fun Bt AO => ?_; clear N A6
  refine e_9 ?_
  have AP : Sep NoB w Bj [(row AN 98 2 (((l.take k) ++ [l.getD k (0, 0)]).length) (pairs ((l.take k) ++ [l.getD k (0, 0)]))), (sl xl 2 l.length (pairs l))] := f.keep [1, 2] (by decide) _ rfl rfl; clear f
  exact b_0 ⟨k + 1, ⟨AN, AO.as _ rfl, (AP.i_4 (i := 0) rfl (by rw [r_1 (by omega)]) (by rw [r_1 (by omega)])), by omega⟩, by omega⟩
 skip
 rw [decide_eq_false g] at C
 refine b_7 C rfl ?_
 refine g_8 ?_
 refine b_6 ?_
 refine b_6 ?_
 refine f_5 ?_
 refine b_0 ?_
 refine b_8 ?_
 have O := C.as [(3, v3_)] rfl; clear C
 refine a_5 ?_
 refine s1 O (a_1 rfl (O.ev rfl)) fun A7 P => ?_; clear O A2
 refine s1 P (a_0 rfl (P.ev rfl)) fun Bu d => ?_; clear P A7
 refine n1 ?_
 refine c_9 ?_
 refine a_9 d (.inl rfl) (a_4 d rfl (.tmp rfl)) ?_
 have hz := F.i_4 (i := 0) rfl (n' := l.length) (xs' := pairs l) (by rw [show k = l.length by omega, List.take_length]) (by rw [show k = l.length by omega, List.take_length])
 exact ⟨hz.ext, hz.row_new (i := 0) rfl⟩
end Go.Proofs.Ytohgladndklciaa
