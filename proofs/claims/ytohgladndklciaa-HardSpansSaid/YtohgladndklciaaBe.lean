/-
  The chapter's book and what it shows; decided by the kernel.
  The reference's way to the spans: round after round over the tables in the book's order, until nothing changes.
-/
import Derived.Test.YtohgladndklciaaBd
set_option linter.unusedSimpArgs false
set_option linter.unusedVariables false
namespace Go.Proofs.Ytohgladndklciaa
open Go.RowKit Go.Shelf Go.Eng Go.Hard
theorem ze_37 : (Try.prog.info? 37).bind (·.zero) = some (Value.agg #[(Value.int .i64 0), (Value.slice none 0 0), (Value.slice none 0 0)]) := by kernel_rfl
theorem bd_37_0i (x0_0 : Int) (w : World) : (Instr.build 37 #[(0, (.int .i64 x0_0))]).run Try.prog w = .ok (.agg #[(.int .i64 x0_0), (Value.slice none 0 0), (Value.slice none 0 0)]) w := by kernel_rfl
theorem ze_46 : (Try.prog.info? 46).bind (·.zero) = some (Value.agg #[(Value.int .i64 0), (Value.int .i64 0), (Value.slice none 0 0), (Value.slice none 0 0), (Value.int .i64 0)]) := by kernel_rfl
theorem bd_106_0i_1i_3s_4i (x0_0 : Int) (x1_0 : Int) (x2_0 : Value) (hx2_0 : IsSl x2_0) (x3_0 : Int) (w : World) : (Instr.build 106 #[(0, (.int .i64 x0_0)), (1, (.int .i64 x1_0)), (3, x2_0), (4, (.int .i64 x3_0))]).run Try.prog w = .ok (.agg #[(.int .i64 x0_0), (.int .i64 x1_0), (Value.slice none 0 0), x2_0, (.int .i64 x3_0)]) w := by obtain ⟨Ax2_0, Bx2_0, Cx2_0, rfl⟩ := hx2_0; kernel_rfl
theorem en_40 : ∀ args w, (callFunc 40 args).run Try.prog w = .ok (.enter 40 args) w := enters_of Try.func40 (by kernel_rfl) rfl
theorem m_5 (x0_0 : Int) (x1_0 : Int) (w : World) : (Instr.build 107 #[(0, (.int .i64 x0_0)), (1, (.int .i64 x1_0))]).run Try.prog w = .ok (.agg #[(.int .i64 x0_0), (.int .i64 x1_0)]) w := by kernel_rfl
theorem bs_107_1_0iia (x0_0 : Int) (x0_1 : Int) : Instr.fill (fun i => some (i * 2, 2)) ((Array.range (1 * 2)).map ((Value.agg #[(Value.int .i64 0), (Value.int .i64 0)]).cells[· % (Value.agg #[(Value.int .i64 0), (Value.int .i64 0)]).cells.size]!)) [(0, .agg #[(.int .i64 x0_0), (.int .i64 x0_1)])] = some (([(.int .i64 x0_0), (.int .i64 x0_1)] : List Value).toArray) := by kernel_rfl
theorem el_107 : elK Try.prog 107 = some ((Value.agg #[(Value.int .i64 0), (Value.int .i64 0)]), 2, 16) := by kernel_rfl
theorem bd_103_0i (x0_0 : Int) (w : World) : (Instr.build 103 #[(0, (.int .i64 x0_0))]).run Try.prog w = .ok (.agg #[(.int .i64 x0_0), (Value.slice none 0 0)]) w := by kernel_rfl
theorem q_2 (x0_0 : Int) (x0_1 : Int) (x1_0 : Int) (w : World) : (Instr.build 100 #[(0, .agg #[(.int .i64 x0_0), (.int .i64 x0_1)]), (1, (.int .i64 x1_0))]).run Try.prog w = .ok (.agg #[(.int .i64 x0_0), (.int .i64 x0_1), (.int .i64 x1_0)]) w := by kernel_rfl
theorem en_20 : ∀ args w, (callFunc 20 args).run Try.prog w = .ok (.enter 20 args) w := enters_of Try.func20 (by kernel_rfl) rfl
theorem bs_100_1_0iiia (x0_0 : Int) (x0_1 : Int) (x0_2 : Int) : Instr.fill (fun i => some (i * 3, 3)) ((Array.range (1 * 3)).map ((Value.agg #[(Value.int .i64 0), (Value.int .i64 0), (Value.int .i64 0)]).cells[· % (Value.agg #[(Value.int .i64 0), (Value.int .i64 0), (Value.int .i64 0)]).cells.size]!)) [(0, .agg #[(.int .i64 x0_0), (.int .i64 x0_1), (.int .i64 x0_2)])] = some (([(.int .i64 x0_0), (.int .i64 x0_1), (.int .i64 x0_2)] : List Value).toArray) := by kernel_rfl
theorem el_100 : elK Try.prog 100 = some ((Value.agg #[(Value.int .i64 0), (Value.int .i64 0), (Value.int .i64 0)]), 3, 24) := by kernel_rfl
theorem bs_103_1_0iva (x0_0 : Int) (x0_1 : Value) : Instr.fill (fun i => some (i * 2, 2)) ((Array.range (1 * 2)).map ((Value.agg #[(Value.int .i64 0), (Value.slice none 0 0)]).cells[· % (Value.agg #[(Value.int .i64 0), (Value.slice none 0 0)]).cells.size]!)) [(0, .agg #[(.int .i64 x0_0), x0_1])] = some (([(.int .i64 x0_0), x0_1] : List Value).toArray) := by kernel_rfl
theorem el_103 : elK Try.prog 103 = some ((Value.agg #[(Value.int .i64 0), (Value.slice none 0 0)]), 2, 32) := by kernel_rfl
set_option maxHeartbeats 4000000 in
theorem Book_ok (b : h_6) (vt vm : Value) (lr lb lk : Nat → Value) (w : World) (hT : i_5 w vt lr lb b.tabs) (hM : j_6 w vm lk b.macs) (hth : n_4 b) :
  Calls Try.prog 19 #[(Value.agg #[(Value.int .i64 b.scales), vt, vm])] w (Ret fun v w' => ∃ vt' vm' lr' lb' lk', v = .agg #[.int .i64 b.scales, vt', vm'] ∧ Sep NoB w w' [d_8 true vt' lr' lb' b.tabs, e_6 true vm' lk' b.macs]) := by
 refine a_8 Try.func19 rfl fun a0 CL => ?_
 replace CL : Fr 116 [] [(0, (Value.agg #[(Value.int .i64 b.scales), vt, vm]))] a0 := CL
 have htl9 := hth.tl; have hml9 := hth.ml
 have Ez : Sep NoB w w [(d_8 false vt lr lb b.tabs), (e_6 false vm lk b.macs)] := f_1 ⟨rfl, hT, rfl, hM, trivial⟩
 refine m2 ?_
 refine s2 CL (f_0 Ez rfl (CL.ev rfl) (cs := [(Value.int .i64 b.scales), vt, vm]) rfl) ?_
 rintro a1 _ w3 ⟨F, rfl, E0⟩ Ey; clear CL Ez a0
 refine s2 Ey (e_4 E0 rfl ze_37 (cs := [(Value.int .i64 0), (Value.slice none 0 0), (Value.slice none 0 0)]) rfl) ?_
 rintro a6 _ w8 ⟨E, rfl, C0⟩ EN; clear Ey E0 a1
 refine n4 ?_
 refine s1 EN (a_3 rfl fd_25_0 (EN.ev rfl)) fun GL Cn => ?_; clear EN a6
 refine s1 Cn (a_2 rfl ty_3 (Cn.ev rfl) (C0.bk 1 rfl) rfl) fun GM Co => ?_; clear Cn GL
 refine s1 Co (e_5 rfl (pv1 (Co.ev rfl)) (bd_37_0i _)) fun GN EE => ?_; clear Co GM
 refine s2 EE (e_4 C0 rfl ze_37 (cs := [(Value.int .i64 0), (Value.slice none 0 0), (Value.slice none 0 0)]) rfl) ?_
 rintro GO _ HE ⟨D, rfl, ET⟩ BF; clear EE C0 GN
 refine s7 BF (c_2 ET rfl t_9 (BF.ev rfl) (BF.ev rfl) (i := 0) rfl (vs := [(Value.int .i64 b.scales), (Value.slice none 0 0), (Value.slice none 0 0)]) rfl rfl (i_3 rfl (i_3 rfl (i_3 rfl v_3))) (Nat.le_of_ble_eq_true rfl)) ?_
 intro _ Gn EU EF; clear BF
 have EV : Sep NoB w Gn [(blk D 37 [(Value.int .i64 b.scales), (Value.slice none 0 0), (Value.slice none 0 0)]), (blk E 37 [(Value.int .i64 0), (Value.slice none 0 0), (Value.slice none 0 0)]), (blk F 25 [(Value.int .i64 b.scales), vt, vm]), (d_8 false vt lr lb b.tabs), (e_6 false vm lk b.macs)] := EU; clear EU ET
 refine n2 ?_
 refine m2 ?_
 refine s1 EF (a_0 rfl (evc _ _)) fun GP EG => ?_; clear EF GO
 refine n1 ?_
 refine c_7 ?_
 have EW := q_0 (q_0 (EV.x_3 106 5) (fun _ => Value.slice none 0 0) 1 (brkN (b.tabs.take 0)) (brkC (b.tabs.take 0))) (fun _ => Value.slice none 0 0) 2 (k_6 (b.tabs.take 0)) (k_5 (b.tabs.take 0)); clear EV
 have EH := EG.as [(4, (Value.int .i64 0)), (3, (bptr D 0)), (2, (bptr E 0)), (1, (bptr F 0))] rfl; clear EG
 refine h_3 (G := Nat) (fun (k : Nat) a_ w_ => ∃ vt_ : Value, ∃ lr_ : Nat → Value, ∃ lb_ : Nat → Value, Fr 116 [] [(4, (Value.int .i64 (k : Int))), (3, (bptr D 0)), (2, (bptr E 0)), (1, (bptr F 0))] a_ ∧ Sep NoB w w_ [(slsR true ((b.tabs.take k).length) lr_ 2 (k_6 (b.tabs.take k)) (k_5 (b.tabs.take k))), (slsR true ((b.tabs.take k).length) lb_ 1 (brkN (b.tabs.take k)) (brkC (b.tabs.take k))), (row vt_ 106 5 ((b.tabs.take k).length) (m_3 lr_ lb_ (b.tabs.take k))), (blk D 37 [(Value.int .i64 b.scales), vt_, (Value.slice none 0 0)]), (blk E 37 [(Value.int .i64 0), (Value.slice none 0 0), (Value.slice none 0 0)]), (blk F 25 [(Value.int .i64 b.scales), vt, vm]), (d_8 false vt lr lb b.tabs), (e_6 false vm lk b.macs)] ∧ (k ≤ b.tabs.length)) (fun k => b.tabs.length - k) 0 ⟨(Value.slice none 0 0), (fun _ => Value.slice none 0 0), (fun _ => Value.slice none 0 0), EH.as _ rfl, (EW.i_4 (i := 2) rfl (by rfl) (by rfl)), by omega⟩ ?_
 clear EH EW GP
 rintro k GQ Go ⟨vt_, lr_, lb_, Cp, U, hk⟩
 have htk : (b.tabs.take k).length = k := by rw [List.length_take]; omega
 refine b_8 ?_
 refine m2 ?_
 refine s1 Cp (a_1 rfl (Cp.ev rfl)) fun GR Cq => ?_; clear Cp GQ
 refine s1 Cq (a_3 rfl p_6 (Cq.ev rfl)) fun GS Cr => ?_; clear Cq GR
 refine s1 Cr (a_2 rfl ab_2 (Cr.ev rfl) (U.bk 5 rfl) rfl) fun GT Cs => ?_; clear Cr GS
 refine s1 Cs (d_6 rfl ab_3 (Cs.ev rfl) (c_1 (U.ok 6 _ rfl)).tabs) fun GU Bg => ?_; clear Cs GT
 refine s1 Bg (f_8 rfl (Bg.ev rfl) (Bg.ev rfl)) fun Ew T => ?_; clear Bg GU
 refine n1 ?_
 by_cases Ec : (k : Int) < (b.tabs.length : Int)
 ·skip
  rw [decide_eq_true Ec] at T
  have htkk := hth.tab k
  refine c_3 T rfl ?_
  refine d_0 ?_
  refine b_0 ?_
  refine b_8 ?_
  refine c_7 ?_
  refine m2 ?_
  refine s1 T (a_3 rfl p_6 (T.ev rfl)) fun GV Ct => ?_; clear T Ew
  refine s1 Ct (a_2 rfl ab_2 (Ct.ev rfl) (U.bk 5 rfl) rfl) fun GW Cu => ?_; clear Ct GV
  refine s1 Cu (a_1 rfl (Cu.ev rfl)) fun GX Bh => ?_; clear Cu GW
  refine s1 Bh (b_3 rfl ab_3 y_3 (Bh.ev rfl) (i := k) (Bh.ev rfl) (c_1 (U.ok 6 _ rfl)).tabs (by decide) (by omega)) fun GY Cv => ?_; clear Bh GX
  refine s1 Cv (e_7 rfl y_3 (Cv.ev rfl) (c_1 (U.ok 6 _ rfl)).tabs (u_5 (by omega)) rfl (by decide)) fun GZ EI => ?_; clear Cv GY
  refine s2 EI (e_4 U rfl ze_46 (cs := [(Value.int .i64 0), (Value.int .i64 0), (Value.slice none 0 0), (Value.slice none 0 0), (Value.int .i64 0)]) rfl) ?_
  rintro HB _ HF ⟨J, rfl, Bt⟩ Bi; clear EI U GZ
  refine s7 Bi (c_2 Bt rfl y_3 (Bi.ev rfl) (Bi.ev rfl) (i := 0) rfl (vs := [(Value.int .i64 ((b.tabs.getD k tab0).frm)), (Value.int .i64 ((b.tabs.getD k tab0).dst)), (lr k), (lb k), (Value.int .i64 ((b.tabs.getD k tab0).err))]) rfl rfl (i_3 rfl (i_3 rfl (i_3 (SlAt.one ((c_1 (Bt.ok 7 _ rfl)).row (i := k) (by omega))) (i_3 (SlAt.one ((c_1 (Bt.ok 7 _ rfl)).brk (i := k) (by omega))) (i_3 rfl v_3))))) (Nat.le_of_ble_eq_true rfl)) ?_
  intro _ Gp EX EJ; clear Bi
  have EY : Sep NoB w Gp [(blk J 46 [(Value.int .i64 ((b.tabs.getD k tab0).frm)), (Value.int .i64 ((b.tabs.getD k tab0).dst)), (lr k), (lb k), (Value.int .i64 ((b.tabs.getD k tab0).err))]), (slsR true ((b.tabs.take k).length) lr_ 2 (k_6 (b.tabs.take k)) (k_5 (b.tabs.take k))), (slsR true ((b.tabs.take k).length) lb_ 1 (brkN (b.tabs.take k)) (brkC (b.tabs.take k))), (row vt_ 106 5 ((b.tabs.take k).length) (m_3 lr_ lb_ (b.tabs.take k))), (blk D 37 [(Value.int .i64 b.scales), vt_, (Value.slice none 0 0)]), (blk E 37 [(Value.int .i64 0), (Value.slice none 0 0), (Value.slice none 0 0)]), (blk F 25 [(Value.int .i64 b.scales), vt, vm]), (d_8 false vt lr lb b.tabs), (e_6 false vm lk b.macs)] := EX; clear EX Bt
  refine n2 ?_
  have EK := EJ.as [(5, (bptr J 0)), (4, (Value.int .i64 (k : Int))), (3, (bptr D 0)), (2, (bptr E 0)), (1, (bptr F 0))] rfl; clear EJ
  have EL := EK.as [(5, (bptr J 0)), (4, (Value.int .i64 (k : Int))), (3, (bptr D 0)), (2, (bptr E 0)), (1, (bptr F 0))] rfl; clear EK
  refine w_6 mixed EL EY 11 [[], [0], [], [2], [], [4], [5], [], [7], [1, 3, 6, 8], []] [(fun (A : Nat → Value) (v_ : Value) (rs_ : List Res) => v_ = (bptr J 0) ∧ rs_ = []), (fun (A : Nat → Value) (v_ : Value) (rs_ : List Res) => v_ = (Value.int .i64 ((b.tabs.getD k tab0).frm)) ∧ rs_ = []), (fun (A : Nat → Value) (v_ : Value) (rs_ : List Res) => v_ = (bptr J 1) ∧ rs_ = []), (fun (A : Nat → Value) (v_ : Value) (rs_ : List Res) => v_ = (Value.int .i64 ((b.tabs.getD k tab0).dst)) ∧ rs_ = []), (fun (A : Nat → Value) (v_ : Value) (rs_ : List Res) => v_ = (bptr J 3) ∧ rs_ = []), (fun (A : Nat → Value) (v_ : Value) (rs_ : List Res) => v_ = (lb k) ∧ rs_ = []), (fun (A : Nat → Value) (v_ : Value) (rs_ : List Res) => True ∧ rs_ = [(row v_ 3 1 ((b.tabs.getD k tab0).brk.length) (ints ((b.tabs.getD k tab0).brk)))]), (fun (A : Nat → Value) (v_ : Value) (rs_ : List Res) => v_ = (bptr J 4) ∧ rs_ = []), (fun (A : Nat → Value) (v_ : Value) (rs_ : List Res) => v_ = (Value.int .i64 ((b.tabs.getD k tab0).err)) ∧ rs_ = []), (fun (A : Nat → Value) (v_ : Value) (rs_ : List Res) => v_ = (Value.agg #[(Value.int .i64 ((b.tabs.getD k tab0).frm)), (Value.int .i64 ((b.tabs.getD k tab0).dst)), (Value.slice none 0 0), (A 6), (Value.int .i64 ((b.tabs.getD k tab0).err))]) ∧ rs_ = []), (fun (A : Nat → Value) (v_ : Value) (rs_ : List Res) => ∃ (b10_ : Nat), v_ = (bptr b10_ 0) ∧ rs_ = [(blk b10_ 106 [(Value.int .i64 0), (Value.int .i64 0), (Value.slice none 0 0), (Value.slice none 0 0), (Value.int .i64 0)])])] (by decide +kernel) (by decide +kernel) rfl rfl ⟨(fun _ _ _ _ _ h_ => h_), (fun _ _ _ _ _ h_ => h_), (fun _ _ _ _ _ h_ => h_), (fun _ _ _ _ _ h_ => h_), (fun _ _ _ _ _ h_ => h_), (fun _ _ _ _ _ h_ => h_), (fun _ _ _ _ _ h_ => h_), (fun _ _ _ _ _ h_ => h_), (fun _ _ _ _ _ h_ => h_), (fun _ _ _ _ he_ h_ => by dsimp only at h_ ⊢; rw [← he_ 6 (by decide)]; exact h_), (fun _ _ _ _ _ h_ => h_), trivial⟩ ?_ ?_
  ·skip
   refine ⟨fun a w A hA hS hd => ?_, ?_⟩
   ·skip
    exact b_1 rfl (vv (a_3 rfl x_0 (hA.ev rfl)) (And.intro rfl rfl))
   refine ⟨fun a w A hA hS hd => ?_, ?_⟩
   ·skip
    obtain ⟨e0, E8, Cb, E1⟩ := hd 0 (by decide)
    obtain ⟨CU, CM⟩ := Cb; subst CM
    rw [CU] at e0
    exact b_1 rfl (vv (a_2 rfl ty_3 (a_7 (b_5 e0 rfl)) (hS.bk 0 rfl) rfl) (And.intro rfl rfl))
   refine ⟨fun a w A hA hS hd => ?_, ?_⟩
   ·skip
    exact b_1 rfl (vv (a_3 rfl r_6 (hA.ev rfl)) (And.intro rfl rfl))
   refine ⟨fun a w A hA hS hd => ?_, ?_⟩
   ·skip
    obtain ⟨e2, E9, Cc, E2⟩ := hd 2 (by decide)
    obtain ⟨CV, CN⟩ := Cc; subst CN
    rw [CV] at e2
    exact b_1 rfl (vv (a_2 rfl ty_3 (a_7 (b_5 e2 rfl)) (hS.bk 0 rfl) rfl) (And.intro rfl rfl))
   refine ⟨fun a w A hA hS hd => ?_, ?_⟩
   ·skip
    exact b_1 rfl (vv (a_3 rfl u_9 (hA.ev rfl)) (And.intro rfl rfl))
   refine ⟨fun a w A hA hS hd => ?_, ?_⟩
   ·skip
    obtain ⟨e4, FB, Ce, E4⟩ := hd 4 (by decide)
    obtain ⟨CX, CP⟩ := Ce; subst CP
    rw [CX] at e4
    exact b_1 rfl (vv (a_2 rfl aa_6 (a_7 (b_5 e4 rfl)) (hS.bk 0 rfl) rfl) (And.intro rfl rfl))
   refine ⟨fun a w A hA hS hd => ?_, ?_⟩
   ·skip
    obtain ⟨e5, FC, Cf, E5⟩ := hd 5 (by decide)
    obtain ⟨CY, CQ⟩ := Cf; subst CQ
    rw [CY] at e5
    exact b_1 rfl (vn (b_4 rfl en_40 (ev1 (a_7 (b_5 e5 rfl))) (list_ok ((b.tabs.getD k tab0).brk) _ _ ((c_1 (hS.ok 7 _ rfl)).brk (i := k) (by omega)) (hth.bl _))) (fun v w' h => ⟨_, And.intro trivial rfl, (Sep.start NoB _).new_row h.1 h.2, rfl⟩))
   refine ⟨fun a w A hA hS hd => ?_, ?_⟩
   ·skip
    exact b_1 rfl (vv (a_3 rfl fd_46_4 (hA.ev rfl)) (And.intro rfl rfl))
   refine ⟨fun a w A hA hS hd => ?_, ?_⟩
   ·skip
    obtain ⟨e7, FE, Ch, E6⟩ := hd 7 (by decide)
    obtain ⟨CZ, CS⟩ := Ch; subst CS
    rw [CZ] at e7
    exact b_1 rfl (vv (a_2 rfl ty_3 (a_7 (b_5 e7 rfl)) (hS.bk 0 rfl) rfl) (And.intro rfl rfl))
   refine ⟨fun a w A hA hS hd => ?_, ?_⟩
   ·skip
    obtain ⟨e1, HD, Gl, HC⟩ := hd 1 (by decide)
    obtain ⟨Gk, Gj⟩ := Gl; subst Gj
    rw [Gk] at e1
    obtain ⟨e3, FA, Cd, E3⟩ := hd 3 (by decide)
    obtain ⟨CW, CO⟩ := Cd; subst CO
    rw [CW] at e3
    obtain ⟨e6, FD, Cg, Ee⟩ := hd 6 (by decide)
    obtain ⟨D9, CR⟩ := Cg; subst CR
    have hp6_0 := Ee _ (List.mem_of_getElem? (i := 0) rfl)
    obtain ⟨e8, FF, Ci, E7⟩ := hd 8 (by decide)
    obtain ⟨Ca, CT⟩ := Ci; subst CT
    rw [Ca] at e8
    exact b_1 rfl (vv (e_5 rfl (pv4 (a_7 (b_5 e1 rfl)) (a_7 (b_5 e3 rfl)) (a_7 (b_5 e6 rfl)) (a_7 (b_5 e8 rfl))) (bd_106_0i_1i_3s_4i _ _ _ (SlAt.isSl (SlAt.d_7 hp6_0)) _)) (And.intro rfl rfl))
   refine ⟨fun a w A hA hS hd => ?_, ?_⟩
   ·skip
    exact b_1 rfl (valloc rfl ze_106 (cs := [(Value.int .i64 0), (Value.int .i64 0), (Value.slice none 0 0), (Value.slice none 0 0), (Value.int .i64 0)]) rfl (fun b_ => ⟨b_, rfl, rfl⟩))
   trivial
  intro EB Gq A rsf72 EM N C1; clear EL EY
  obtain ⟨Ac, As⟩ := N 0 (by decide)
  obtain ⟨Ak, Z⟩ := As
  obtain ⟨V, At⟩ := N 1 (by decide)
  obtain ⟨x, c⟩ := At
  obtain ⟨Ad, Au⟩ := N 2 (by decide)
  obtain ⟨Al, d⟩ := Au
  obtain ⟨Ae, Av⟩ := N 3 (by decide)
  obtain ⟨Am, e⟩ := Av
  obtain ⟨Af, Aw⟩ := N 4 (by decide)
  obtain ⟨An, f⟩ := Aw
  obtain ⟨Ag, Ax⟩ := N 5 (by decide)
  obtain ⟨Ao, g⟩ := Ax
  obtain ⟨Ah, Ay⟩ := N 6 (by decide)
  obtain ⟨Ap, n⟩ := Ay
  obtain ⟨Ai, Az⟩ := N 7 (by decide)
  obtain ⟨Aq, o⟩ := Az
  obtain ⟨Aj, A0⟩ := N 8 (by decide)
  obtain ⟨Ar, p⟩ := A0
  obtain ⟨u, A1⟩ := N 9 (by decide)
  obtain ⟨AF, r⟩ := A1
  obtain ⟨W, AE⟩ := N 10 (by decide)
  obtain ⟨b10_, t, R⟩ := AE
  have C2 : Sep NoB w Gq [(row (A 6) 3 1 ((b.tabs.getD k tab0).brk.length) (ints ((b.tabs.getD k tab0).brk))), (blk b10_ 106 [(Value.int .i64 0), (Value.int .i64 0), (Value.slice none 0 0), (Value.slice none 0 0), (Value.int .i64 0)]), (blk J 46 [(Value.int .i64 ((b.tabs.getD k tab0).frm)), (Value.int .i64 ((b.tabs.getD k tab0).dst)), (lr k), (lb k), (Value.int .i64 ((b.tabs.getD k tab0).err))]), (slsR true ((b.tabs.take k).length) lr_ 2 (k_6 (b.tabs.take k)) (k_5 (b.tabs.take k))), (slsR true ((b.tabs.take k).length) lb_ 1 (brkN (b.tabs.take k)) (brkC (b.tabs.take k))), (row vt_ 106 5 ((b.tabs.take k).length) (m_3 lr_ lb_ (b.tabs.take k))), (blk D 37 [(Value.int .i64 b.scales), vt_, (Value.slice none 0 0)]), (blk E 37 [(Value.int .i64 0), (Value.slice none 0 0), (Value.slice none 0 0)]), (blk F 25 [(Value.int .i64 b.scales), vt, vm]), (d_8 false vt lr lb b.tabs), (e_6 false vm lk b.macs)] := by rw [show catR rsf72 0 11 = ([(row (A 6) 3 1 ((b.tabs.getD k tab0).brk.length) (ints ((b.tabs.getD k tab0).brk))), (blk b10_ 106 [(Value.int .i64 0), (Value.int .i64 0), (Value.slice none 0 0), (Value.slice none 0 0), (Value.int .i64 0)])] : List Res) by (try simp only [catR, Z, c, d, e, f, g, n, o, p, r, R]); (try rfl)] at C1; exact C1
  rw [AF] at u
  have EO : Fr 116 [] [(36, (Value.agg #[(Value.int .i64 ((b.tabs.getD k tab0).frm)), (Value.int .i64 ((b.tabs.getD k tab0).dst)), (Value.slice none 0 0), (A 6), (Value.int .i64 ((b.tabs.getD k tab0).err))])), (5, (bptr J 0)), (4, (Value.int .i64 (k : Int))), (3, (bptr D 0)), (2, (bptr E 0)), (1, (bptr F 0))] EB := EM.add (b_5 u rfl); clear EM
  rw [t] at W
  have Bj : Fr 116 [] [(6, (bptr b10_ 0)), (36, (Value.agg #[(Value.int .i64 ((b.tabs.getD k tab0).frm)), (Value.int .i64 ((b.tabs.getD k tab0).dst)), (Value.slice none 0 0), (A 6), (Value.int .i64 ((b.tabs.getD k tab0).err))])), (5, (bptr J 0)), (4, (Value.int .i64 (k : Int))), (3, (bptr D 0)), (2, (bptr E 0)), (1, (bptr F 0))] EB := EO.add (b_5 W rfl); clear EO
  clear N C1 Ac V Ad Ae Af Ag Ah Ai Aj u W
  clear Z
  clear Ak
  clear c
  clear x
  clear d
  clear Al
  clear e
  clear Am
  clear f
  clear An
  clear g
  clear Ao
  clear n
  clear Ap
  clear o
  clear Aq
  clear p
  clear Ar
  clear r
  clear AF
  clear R
  clear t
  refine s7 Bj (c_2 C2 rfl l_3 (Bj.ev rfl) (Bj.ev rfl) (i := 1) rfl (vs := [(Value.int .i64 ((b.tabs.getD k tab0).frm)), (Value.int .i64 ((b.tabs.getD k tab0).dst)), (Value.slice none 0 0), (A 6), (Value.int .i64 ((b.tabs.getD k tab0).err))]) rfl rfl (i_3 rfl (i_3 rfl (i_3 rfl (i_3 (SlAt.one (SlAt.d_7 (C2.e_2 0 rfl))) (i_3 rfl v_3))))) (Nat.le_of_ble_eq_true rfl)) ?_
  intro _ Gr EZ EP; clear Bj
  have Ea : Sep NoB w Gr [(row (A 6) 3 1 ((b.tabs.getD k tab0).brk.length) (ints ((b.tabs.getD k tab0).brk))), (blk b10_ 106 [(Value.int .i64 ((b.tabs.getD k tab0).frm)), (Value.int .i64 ((b.tabs.getD k tab0).dst)), (Value.slice none 0 0), (A 6), (Value.int .i64 ((b.tabs.getD k tab0).err))]), (blk J 46 [(Value.int .i64 ((b.tabs.getD k tab0).frm)), (Value.int .i64 ((b.tabs.getD k tab0).dst)), (lr k), (lb k), (Value.int .i64 ((b.tabs.getD k tab0).err))]), (slsR true ((b.tabs.take k).length) lr_ 2 (k_6 (b.tabs.take k)) (k_5 (b.tabs.take k))), (slsR true ((b.tabs.take k).length) lb_ 1 (brkN (b.tabs.take k)) (brkC (b.tabs.take k))), (row vt_ 106 5 ((b.tabs.take k).length) (m_3 lr_ lb_ (b.tabs.take k))), (blk D 37 [(Value.int .i64 b.scales), vt_, (Value.slice none 0 0)]), (blk E 37 [(Value.int .i64 0), (Value.slice none 0 0), (Value.slice none 0 0)]), (blk F 25 [(Value.int .i64 b.scales), vt, vm]), (d_8 false vt lr lb b.tabs), (e_6 false vm lk b.macs)] := EZ; clear EZ C2
  refine n2 ?_
  refine m2 ?_
  refine s1 EP (a_0 rfl (evc _ _)) fun Ga EQ => ?_; clear EP EB
  refine n1 ?_
  refine c_7 ?_
  have Eb := Ea.x_3 107 2; clear Ea
  have ER := EQ.as [(7, (Value.int .i64 0)), (6, (bptr b10_ 0)), (5, (bptr J 0)), (4, (Value.int .i64 (k : Int))), (3, (bptr D 0)), (2, (bptr E 0)), (1, (bptr F 0))] rfl; clear EQ
  refine h_3 (G := Nat) (fun (j : Nat) a_ w_ => ∃ vr_ : Value, Fr 116 [] [(7, (Value.int .i64 (j : Int))), (6, (bptr b10_ 0)), (5, (bptr J 0)), (4, (Value.int .i64 (k : Int))), (3, (bptr D 0)), (2, (bptr E 0)), (1, (bptr F 0))] a_ ∧ Sep NoB w w_ [(row vr_ 107 2 (((b.tabs.getD k tab0).rows.take j).length) (pairs ((b.tabs.getD k tab0).rows.take j))), (row (A 6) 3 1 ((b.tabs.getD k tab0).brk.length) (ints ((b.tabs.getD k tab0).brk))), (blk b10_ 106 [(Value.int .i64 ((b.tabs.getD k tab0).frm)), (Value.int .i64 ((b.tabs.getD k tab0).dst)), vr_, (A 6), (Value.int .i64 ((b.tabs.getD k tab0).err))]), (blk J 46 [(Value.int .i64 ((b.tabs.getD k tab0).frm)), (Value.int .i64 ((b.tabs.getD k tab0).dst)), (lr k), (lb k), (Value.int .i64 ((b.tabs.getD k tab0).err))]), (slsR true ((b.tabs.take k).length) lr_ 2 (k_6 (b.tabs.take k)) (k_5 (b.tabs.take k))), (slsR true ((b.tabs.take k).length) lb_ 1 (brkN (b.tabs.take k)) (brkC (b.tabs.take k))), (row vt_ 106 5 ((b.tabs.take k).length) (m_3 lr_ lb_ (b.tabs.take k))), (blk D 37 [(Value.int .i64 b.scales), vt_, (Value.slice none 0 0)]), (blk E 37 [(Value.int .i64 0), (Value.slice none 0 0), (Value.slice none 0 0)]), (blk F 25 [(Value.int .i64 b.scales), vt, vm]), (d_8 false vt lr lb b.tabs), (e_6 false vm lk b.macs)] ∧ (j ≤ (b.tabs.getD k tab0).rows.length)) (fun j => (b.tabs.getD k tab0).rows.length - j) 0 ⟨(Value.slice none 0 0), ER.as _ rfl, (Eb.i_4 (i := 0) rfl (by rfl) (by rfl)), (Nat.zero_le _)⟩ ?_
  clear ER Eb Ga
  rintro j Gb HG ⟨vr_, Cw, Y, hkj⟩
  have hlt_j : ((b.tabs.getD k tab0).rows.take j).length ≤ 12 := by simp only [List.length_take]; omega
  refine b_8 ?_
  refine m2 ?_
  refine s1 Cw (a_1 rfl (Cw.ev rfl)) fun Gc Cx => ?_; clear Cw Gb
  refine s1 Cx (a_3 rfl g_5 (Cx.ev rfl)) fun Gd Cy => ?_; clear Cx Gc
  refine s1 Cy (a_2 rfl l_5 (Cy.ev rfl) (Y.bk 3 rfl) rfl) fun Ge Cz => ?_; clear Cy Gd
  refine s1 Cz (d_6 rfl l_6 (Cz.ev rfl) ((c_1 (Y.ok 10 _ rfl)).row (i := k) (by omega))) fun Gf Bk => ?_; clear Cz Ge
  refine s1 Bk (f_8 rfl (Bk.ev rfl) (Bk.ev rfl)) fun Gg X => ?_; clear Bk Gf
  refine n1 ?_
  by_cases Ed : (j : Int) < ((b.tabs.getD k tab0).rows.length : Int)
  ·skip
   rw [decide_eq_true Ed] at X
   refine c_3 X rfl ?_
   refine d_0 ?_
   refine b_0 ?_
   refine b_8 ?_
   refine c_7 ?_
   have ES := X.as [(7, (Value.int .i64 (j : Int))), (6, (bptr b10_ 0)), (5, (bptr J 0)), (4, (Value.int .i64 (k : Int))), (3, (bptr D 0)), (2, (bptr E 0)), (1, (bptr F 0))] rfl; clear X
   refine w_6 mixed ES Y 16 [[], [0], [], [2], [], [3, 4], [5], [6], [], [8], [], [9, 10], [11], [12], [7, 13], [14]] [(fun (C : Nat → Value) (v_ : Value) (rs_ : List Res) => v_ = (bptr b10_ 2) ∧ rs_ = []), (fun (C : Nat → Value) (v_ : Value) (rs_ : List Res) => v_ = vr_ ∧ rs_ = []), (fun (C : Nat → Value) (v_ : Value) (rs_ : List Res) => v_ = (bptr J 2) ∧ rs_ = []), (fun (C : Nat → Value) (v_ : Value) (rs_ : List Res) => v_ = (lr k) ∧ rs_ = []), (fun (C : Nat → Value) (v_ : Value) (rs_ : List Res) => v_ = (Value.int .i64 (j : Int)) ∧ rs_ = []), (fun (C : Nat → Value) (v_ : Value) (rs_ : List Res) => v_ = (eptr (lr k) (j * 2)) ∧ rs_ = []), (fun (C : Nat → Value) (v_ : Value) (rs_ : List Res) => v_ = (eptr (lr k) (j * 2 + 0)) ∧ rs_ = []), (fun (C : Nat → Value) (v_ : Value) (rs_ : List Res) => v_ = (Value.int .i64 ((((b.tabs.getD k tab0).rows).getD j (0, 0)).1)) ∧ rs_ = []), (fun (C : Nat → Value) (v_ : Value) (rs_ : List Res) => v_ = (bptr J 2) ∧ rs_ = []), (fun (C : Nat → Value) (v_ : Value) (rs_ : List Res) => v_ = (lr k) ∧ rs_ = []), (fun (C : Nat → Value) (v_ : Value) (rs_ : List Res) => v_ = (Value.int .i64 (j : Int)) ∧ rs_ = []), (fun (C : Nat → Value) (v_ : Value) (rs_ : List Res) => v_ = (eptr (lr k) (j * 2)) ∧ rs_ = []), (fun (C : Nat → Value) (v_ : Value) (rs_ : List Res) => v_ = (eptr (lr k) (j * 2 + 1)) ∧ rs_ = []), (fun (C : Nat → Value) (v_ : Value) (rs_ : List Res) => v_ = (Value.int .i64 ((((b.tabs.getD k tab0).rows).getD j (0, 0)).2)) ∧ rs_ = []), (fun (C : Nat → Value) (v_ : Value) (rs_ : List Res) => v_ = (Value.agg #[(Value.int .i64 ((((b.tabs.getD k tab0).rows).getD j (0, 0)).1)), (Value.int .i64 ((((b.tabs.getD k tab0).rows).getD j (0, 0)).2))]) ∧ rs_ = []), (fun (C : Nat → Value) (v_ : Value) (rs_ : List Res) => True ∧ rs_ = [(row v_ 107 2 1 [(Value.int .i64 ((((b.tabs.getD k tab0).rows).getD j (0, 0)).1)), (Value.int .i64 ((((b.tabs.getD k tab0).rows).getD j (0, 0)).2))])])] (by decide +kernel) (by decide +kernel) rfl rfl ⟨(fun _ _ _ _ _ h_ => h_), (fun _ _ _ _ _ h_ => h_), (fun _ _ _ _ _ h_ => h_), (fun _ _ _ _ _ h_ => h_), (fun _ _ _ _ _ h_ => h_), (fun _ _ _ _ _ h_ => h_), (fun _ _ _ _ _ h_ => h_), (fun _ _ _ _ _ h_ => h_), (fun _ _ _ _ _ h_ => h_), (fun _ _ _ _ _ h_ => h_), (fun _ _ _ _ _ h_ => h_), (fun _ _ _ _ _ h_ => h_), (fun _ _ _ _ _ h_ => h_), (fun _ _ _ _ _ h_ => h_), (fun _ _ _ _ _ h_ => h_), (fun _ _ _ _ _ h_ => h_), trivial⟩ ?_ ?_
   ·skip
    refine ⟨fun a w C hA hS hd => ?_, ?_⟩
    ·skip
     exact b_1 rfl (vv (a_3 rfl j_3 (hA.ev rfl)) (And.intro rfl rfl))
    refine ⟨fun a w C hA hS hd => ?_, ?_⟩
    ·skip
     obtain ⟨e0, E8, Cb, E1⟩ := hd 0 (by decide)
     obtain ⟨CU, CM⟩ := Cb; subst CM
     rw [CU] at e0
     exact b_1 rfl (vv (a_2 rfl n_9 (a_7 (b_5 e0 rfl)) (hS.bk 2 rfl) rfl) (And.intro rfl rfl))
    refine ⟨fun a w C hA hS hd => ?_, ?_⟩
    ·skip
     exact b_1 rfl (vv (a_3 rfl g_5 (hA.ev rfl)) (And.intro rfl rfl))
    refine ⟨fun a w C hA hS hd => ?_, ?_⟩
    ·skip
     obtain ⟨e2, E9, Cc, E2⟩ := hd 2 (by decide)
     obtain ⟨CV, CN⟩ := Cc; subst CN
     rw [CV] at e2
     exact b_1 rfl (vv (a_2 rfl l_5 (a_7 (b_5 e2 rfl)) (hS.bk 3 rfl) rfl) (And.intro rfl rfl))
    refine ⟨fun a w C hA hS hd => ?_, ?_⟩
    ·skip
     exact b_1 rfl (vv (a_1 rfl (hA.ev rfl)) (And.intro rfl rfl))
    refine ⟨fun a w C hA hS hd => ?_, ?_⟩
    ·skip
     obtain ⟨e3, FA, Cd, E3⟩ := hd 3 (by decide)
     obtain ⟨CW, CO⟩ := Cd; subst CO
     rw [CW] at e3
     obtain ⟨e4, FB, Ce, E4⟩ := hd 4 (by decide)
     obtain ⟨CX, CP⟩ := Ce; subst CP
     rw [CX] at e4
     exact b_1 rfl (vv (b_3 rfl l_6 n_3 (a_7 (b_5 e3 rfl)) (i := j) (a_7 (b_5 e4 rfl)) ((c_1 (hS.ok 10 _ rfl)).row (i := k) (by omega)) (by decide) (by omega)) (And.intro rfl rfl))
    refine ⟨fun a w C hA hS hd => ?_, ?_⟩
    ·skip
     obtain ⟨e5, FC, Cf, E5⟩ := hd 5 (by decide)
     obtain ⟨CY, CQ⟩ := Cf; subst CQ
     rw [CY] at e5
     exact b_1 rfl (vv (d_1 rfl l_2 (a_7 (b_5 e5 rfl)) ((c_1 (hS.ok 10 _ rfl)).row (i := k) (by omega)) (by rw [(((c_1 (hS.ok 10 _ rfl)).row (i := k) (by omega))).1]; omega)) (And.intro rfl rfl))
    refine ⟨fun a w C hA hS hd => ?_, ?_⟩
    ·skip
     obtain ⟨e6, FD, Cg, Ee⟩ := hd 6 (by decide)
     obtain ⟨D9, CR⟩ := Cg; subst CR
     rw [D9] at e6
     exact b_1 rfl (vv (c_4 rfl ty_3 (a_7 (b_5 e6 rfl)) ((c_1 (hS.ok 10 _ rfl)).row (i := k) (by omega)) (f_7 (by omega))) (And.intro rfl rfl))
    refine ⟨fun a w C hA hS hd => ?_, ?_⟩
    ·skip
     exact b_1 rfl (vv (a_3 rfl g_5 (hA.ev rfl)) (And.intro rfl rfl))
    refine ⟨fun a w C hA hS hd => ?_, ?_⟩
    ·skip
     obtain ⟨e8, FF, Ci, E7⟩ := hd 8 (by decide)
     obtain ⟨Ca, CT⟩ := Ci; subst CT
     rw [Ca] at e8
     exact b_1 rfl (vv (a_2 rfl l_5 (a_7 (b_5 e8 rfl)) (hS.bk 3 rfl) rfl) (And.intro rfl rfl))
    refine ⟨fun a w C hA hS hd => ?_, ?_⟩
    ·skip
     exact b_1 rfl (vv (a_1 rfl (hA.ev rfl)) (And.intro rfl rfl))
    refine ⟨fun a w C hA hS hd => ?_, ?_⟩
    ·skip
     obtain ⟨e9, Gm, Eh, Gi⟩ := hd 9 (by decide)
     obtain ⟨Eg, Ef⟩ := Eh; subst Ef
     rw [Eg] at e9
     obtain ⟨CA, GB, DD, F3⟩ := hd 10 (by decide)
     obtain ⟨C8, C3⟩ := DD; subst C3
     rw [C8] at CA
     exact b_1 rfl (vv (b_3 rfl l_6 n_3 (a_7 (b_5 e9 rfl)) (i := j) (a_7 (b_5 CA rfl)) ((c_1 (hS.ok 10 _ rfl)).row (i := k) (by omega)) (by decide) (by omega)) (And.intro rfl rfl))
    refine ⟨fun a w C hA hS hd => ?_, ?_⟩
    ·skip
     obtain ⟨CB, GC, DE, F4⟩ := hd 11 (by decide)
     obtain ⟨C9, C4⟩ := DE; subst C4
     rw [C9] at CB
     exact b_1 rfl (vv (d_1 rfl n_1 (a_7 (b_5 CB rfl)) ((c_1 (hS.ok 10 _ rfl)).row (i := k) (by omega)) (by rw [(((c_1 (hS.ok 10 _ rfl)).row (i := k) (by omega))).1]; omega)) (And.intro rfl rfl))
    refine ⟨fun a w C hA hS hd => ?_, ?_⟩
    ·skip
     obtain ⟨CC, GD, DF, F5⟩ := hd 12 (by decide)
     obtain ⟨DA, C5⟩ := DF; subst C5
     rw [DA] at CC
     exact b_1 rfl (vv (c_4 rfl ty_3 (a_7 (b_5 CC rfl)) ((c_1 (hS.ok 10 _ rfl)).row (i := k) (by omega)) (h_2 (by omega))) (And.intro rfl rfl))
    refine ⟨fun a w C hA hS hd => ?_, ?_⟩
    ·skip
     obtain ⟨e7, FE, Ch, E6⟩ := hd 7 (by decide)
     obtain ⟨CZ, CS⟩ := Ch; subst CS
     rw [CZ] at e7
     obtain ⟨CD, GE, DG, F6⟩ := hd 13 (by decide)
     obtain ⟨DB, C6⟩ := DG; subst C6
     rw [DB] at CD
     exact b_1 rfl (vv (e_5 rfl (pv2 (a_7 (b_5 e7 rfl)) (a_7 (b_5 CD rfl))) (m_5 _ _)) (And.intro rfl rfl))
    refine ⟨fun a w C hA hS hd => ?_, ?_⟩
    ·skip
     obtain ⟨CE, GF, DH, F7⟩ := hd 14 (by decide)
     obtain ⟨DC, C7⟩ := DH; subst C7
     rw [DC] at CE
     exact b_1 rfl (vblt rfl (pv1 (a_7 (b_5 CE rfl))) k_4 i_6 y_6 (by decide) (cs := [(Value.int .i64 ((((b.tabs.getD k tab0).rows).getD j (0, 0)).1)), (Value.int .i64 ((((b.tabs.getD k tab0).rows).getD j (0, 0)).2))]) (bs_107_1_0iia _ _) rfl (by decide) (fun _ => And.intro trivial rfl))
    trivial
   intro Cj GG C rsf106 DJ I Bl; clear ES Y
   obtain ⟨Ac, As⟩ := I 0 (by decide)
   obtain ⟨Ak, Z⟩ := As
   obtain ⟨V, At⟩ := I 1 (by decide)
   obtain ⟨x, c⟩ := At
   obtain ⟨Ad, Au⟩ := I 2 (by decide)
   obtain ⟨Al, d⟩ := Au
   obtain ⟨Ae, Av⟩ := I 3 (by decide)
   obtain ⟨Am, e⟩ := Av
   obtain ⟨Af, Aw⟩ := I 4 (by decide)
   obtain ⟨An, f⟩ := Aw
   obtain ⟨Ag, Ax⟩ := I 5 (by decide)
   obtain ⟨Ao, g⟩ := Ax
   obtain ⟨Ah, Ay⟩ := I 6 (by decide)
   obtain ⟨Ap, n⟩ := Ay
   obtain ⟨Ai, Az⟩ := I 7 (by decide)
   obtain ⟨Aq, o⟩ := Az
   obtain ⟨Aj, A0⟩ := I 8 (by decide)
   obtain ⟨Ar, p⟩ := A0
   obtain ⟨u, A1⟩ := I 9 (by decide)
   obtain ⟨AF, r⟩ := A1
   obtain ⟨W, AE⟩ := I 10 (by decide)
   obtain ⟨t, R⟩ := AE
   obtain ⟨Bu, B3⟩ := I 11 (by decide)
   obtain ⟨By, z⟩ := B3
   obtain ⟨Bv, B4⟩ := I 12 (by decide)
   obtain ⟨Bz, AA⟩ := B4
   obtain ⟨Bw, B5⟩ := I 13 (by decide)
   obtain ⟨B0, AB⟩ := B5
   obtain ⟨Bx, B6⟩ := I 14 (by decide)
   obtain ⟨B1, AC⟩ := B6
   obtain ⟨Ab, B7⟩ := I 15 (by decide)
   obtain ⟨B2, AD⟩ := B7
   have Bm : Sep NoB w GG [(row (C 15) 107 2 1 [(Value.int .i64 ((((b.tabs.getD k tab0).rows).getD j (0, 0)).1)), (Value.int .i64 ((((b.tabs.getD k tab0).rows).getD j (0, 0)).2))]), (row vr_ 107 2 (((b.tabs.getD k tab0).rows.take j).length) (pairs ((b.tabs.getD k tab0).rows.take j))), (row (A 6) 3 1 ((b.tabs.getD k tab0).brk.length) (ints ((b.tabs.getD k tab0).brk))), (blk b10_ 106 [(Value.int .i64 ((b.tabs.getD k tab0).frm)), (Value.int .i64 ((b.tabs.getD k tab0).dst)), vr_, (A 6), (Value.int .i64 ((b.tabs.getD k tab0).err))]), (blk J 46 [(Value.int .i64 ((b.tabs.getD k tab0).frm)), (Value.int .i64 ((b.tabs.getD k tab0).dst)), (lr k), (lb k), (Value.int .i64 ((b.tabs.getD k tab0).err))]), (slsR true ((b.tabs.take k).length) lr_ 2 (k_6 (b.tabs.take k)) (k_5 (b.tabs.take k))), (slsR true ((b.tabs.take k).length) lb_ 1 (brkN (b.tabs.take k)) (brkC (b.tabs.take k))), (row vt_ 106 5 ((b.tabs.take k).length) (m_3 lr_ lb_ (b.tabs.take k))), (blk D 37 [(Value.int .i64 b.scales), vt_, (Value.slice none 0 0)]), (blk E 37 [(Value.int .i64 0), (Value.slice none 0 0), (Value.slice none 0 0)]), (blk F 25 [(Value.int .i64 b.scales), vt, vm]), (d_8 false vt lr lb b.tabs), (e_6 false vm lk b.macs)] := by rw [show catR rsf106 0 16 = ([(row (C 15) 107 2 1 [(Value.int .i64 ((((b.tabs.getD k tab0).rows).getD j (0, 0)).1)), (Value.int .i64 ((((b.tabs.getD k tab0).rows).getD j (0, 0)).2))])] : List Res) by (try simp only [catR, Z, c, d, e, f, g, n, o, p, r, R, z, AA, AB, AC, AD]); (try rfl)] at Bl; exact Bl
   rw [x] at V
   have DK : Fr 116 [] [(45, vr_), (7, (Value.int .i64 (j : Int))), (6, (bptr b10_ 0)), (5, (bptr J 0)), (4, (Value.int .i64 (k : Int))), (3, (bptr D 0)), (2, (bptr E 0)), (1, (bptr F 0))] Cj := DJ.add (b_5 V rfl); clear DJ
   have AI : Fr 116 [] [(59, (C 15)), (45, vr_), (7, (Value.int .i64 (j : Int))), (6, (bptr b10_ 0)), (5, (bptr J 0)), (4, (Value.int .i64 (k : Int))), (3, (bptr D 0)), (2, (bptr E 0)), (1, (bptr F 0))] Cj := DK.add (b_5 Ab rfl); clear DK
   clear I Bl Ac V Ad Ae Af Ag Ah Ai Aj u W Bu Bv Bw Bx Ab
   clear Z
   clear Ak
   clear c
   clear x
   clear d
   clear Al
   clear e
   clear Am
   clear f
   clear An
   clear g
   clear Ao
   clear n
   clear Ap
   clear o
   clear Aq
   clear p
   clear Ar
   clear r
   clear AF
   clear R
   clear t
   clear z
   clear By
   clear AA
   clear Bz
   clear AB
   clear B0
   clear AC
   clear B1
   clear AD
   clear B2
   refine s2 AI (p_0 Bm rfl k_4 el_107 (AI.ev rfl) (AI.ev rfl) (i := 1) rfl (SlAt.d_7 (Bm.e_2 0 rfl)) rfl (by simp only [maxLen]; omega) (by omega)) ?_
   intro FG AG G1 Da A2
   have AW := Da.i_4 (i := 1) rfl (n' := (((b.tabs.getD k tab0).rows.take j) ++ [(b.tabs.getD k tab0).rows.getD j (0, 0)]).length) (xs' := (pairs (((b.tabs.getD k tab0).rows.take j) ++ [(b.tabs.getD k tab0).rows.getD j (0, 0)]))) (by simp) (by simp [pairs]); clear Da AI Bm Cj
   refine s1 A2 (a_3 rfl j_3 (A2.ev rfl)) fun FH AJ => ?_; clear A2 FG
   refine s7 AJ (c_2 AW rfl n_9 (AJ.ev rfl) (AJ.ev rfl) (i := 3) rfl (vs := [AG]) (isSl_cells (SlAt.isSl (SlAt.d_7 (AW.e_2 1 rfl)))) rfl (i_3 (SlAt.one (SlAt.d_7 (AW.e_2 1 rfl))) v_3) (Nat.le_of_ble_eq_true rfl)) ?_
   intro _ Ei Db A3; clear AJ
   have Dc : Sep NoB w Ei [(row (C 15) 107 2 1 [(Value.int .i64 ((((b.tabs.getD k tab0).rows).getD j (0, 0)).1)), (Value.int .i64 ((((b.tabs.getD k tab0).rows).getD j (0, 0)).2))]), (row AG 107 2 ((((b.tabs.getD k tab0).rows.take j) ++ [(b.tabs.getD k tab0).rows.getD j (0, 0)]).length) (pairs (((b.tabs.getD k tab0).rows.take j) ++ [(b.tabs.getD k tab0).rows.getD j (0, 0)]))), (row (A 6) 3 1 ((b.tabs.getD k tab0).brk.length) (ints ((b.tabs.getD k tab0).brk))), (blk b10_ 106 [(Value.int .i64 ((b.tabs.getD k tab0).frm)), (Value.int .i64 ((b.tabs.getD k tab0).dst)), AG, (A 6), (Value.int .i64 ((b.tabs.getD k tab0).err))]), (blk J 46 [(Value.int .i64 ((b.tabs.getD k tab0).frm)), (Value.int .i64 ((b.tabs.getD k tab0).dst)), (lr k), (lb k), (Value.int .i64 ((b.tabs.getD k tab0).err))]), (slsR true ((b.tabs.take k).length) lr_ 2 (k_6 (b.tabs.take k)) (k_5 (b.tabs.take k))), (slsR true ((b.tabs.take k).length) lb_ 1 (brkN (b.tabs.take k)) (brkC (b.tabs.take k))), (row vt_ 106 5 ((b.tabs.take k).length) (m_3 lr_ lb_ (b.tabs.take k))), (blk D 37 [(Value.int .i64 b.scales), vt_, (Value.slice none 0 0)]), (blk E 37 [(Value.int .i64 0), (Value.slice none 0 0), (Value.slice none 0 0)]), (blk F 25 [(Value.int .i64 b.scales), vt, vm]), (d_8 false vt lr lb b.tabs), (e_6 false vm lk b.macs)] := Db; clear Db AW
   refine e_9 ?_
   refine h_0 ?_
   refine b_0 ?_
   refine a_5 ?_
   refine s1 A3 (a_1 rfl (A3.ev rfl)) fun FI A4 => ?_; clear A3 FH
   refine s1 A4 (f_4 rfl (A4.ev rfl) (evc _ _) (by omega) (by omega)) fun FJ A5 => ?_; clear A4 FI
   refine s1 A5 (a_0 rfl (A5.ev rfl)) fun Gt El => ?_; clear A5 FJ
   refine e_9 ?_
   have Ep : Sep NoB w Ei [(row AG 107 2 ((((b.tabs.getD k tab0).rows.take j) ++ [(b.tabs.getD k tab0).rows.getD j (0, 0)]).length) (pairs (((b.tabs.getD k tab0).rows.take j) ++ [(b.tabs.getD k tab0).rows.getD j (0, 0)]))), (row (A 6) 3 1 ((b.tabs.getD k tab0).brk.length) (ints ((b.tabs.getD k tab0).brk))), (blk b10_ 106 [(Value.int .i64 ((b.tabs.getD k tab0).frm)), (Value.int .i64 ((b.tabs.getD k tab0).dst)), AG, (A 6), (Value.int .i64 ((b.tabs.getD k tab0).err))]), (blk J 46 [(Value.int .i64 ((b.tabs.getD k tab0).frm)), (Value.int .i64 ((b.tabs.getD k tab0).dst)), (lr k), (lb k), (Value.int .i64 ((b.tabs.getD k tab0).err))]), (slsR true ((b.tabs.take k).length) lr_ 2 (k_6 (b.tabs.take k)) (k_5 (b.tabs.take k))), (slsR true ((b.tabs.take k).length) lb_ 1 (brkN (b.tabs.take k)) (brkC (b.tabs.take k))), (row vt_ 106 5 ((b.tabs.take k).length) (m_3 lr_ lb_ (b.tabs.take k))), (blk D 37 [(Value.int .i64 b.scales), vt_, (Value.slice none 0 0)]), (blk E 37 [(Value.int .i64 0), (Value.slice none 0 0), (Value.slice none 0 0)]), (blk F 25 [(Value.int .i64 b.scales), vt, vm]), (d_8 false vt lr lb b.tabs), (e_6 false vm lk b.macs)] := Dc.keep [1, 2, 3, 4, 5, 6, 7, 8, 9, 10, 11, 12] (by decide) _ rfl rfl; clear Dc
   exact b_0 ⟨j + 1, ⟨AG, El.as _ rfl, (Ep.i_4 (i := 0) rfl (by rw [r_1 (by omega)]) (by rw [r_1 (by omega)])), by omega⟩, by omega⟩
  skip
  rw [decide_eq_false Ed] at X
  refine b_7 X rfl ?_
  refine g_8 ?_
  refine b_6 ?_
  refine b_6 ?_
  refine f_5 ?_
  refine b_0 ?_
  have A6 := X.as [(6, (bptr b10_ 0)), (4, (Value.int .i64 (k : Int))), (3, (bptr D 0)), (2, (bptr E 0)), (1, (bptr F 0))] rfl; clear X
  refine a_5 ?_
  refine s1 A6 (a_3 rfl w_9 (A6.ev rfl)) fun FK A7 => ?_; clear A6 Gg
  refine s1 A7 (a_2 rfl ty_34 (A7.ev rfl) (Y.bk 7 rfl) rfl) fun FL A8 => ?_; clear A7 FK
  refine s1 A8 (c_5 rfl l_3 (A8.ev rfl) (Y.bk 2 rfl) (l := [(Value.int .i64 ((b.tabs.getD k tab0).frm)), (Value.int .i64 ((b.tabs.getD k tab0).dst)), vr_, (A 6), (Value.int .i64 ((b.tabs.getD k tab0).err))]) rfl rfl) fun FM A9 => ?_; clear A8 FL
  refine s2 A9 (h_8 Y rfl (pv1 (A9.ev rfl)) z_8 l_3 ze_106 (by decide) (cs := [(Value.int .i64 ((b.tabs.getD k tab0).frm)), (Value.int .i64 ((b.tabs.getD k tab0).dst)), vr_, (A 6), (Value.int .i64 ((b.tabs.getD k tab0).err))]) (bs_106_1_0iivvia _ _ _ _ _)) ?_
  rintro FN _ G2 ⟨Cl, rfl, y⟩ AK; clear A9 Y FM
  refine s2 AK (p_0 y rfl z_8 el_106 (AK.ev rfl) (AK.ev rfl) (i := 7) rfl (SlAt.of_blk (y.bk 0 rfl) rfl (Nat.le_of_ble_eq_true rfl)) (i_3 rfl (i_3 rfl (i_3 (SlAt.one (SlAt.d_7 (y.e_2 1 rfl))) (i_3 (SlAt.one (SlAt.d_7 (y.e_2 2 rfl))) (i_3 rfl v_3))))) (by simp only [maxLen]; omega) (by omega)) ?_
  intro FO S G3 Dd BA
  have AX := Dd.i_4 (i := 7) rfl (n' := ((b.tabs.take k) ++ [(b.tabs.getD k tab0)]).length) (xs' := (m_3 (putV (b.tabs.take k).length lr_ vr_) (putV (b.tabs.take k).length lb_ (A 6)) ((b.tabs.take k) ++ [(b.tabs.getD k tab0)]))) (by simp) (tabs_snoc (b.tabs.getD k tab0) vr_ (A 6)); clear Dd AK y FN
  refine s1 BA (a_3 rfl w_9 (BA.ev rfl)) fun FP AL => ?_; clear BA FO
  refine s7 AL (c_2 AX rfl ty_34 (AL.ev rfl) (AL.ev rfl) (i := 8) rfl (vs := [S]) (isSl_cells (SlAt.isSl (SlAt.d_7 (AX.e_2 7 rfl)))) rfl (i_3 (SlAt.one (SlAt.d_7 (AX.e_2 7 rfl))) v_3) (Nat.le_of_ble_eq_true rfl)) ?_
  intro _ B8 De DL; clear AL
  have Df : Sep NoB w B8 [(blk Cl 106 [(Value.int .i64 ((b.tabs.getD k tab0).frm)), (Value.int .i64 ((b.tabs.getD k tab0).dst)), vr_, (A 6), (Value.int .i64 ((b.tabs.getD k tab0).err))]), (row vr_ 107 2 (((b.tabs.getD k tab0).rows.take j).length) (pairs ((b.tabs.getD k tab0).rows.take j))), (row (A 6) 3 1 ((b.tabs.getD k tab0).brk.length) (ints ((b.tabs.getD k tab0).brk))), (blk b10_ 106 [(Value.int .i64 ((b.tabs.getD k tab0).frm)), (Value.int .i64 ((b.tabs.getD k tab0).dst)), vr_, (A 6), (Value.int .i64 ((b.tabs.getD k tab0).err))]), (blk J 46 [(Value.int .i64 ((b.tabs.getD k tab0).frm)), (Value.int .i64 ((b.tabs.getD k tab0).dst)), (lr k), (lb k), (Value.int .i64 ((b.tabs.getD k tab0).err))]), (slsR true ((b.tabs.take k).length) lr_ 2 (k_6 (b.tabs.take k)) (k_5 (b.tabs.take k))), (slsR true ((b.tabs.take k).length) lb_ 1 (brkN (b.tabs.take k)) (brkC (b.tabs.take k))), (row S 106 5 (((b.tabs.take k) ++ [(b.tabs.getD k tab0)]).length) (m_3 (putV (b.tabs.take k).length lr_ vr_) (putV (b.tabs.take k).length lb_ (A 6)) ((b.tabs.take k) ++ [(b.tabs.getD k tab0)]))), (blk D 37 [(Value.int .i64 b.scales), S, (Value.slice none 0 0)]), (blk E 37 [(Value.int .i64 0), (Value.slice none 0 0), (Value.slice none 0 0)]), (blk F 25 [(Value.int .i64 b.scales), vt, vm]), (d_8 false vt lr lb b.tabs), (e_6 false vm lk b.macs)] := De; clear De AX
  refine e_9 ?_
  refine h_0 ?_
  refine b_0 ?_
  have BB := DL.as [(4, (Value.int .i64 (k : Int))), (3, (bptr D 0)), (2, (bptr E 0)), (1, (bptr F 0))] rfl; clear DL
  refine a_5 ?_
  refine s1 BB (a_1 rfl (BB.ev rfl)) fun FQ BC => ?_; clear BB FP
  refine s1 BC (f_4 rfl (BC.ev rfl) (evc _ _) (by omega) (by omega)) fun FSa BD => ?_; clear BC FQ
  refine s1 BD (a_0 rfl (BD.ev rfl)) fun Gu Em => ?_; clear BD FSa
  refine e_9 ?_
  have Dg := Df.i_4 (i := 1) rfl (n' := (b.tabs.getD k tab0).rows.length) (xs' := pairs (b.tabs.getD k tab0).rows) (by rw [List.take_of_length_le (by omega)]) (by rw [List.take_of_length_le (by omega)]); clear Df
  have Dh : Sep NoB w B8 [(row vr_ 107 2 ((b.tabs.getD k tab0).rows.length) (pairs ((b.tabs.getD k tab0).rows))), (slsR true ((b.tabs.take k).length) lr_ 2 (k_6 (b.tabs.take k)) (k_5 (b.tabs.take k))), (blk Cl 106 [(Value.int .i64 ((b.tabs.getD k tab0).frm)), (Value.int .i64 ((b.tabs.getD k tab0).dst)), vr_, (A 6), (Value.int .i64 ((b.tabs.getD k tab0).err))]), (row (A 6) 3 1 ((b.tabs.getD k tab0).brk.length) (ints ((b.tabs.getD k tab0).brk))), (blk b10_ 106 [(Value.int .i64 ((b.tabs.getD k tab0).frm)), (Value.int .i64 ((b.tabs.getD k tab0).dst)), vr_, (A 6), (Value.int .i64 ((b.tabs.getD k tab0).err))]), (blk J 46 [(Value.int .i64 ((b.tabs.getD k tab0).frm)), (Value.int .i64 ((b.tabs.getD k tab0).dst)), (lr k), (lb k), (Value.int .i64 ((b.tabs.getD k tab0).err))]), (slsR true ((b.tabs.take k).length) lb_ 1 (brkN (b.tabs.take k)) (brkC (b.tabs.take k))), (row S 106 5 (((b.tabs.take k) ++ [(b.tabs.getD k tab0)]).length) (m_3 (putV (b.tabs.take k).length lr_ vr_) (putV (b.tabs.take k).length lb_ (A 6)) ((b.tabs.take k) ++ [(b.tabs.getD k tab0)]))), (blk D 37 [(Value.int .i64 b.scales), S, (Value.slice none 0 0)]), (blk E 37 [(Value.int .i64 0), (Value.slice none 0 0), (Value.slice none 0 0)]), (blk F 25 [(Value.int .i64 b.scales), vt, vm]), (d_8 false vt lr lb b.tabs), (e_6 false vm lk b.macs)] := Dg.keep [1, 5, 0, 2, 3, 4, 6, 7, 8, 9, 10, 11, 12] (by decide) _ rfl rfl; clear Dg
  have Di := k_7 (k' := k_6 (b.tabs.take (k + 1))) (c' := k_5 (b.tabs.take (k + 1))) Dh (rowsN_new (by omega)).1 (rowsN_new (by omega)).2.1 (fun i hi => (rowsN_old i hi).1); clear Dh
  have Dj := sep_sls_say (i := 0) (n' := (b.tabs.take (k + 1)).length) (v' := (putV (b.tabs.take k).length lr_ vr_)) (k' := k_6 (b.tabs.take (k + 1))) (c' := k_5 (b.tabs.take (k + 1))) Di rfl (take_len1 (by omega)) (fun _ _ => ⟨rfl, rfl, rfl⟩); clear Di
  have Dk : Sep NoB w B8 [(row (A 6) 3 1 ((b.tabs.getD k tab0).brk.length) (ints ((b.tabs.getD k tab0).brk))), (slsR true ((b.tabs.take k).length) lb_ 1 (brkN (b.tabs.take k)) (brkC (b.tabs.take k))), (slsR true ((b.tabs.take (k + 1)).length) (putV (b.tabs.take k).length lr_ vr_) 2 (k_6 (b.tabs.take (k + 1))) (k_5 (b.tabs.take (k + 1)))), (blk Cl 106 [(Value.int .i64 ((b.tabs.getD k tab0).frm)), (Value.int .i64 ((b.tabs.getD k tab0).dst)), vr_, (A 6), (Value.int .i64 ((b.tabs.getD k tab0).err))]), (blk b10_ 106 [(Value.int .i64 ((b.tabs.getD k tab0).frm)), (Value.int .i64 ((b.tabs.getD k tab0).dst)), vr_, (A 6), (Value.int .i64 ((b.tabs.getD k tab0).err))]), (blk J 46 [(Value.int .i64 ((b.tabs.getD k tab0).frm)), (Value.int .i64 ((b.tabs.getD k tab0).dst)), (lr k), (lb k), (Value.int .i64 ((b.tabs.getD k tab0).err))]), (row S 106 5 (((b.tabs.take k) ++ [(b.tabs.getD k tab0)]).length) (m_3 (putV (b.tabs.take k).length lr_ vr_) (putV (b.tabs.take k).length lb_ (A 6)) ((b.tabs.take k) ++ [(b.tabs.getD k tab0)]))), (blk D 37 [(Value.int .i64 b.scales), S, (Value.slice none 0 0)]), (blk E 37 [(Value.int .i64 0), (Value.slice none 0 0), (Value.slice none 0 0)]), (blk F 25 [(Value.int .i64 b.scales), vt, vm]), (d_8 false vt lr lb b.tabs), (e_6 false vm lk b.macs)] := Dj.keep [2, 5, 0, 1, 3, 4, 6, 7, 8, 9, 10, 11] (by decide) _ rfl rfl; clear Dj
  have Dl := k_7 (k' := brkN (b.tabs.take (k + 1))) (c' := brkC (b.tabs.take (k + 1))) Dk (rowsN_new (by omega)).2.2.1 (rowsN_new (by omega)).2.2.2 (fun i hi => (rowsN_old i hi).2); clear Dk
  have Dm := sep_sls_say (i := 0) (n' := (b.tabs.take (k + 1)).length) (v' := (putV (b.tabs.take k).length lb_ (A 6))) (k' := brkN (b.tabs.take (k + 1))) (c' := brkC (b.tabs.take (k + 1))) Dl rfl (take_len1 (by omega)) (fun _ _ => ⟨rfl, rfl, rfl⟩); clear Dl
  have Eq : Sep NoB w B8 [(slsR true ((b.tabs.take (k + 1)).length) (putV (b.tabs.take k).length lr_ vr_) 2 (k_6 (b.tabs.take (k + 1))) (k_5 (b.tabs.take (k + 1)))), (slsR true ((b.tabs.take (k + 1)).length) (putV (b.tabs.take k).length lb_ (A 6)) 1 (brkN (b.tabs.take (k + 1))) (brkC (b.tabs.take (k + 1)))), (row S 106 5 (((b.tabs.take k) ++ [(b.tabs.getD k tab0)]).length) (m_3 (putV (b.tabs.take k).length lr_ vr_) (putV (b.tabs.take k).length lb_ (A 6)) ((b.tabs.take k) ++ [(b.tabs.getD k tab0)]))), (blk D 37 [(Value.int .i64 b.scales), S, (Value.slice none 0 0)]), (blk E 37 [(Value.int .i64 0), (Value.slice none 0 0), (Value.slice none 0 0)]), (blk F 25 [(Value.int .i64 b.scales), vt, vm]), (d_8 false vt lr lb b.tabs), (e_6 false vm lk b.macs)] := Dm.keep [1, 0, 5, 6, 7, 8, 9, 10] (by decide) _ rfl rfl; clear Dm
  exact b_0 ⟨k + 1, ⟨S, (putV (b.tabs.take k).length lr_ vr_), (putV (b.tabs.take k).length lb_ (A 6)), Em.as _ rfl, (Eq.i_4 (i := 2) rfl (by rw [r_1 (by omega)]) (by rw [r_1 (by omega)])), by omega⟩, by omega⟩
 skip
 rw [decide_eq_false Ec] at T
 refine b_7 T rfl ?_
 refine g_8 ?_
 refine b_6 ?_
 refine b_6 ?_
 refine f_5 ?_
 refine b_0 ?_
 refine b_8 ?_
 refine b_8 ?_
 have DM := T.as [(3, (bptr D 0)), (2, (bptr E 0)), (1, (bptr F 0))] rfl; clear T
 refine a_5 ?_
 refine s1 DM (a_0 rfl (evc _ _)) fun FT DN => ?_; clear DM Ew
 refine n1 ?_
 refine c_7 ?_
 have hkt : k = b.tabs.length := by omega
 have Bn : Sep NoB w Go [(row vt_ 106 5 ((b.tabs.take k).length) (m_3 lr_ lb_ (b.tabs.take k))), (slsR true ((b.tabs.take k).length) lr_ 2 (k_6 (b.tabs.take k)) (k_5 (b.tabs.take k))), (slsR true ((b.tabs.take k).length) lb_ 1 (brkN (b.tabs.take k)) (brkC (b.tabs.take k))), (blk D 37 [(Value.int .i64 b.scales), vt_, (Value.slice none 0 0)]), (blk E 37 [(Value.int .i64 0), (Value.slice none 0 0), (Value.slice none 0 0)]), (blk F 25 [(Value.int .i64 b.scales), vt, vm]), (d_8 false vt lr lb b.tabs), (e_6 false vm lk b.macs)] := U.keep [2, 0, 1, 3, 4, 5, 6, 7] (by decide) _ rfl rfl; clear U
 rw [hkt, List.take_length] at Bn
 have Dn := sep_tabs_join Bn; clear Bn
 have Do := q_0 (Dn.x_3 103 2) (fun _ => Value.slice none 0 0) 3 (blkN (b.macs.take 0)) (blkC (b.macs.take 0)); clear Dn
 have DO := DN.as [(8, (Value.int .i64 0)), (3, (bptr D 0)), (2, (bptr E 0)), (1, (bptr F 0))] rfl; clear DN
 refine h_3 (G := Nat) (fun (m : Nat) a_ w_ => ∃ vm_ : Value, ∃ lk_ : Nat → Value, Fr 116 [] [(8, (Value.int .i64 (m : Int))), (3, (bptr D 0)), (2, (bptr E 0)), (1, (bptr F 0))] a_ ∧ Sep NoB w w_ [(slsR true ((b.macs.take m).length) lk_ 3 (blkN (b.macs.take m)) (blkC (b.macs.take m))), (row vm_ 103 2 ((b.macs.take m).length) (n_2 lk_ (b.macs.take m))), (d_8 true vt_ lr_ lb_ b.tabs), (blk D 37 [(Value.int .i64 b.scales), vt_, vm_]), (blk E 37 [(Value.int .i64 0), (Value.slice none 0 0), (Value.slice none 0 0)]), (blk F 25 [(Value.int .i64 b.scales), vt, vm]), (d_8 false vt lr lb b.tabs), (e_6 false vm lk b.macs)] ∧ (m ≤ b.macs.length)) (fun m => b.macs.length - m) 0 ⟨(Value.slice none 0 0), (fun _ => Value.slice none 0 0), DO.as _ rfl, (Do.i_4 (i := 1) rfl (by rfl) (by rfl)), (Nat.zero_le _)⟩ ?_
 clear DO Do FT
 rintro m FU G4 ⟨vm_, lk_, BE, L, hkm⟩
 have hmtk : (b.macs.take m).length = m := by rw [List.length_take]; omega
 refine b_8 ?_
 refine m2 ?_
 refine s1 BE (a_1 rfl (BE.ev rfl)) fun FV BG => ?_; clear BE FU
 refine s1 BG (a_3 rfl o_7 (BG.ev rfl)) fun FW BH => ?_; clear BG FV
 refine s1 BH (a_2 rfl aa_4 (BH.ev rfl) (L.bk 5 rfl) rfl) fun FX BI => ?_; clear BH FW
 refine s1 BI (d_6 rfl aa_8 (BI.ev rfl) (c_8 (L.ok 7 _ rfl)).macs) fun FY AM => ?_; clear BI FX
 refine s1 AM (f_8 rfl (AM.ev rfl) (AM.ev rfl)) fun EA O => ?_; clear AM FY
 refine n1 ?_
 by_cases D5 : (m : Int) < (b.macs.length : Int)
 ·skip
  rw [decide_eq_true D5] at O
  have hmkk := hth.mac m
  refine c_3 O rfl ?_
  refine d_0 ?_
  refine b_0 ?_
  refine b_8 ?_
  refine c_7 ?_
  refine m2 ?_
  refine s1 O (a_3 rfl o_7 (O.ev rfl)) fun FZ BJ => ?_; clear O EA
  refine s1 BJ (a_2 rfl aa_4 (BJ.ev rfl) (L.bk 5 rfl) rfl) fun Fa BK => ?_; clear BJ FZ
  refine s1 BK (a_1 rfl (BK.ev rfl)) fun Fb AN => ?_; clear BK Fa
  refine s1 AN (b_3 rfl aa_8 z_2 (AN.ev rfl) (i := m) (AN.ev rfl) (c_8 (L.ok 7 _ rfl)).macs (by decide) (by omega)) fun Fc BL => ?_; clear AN Fb
  refine s1 BL (e_7 rfl z_2 (BL.ev rfl) (c_8 (L.ok 7 _ rfl)).macs (u_2 (by omega)) rfl (by decide)) fun Fd DP => ?_; clear BL Fc
  refine s2 DP (e_4 L rfl ze_61 (cs := [(Value.int .i64 0), (Value.slice none 0 0)]) rfl) ?_
  rintro Fe _ G5 ⟨K, rfl, Bo⟩ AO; clear DP L Fd
  refine s7 AO (c_2 Bo rfl z_2 (AO.ev rfl) (AO.ev rfl) (i := 0) rfl (vs := [(Value.int .i64 ((b.macs.getD m mac0).scale)), (lk m)]) rfl rfl (i_3 rfl (i_3 (SlAt.one ((c_8 (Bo.ok 8 _ rfl)).blk (i := m) (by omega))) v_3)) (Nat.le_of_ble_eq_true rfl)) ?_
  intro _ GH Dp DQ; clear AO
  have Bp : Sep NoB w GH [(blk K 61 [(Value.int .i64 ((b.macs.getD m mac0).scale)), (lk m)]), (slsR true ((b.macs.take m).length) lk_ 3 (blkN (b.macs.take m)) (blkC (b.macs.take m))), (row vm_ 103 2 ((b.macs.take m).length) (n_2 lk_ (b.macs.take m))), (d_8 true vt_ lr_ lb_ b.tabs), (blk D 37 [(Value.int .i64 b.scales), vt_, vm_]), (blk E 37 [(Value.int .i64 0), (Value.slice none 0 0), (Value.slice none 0 0)]), (blk F 25 [(Value.int .i64 b.scales), vt, vm]), (d_8 false vt lr lb b.tabs), (e_6 false vm lk b.macs)] := Dp; clear Dp Bo
  refine n2 ?_
  have BM := DQ.as [(9, (bptr K 0)), (8, (Value.int .i64 (m : Int))), (3, (bptr D 0)), (2, (bptr E 0)), (1, (bptr F 0))] rfl; clear DQ
  refine a_5 ?_
  refine s1 BM (a_3 rfl fd_61_0 (BM.ev rfl)) fun Ff BN => ?_; clear BM Fe
  refine s1 BN (a_2 rfl ty_3 (BN.ev rfl) (Bp.bk 0 rfl) rfl) fun Fg BO => ?_; clear BN Ff
  refine s1 BO (e_5 rfl (pv1 (BO.ev rfl)) (bd_103_0i _)) fun Fh DR => ?_; clear BO Fg
  refine s2 DR (e_4 Bp rfl ze_103 (cs := [(Value.int .i64 0), (Value.slice none 0 0)]) rfl) ?_
  rintro Fi _ G6 ⟨M, rfl, Dq⟩ AP; clear DR Bp Fh
  refine s7 AP (c_2 Dq rfl t_7 (AP.ev rfl) (AP.ev rfl) (i := 0) rfl (vs := [(Value.int .i64 ((b.macs.getD m mac0).scale)), (Value.slice none 0 0)]) rfl rfl (i_3 rfl (i_3 rfl v_3)) (Nat.le_of_ble_eq_true rfl)) ?_
  intro _ GI Dr DS; clear AP
  have Ds : Sep NoB w GI [(blk M 103 [(Value.int .i64 ((b.macs.getD m mac0).scale)), (Value.slice none 0 0)]), (blk K 61 [(Value.int .i64 ((b.macs.getD m mac0).scale)), (lk m)]), (slsR true ((b.macs.take m).length) lk_ 3 (blkN (b.macs.take m)) (blkC (b.macs.take m))), (row vm_ 103 2 ((b.macs.take m).length) (n_2 lk_ (b.macs.take m))), (d_8 true vt_ lr_ lb_ b.tabs), (blk D 37 [(Value.int .i64 b.scales), vt_, vm_]), (blk E 37 [(Value.int .i64 0), (Value.slice none 0 0), (Value.slice none 0 0)]), (blk F 25 [(Value.int .i64 b.scales), vt, vm]), (d_8 false vt lr lb b.tabs), (e_6 false vm lk b.macs)] := Dr; clear Dr Dq
  refine n2 ?_
  refine m2 ?_
  refine s1 DS (a_0 rfl (evc _ _)) fun Fj DT => ?_; clear DS Fi
  refine n1 ?_
  refine c_7 ?_
  have Dt := Ds.x_3 100 3; clear Ds
  have DU := DT.as [(11, (Value.int .i64 0)), (10, (bptr M 0)), (9, (bptr K 0)), (8, (Value.int .i64 (m : Int))), (3, (bptr D 0)), (2, (bptr E 0)), (1, (bptr F 0))] rfl; clear DT
  refine h_3 (G := Nat) (fun (q : Nat) a_ w_ => ∃ vk_ : Value, Fr 116 [] [(11, (Value.int .i64 (q : Int))), (10, (bptr M 0)), (9, (bptr K 0)), (8, (Value.int .i64 (m : Int))), (3, (bptr D 0)), (2, (bptr E 0)), (1, (bptr F 0))] a_ ∧ Sep NoB w w_ [(row vk_ 100 3 (((b.macs.getD m mac0).blocks.take q).length) (trips ((b.macs.getD m mac0).blocks.take q))), (blk M 103 [(Value.int .i64 ((b.macs.getD m mac0).scale)), vk_]), (blk K 61 [(Value.int .i64 ((b.macs.getD m mac0).scale)), (lk m)]), (slsR true ((b.macs.take m).length) lk_ 3 (blkN (b.macs.take m)) (blkC (b.macs.take m))), (row vm_ 103 2 ((b.macs.take m).length) (n_2 lk_ (b.macs.take m))), (d_8 true vt_ lr_ lb_ b.tabs), (blk D 37 [(Value.int .i64 b.scales), vt_, vm_]), (blk E 37 [(Value.int .i64 0), (Value.slice none 0 0), (Value.slice none 0 0)]), (blk F 25 [(Value.int .i64 b.scales), vt, vm]), (d_8 false vt lr lb b.tabs), (e_6 false vm lk b.macs)] ∧ (q ≤ (b.macs.getD m mac0).blocks.length)) (fun q => (b.macs.getD m mac0).blocks.length - q) 0 ⟨(Value.slice none 0 0), DU.as _ rfl, (Dt.i_4 (i := 0) rfl (by rfl) (by rfl)), (Nat.zero_le _)⟩ ?_
  clear DU Dt Fj
  rintro q Fk G7 ⟨vk_, BP, Q, hkq⟩
  have hlt_q : ((b.macs.getD m mac0).blocks.take q).length ≤ 12 := by simp only [List.length_take]; omega
  refine b_8 ?_
  refine m2 ?_
  refine s1 BP (a_1 rfl (BP.ev rfl)) fun Fl BQ => ?_; clear BP Fk
  refine s1 BQ (a_3 rfl v_0 (BQ.ev rfl)) fun Fm BR => ?_; clear BQ Fl
  refine s1 BR (a_2 rfl ty_59 (BR.ev rfl) (Q.bk 2 rfl) rfl) fun Fn BS => ?_; clear BR Fm
  refine s1 BS (d_6 rfl un_59 (BS.ev rfl) ((c_8 (Q.ok 10 _ rfl)).blk (i := m) (by omega))) fun Fo AQ => ?_; clear BS Fn
  refine s1 AQ (f_8 rfl (AQ.ev rfl) (AQ.ev rfl)) fun Fp P => ?_; clear AQ Fo
  refine n1 ?_
  by_cases D6 : (q : Int) < ((b.macs.getD m mac0).blocks.length : Int)
  ·skip
   rw [decide_eq_true D6] at P
   refine c_3 P rfl ?_
   refine d_0 ?_
   refine b_0 ?_
   refine b_8 ?_
   refine c_7 ?_
   have DV := P.as [(11, (Value.int .i64 (q : Int))), (10, (bptr M 0)), (9, (bptr K 0)), (8, (Value.int .i64 (m : Int))), (3, (bptr D 0)), (2, (bptr E 0)), (1, (bptr F 0))] rfl; clear P
   refine w_6 mixed DV Q 17 [[], [0], [], [2], [], [3, 4], [5], [6], [7], [], [9], [], [10, 11], [12], [13], [8, 14], [15]] [(fun (B : Nat → Value) (v_ : Value) (rs_ : List Res) => v_ = (bptr M 1) ∧ rs_ = []), (fun (B : Nat → Value) (v_ : Value) (rs_ : List Res) => v_ = vk_ ∧ rs_ = []), (fun (B : Nat → Value) (v_ : Value) (rs_ : List Res) => v_ = (bptr K 1) ∧ rs_ = []), (fun (B : Nat → Value) (v_ : Value) (rs_ : List Res) => v_ = (lk m) ∧ rs_ = []), (fun (B : Nat → Value) (v_ : Value) (rs_ : List Res) => v_ = (Value.int .i64 (q : Int)) ∧ rs_ = []), (fun (B : Nat → Value) (v_ : Value) (rs_ : List Res) => v_ = (eptr (lk m) (q * 3)) ∧ rs_ = []), (fun (B : Nat → Value) (v_ : Value) (rs_ : List Res) => v_ = (eptr (lk m) (q * 3 + 0)) ∧ rs_ = []), (fun (B : Nat → Value) (v_ : Value) (rs_ : List Res) => v_ = (Value.agg #[(Value.int .i64 ((((b.macs.getD m mac0).blocks).getD q (0, 0, 0)).1)), (Value.int .i64 ((((b.macs.getD m mac0).blocks).getD q (0, 0, 0)).2.1))]) ∧ rs_ = []), (fun (B : Nat → Value) (v_ : Value) (rs_ : List Res) => v_ = (Value.agg #[(Value.int .i64 ((((b.macs.getD m mac0).blocks).getD q (0, 0, 0)).1)), (Value.int .i64 ((((b.macs.getD m mac0).blocks).getD q (0, 0, 0)).2.1))]) ∧ rs_ = []), (fun (B : Nat → Value) (v_ : Value) (rs_ : List Res) => v_ = (bptr K 1) ∧ rs_ = []), (fun (B : Nat → Value) (v_ : Value) (rs_ : List Res) => v_ = (lk m) ∧ rs_ = []), (fun (B : Nat → Value) (v_ : Value) (rs_ : List Res) => v_ = (Value.int .i64 (q : Int)) ∧ rs_ = []), (fun (B : Nat → Value) (v_ : Value) (rs_ : List Res) => v_ = (eptr (lk m) (q * 3)) ∧ rs_ = []), (fun (B : Nat → Value) (v_ : Value) (rs_ : List Res) => v_ = (eptr (lk m) (q * 3 + 2)) ∧ rs_ = []), (fun (B : Nat → Value) (v_ : Value) (rs_ : List Res) => v_ = (Value.int .i64 ((((b.macs.getD m mac0).blocks).getD q (0, 0, 0)).2.2)) ∧ rs_ = []), (fun (B : Nat → Value) (v_ : Value) (rs_ : List Res) => v_ = (Value.agg #[(Value.int .i64 ((((b.macs.getD m mac0).blocks).getD q (0, 0, 0)).1)), (Value.int .i64 ((((b.macs.getD m mac0).blocks).getD q (0, 0, 0)).2.1)), (Value.int .i64 ((((b.macs.getD m mac0).blocks).getD q (0, 0, 0)).2.2))]) ∧ rs_ = []), (fun (B : Nat → Value) (v_ : Value) (rs_ : List Res) => True ∧ rs_ = [(row v_ 100 3 1 [(Value.int .i64 ((((b.macs.getD m mac0).blocks).getD q (0, 0, 0)).1)), (Value.int .i64 ((((b.macs.getD m mac0).blocks).getD q (0, 0, 0)).2.1)), (Value.int .i64 ((((b.macs.getD m mac0).blocks).getD q (0, 0, 0)).2.2))])])] (by decide +kernel) (by decide +kernel) rfl rfl ⟨(fun _ _ _ _ _ h_ => h_), (fun _ _ _ _ _ h_ => h_), (fun _ _ _ _ _ h_ => h_), (fun _ _ _ _ _ h_ => h_), (fun _ _ _ _ _ h_ => h_), (fun _ _ _ _ _ h_ => h_), (fun _ _ _ _ _ h_ => h_), (fun _ _ _ _ _ h_ => h_), (fun _ _ _ _ _ h_ => h_), (fun _ _ _ _ _ h_ => h_), (fun _ _ _ _ _ h_ => h_), (fun _ _ _ _ _ h_ => h_), (fun _ _ _ _ _ h_ => h_), (fun _ _ _ _ _ h_ => h_), (fun _ _ _ _ _ h_ => h_), (fun _ _ _ _ _ h_ => h_), (fun _ _ _ _ _ h_ => h_), trivial⟩ ?_ ?_
   ·skip
    refine ⟨fun a w B hA hS hd => ?_, ?_⟩
    ·skip
     exact b_1 rfl (vv (a_3 rfl fd_103_1 (hA.ev rfl)) (And.intro rfl rfl))
    refine ⟨fun a w B hA hS hd => ?_, ?_⟩
    ·skip
     obtain ⟨e0, E8, Cb, E1⟩ := hd 0 (by decide)
     obtain ⟨CU, CM⟩ := Cb; subst CM
     rw [CU] at e0
     exact b_1 rfl (vv (a_2 rfl ty_101 (a_7 (b_5 e0 rfl)) (hS.bk 1 rfl) rfl) (And.intro rfl rfl))
    refine ⟨fun a w B hA hS hd => ?_, ?_⟩
    ·skip
     exact b_1 rfl (vv (a_3 rfl v_0 (hA.ev rfl)) (And.intro rfl rfl))
    refine ⟨fun a w B hA hS hd => ?_, ?_⟩
    ·skip
     obtain ⟨e2, E9, Cc, E2⟩ := hd 2 (by decide)
     obtain ⟨CV, CN⟩ := Cc; subst CN
     rw [CV] at e2
     exact b_1 rfl (vv (a_2 rfl ty_59 (a_7 (b_5 e2 rfl)) (hS.bk 2 rfl) rfl) (And.intro rfl rfl))
    refine ⟨fun a w B hA hS hd => ?_, ?_⟩
    ·skip
     exact b_1 rfl (vv (a_1 rfl (hA.ev rfl)) (And.intro rfl rfl))
    refine ⟨fun a w B hA hS hd => ?_, ?_⟩
    ·skip
     obtain ⟨e3, FA, Cd, E3⟩ := hd 3 (by decide)
     obtain ⟨CW, CO⟩ := Cd; subst CO
     rw [CW] at e3
     obtain ⟨e4, FB, Ce, E4⟩ := hd 4 (by decide)
     obtain ⟨CX, CP⟩ := Ce; subst CP
     rw [CX] at e4
     exact b_1 rfl (vv (b_3 rfl un_59 ty_63 (a_7 (b_5 e3 rfl)) (i := q) (a_7 (b_5 e4 rfl)) ((c_8 (hS.ok 10 _ rfl)).blk (i := m) (by omega)) (by decide) (by omega)) (And.intro rfl rfl))
    refine ⟨fun a w B hA hS hd => ?_, ?_⟩
    ·skip
     obtain ⟨e5, FC, Cf, E5⟩ := hd 5 (by decide)
     obtain ⟨CY, CQ⟩ := Cf; subst CQ
     rw [CY] at e5
     exact b_1 rfl (vv (d_1 rfl fd_63_0 (a_7 (b_5 e5 rfl)) ((c_8 (hS.ok 10 _ rfl)).blk (i := m) (by omega)) (by rw [(((c_8 (hS.ok 10 _ rfl)).blk (i := m) (by omega))).1]; omega)) (And.intro rfl rfl))
    refine ⟨fun a w B hA hS hd => ?_, ?_⟩
    ·skip
     obtain ⟨e6, FD, Cg, Ee⟩ := hd 6 (by decide)
     obtain ⟨D9, CR⟩ := Cg; subst CR
     rw [D9] at e6
     exact b_1 rfl (vv (e_7 rfl j_5 (a_7 (b_5 e6 rfl)) ((c_8 (hS.ok 10 _ rfl)).blk (i := m) (by omega)) (trips_sub0 (by omega)) rfl (by decide)) (And.intro rfl rfl))
    refine ⟨fun a w B hA hS hd => ?_, ?_⟩
    ·skip
     obtain ⟨e7, FE, Ch, E6⟩ := hd 7 (by decide)
     obtain ⟨CZ, CS⟩ := Ch; subst CS
     rw [CZ] at e7
     exact b_1 rfl (vx (b_4 rfl en_20 (ev1 (a_7 (b_5 e7 rfl))) (to_ok _ _ _)) (And.intro rfl rfl))
    refine ⟨fun a w B hA hS hd => ?_, ?_⟩
    ·skip
     exact b_1 rfl (vv (a_3 rfl v_0 (hA.ev rfl)) (And.intro rfl rfl))
    refine ⟨fun a w B hA hS hd => ?_, ?_⟩
    ·skip
     obtain ⟨e9, Gm, Eh, Gi⟩ := hd 9 (by decide)
     obtain ⟨Eg, Ef⟩ := Eh; subst Ef
     rw [Eg] at e9
     exact b_1 rfl (vv (a_2 rfl ty_59 (a_7 (b_5 e9 rfl)) (hS.bk 2 rfl) rfl) (And.intro rfl rfl))
    refine ⟨fun a w B hA hS hd => ?_, ?_⟩
    ·skip
     exact b_1 rfl (vv (a_1 rfl (hA.ev rfl)) (And.intro rfl rfl))
    refine ⟨fun a w B hA hS hd => ?_, ?_⟩
    ·skip
     obtain ⟨CA, GB, DD, F3⟩ := hd 10 (by decide)
     obtain ⟨C8, C3⟩ := DD; subst C3
     rw [C8] at CA
     obtain ⟨CB, GC, DE, F4⟩ := hd 11 (by decide)
     obtain ⟨C9, C4⟩ := DE; subst C4
     rw [C9] at CB
     exact b_1 rfl (vv (b_3 rfl un_59 ty_63 (a_7 (b_5 CA rfl)) (i := q) (a_7 (b_5 CB rfl)) ((c_8 (hS.ok 10 _ rfl)).blk (i := m) (by omega)) (by decide) (by omega)) (And.intro rfl rfl))
    refine ⟨fun a w B hA hS hd => ?_, ?_⟩
    ·skip
     obtain ⟨CC, GD, DF, F5⟩ := hd 12 (by decide)
     obtain ⟨DA, C5⟩ := DF; subst C5
     rw [DA] at CC
     exact b_1 rfl (vv (d_1 rfl fd_63_1 (a_7 (b_5 CC rfl)) ((c_8 (hS.ok 10 _ rfl)).blk (i := m) (by omega)) (by rw [(((c_8 (hS.ok 10 _ rfl)).blk (i := m) (by omega))).1]; omega)) (And.intro rfl rfl))
    refine ⟨fun a w B hA hS hd => ?_, ?_⟩
    ·skip
     obtain ⟨CD, GE, DG, F6⟩ := hd 13 (by decide)
     obtain ⟨DB, C6⟩ := DG; subst C6
     rw [DB] at CD
     exact b_1 rfl (vv (c_4 rfl ty_3 (a_7 (b_5 CD rfl)) ((c_8 (hS.ok 10 _ rfl)).blk (i := m) (by omega)) (trips_at2 (by omega))) (And.intro rfl rfl))
    refine ⟨fun a w B hA hS hd => ?_, ?_⟩
    ·skip
     obtain ⟨e8, FF, Ci, E7⟩ := hd 8 (by decide)
     obtain ⟨Ca, CT⟩ := Ci; subst CT
     rw [Ca] at e8
     obtain ⟨CE, GF, DH, F7⟩ := hd 14 (by decide)
     obtain ⟨DC, C7⟩ := DH; subst C7
     rw [DC] at CE
     exact b_1 rfl (vv (e_5 rfl (pv2 (a_7 (b_5 e8 rfl)) (a_7 (b_5 CE rfl))) (q_2 _ _ _)) (And.intro rfl rfl))
    refine ⟨fun a w B hA hS hd => ?_, ?_⟩
    ·skip
     obtain ⟨Ex, G0, GA, Gz⟩ := hd 15 (by decide)
     obtain ⟨F9, F8⟩ := GA; subst F8
     rw [F9] at Ex
     exact b_1 rfl (vblt rfl (pv1 (a_7 (b_5 Ex rfl))) aa_7 aa_3 ze_100 (by decide) (cs := [(Value.int .i64 ((((b.macs.getD m mac0).blocks).getD q (0, 0, 0)).1)), (Value.int .i64 ((((b.macs.getD m mac0).blocks).getD q (0, 0, 0)).2.1)), (Value.int .i64 ((((b.macs.getD m mac0).blocks).getD q (0, 0, 0)).2.2))]) (bs_100_1_0iiia _ _ _) rfl (by decide) (fun _ => And.intro trivial rfl))
    trivial
   intro Ck GJ B rsf252 DW H Bq; clear DV Q
   obtain ⟨Ac, As⟩ := H 0 (by decide)
   obtain ⟨Ak, Z⟩ := As
   obtain ⟨V, At⟩ := H 1 (by decide)
   obtain ⟨x, c⟩ := At
   obtain ⟨Ad, Au⟩ := H 2 (by decide)
   obtain ⟨Al, d⟩ := Au
   obtain ⟨Ae, Av⟩ := H 3 (by decide)
   obtain ⟨Am, e⟩ := Av
   obtain ⟨Af, Aw⟩ := H 4 (by decide)
   obtain ⟨An, f⟩ := Aw
   obtain ⟨Ag, Ax⟩ := H 5 (by decide)
   obtain ⟨Ao, g⟩ := Ax
   obtain ⟨Ah, Ay⟩ := H 6 (by decide)
   obtain ⟨Ap, n⟩ := Ay
   obtain ⟨Ai, Az⟩ := H 7 (by decide)
   obtain ⟨Aq, o⟩ := Az
   obtain ⟨Aj, A0⟩ := H 8 (by decide)
   obtain ⟨Ar, p⟩ := A0
   obtain ⟨u, A1⟩ := H 9 (by decide)
   obtain ⟨AF, r⟩ := A1
   obtain ⟨W, AE⟩ := H 10 (by decide)
   obtain ⟨t, R⟩ := AE
   obtain ⟨Bu, B3⟩ := H 11 (by decide)
   obtain ⟨By, z⟩ := B3
   obtain ⟨Bv, B4⟩ := H 12 (by decide)
   obtain ⟨Bz, AA⟩ := B4
   obtain ⟨Bw, B5⟩ := H 13 (by decide)
   obtain ⟨B0, AB⟩ := B5
   obtain ⟨Bx, B6⟩ := H 14 (by decide)
   obtain ⟨B1, AC⟩ := B6
   obtain ⟨Ab, B7⟩ := H 15 (by decide)
   obtain ⟨B2, AD⟩ := B7
   obtain ⟨D8, Ev⟩ := H 16 (by decide)
   obtain ⟨Eu, D7⟩ := Ev
   have Br : Sep NoB w GJ [(row (B 16) 100 3 1 [(Value.int .i64 ((((b.macs.getD m mac0).blocks).getD q (0, 0, 0)).1)), (Value.int .i64 ((((b.macs.getD m mac0).blocks).getD q (0, 0, 0)).2.1)), (Value.int .i64 ((((b.macs.getD m mac0).blocks).getD q (0, 0, 0)).2.2))]), (row vk_ 100 3 (((b.macs.getD m mac0).blocks.take q).length) (trips ((b.macs.getD m mac0).blocks.take q))), (blk M 103 [(Value.int .i64 ((b.macs.getD m mac0).scale)), vk_]), (blk K 61 [(Value.int .i64 ((b.macs.getD m mac0).scale)), (lk m)]), (slsR true ((b.macs.take m).length) lk_ 3 (blkN (b.macs.take m)) (blkC (b.macs.take m))), (row vm_ 103 2 ((b.macs.take m).length) (n_2 lk_ (b.macs.take m))), (d_8 true vt_ lr_ lb_ b.tabs), (blk D 37 [(Value.int .i64 b.scales), vt_, vm_]), (blk E 37 [(Value.int .i64 0), (Value.slice none 0 0), (Value.slice none 0 0)]), (blk F 25 [(Value.int .i64 b.scales), vt, vm]), (d_8 false vt lr lb b.tabs), (e_6 false vm lk b.macs)] := by rw [show catR rsf252 0 17 = ([(row (B 16) 100 3 1 [(Value.int .i64 ((((b.macs.getD m mac0).blocks).getD q (0, 0, 0)).1)), (Value.int .i64 ((((b.macs.getD m mac0).blocks).getD q (0, 0, 0)).2.1)), (Value.int .i64 ((((b.macs.getD m mac0).blocks).getD q (0, 0, 0)).2.2))])] : List Res) by (try simp only [catR, Z, c, d, e, f, g, n, o, p, r, R, z, AA, AB, AC, AD, D7]); (try rfl)] at Bq; exact Bq
   rw [x] at V
   have DX : Fr 116 [] [(91, vk_), (11, (Value.int .i64 (q : Int))), (10, (bptr M 0)), (9, (bptr K 0)), (8, (Value.int .i64 (m : Int))), (3, (bptr D 0)), (2, (bptr E 0)), (1, (bptr F 0))] Ck := DW.add (b_5 V rfl); clear DW
   have AR : Fr 116 [] [(106, (B 16)), (91, vk_), (11, (Value.int .i64 (q : Int))), (10, (bptr M 0)), (9, (bptr K 0)), (8, (Value.int .i64 (m : Int))), (3, (bptr D 0)), (2, (bptr E 0)), (1, (bptr F 0))] Ck := DX.add (b_5 D8 rfl); clear DX
   clear H Bq Ac V Ad Ae Af Ag Ah Ai Aj u W Bu Bv Bw Bx Ab D8
   clear Z
   clear Ak
   clear c
   clear x
   clear d
   clear Al
   clear e
   clear Am
   clear f
   clear An
   clear g
   clear Ao
   clear n
   clear Ap
   clear o
   clear Aq
   clear p
   clear Ar
   clear r
   clear AF
   clear R
   clear t
   clear z
   clear By
   clear AA
   clear Bz
   clear AB
   clear B0
   clear AC
   clear B1
   clear AD
   clear B2
   clear D7
   clear Eu
   refine s2 AR (p_0 Br rfl aa_7 el_100 (AR.ev rfl) (AR.ev rfl) (i := 1) rfl (SlAt.d_7 (Br.e_2 0 rfl)) rfl (by simp only [maxLen]; omega) (by omega)) ?_
   intro Fq AH G8 Du BT
   have AY := Du.i_4 (i := 1) rfl (n' := (((b.macs.getD m mac0).blocks.take q) ++ [(b.macs.getD m mac0).blocks.getD q (0, 0, 0)]).length) (xs' := (trips (((b.macs.getD m mac0).blocks.take q) ++ [(b.macs.getD m mac0).blocks.getD q (0, 0, 0)]))) (by simp) (by simp [trips]); clear Du AR Br Ck
   refine s1 BT (a_3 rfl fd_103_1 (BT.ev rfl)) fun Fs AS => ?_; clear BT Fq
   refine s7 AS (c_2 AY rfl ty_101 (AS.ev rfl) (AS.ev rfl) (i := 2) rfl (vs := [AH]) (isSl_cells (SlAt.isSl (SlAt.d_7 (AY.e_2 1 rfl)))) rfl (i_3 (SlAt.one (SlAt.d_7 (AY.e_2 1 rfl))) v_3) (Nat.le_of_ble_eq_true rfl)) ?_
   intro _ Ej Dv BU; clear AS
   have Dw : Sep NoB w Ej [(row (B 16) 100 3 1 [(Value.int .i64 ((((b.macs.getD m mac0).blocks).getD q (0, 0, 0)).1)), (Value.int .i64 ((((b.macs.getD m mac0).blocks).getD q (0, 0, 0)).2.1)), (Value.int .i64 ((((b.macs.getD m mac0).blocks).getD q (0, 0, 0)).2.2))]), (row AH 100 3 ((((b.macs.getD m mac0).blocks.take q) ++ [(b.macs.getD m mac0).blocks.getD q (0, 0, 0)]).length) (trips (((b.macs.getD m mac0).blocks.take q) ++ [(b.macs.getD m mac0).blocks.getD q (0, 0, 0)]))), (blk M 103 [(Value.int .i64 ((b.macs.getD m mac0).scale)), AH]), (blk K 61 [(Value.int .i64 ((b.macs.getD m mac0).scale)), (lk m)]), (slsR true ((b.macs.take m).length) lk_ 3 (blkN (b.macs.take m)) (blkC (b.macs.take m))), (row vm_ 103 2 ((b.macs.take m).length) (n_2 lk_ (b.macs.take m))), (d_8 true vt_ lr_ lb_ b.tabs), (blk D 37 [(Value.int .i64 b.scales), vt_, vm_]), (blk E 37 [(Value.int .i64 0), (Value.slice none 0 0), (Value.slice none 0 0)]), (blk F 25 [(Value.int .i64 b.scales), vt, vm]), (d_8 false vt lr lb b.tabs), (e_6 false vm lk b.macs)] := Dv; clear Dv AY
   refine e_9 ?_
   refine h_0 ?_
   refine b_0 ?_
   refine a_5 ?_
   refine s1 BU (a_1 rfl (BU.ev rfl)) fun Ft BV => ?_; clear BU Fs
   refine s1 BV (f_4 rfl (BV.ev rfl) (evc _ _) (by omega) (by omega)) fun Fu BW => ?_; clear BV Ft
   refine s1 BW (a_0 rfl (BW.ev rfl)) fun Gv En => ?_; clear BW Fu
   refine e_9 ?_
   have Er : Sep NoB w Ej [(row AH 100 3 ((((b.macs.getD m mac0).blocks.take q) ++ [(b.macs.getD m mac0).blocks.getD q (0, 0, 0)]).length) (trips (((b.macs.getD m mac0).blocks.take q) ++ [(b.macs.getD m mac0).blocks.getD q (0, 0, 0)]))), (blk M 103 [(Value.int .i64 ((b.macs.getD m mac0).scale)), AH]), (blk K 61 [(Value.int .i64 ((b.macs.getD m mac0).scale)), (lk m)]), (slsR true ((b.macs.take m).length) lk_ 3 (blkN (b.macs.take m)) (blkC (b.macs.take m))), (row vm_ 103 2 ((b.macs.take m).length) (n_2 lk_ (b.macs.take m))), (d_8 true vt_ lr_ lb_ b.tabs), (blk D 37 [(Value.int .i64 b.scales), vt_, vm_]), (blk E 37 [(Value.int .i64 0), (Value.slice none 0 0), (Value.slice none 0 0)]), (blk F 25 [(Value.int .i64 b.scales), vt, vm]), (d_8 false vt lr lb b.tabs), (e_6 false vm lk b.macs)] := Dw.keep [1, 2, 3, 4, 5, 6, 7, 8, 9, 10, 11] (by decide) _ rfl rfl; clear Dw
   exact b_0 ⟨q + 1, ⟨AH, En.as _ rfl, (Er.i_4 (i := 0) rfl (by rw [r_1 (by omega)]) (by rw [r_1 (by omega)])), by omega⟩, by omega⟩
  skip
  rw [decide_eq_false D6] at P
  refine b_7 P rfl ?_
  refine g_8 ?_
  refine b_6 ?_
  refine b_6 ?_
  refine f_5 ?_
  refine b_0 ?_
  have BX := P.as [(10, (bptr M 0)), (8, (Value.int .i64 (m : Int))), (3, (bptr D 0)), (2, (bptr E 0)), (1, (bptr F 0))] rfl; clear P
  refine a_5 ?_
  refine s1 BX (a_3 rfl u_8 (BX.ev rfl)) fun Fv BY => ?_; clear BX Fp
  refine s1 BY (a_2 rfl ty_35 (BY.ev rfl) (Q.bk 6 rfl) rfl) fun Fw BZ => ?_; clear BY Fv
  refine s1 BZ (c_5 rfl t_7 (BZ.ev rfl) (Q.bk 1 rfl) (l := [(Value.int .i64 ((b.macs.getD m mac0).scale)), vk_]) rfl rfl) fun Fx Ba => ?_; clear BZ Fw
  refine s2 Ba (h_8 Q rfl (pv1 (Ba.ev rfl)) ab_7 t_7 ze_103 (by decide) (cs := [(Value.int .i64 ((b.macs.getD m mac0).scale)), vk_]) (bs_103_1_0iva _ _)) ?_
  rintro Fy _ G9 ⟨EC, rfl, AZ⟩ AT; clear Ba Q Fx
  refine s2 AT (p_0 AZ rfl ab_7 el_103 (AT.ev rfl) (AT.ev rfl) (i := 5) rfl (SlAt.of_blk (AZ.bk 0 rfl) rfl (Nat.le_of_ble_eq_true rfl)) (i_3 rfl (i_3 (SlAt.one (SlAt.d_7 (AZ.e_2 1 rfl))) v_3)) (by simp only [maxLen]; omega) (by omega)) ?_
  intro Fz s HA Dx Bb
  have Aa := Dx.i_4 (i := 5) rfl (n' := ((b.macs.take m) ++ [(b.macs.getD m mac0)]).length) (xs' := (n_2 (putV (b.macs.take m).length lk_ vk_) ((b.macs.take m) ++ [(b.macs.getD m mac0)]))) (by simp) (macs_snoc (b.macs.getD m mac0) vk_); clear Dx AT AZ Fy
  refine s1 Bb (a_3 rfl u_8 (Bb.ev rfl)) fun F0 AU => ?_; clear Bb Fz
  refine s7 AU (c_2 Aa rfl ty_35 (AU.ev rfl) (AU.ev rfl) (i := 7) rfl (vs := [s]) (isSl_cells (SlAt.isSl (SlAt.d_7 (Aa.e_2 5 rfl)))) rfl (i_3 (SlAt.one (SlAt.d_7 (Aa.e_2 5 rfl))) v_3) (Nat.le_of_ble_eq_true rfl)) ?_
  intro _ DI Dy DY; clear AU
  have Dz : Sep NoB w DI [(blk EC 103 [(Value.int .i64 ((b.macs.getD m mac0).scale)), vk_]), (row vk_ 100 3 (((b.macs.getD m mac0).blocks.take q).length) (trips ((b.macs.getD m mac0).blocks.take q))), (blk M 103 [(Value.int .i64 ((b.macs.getD m mac0).scale)), vk_]), (blk K 61 [(Value.int .i64 ((b.macs.getD m mac0).scale)), (lk m)]), (slsR true ((b.macs.take m).length) lk_ 3 (blkN (b.macs.take m)) (blkC (b.macs.take m))), (row s 103 2 (((b.macs.take m) ++ [(b.macs.getD m mac0)]).length) (n_2 (putV (b.macs.take m).length lk_ vk_) ((b.macs.take m) ++ [(b.macs.getD m mac0)]))), (d_8 true vt_ lr_ lb_ b.tabs), (blk D 37 [(Value.int .i64 b.scales), vt_, s]), (blk E 37 [(Value.int .i64 0), (Value.slice none 0 0), (Value.slice none 0 0)]), (blk F 25 [(Value.int .i64 b.scales), vt, vm]), (d_8 false vt lr lb b.tabs), (e_6 false vm lk b.macs)] := Dy; clear Dy Aa
  refine e_9 ?_
  refine h_0 ?_
  refine b_0 ?_
  have Bc := DY.as [(8, (Value.int .i64 (m : Int))), (3, (bptr D 0)), (2, (bptr E 0)), (1, (bptr F 0))] rfl; clear DY
  refine a_5 ?_
  refine s1 Bc (a_1 rfl (Bc.ev rfl)) fun F1 Bd => ?_; clear Bc F0
  refine s1 Bd (f_4 rfl (Bd.ev rfl) (evc _ _) (by omega) (by omega)) fun F2 Be => ?_; clear Bd F1
  refine s1 Be (a_0 rfl (Be.ev rfl)) fun Gw Eo => ?_; clear Be F2
  refine e_9 ?_
  have D0 := Dz.i_4 (i := 1) rfl (n' := (b.macs.getD m mac0).blocks.length) (xs' := trips (b.macs.getD m mac0).blocks) (by rw [List.take_of_length_le (by omega)]) (by rw [List.take_of_length_le (by omega)]); clear Dz
  have D1 : Sep NoB w DI [(row vk_ 100 3 ((b.macs.getD m mac0).blocks.length) (trips ((b.macs.getD m mac0).blocks))), (slsR true ((b.macs.take m).length) lk_ 3 (blkN (b.macs.take m)) (blkC (b.macs.take m))), (blk EC 103 [(Value.int .i64 ((b.macs.getD m mac0).scale)), vk_]), (blk M 103 [(Value.int .i64 ((b.macs.getD m mac0).scale)), vk_]), (blk K 61 [(Value.int .i64 ((b.macs.getD m mac0).scale)), (lk m)]), (row s 103 2 (((b.macs.take m) ++ [(b.macs.getD m mac0)]).length) (n_2 (putV (b.macs.take m).length lk_ vk_) ((b.macs.take m) ++ [(b.macs.getD m mac0)]))), (d_8 true vt_ lr_ lb_ b.tabs), (blk D 37 [(Value.int .i64 b.scales), vt_, s]), (blk E 37 [(Value.int .i64 0), (Value.slice none 0 0), (Value.slice none 0 0)]), (blk F 25 [(Value.int .i64 b.scales), vt, vm]), (d_8 false vt lr lb b.tabs), (e_6 false vm lk b.macs)] := D0.keep [1, 4, 0, 2, 3, 5, 6, 7, 8, 9, 10, 11] (by decide) _ rfl rfl; clear D0
  have D2 := k_7 (k' := blkN (b.macs.take (m + 1))) (c' := blkC (b.macs.take (m + 1))) D1 (blkN_new (by omega)).1 (blkN_new (by omega)).2 blkN_old; clear D1
  have D3 := sep_sls_say (i := 0) (n' := (b.macs.take (m + 1)).length) (v' := (putV (b.macs.take m).length lk_ vk_)) (k' := blkN (b.macs.take (m + 1))) (c' := blkC (b.macs.take (m + 1))) D2 rfl (take_len1 (by omega)) (fun _ _ => ⟨rfl, rfl, rfl⟩); clear D2
  have Es : Sep NoB w DI [(slsR true ((b.macs.take (m + 1)).length) (putV (b.macs.take m).length lk_ vk_) 3 (blkN (b.macs.take (m + 1))) (blkC (b.macs.take (m + 1)))), (row s 103 2 (((b.macs.take m) ++ [(b.macs.getD m mac0)]).length) (n_2 (putV (b.macs.take m).length lk_ vk_) ((b.macs.take m) ++ [(b.macs.getD m mac0)]))), (d_8 true vt_ lr_ lb_ b.tabs), (blk D 37 [(Value.int .i64 b.scales), vt_, s]), (blk E 37 [(Value.int .i64 0), (Value.slice none 0 0), (Value.slice none 0 0)]), (blk F 25 [(Value.int .i64 b.scales), vt, vm]), (d_8 false vt lr lb b.tabs), (e_6 false vm lk b.macs)] := D3.keep [0, 4, 5, 6, 7, 8, 9, 10] (by decide) _ rfl rfl; clear D3
  exact b_0 ⟨m + 1, ⟨s, (putV (b.macs.take m).length lk_ vk_), Eo.as _ rfl, (Es.i_4 (i := 1) rfl (by rw [r_1 (by omega)]) (by rw [r_1 (by omega)])), by omega⟩, by omega⟩
 skip
 rw [decide_eq_false D5] at O
 refine b_7 O rfl ?_
 refine g_8 ?_
 refine b_6 ?_
 refine b_6 ?_
 refine f_5 ?_
 refine b_0 ?_
 refine b_8 ?_
 have Bf := O.as [(3, (bptr D 0)), (2, (bptr E 0))] rfl; clear O
 refine a_5 ?_
 refine s1 Bf (c_5 rfl t_9 (Bf.ev rfl) (L.bk 3 rfl) (l := [(Value.int .i64 b.scales), vt_, vm_]) rfl rfl) fun Gx AV => ?_; clear Bf EA
 refine s7 AV (c_2 L rfl t_9 (AV.ev rfl) (AV.ev rfl) (i := 4) rfl (vs := [(Value.int .i64 b.scales), vt_, vm_]) rfl rfl (i_3 rfl (i_3 ((c_1 (L.ok 2 _ rfl)).tabs.one) (i_3 (SlAt.one (SlAt.d_7 (L.e_2 1 rfl))) v_3))) (Nat.le_of_ble_eq_true rfl)) ?_
 intro _ Ek D4 DZ; clear AV
 have Bs : Sep NoB w Ek [(slsR true ((b.macs.take m).length) lk_ 3 (blkN (b.macs.take m)) (blkC (b.macs.take m))), (row vm_ 103 2 ((b.macs.take m).length) (n_2 lk_ (b.macs.take m))), (d_8 true vt_ lr_ lb_ b.tabs), (blk D 37 [(Value.int .i64 b.scales), vt_, vm_]), (blk E 37 [(Value.int .i64 b.scales), vt_, vm_]), (blk F 25 [(Value.int .i64 b.scales), vt, vm]), (d_8 false vt lr lb b.tabs), (e_6 false vm lk b.macs)] := D4; clear D4 L
 refine n1 ?_
 refine c_9 ?_
 refine a_9 DZ (.inl rfl) (a_4 DZ rfl (.cellA rfl t_9 (Bs.bk 4 rfl) (l := [(Value.int .i64 b.scales), vt_, vm_]) rfl rfl)) ?_
 have Et : Sep NoB w Ek [(row vm_ 103 2 ((b.macs.take m).length) (n_2 lk_ (b.macs.take m))), (slsR true ((b.macs.take m).length) lk_ 3 (blkN (b.macs.take m)) (blkC (b.macs.take m))), (d_8 true vt_ lr_ lb_ b.tabs)] := Bs.keep [1, 0, 2] (by decide) _ rfl rfl; clear Bs
 have hmt : m = b.macs.length := by omega
 have hz := Et
 rw [hmt, List.take_length] at hz
 exact ⟨_, _, _, _, _, rfl, (sep_macs_join hz).keep [1, 0] (by decide) _ rfl rfl⟩
end Go.Proofs.Ytohgladndklciaa

namespace Go.Hard
def e_1 : h_6 := ⟨3, [⟨0, 1, [(100, 200), (200, 300), (300, 500), (400, 600)], [2], 2⟩, ⟨1, 2, [(250, 90), (350, 50)], [], 0⟩], [⟨0, [(150, 154, 160), (240, 246, 249)]⟩, ⟨1, [(300, 300, 299)]⟩]⟩
open Go.RowKit Go.Eng in
theorem kept_tabsC (a b c d : Value) : m_3 (putV 1 (putV 0 (fun _ => Value.slice none 0 0) a) c) (putV 1 (putV 0 (fun _ => Value.slice none 0 0) b) d) e_1.tabs = [.int .i64 0, .int .i64 1, a, b, .int .i64 2, .int .i64 1, .int .i64 2, c, d, .int .i64 0] := rfl
open Go.RowKit Go.Eng in
theorem kept_macsC (a b : Value) : n_2 (putV 1 (putV 0 (fun _ => Value.slice none 0 0) a) b) e_1.macs = [.int .i64 0, a, .int .i64 1, b] := rfl
theorem kept_thin : n_4 e_1 := (thin_iff (n := 0)).1 (by decide) |>.1
theorem kept_read : j_9 e_1 [(0, 170)] = 0 := by decide
theorem kept_spans : k_8 e_1 [(0, 170)] = some [(161, 164), (259, 266), (83, 87)] := by
  unfold k_8
  rw [if_pos (by decide)]
  show r_3 3 _ (400000 + 1) _ = _
  rw [r_3, if_pos (by decide), if_neg (by decide)]
  show r_3 3 _ (399999 + 1) _ = _
  rw [r_3, if_pos (by decide), if_pos (by decide)]
  decide
end Go.Hard

namespace Go.Proofs.Ytohgladndklciaa
open Go.RowKit Go.Shelf Go.Eng Go.Hard
theorem bs_107_4_0iia_1iia_2iia_3iia (x0_0 : Int) (x0_1 : Int) (x1_0 : Int) (x1_1 : Int) (x2_0 : Int) (x2_1 : Int) (x3_0 : Int) (x3_1 : Int) : Instr.fill (fun i => some (i * 2, 2)) ((Array.range (4 * 2)).map ((Value.agg #[(Value.int .i64 0), (Value.int .i64 0)]).cells[· % (Value.agg #[(Value.int .i64 0), (Value.int .i64 0)]).cells.size]!)) [(0, .agg #[(.int .i64 x0_0), (.int .i64 x0_1)]), (1, .agg #[(.int .i64 x1_0), (.int .i64 x1_1)]), (2, .agg #[(.int .i64 x2_0), (.int .i64 x2_1)]), (3, .agg #[(.int .i64 x3_0), (.int .i64 x3_1)])] = some (([(.int .i64 x0_0), (.int .i64 x0_1), (.int .i64 x1_0), (.int .i64 x1_1), (.int .i64 x2_0), (.int .i64 x2_1), (.int .i64 x3_0), (.int .i64 x3_1)] : List Value).toArray) := by kernel_rfl
theorem bd_106_0i_1i_2s_3s_4i (x0_0 : Int) (x1_0 : Int) (x2_0 : Value) (hx2_0 : IsSl x2_0) (x3_0 : Value) (hx3_0 : IsSl x3_0) (x4_0 : Int) (w : World) : (Instr.build 106 #[(0, (.int .i64 x0_0)), (1, (.int .i64 x1_0)), (2, x2_0), (3, x3_0), (4, (.int .i64 x4_0))]).run Try.prog w = .ok (.agg #[(.int .i64 x0_0), (.int .i64 x1_0), x2_0, x3_0, (.int .i64 x4_0)]) w := by obtain ⟨Ax2_0, Bx2_0, Cx2_0, rfl⟩ := hx2_0; obtain ⟨Ax3_0, Bx3_0, Cx3_0, rfl⟩ := hx3_0; kernel_rfl
theorem bs_107_2_0iia_1iia (x0_0 : Int) (x0_1 : Int) (x1_0 : Int) (x1_1 : Int) : Instr.fill (fun i => some (i * 2, 2)) ((Array.range (2 * 2)).map ((Value.agg #[(Value.int .i64 0), (Value.int .i64 0)]).cells[· % (Value.agg #[(Value.int .i64 0), (Value.int .i64 0)]).cells.size]!)) [(0, .agg #[(.int .i64 x0_0), (.int .i64 x0_1)]), (1, .agg #[(.int .i64 x1_0), (.int .i64 x1_1)])] = some (([(.int .i64 x0_0), (.int .i64 x0_1), (.int .i64 x1_0), (.int .i64 x1_1)] : List Value).toArray) := by kernel_rfl
theorem bd_106_0i_1i_2s (x0_0 : Int) (x1_0 : Int) (x2_0 : Value) (hx2_0 : IsSl x2_0) (w : World) : (Instr.build 106 #[(0, (.int .i64 x0_0)), (1, (.int .i64 x1_0)), (2, x2_0)]).run Try.prog w = .ok (.agg #[(.int .i64 x0_0), (.int .i64 x1_0), x2_0, (Value.slice none 0 0), (Value.int .i64 0)]) w := by obtain ⟨Ax2_0, Bx2_0, Cx2_0, rfl⟩ := hx2_0; kernel_rfl
theorem bs_106_2_0iivvia_1iivvia (x0_0 : Int) (x0_1 : Int) (x0_2 : Value) (x0_3 : Value) (x0_4 : Int) (x1_0 : Int) (x1_1 : Int) (x1_2 : Value) (x1_3 : Value) (x1_4 : Int) : Instr.fill (fun i => some (i * 5, 5)) ((Array.range (2 * 5)).map ((Value.agg #[(Value.int .i64 0), (Value.int .i64 0), (Value.slice none 0 0), (Value.slice none 0 0), (Value.int .i64 0)]).cells[· % (Value.agg #[(Value.int .i64 0), (Value.int .i64 0), (Value.slice none 0 0), (Value.slice none 0 0), (Value.int .i64 0)]).cells.size]!)) [(0, .agg #[(.int .i64 x0_0), (.int .i64 x0_1), x0_2, x0_3, (.int .i64 x0_4)]), (1, .agg #[(.int .i64 x1_0), (.int .i64 x1_1), x1_2, x1_3, (.int .i64 x1_4)])] = some (([(.int .i64 x0_0), (.int .i64 x0_1), x0_2, x0_3, (.int .i64 x0_4), (.int .i64 x1_0), (.int .i64 x1_1), x1_2, x1_3, (.int .i64 x1_4)] : List Value).toArray) := by kernel_rfl
theorem en_31 : ∀ args w, (callFunc 31 args).run Try.prog w = .ok (.enter 31 args) w := enters_of Try.func31 (by kernel_rfl) rfl
theorem bs_100_2_0iiia_1iiia (x0_0 : Int) (x0_1 : Int) (x0_2 : Int) (x1_0 : Int) (x1_1 : Int) (x1_2 : Int) : Instr.fill (fun i => some (i * 3, 3)) ((Array.range (2 * 3)).map ((Value.agg #[(Value.int .i64 0), (Value.int .i64 0), (Value.int .i64 0)]).cells[· % (Value.agg #[(Value.int .i64 0), (Value.int .i64 0), (Value.int .i64 0)]).cells.size]!)) [(0, .agg #[(.int .i64 x0_0), (.int .i64 x0_1), (.int .i64 x0_2)]), (1, .agg #[(.int .i64 x1_0), (.int .i64 x1_1), (.int .i64 x1_2)])] = some (([(.int .i64 x0_0), (.int .i64 x0_1), (.int .i64 x0_2), (.int .i64 x1_0), (.int .i64 x1_1), (.int .i64 x1_2)] : List Value).toArray) := by kernel_rfl
theorem bd_103_0i_1s (x0_0 : Int) (x1_0 : Value) (hx1_0 : IsSl x1_0) (w : World) : (Instr.build 103 #[(0, (.int .i64 x0_0)), (1, x1_0)]).run Try.prog w = .ok (.agg #[(.int .i64 x0_0), x1_0]) w := by obtain ⟨Ax1_0, Bx1_0, Cx1_0, rfl⟩ := hx1_0; kernel_rfl
theorem bs_103_2_0iva_1iva (x0_0 : Int) (x0_1 : Value) (x1_0 : Int) (x1_1 : Value) : Instr.fill (fun i => some (i * 2, 2)) ((Array.range (2 * 2)).map ((Value.agg #[(Value.int .i64 0), (Value.slice none 0 0)]).cells[· % (Value.agg #[(Value.int .i64 0), (Value.slice none 0 0)]).cells.size]!)) [(0, .agg #[(.int .i64 x0_0), x0_1]), (1, .agg #[(.int .i64 x1_0), x1_1])] = some (([(.int .i64 x0_0), x0_1, (.int .i64 x1_0), x1_1] : List Value).toArray) := by kernel_rfl
theorem bd_37_0i_1s_2s (x0_0 : Int) (x1_0 : Value) (hx1_0 : IsSl x1_0) (x2_0 : Value) (hx2_0 : IsSl x2_0) (w : World) : (Instr.build 37 #[(0, (.int .i64 x0_0)), (1, x1_0), (2, x2_0)]).run Try.prog w = .ok (.agg #[(.int .i64 x0_0), x1_0, x2_0]) w := by obtain ⟨Ax1_0, Bx1_0, Cx1_0, rfl⟩ := hx1_0; obtain ⟨Ax2_0, Bx2_0, Cx2_0, rfl⟩ := hx2_0; kernel_rfl
set_option maxHeartbeats 1000000 in
theorem kept_ok (w : World) :
  Calls Try.prog 46 #[] w (Ret fun v w' => ∃ vt' vm' lr' lb' lk', v = .agg #[.int .i64 e_1.scales, vt', vm'] ∧ Sep NoB w w' [d_8 true vt' lr' lb' e_1.tabs, e_6 true vm' lk' e_1.macs]) := by
 refine a_8 Try.func46 rfl fun a0 X => ?_
 replace X : Fr 25 [] [] a0 := X
 have AD : Sep NoB w w [] := Sep.start _ _
 refine m2 ?_
 refine s2 X (e_4 AD rfl ze_37 (cs := [(Value.int .i64 0), (Value.slice none 0 0), (Value.slice none 0 0)]) rfl) ?_
 rintro a1 _ w3 ⟨b4, rfl, AE⟩ AA; clear X AD a0
 refine n4 ?_
 refine s1 AA (e_5 rfl (pv2 (evc _ _) (evc _ _)) (m_5 _ _)) fun a6 AB => ?_; clear AA a1
 refine s1 AB (e_5 rfl (pv2 (evc _ _) (evc _ _)) (m_5 _ _)) fun a8 AC => ?_; clear AB a6
 refine s1 AC (e_5 rfl (pv2 (evc _ _) (evc _ _)) (m_5 _ _)) fun AV Y => ?_; clear AC a8
 refine s1 Y (e_5 rfl (pv2 (evc _ _) (evc _ _)) (m_5 _ _)) fun AW I => ?_; clear Y AV
 refine s2 I (h_8 AE rfl (pv4 (I.ev rfl) (I.ev rfl) (I.ev rfl) (I.ev rfl)) k_4 i_6 y_6 (by decide) (cs := [(Value.int .i64 100), (Value.int .i64 200), (Value.int .i64 200), (Value.int .i64 300), (Value.int .i64 300), (Value.int .i64 500), (Value.int .i64 400), (Value.int .i64 600)]) (bs_107_4_0iia_1iia_2iia_3iia _ _ _ _ _ _ _ _)) ?_
 rintro AX _ BB ⟨C, rfl, k⟩ Z; clear I AE AW
 refine s2 Z (h_8 k rfl (pv1 (evc _ _)) p_4 ty_3 ze_3 (by decide) (cs := [(Value.int .i64 2)]) (bs_3_1_0i _)) ?_
 rintro AY _ BC ⟨D, rfl, m⟩ J; clear Z k AX
 refine s1 J (e_5 rfl (pv5 (evc _ _) (evc _ _) (J.ev rfl) (J.ev rfl) (evc _ _)) (bd_106_0i_1i_2s_3s_4i _ _ _ ⟨_, _, _, rfl⟩ _ ⟨_, _, _, rfl⟩ _)) fun AZ a => ?_; clear J AY
 refine s1 a (e_5 rfl (pv2 (evc _ _) (evc _ _)) (m_5 _ _)) fun Aa b => ?_; clear a AZ
 refine s1 b (e_5 rfl (pv2 (evc _ _) (evc _ _)) (m_5 _ _)) fun Ab K => ?_; clear b Aa
 refine s2 K (h_8 m rfl (pv2 (K.ev rfl) (K.ev rfl)) k_4 i_6 y_6 (by decide) (cs := [(Value.int .i64 250), (Value.int .i64 90), (Value.int .i64 350), (Value.int .i64 50)]) (bs_107_2_0iia_1iia _ _ _ _)) ?_
 rintro Ac _ BD ⟨E, rfl, o⟩ Q; clear K m Ab
 refine s1 Q (e_5 rfl (pv3 (evc _ _) (evc _ _) (Q.ev rfl)) (bd_106_0i_1i_2s _ _ _ ⟨_, _, _, rfl⟩)) fun Ad L => ?_; clear Q Ac
 refine s2 L (h_8 o rfl (pv2 (L.ev rfl) (L.ev rfl)) z_8 l_3 ze_106 (by decide) (cs := [(Value.int .i64 0), (Value.int .i64 1), (Value.slice (some ⟨C, 0, none⟩) 4 4), (Value.slice (some ⟨D, 0, none⟩) 1 1), (Value.int .i64 2), (Value.int .i64 1), (Value.int .i64 2), (Value.slice (some ⟨E, 0, none⟩) 2 2), (Value.slice none 0 0), (Value.int .i64 0)]) (bs_106_2_0iivvia_1iivvia _ _ _ _ _ _ _ _ _ _)) ?_
 rintro Ae _ BE ⟨F, rfl, p⟩ c; clear L o Ad
 refine s2 c (b_4 rfl en_31 (ev2 (evc _ _) (evc _ _)) (m_8 _ _ _)) ?_
 rintro Af _ BF ⟨rfl, g⟩ R; have q := p.step g; clear g c p Ae
 refine s1 R (e_5 rfl (pv2 (R.ev rfl) (evc _ _)) (q_2 _ _ _)) fun Ag d => ?_; clear R Af
 refine s2 d (b_4 rfl en_31 (ev2 (evc _ _) (evc _ _)) (m_8 _ _ _)) ?_
 rintro Ah _ BG ⟨rfl, h⟩ S; have r := q.step h; clear h d q Ag
 refine s1 S (e_5 rfl (pv2 (S.ev rfl) (evc _ _)) (q_2 _ _ _)) fun Ai M => ?_; clear S Ah
 refine s2 M (h_8 r rfl (pv2 (M.ev rfl) (M.ev rfl)) aa_7 aa_3 ze_100 (by decide) (cs := [(Value.int .i64 150), (Value.int .i64 154), (Value.int .i64 160), (Value.int .i64 240), (Value.int .i64 246), (Value.int .i64 249)]) (bs_100_2_0iiia_1iiia _ _ _ _ _ _)) ?_
 rintro Aj _ BH ⟨A, rfl, s⟩ T; clear M r Ai
 refine s1 T (e_5 rfl (pv2 (evc _ _) (T.ev rfl)) (bd_103_0i_1s _ _ ⟨_, _, _, rfl⟩)) fun Ak e => ?_; clear T Aj
 refine s2 e (b_4 rfl en_31 (ev2 (evc _ _) (evc _ _)) (m_8 _ _ _)) ?_
 rintro Al _ BI ⟨rfl, j⟩ U; have t := s.step j; clear j e s Ak
 refine s1 U (e_5 rfl (pv2 (U.ev rfl) (evc _ _)) (q_2 _ _ _)) fun Am V => ?_; clear U Al
 refine s2 V (h_8 t rfl (pv1 (V.ev rfl)) aa_7 aa_3 ze_100 (by decide) (cs := [(Value.int .i64 300), (Value.int .i64 300), (Value.int .i64 299)]) (bs_100_1_0iiia _ _ _)) ?_
 rintro An _ BJ ⟨B, rfl, u⟩ W; clear V t Am
 refine s1 W (e_5 rfl (pv2 (evc _ _) (W.ev rfl)) (bd_103_0i_1s _ _ ⟨_, _, _, rfl⟩)) fun Ao N => ?_; clear W An
 refine s2 N (h_8 u rfl (pv2 (N.ev rfl) (N.ev rfl)) ab_7 t_7 ze_103 (by decide) (cs := [(Value.int .i64 0), (Value.slice (some ⟨A, 0, none⟩) 2 2), (Value.int .i64 1), (Value.slice (some ⟨B, 0, none⟩) 1 1)]) (bs_103_2_0iva_1iva _ _ _ _)) ?_
 rintro Ap _ BK ⟨G, rfl, x⟩ O; clear N u Ao
 refine s1 O (e_5 rfl (pv3 (evc _ _) (O.ev rfl) (O.ev rfl)) (bd_37_0i_1s_2s _ _ ⟨_, _, _, rfl⟩ _ ⟨_, _, _, rfl⟩)) fun BA P => ?_; clear O Ap
 refine s7 P (c_2 x rfl t_9 (P.ev rfl) (P.ev rfl) (i := 7) rfl (vs := [(Value.int .i64 3), (Value.slice (some ⟨F, 0, none⟩) 2 2), (Value.slice (some ⟨G, 0, none⟩) 2 2)]) rfl rfl (i_3 rfl (i_3 rfl (i_3 rfl v_3))) (Nat.le_of_ble_eq_true rfl)) ?_
 intro _ H y f; clear P
 have z : Sep NoB w H [(blk G 103 [(Value.int .i64 0), (Value.slice (some ⟨A, 0, none⟩) 2 2), (Value.int .i64 1), (Value.slice (some ⟨B, 0, none⟩) 1 1)]), (blk B 100 [(Value.int .i64 300), (Value.int .i64 300), (Value.int .i64 299)]), (blk A 100 [(Value.int .i64 150), (Value.int .i64 154), (Value.int .i64 160), (Value.int .i64 240), (Value.int .i64 246), (Value.int .i64 249)]), (blk F 106 [(Value.int .i64 0), (Value.int .i64 1), (Value.slice (some ⟨C, 0, none⟩) 4 4), (Value.slice (some ⟨D, 0, none⟩) 1 1), (Value.int .i64 2), (Value.int .i64 1), (Value.int .i64 2), (Value.slice (some ⟨E, 0, none⟩) 2 2), (Value.slice none 0 0), (Value.int .i64 0)]), (blk E 107 [(Value.int .i64 250), (Value.int .i64 90), (Value.int .i64 350), (Value.int .i64 50)]), (blk D 3 [(Value.int .i64 2)]), (blk C 107 [(Value.int .i64 100), (Value.int .i64 200), (Value.int .i64 200), (Value.int .i64 300), (Value.int .i64 300), (Value.int .i64 500), (Value.int .i64 400), (Value.int .i64 600)]), (blk b4 37 [(Value.int .i64 3), (Value.slice (some ⟨F, 0, none⟩) 2 2), (Value.slice (some ⟨G, 0, none⟩) 2 2)])] := y; clear y x
 refine n1 ?_
 refine c_9 ?_
 refine a_9 f (.inl rfl) (a_4 f rfl (.cellA rfl t_9 (z.bk 7 rfl) (l := [(Value.int .i64 3), (Value.slice (some ⟨F, 0, none⟩) 2 2), (Value.slice (some ⟨G, 0, none⟩) 2 2)]) rfl rfl)) ?_
 have Aq := z.w_5 (i := 6) (sz := 2) (n := 4) rfl rfl (by decide)
 have Ar := Aq.w_5 (i := 5) (sz := 1) (n := 1) rfl rfl (by decide)
 have As := Ar.w_5 (i := 4) (sz := 2) (n := 2) rfl rfl (by decide)
 have At := As.w_5 (i := 3) (sz := 5) (n := 2) rfl rfl (by decide)
 have Au := At.w_5 (i := 2) (sz := 3) (n := 2) rfl rfl (by decide)
 have Av := Au.w_5 (i := 1) (sz := 3) (n := 1) rfl rfl (by decide)
 have Aw := Av.w_5 (i := 0) (sz := 2) (n := 2) rfl rfl (by decide)
 have Ax : Sep NoB w H [(row (Value.slice (some ⟨C, 0, none⟩) 4 4) 107 2 4 [(Value.int .i64 100), (Value.int .i64 200), (Value.int .i64 200), (Value.int .i64 300), (Value.int .i64 300), (Value.int .i64 500), (Value.int .i64 400), (Value.int .i64 600)]), (row (Value.slice (some ⟨E, 0, none⟩) 2 2) 107 2 2 [(Value.int .i64 250), (Value.int .i64 90), (Value.int .i64 350), (Value.int .i64 50)]), (row (Value.slice (some ⟨D, 0, none⟩) 1 1) 3 1 1 [(Value.int .i64 2)]), (row (Value.slice (some ⟨F, 0, none⟩) 2 2) 106 5 2 [(Value.int .i64 0), (Value.int .i64 1), (Value.slice (some ⟨C, 0, none⟩) 4 4), (Value.slice (some ⟨D, 0, none⟩) 1 1), (Value.int .i64 2), (Value.int .i64 1), (Value.int .i64 2), (Value.slice (some ⟨E, 0, none⟩) 2 2), (Value.slice none 0 0), (Value.int .i64 0)]), (row (Value.slice (some ⟨A, 0, none⟩) 2 2) 100 3 2 [(Value.int .i64 150), (Value.int .i64 154), (Value.int .i64 160), (Value.int .i64 240), (Value.int .i64 246), (Value.int .i64 249)]), (row (Value.slice (some ⟨B, 0, none⟩) 1 1) 100 3 1 [(Value.int .i64 300), (Value.int .i64 300), (Value.int .i64 299)]), (row (Value.slice (some ⟨G, 0, none⟩) 2 2) 103 2 2 [(Value.int .i64 0), (Value.slice (some ⟨A, 0, none⟩) 2 2), (Value.int .i64 1), (Value.slice (some ⟨B, 0, none⟩) 1 1)])] := Aw.keep [6, 4, 5, 3, 2, 1, 0] (by decide) _ rfl rfl
 have Ay : Sep NoB w H [(slsR true 0 (fun _ => Value.slice none 0 0) 2 (k_6 e_1.tabs) (k_5 e_1.tabs)), (row (Value.slice (some ⟨C, 0, none⟩) 4 4) 107 2 4 [(Value.int .i64 100), (Value.int .i64 200), (Value.int .i64 200), (Value.int .i64 300), (Value.int .i64 300), (Value.int .i64 500), (Value.int .i64 400), (Value.int .i64 600)]), (row (Value.slice (some ⟨E, 0, none⟩) 2 2) 107 2 2 [(Value.int .i64 250), (Value.int .i64 90), (Value.int .i64 350), (Value.int .i64 50)]), (row (Value.slice (some ⟨D, 0, none⟩) 1 1) 3 1 1 [(Value.int .i64 2)]), (row (Value.slice (some ⟨F, 0, none⟩) 2 2) 106 5 2 [(Value.int .i64 0), (Value.int .i64 1), (Value.slice (some ⟨C, 0, none⟩) 4 4), (Value.slice (some ⟨D, 0, none⟩) 1 1), (Value.int .i64 2), (Value.int .i64 1), (Value.int .i64 2), (Value.slice (some ⟨E, 0, none⟩) 2 2), (Value.slice none 0 0), (Value.int .i64 0)]), (row (Value.slice (some ⟨A, 0, none⟩) 2 2) 100 3 2 [(Value.int .i64 150), (Value.int .i64 154), (Value.int .i64 160), (Value.int .i64 240), (Value.int .i64 246), (Value.int .i64 249)]), (row (Value.slice (some ⟨B, 0, none⟩) 1 1) 100 3 1 [(Value.int .i64 300), (Value.int .i64 300), (Value.int .i64 299)]), (row (Value.slice (some ⟨G, 0, none⟩) 2 2) 103 2 2 [(Value.int .i64 0), (Value.slice (some ⟨A, 0, none⟩) 2 2), (Value.int .i64 1), (Value.slice (some ⟨B, 0, none⟩) 1 1)])] := q_0 Ax (fun _ => Value.slice none 0 0) 2 (k_6 e_1.tabs) (k_5 e_1.tabs)
 have Az : Sep NoB w H [(row (Value.slice (some ⟨C, 0, none⟩) 4 4) 107 2 4 [(Value.int .i64 100), (Value.int .i64 200), (Value.int .i64 200), (Value.int .i64 300), (Value.int .i64 300), (Value.int .i64 500), (Value.int .i64 400), (Value.int .i64 600)]), (slsR true 0 (fun _ => Value.slice none 0 0) 2 (k_6 e_1.tabs) (k_5 e_1.tabs)), (row (Value.slice (some ⟨E, 0, none⟩) 2 2) 107 2 2 [(Value.int .i64 250), (Value.int .i64 90), (Value.int .i64 350), (Value.int .i64 50)]), (row (Value.slice (some ⟨D, 0, none⟩) 1 1) 3 1 1 [(Value.int .i64 2)]), (row (Value.slice (some ⟨F, 0, none⟩) 2 2) 106 5 2 [(Value.int .i64 0), (Value.int .i64 1), (Value.slice (some ⟨C, 0, none⟩) 4 4), (Value.slice (some ⟨D, 0, none⟩) 1 1), (Value.int .i64 2), (Value.int .i64 1), (Value.int .i64 2), (Value.slice (some ⟨E, 0, none⟩) 2 2), (Value.slice none 0 0), (Value.int .i64 0)]), (row (Value.slice (some ⟨A, 0, none⟩) 2 2) 100 3 2 [(Value.int .i64 150), (Value.int .i64 154), (Value.int .i64 160), (Value.int .i64 240), (Value.int .i64 246), (Value.int .i64 249)]), (row (Value.slice (some ⟨B, 0, none⟩) 1 1) 100 3 1 [(Value.int .i64 300), (Value.int .i64 300), (Value.int .i64 299)]), (row (Value.slice (some ⟨G, 0, none⟩) 2 2) 103 2 2 [(Value.int .i64 0), (Value.slice (some ⟨A, 0, none⟩) 2 2), (Value.int .i64 1), (Value.slice (some ⟨B, 0, none⟩) 1 1)])] := Ay.keep [1, 0, 2, 3, 4, 5, 6, 7] (by decide) _ rfl rfl
 have A0 : Sep NoB w H [(slsR true 1 (putV 0 (fun _ => Value.slice none 0 0) (Value.slice (some ⟨C, 0, none⟩) 4 4)) 2 (k_6 e_1.tabs) (k_5 e_1.tabs)), (row (Value.slice (some ⟨E, 0, none⟩) 2 2) 107 2 2 [(Value.int .i64 250), (Value.int .i64 90), (Value.int .i64 350), (Value.int .i64 50)]), (row (Value.slice (some ⟨D, 0, none⟩) 1 1) 3 1 1 [(Value.int .i64 2)]), (row (Value.slice (some ⟨F, 0, none⟩) 2 2) 106 5 2 [(Value.int .i64 0), (Value.int .i64 1), (Value.slice (some ⟨C, 0, none⟩) 4 4), (Value.slice (some ⟨D, 0, none⟩) 1 1), (Value.int .i64 2), (Value.int .i64 1), (Value.int .i64 2), (Value.slice (some ⟨E, 0, none⟩) 2 2), (Value.slice none 0 0), (Value.int .i64 0)]), (row (Value.slice (some ⟨A, 0, none⟩) 2 2) 100 3 2 [(Value.int .i64 150), (Value.int .i64 154), (Value.int .i64 160), (Value.int .i64 240), (Value.int .i64 246), (Value.int .i64 249)]), (row (Value.slice (some ⟨B, 0, none⟩) 1 1) 100 3 1 [(Value.int .i64 300), (Value.int .i64 300), (Value.int .i64 299)]), (row (Value.slice (some ⟨G, 0, none⟩) 2 2) 103 2 2 [(Value.int .i64 0), (Value.slice (some ⟨A, 0, none⟩) 2 2), (Value.int .i64 1), (Value.slice (some ⟨B, 0, none⟩) 1 1)])] := k_7 (k' := k_6 e_1.tabs) (c' := k_5 e_1.tabs) Az rfl rfl (fun i hi => absurd hi (Nat.not_lt_zero _))
 have A1 : Sep NoB w H [(row (Value.slice (some ⟨E, 0, none⟩) 2 2) 107 2 2 [(Value.int .i64 250), (Value.int .i64 90), (Value.int .i64 350), (Value.int .i64 50)]), (slsR true 1 (putV 0 (fun _ => Value.slice none 0 0) (Value.slice (some ⟨C, 0, none⟩) 4 4)) 2 (k_6 e_1.tabs) (k_5 e_1.tabs)), (row (Value.slice (some ⟨D, 0, none⟩) 1 1) 3 1 1 [(Value.int .i64 2)]), (row (Value.slice (some ⟨F, 0, none⟩) 2 2) 106 5 2 [(Value.int .i64 0), (Value.int .i64 1), (Value.slice (some ⟨C, 0, none⟩) 4 4), (Value.slice (some ⟨D, 0, none⟩) 1 1), (Value.int .i64 2), (Value.int .i64 1), (Value.int .i64 2), (Value.slice (some ⟨E, 0, none⟩) 2 2), (Value.slice none 0 0), (Value.int .i64 0)]), (row (Value.slice (some ⟨A, 0, none⟩) 2 2) 100 3 2 [(Value.int .i64 150), (Value.int .i64 154), (Value.int .i64 160), (Value.int .i64 240), (Value.int .i64 246), (Value.int .i64 249)]), (row (Value.slice (some ⟨B, 0, none⟩) 1 1) 100 3 1 [(Value.int .i64 300), (Value.int .i64 300), (Value.int .i64 299)]), (row (Value.slice (some ⟨G, 0, none⟩) 2 2) 103 2 2 [(Value.int .i64 0), (Value.slice (some ⟨A, 0, none⟩) 2 2), (Value.int .i64 1), (Value.slice (some ⟨B, 0, none⟩) 1 1)])] := A0.keep [1, 0, 2, 3, 4, 5, 6] (by decide) _ rfl rfl
 have A2 : Sep NoB w H [(slsR true 2 (putV 1 (putV 0 (fun _ => Value.slice none 0 0) (Value.slice (some ⟨C, 0, none⟩) 4 4)) (Value.slice (some ⟨E, 0, none⟩) 2 2)) 2 (k_6 e_1.tabs) (k_5 e_1.tabs)), (row (Value.slice (some ⟨D, 0, none⟩) 1 1) 3 1 1 [(Value.int .i64 2)]), (row (Value.slice (some ⟨F, 0, none⟩) 2 2) 106 5 2 [(Value.int .i64 0), (Value.int .i64 1), (Value.slice (some ⟨C, 0, none⟩) 4 4), (Value.slice (some ⟨D, 0, none⟩) 1 1), (Value.int .i64 2), (Value.int .i64 1), (Value.int .i64 2), (Value.slice (some ⟨E, 0, none⟩) 2 2), (Value.slice none 0 0), (Value.int .i64 0)]), (row (Value.slice (some ⟨A, 0, none⟩) 2 2) 100 3 2 [(Value.int .i64 150), (Value.int .i64 154), (Value.int .i64 160), (Value.int .i64 240), (Value.int .i64 246), (Value.int .i64 249)]), (row (Value.slice (some ⟨B, 0, none⟩) 1 1) 100 3 1 [(Value.int .i64 300), (Value.int .i64 300), (Value.int .i64 299)]), (row (Value.slice (some ⟨G, 0, none⟩) 2 2) 103 2 2 [(Value.int .i64 0), (Value.slice (some ⟨A, 0, none⟩) 2 2), (Value.int .i64 1), (Value.slice (some ⟨B, 0, none⟩) 1 1)])] := k_7 (k' := k_6 e_1.tabs) (c' := k_5 e_1.tabs) A1 rfl rfl (fun _ _ => ⟨rfl, rfl⟩)
 have A3 : Sep NoB w H [(row (Value.slice none 0 0) 3 1 0 []), (slsR true 2 (putV 1 (putV 0 (fun _ => Value.slice none 0 0) (Value.slice (some ⟨C, 0, none⟩) 4 4)) (Value.slice (some ⟨E, 0, none⟩) 2 2)) 2 (k_6 e_1.tabs) (k_5 e_1.tabs)), (row (Value.slice (some ⟨D, 0, none⟩) 1 1) 3 1 1 [(Value.int .i64 2)]), (row (Value.slice (some ⟨F, 0, none⟩) 2 2) 106 5 2 [(Value.int .i64 0), (Value.int .i64 1), (Value.slice (some ⟨C, 0, none⟩) 4 4), (Value.slice (some ⟨D, 0, none⟩) 1 1), (Value.int .i64 2), (Value.int .i64 1), (Value.int .i64 2), (Value.slice (some ⟨E, 0, none⟩) 2 2), (Value.slice none 0 0), (Value.int .i64 0)]), (row (Value.slice (some ⟨A, 0, none⟩) 2 2) 100 3 2 [(Value.int .i64 150), (Value.int .i64 154), (Value.int .i64 160), (Value.int .i64 240), (Value.int .i64 246), (Value.int .i64 249)]), (row (Value.slice (some ⟨B, 0, none⟩) 1 1) 100 3 1 [(Value.int .i64 300), (Value.int .i64 300), (Value.int .i64 299)]), (row (Value.slice (some ⟨G, 0, none⟩) 2 2) 103 2 2 [(Value.int .i64 0), (Value.slice (some ⟨A, 0, none⟩) 2 2), (Value.int .i64 1), (Value.slice (some ⟨B, 0, none⟩) 1 1)])] := A2.x_3 3 1
 have A4 : Sep NoB w H [(slsR true 0 (fun _ => Value.slice none 0 0) 1 (brkN e_1.tabs) (brkC e_1.tabs)), (row (Value.slice none 0 0) 3 1 0 []), (slsR true 2 (putV 1 (putV 0 (fun _ => Value.slice none 0 0) (Value.slice (some ⟨C, 0, none⟩) 4 4)) (Value.slice (some ⟨E, 0, none⟩) 2 2)) 2 (k_6 e_1.tabs) (k_5 e_1.tabs)), (row (Value.slice (some ⟨D, 0, none⟩) 1 1) 3 1 1 [(Value.int .i64 2)]), (row (Value.slice (some ⟨F, 0, none⟩) 2 2) 106 5 2 [(Value.int .i64 0), (Value.int .i64 1), (Value.slice (some ⟨C, 0, none⟩) 4 4), (Value.slice (some ⟨D, 0, none⟩) 1 1), (Value.int .i64 2), (Value.int .i64 1), (Value.int .i64 2), (Value.slice (some ⟨E, 0, none⟩) 2 2), (Value.slice none 0 0), (Value.int .i64 0)]), (row (Value.slice (some ⟨A, 0, none⟩) 2 2) 100 3 2 [(Value.int .i64 150), (Value.int .i64 154), (Value.int .i64 160), (Value.int .i64 240), (Value.int .i64 246), (Value.int .i64 249)]), (row (Value.slice (some ⟨B, 0, none⟩) 1 1) 100 3 1 [(Value.int .i64 300), (Value.int .i64 300), (Value.int .i64 299)]), (row (Value.slice (some ⟨G, 0, none⟩) 2 2) 103 2 2 [(Value.int .i64 0), (Value.slice (some ⟨A, 0, none⟩) 2 2), (Value.int .i64 1), (Value.slice (some ⟨B, 0, none⟩) 1 1)])] := q_0 A3 (fun _ => Value.slice none 0 0) 1 (brkN e_1.tabs) (brkC e_1.tabs)
 have A5 : Sep NoB w H [(row (Value.slice (some ⟨D, 0, none⟩) 1 1) 3 1 1 [(Value.int .i64 2)]), (slsR true 0 (fun _ => Value.slice none 0 0) 1 (brkN e_1.tabs) (brkC e_1.tabs)), (row (Value.slice none 0 0) 3 1 0 []), (slsR true 2 (putV 1 (putV 0 (fun _ => Value.slice none 0 0) (Value.slice (some ⟨C, 0, none⟩) 4 4)) (Value.slice (some ⟨E, 0, none⟩) 2 2)) 2 (k_6 e_1.tabs) (k_5 e_1.tabs)), (row (Value.slice (some ⟨F, 0, none⟩) 2 2) 106 5 2 [(Value.int .i64 0), (Value.int .i64 1), (Value.slice (some ⟨C, 0, none⟩) 4 4), (Value.slice (some ⟨D, 0, none⟩) 1 1), (Value.int .i64 2), (Value.int .i64 1), (Value.int .i64 2), (Value.slice (some ⟨E, 0, none⟩) 2 2), (Value.slice none 0 0), (Value.int .i64 0)]), (row (Value.slice (some ⟨A, 0, none⟩) 2 2) 100 3 2 [(Value.int .i64 150), (Value.int .i64 154), (Value.int .i64 160), (Value.int .i64 240), (Value.int .i64 246), (Value.int .i64 249)]), (row (Value.slice (some ⟨B, 0, none⟩) 1 1) 100 3 1 [(Value.int .i64 300), (Value.int .i64 300), (Value.int .i64 299)]), (row (Value.slice (some ⟨G, 0, none⟩) 2 2) 103 2 2 [(Value.int .i64 0), (Value.slice (some ⟨A, 0, none⟩) 2 2), (Value.int .i64 1), (Value.slice (some ⟨B, 0, none⟩) 1 1)])] := A4.keep [3, 0, 1, 2, 4, 5, 6, 7] (by decide) _ rfl rfl
 have AF : Sep NoB w H [(slsR true 1 (putV 0 (fun _ => Value.slice none 0 0) (Value.slice (some ⟨D, 0, none⟩) 1 1)) 1 (brkN e_1.tabs) (brkC e_1.tabs)), (row (Value.slice none 0 0) 3 1 0 []), (slsR true 2 (putV 1 (putV 0 (fun _ => Value.slice none 0 0) (Value.slice (some ⟨C, 0, none⟩) 4 4)) (Value.slice (some ⟨E, 0, none⟩) 2 2)) 2 (k_6 e_1.tabs) (k_5 e_1.tabs)), (row (Value.slice (some ⟨F, 0, none⟩) 2 2) 106 5 2 [(Value.int .i64 0), (Value.int .i64 1), (Value.slice (some ⟨C, 0, none⟩) 4 4), (Value.slice (some ⟨D, 0, none⟩) 1 1), (Value.int .i64 2), (Value.int .i64 1), (Value.int .i64 2), (Value.slice (some ⟨E, 0, none⟩) 2 2), (Value.slice none 0 0), (Value.int .i64 0)]), (row (Value.slice (some ⟨A, 0, none⟩) 2 2) 100 3 2 [(Value.int .i64 150), (Value.int .i64 154), (Value.int .i64 160), (Value.int .i64 240), (Value.int .i64 246), (Value.int .i64 249)]), (row (Value.slice (some ⟨B, 0, none⟩) 1 1) 100 3 1 [(Value.int .i64 300), (Value.int .i64 300), (Value.int .i64 299)]), (row (Value.slice (some ⟨G, 0, none⟩) 2 2) 103 2 2 [(Value.int .i64 0), (Value.slice (some ⟨A, 0, none⟩) 2 2), (Value.int .i64 1), (Value.slice (some ⟨B, 0, none⟩) 1 1)])] := k_7 (k' := brkN e_1.tabs) (c' := brkC e_1.tabs) A5 rfl rfl (fun i hi => absurd hi (Nat.not_lt_zero _))
 have AG : Sep NoB w H [(row (Value.slice none 0 0) 3 1 0 []), (slsR true 1 (putV 0 (fun _ => Value.slice none 0 0) (Value.slice (some ⟨D, 0, none⟩) 1 1)) 1 (brkN e_1.tabs) (brkC e_1.tabs)), (slsR true 2 (putV 1 (putV 0 (fun _ => Value.slice none 0 0) (Value.slice (some ⟨C, 0, none⟩) 4 4)) (Value.slice (some ⟨E, 0, none⟩) 2 2)) 2 (k_6 e_1.tabs) (k_5 e_1.tabs)), (row (Value.slice (some ⟨F, 0, none⟩) 2 2) 106 5 2 [(Value.int .i64 0), (Value.int .i64 1), (Value.slice (some ⟨C, 0, none⟩) 4 4), (Value.slice (some ⟨D, 0, none⟩) 1 1), (Value.int .i64 2), (Value.int .i64 1), (Value.int .i64 2), (Value.slice (some ⟨E, 0, none⟩) 2 2), (Value.slice none 0 0), (Value.int .i64 0)]), (row (Value.slice (some ⟨A, 0, none⟩) 2 2) 100 3 2 [(Value.int .i64 150), (Value.int .i64 154), (Value.int .i64 160), (Value.int .i64 240), (Value.int .i64 246), (Value.int .i64 249)]), (row (Value.slice (some ⟨B, 0, none⟩) 1 1) 100 3 1 [(Value.int .i64 300), (Value.int .i64 300), (Value.int .i64 299)]), (row (Value.slice (some ⟨G, 0, none⟩) 2 2) 103 2 2 [(Value.int .i64 0), (Value.slice (some ⟨A, 0, none⟩) 2 2), (Value.int .i64 1), (Value.slice (some ⟨B, 0, none⟩) 1 1)])] := AF.keep [1, 0, 2, 3, 4, 5, 6] (by decide) _ rfl rfl
 have AH : Sep NoB w H [(slsR true 2 (putV 1 (putV 0 (fun _ => Value.slice none 0 0) (Value.slice (some ⟨D, 0, none⟩) 1 1)) (Value.slice none 0 0)) 1 (brkN e_1.tabs) (brkC e_1.tabs)), (slsR true 2 (putV 1 (putV 0 (fun _ => Value.slice none 0 0) (Value.slice (some ⟨C, 0, none⟩) 4 4)) (Value.slice (some ⟨E, 0, none⟩) 2 2)) 2 (k_6 e_1.tabs) (k_5 e_1.tabs)), (row (Value.slice (some ⟨F, 0, none⟩) 2 2) 106 5 2 [(Value.int .i64 0), (Value.int .i64 1), (Value.slice (some ⟨C, 0, none⟩) 4 4), (Value.slice (some ⟨D, 0, none⟩) 1 1), (Value.int .i64 2), (Value.int .i64 1), (Value.int .i64 2), (Value.slice (some ⟨E, 0, none⟩) 2 2), (Value.slice none 0 0), (Value.int .i64 0)]), (row (Value.slice (some ⟨A, 0, none⟩) 2 2) 100 3 2 [(Value.int .i64 150), (Value.int .i64 154), (Value.int .i64 160), (Value.int .i64 240), (Value.int .i64 246), (Value.int .i64 249)]), (row (Value.slice (some ⟨B, 0, none⟩) 1 1) 100 3 1 [(Value.int .i64 300), (Value.int .i64 300), (Value.int .i64 299)]), (row (Value.slice (some ⟨G, 0, none⟩) 2 2) 103 2 2 [(Value.int .i64 0), (Value.slice (some ⟨A, 0, none⟩) 2 2), (Value.int .i64 1), (Value.slice (some ⟨B, 0, none⟩) 1 1)])] := k_7 (k' := brkN e_1.tabs) (c' := brkC e_1.tabs) AG rfl rfl (fun _ _ => ⟨rfl, rfl⟩)
 have AI : Sep NoB w H [(row (Value.slice (some ⟨F, 0, none⟩) 2 2) 106 5 2 [(Value.int .i64 0), (Value.int .i64 1), (Value.slice (some ⟨C, 0, none⟩) 4 4), (Value.slice (some ⟨D, 0, none⟩) 1 1), (Value.int .i64 2), (Value.int .i64 1), (Value.int .i64 2), (Value.slice (some ⟨E, 0, none⟩) 2 2), (Value.slice none 0 0), (Value.int .i64 0)]), (slsR true 2 (putV 1 (putV 0 (fun _ => Value.slice none 0 0) (Value.slice (some ⟨C, 0, none⟩) 4 4)) (Value.slice (some ⟨E, 0, none⟩) 2 2)) 2 (k_6 e_1.tabs) (k_5 e_1.tabs)), (slsR true 2 (putV 1 (putV 0 (fun _ => Value.slice none 0 0) (Value.slice (some ⟨D, 0, none⟩) 1 1)) (Value.slice none 0 0)) 1 (brkN e_1.tabs) (brkC e_1.tabs)), (row (Value.slice (some ⟨A, 0, none⟩) 2 2) 100 3 2 [(Value.int .i64 150), (Value.int .i64 154), (Value.int .i64 160), (Value.int .i64 240), (Value.int .i64 246), (Value.int .i64 249)]), (row (Value.slice (some ⟨B, 0, none⟩) 1 1) 100 3 1 [(Value.int .i64 300), (Value.int .i64 300), (Value.int .i64 299)]), (row (Value.slice (some ⟨G, 0, none⟩) 2 2) 103 2 2 [(Value.int .i64 0), (Value.slice (some ⟨A, 0, none⟩) 2 2), (Value.int .i64 1), (Value.slice (some ⟨B, 0, none⟩) 1 1)])] := AH.keep [2, 1, 0, 3, 4, 5] (by decide) _ rfl rfl
 have AJ : Sep NoB w H [(row (Value.slice (some ⟨F, 0, none⟩) 2 2) 106 5 e_1.tabs.length (m_3 (putV 1 (putV 0 (fun _ => Value.slice none 0 0) (Value.slice (some ⟨C, 0, none⟩) 4 4)) (Value.slice (some ⟨E, 0, none⟩) 2 2)) (putV 1 (putV 0 (fun _ => Value.slice none 0 0) (Value.slice (some ⟨D, 0, none⟩) 1 1)) (Value.slice none 0 0)) e_1.tabs)), (slsR true 2 (putV 1 (putV 0 (fun _ => Value.slice none 0 0) (Value.slice (some ⟨C, 0, none⟩) 4 4)) (Value.slice (some ⟨E, 0, none⟩) 2 2)) 2 (k_6 e_1.tabs) (k_5 e_1.tabs)), (slsR true 2 (putV 1 (putV 0 (fun _ => Value.slice none 0 0) (Value.slice (some ⟨D, 0, none⟩) 1 1)) (Value.slice none 0 0)) 1 (brkN e_1.tabs) (brkC e_1.tabs)), (row (Value.slice (some ⟨A, 0, none⟩) 2 2) 100 3 2 [(Value.int .i64 150), (Value.int .i64 154), (Value.int .i64 160), (Value.int .i64 240), (Value.int .i64 246), (Value.int .i64 249)]), (row (Value.slice (some ⟨B, 0, none⟩) 1 1) 100 3 1 [(Value.int .i64 300), (Value.int .i64 300), (Value.int .i64 299)]), (row (Value.slice (some ⟨G, 0, none⟩) 2 2) 103 2 2 [(Value.int .i64 0), (Value.slice (some ⟨A, 0, none⟩) 2 2), (Value.int .i64 1), (Value.slice (some ⟨B, 0, none⟩) 1 1)])] := AI.i_4 (i := 0) rfl rfl (kept_tabsC _ _ _ _).symm
 have AK : Sep NoB w H [(d_8 true (Value.slice (some ⟨F, 0, none⟩) 2 2) (putV 1 (putV 0 (fun _ => Value.slice none 0 0) (Value.slice (some ⟨C, 0, none⟩) 4 4)) (Value.slice (some ⟨E, 0, none⟩) 2 2)) (putV 1 (putV 0 (fun _ => Value.slice none 0 0) (Value.slice (some ⟨D, 0, none⟩) 1 1)) (Value.slice none 0 0)) e_1.tabs), (row (Value.slice (some ⟨A, 0, none⟩) 2 2) 100 3 2 [(Value.int .i64 150), (Value.int .i64 154), (Value.int .i64 160), (Value.int .i64 240), (Value.int .i64 246), (Value.int .i64 249)]), (row (Value.slice (some ⟨B, 0, none⟩) 1 1) 100 3 1 [(Value.int .i64 300), (Value.int .i64 300), (Value.int .i64 299)]), (row (Value.slice (some ⟨G, 0, none⟩) 2 2) 103 2 2 [(Value.int .i64 0), (Value.slice (some ⟨A, 0, none⟩) 2 2), (Value.int .i64 1), (Value.slice (some ⟨B, 0, none⟩) 1 1)])] := sep_tabs_join AJ
 have AL : Sep NoB w H [(slsR true 0 (fun _ => Value.slice none 0 0) 3 (blkN e_1.macs) (blkC e_1.macs)), (d_8 true (Value.slice (some ⟨F, 0, none⟩) 2 2) (putV 1 (putV 0 (fun _ => Value.slice none 0 0) (Value.slice (some ⟨C, 0, none⟩) 4 4)) (Value.slice (some ⟨E, 0, none⟩) 2 2)) (putV 1 (putV 0 (fun _ => Value.slice none 0 0) (Value.slice (some ⟨D, 0, none⟩) 1 1)) (Value.slice none 0 0)) e_1.tabs), (row (Value.slice (some ⟨A, 0, none⟩) 2 2) 100 3 2 [(Value.int .i64 150), (Value.int .i64 154), (Value.int .i64 160), (Value.int .i64 240), (Value.int .i64 246), (Value.int .i64 249)]), (row (Value.slice (some ⟨B, 0, none⟩) 1 1) 100 3 1 [(Value.int .i64 300), (Value.int .i64 300), (Value.int .i64 299)]), (row (Value.slice (some ⟨G, 0, none⟩) 2 2) 103 2 2 [(Value.int .i64 0), (Value.slice (some ⟨A, 0, none⟩) 2 2), (Value.int .i64 1), (Value.slice (some ⟨B, 0, none⟩) 1 1)])] := q_0 AK (fun _ => Value.slice none 0 0) 3 (blkN e_1.macs) (blkC e_1.macs)
 have AM : Sep NoB w H [(row (Value.slice (some ⟨A, 0, none⟩) 2 2) 100 3 2 [(Value.int .i64 150), (Value.int .i64 154), (Value.int .i64 160), (Value.int .i64 240), (Value.int .i64 246), (Value.int .i64 249)]), (slsR true 0 (fun _ => Value.slice none 0 0) 3 (blkN e_1.macs) (blkC e_1.macs)), (d_8 true (Value.slice (some ⟨F, 0, none⟩) 2 2) (putV 1 (putV 0 (fun _ => Value.slice none 0 0) (Value.slice (some ⟨C, 0, none⟩) 4 4)) (Value.slice (some ⟨E, 0, none⟩) 2 2)) (putV 1 (putV 0 (fun _ => Value.slice none 0 0) (Value.slice (some ⟨D, 0, none⟩) 1 1)) (Value.slice none 0 0)) e_1.tabs), (row (Value.slice (some ⟨B, 0, none⟩) 1 1) 100 3 1 [(Value.int .i64 300), (Value.int .i64 300), (Value.int .i64 299)]), (row (Value.slice (some ⟨G, 0, none⟩) 2 2) 103 2 2 [(Value.int .i64 0), (Value.slice (some ⟨A, 0, none⟩) 2 2), (Value.int .i64 1), (Value.slice (some ⟨B, 0, none⟩) 1 1)])] := AL.keep [2, 0, 1, 3, 4] (by decide) _ rfl rfl
 have AN : Sep NoB w H [(slsR true 1 (putV 0 (fun _ => Value.slice none 0 0) (Value.slice (some ⟨A, 0, none⟩) 2 2)) 3 (blkN e_1.macs) (blkC e_1.macs)), (d_8 true (Value.slice (some ⟨F, 0, none⟩) 2 2) (putV 1 (putV 0 (fun _ => Value.slice none 0 0) (Value.slice (some ⟨C, 0, none⟩) 4 4)) (Value.slice (some ⟨E, 0, none⟩) 2 2)) (putV 1 (putV 0 (fun _ => Value.slice none 0 0) (Value.slice (some ⟨D, 0, none⟩) 1 1)) (Value.slice none 0 0)) e_1.tabs), (row (Value.slice (some ⟨B, 0, none⟩) 1 1) 100 3 1 [(Value.int .i64 300), (Value.int .i64 300), (Value.int .i64 299)]), (row (Value.slice (some ⟨G, 0, none⟩) 2 2) 103 2 2 [(Value.int .i64 0), (Value.slice (some ⟨A, 0, none⟩) 2 2), (Value.int .i64 1), (Value.slice (some ⟨B, 0, none⟩) 1 1)])] := k_7 (k' := blkN e_1.macs) (c' := blkC e_1.macs) AM rfl rfl (fun i hi => absurd hi (Nat.not_lt_zero _))
 have AO : Sep NoB w H [(row (Value.slice (some ⟨B, 0, none⟩) 1 1) 100 3 1 [(Value.int .i64 300), (Value.int .i64 300), (Value.int .i64 299)]), (slsR true 1 (putV 0 (fun _ => Value.slice none 0 0) (Value.slice (some ⟨A, 0, none⟩) 2 2)) 3 (blkN e_1.macs) (blkC e_1.macs)), (d_8 true (Value.slice (some ⟨F, 0, none⟩) 2 2) (putV 1 (putV 0 (fun _ => Value.slice none 0 0) (Value.slice (some ⟨C, 0, none⟩) 4 4)) (Value.slice (some ⟨E, 0, none⟩) 2 2)) (putV 1 (putV 0 (fun _ => Value.slice none 0 0) (Value.slice (some ⟨D, 0, none⟩) 1 1)) (Value.slice none 0 0)) e_1.tabs), (row (Value.slice (some ⟨G, 0, none⟩) 2 2) 103 2 2 [(Value.int .i64 0), (Value.slice (some ⟨A, 0, none⟩) 2 2), (Value.int .i64 1), (Value.slice (some ⟨B, 0, none⟩) 1 1)])] := AN.keep [2, 0, 1, 3] (by decide) _ rfl rfl
 have AP : Sep NoB w H [(slsR true 2 (putV 1 (putV 0 (fun _ => Value.slice none 0 0) (Value.slice (some ⟨A, 0, none⟩) 2 2)) (Value.slice (some ⟨B, 0, none⟩) 1 1)) 3 (blkN e_1.macs) (blkC e_1.macs)), (d_8 true (Value.slice (some ⟨F, 0, none⟩) 2 2) (putV 1 (putV 0 (fun _ => Value.slice none 0 0) (Value.slice (some ⟨C, 0, none⟩) 4 4)) (Value.slice (some ⟨E, 0, none⟩) 2 2)) (putV 1 (putV 0 (fun _ => Value.slice none 0 0) (Value.slice (some ⟨D, 0, none⟩) 1 1)) (Value.slice none 0 0)) e_1.tabs), (row (Value.slice (some ⟨G, 0, none⟩) 2 2) 103 2 2 [(Value.int .i64 0), (Value.slice (some ⟨A, 0, none⟩) 2 2), (Value.int .i64 1), (Value.slice (some ⟨B, 0, none⟩) 1 1)])] := k_7 (k' := blkN e_1.macs) (c' := blkC e_1.macs) AO rfl rfl (fun _ _ => ⟨rfl, rfl⟩)
 have AQ : Sep NoB w H [(row (Value.slice (some ⟨G, 0, none⟩) 2 2) 103 2 2 [(Value.int .i64 0), (Value.slice (some ⟨A, 0, none⟩) 2 2), (Value.int .i64 1), (Value.slice (some ⟨B, 0, none⟩) 1 1)]), (slsR true 2 (putV 1 (putV 0 (fun _ => Value.slice none 0 0) (Value.slice (some ⟨A, 0, none⟩) 2 2)) (Value.slice (some ⟨B, 0, none⟩) 1 1)) 3 (blkN e_1.macs) (blkC e_1.macs)), (d_8 true (Value.slice (some ⟨F, 0, none⟩) 2 2) (putV 1 (putV 0 (fun _ => Value.slice none 0 0) (Value.slice (some ⟨C, 0, none⟩) 4 4)) (Value.slice (some ⟨E, 0, none⟩) 2 2)) (putV 1 (putV 0 (fun _ => Value.slice none 0 0) (Value.slice (some ⟨D, 0, none⟩) 1 1)) (Value.slice none 0 0)) e_1.tabs)] := AP.keep [2, 0, 1] (by decide) _ rfl rfl
 have AR : Sep NoB w H [(row (Value.slice (some ⟨G, 0, none⟩) 2 2) 103 2 e_1.macs.length (n_2 (putV 1 (putV 0 (fun _ => Value.slice none 0 0) (Value.slice (some ⟨A, 0, none⟩) 2 2)) (Value.slice (some ⟨B, 0, none⟩) 1 1)) e_1.macs)), (slsR true 2 (putV 1 (putV 0 (fun _ => Value.slice none 0 0) (Value.slice (some ⟨A, 0, none⟩) 2 2)) (Value.slice (some ⟨B, 0, none⟩) 1 1)) 3 (blkN e_1.macs) (blkC e_1.macs)), (d_8 true (Value.slice (some ⟨F, 0, none⟩) 2 2) (putV 1 (putV 0 (fun _ => Value.slice none 0 0) (Value.slice (some ⟨C, 0, none⟩) 4 4)) (Value.slice (some ⟨E, 0, none⟩) 2 2)) (putV 1 (putV 0 (fun _ => Value.slice none 0 0) (Value.slice (some ⟨D, 0, none⟩) 1 1)) (Value.slice none 0 0)) e_1.tabs)] := AQ.i_4 (i := 0) rfl rfl (kept_macsC _ _).symm
 have AS : Sep NoB w H [(e_6 true (Value.slice (some ⟨G, 0, none⟩) 2 2) (putV 1 (putV 0 (fun _ => Value.slice none 0 0) (Value.slice (some ⟨A, 0, none⟩) 2 2)) (Value.slice (some ⟨B, 0, none⟩) 1 1)) e_1.macs), (d_8 true (Value.slice (some ⟨F, 0, none⟩) 2 2) (putV 1 (putV 0 (fun _ => Value.slice none 0 0) (Value.slice (some ⟨C, 0, none⟩) 4 4)) (Value.slice (some ⟨E, 0, none⟩) 2 2)) (putV 1 (putV 0 (fun _ => Value.slice none 0 0) (Value.slice (some ⟨D, 0, none⟩) 1 1)) (Value.slice none 0 0)) e_1.tabs)] := sep_macs_join AR
 have AT : Sep NoB w H [(d_8 true (Value.slice (some ⟨F, 0, none⟩) 2 2) (putV 1 (putV 0 (fun _ => Value.slice none 0 0) (Value.slice (some ⟨C, 0, none⟩) 4 4)) (Value.slice (some ⟨E, 0, none⟩) 2 2)) (putV 1 (putV 0 (fun _ => Value.slice none 0 0) (Value.slice (some ⟨D, 0, none⟩) 1 1)) (Value.slice none 0 0)) e_1.tabs), (e_6 true (Value.slice (some ⟨G, 0, none⟩) 2 2) (putV 1 (putV 0 (fun _ => Value.slice none 0 0) (Value.slice (some ⟨A, 0, none⟩) 2 2)) (Value.slice (some ⟨B, 0, none⟩) 1 1)) e_1.macs)] := AS.keep [1, 0] (by decide) _ rfl rfl
 exact ⟨_, _, _, _, _, rfl, AT⟩
end Go.Proofs.Ytohgladndklciaa

namespace Go.Proofs.Ytohgladndklciaa
open Go.RowKit Go.Shelf Go.Eng Go.Hard
theorem en_46 : ∀ args w, (callFunc 46 args).run Try.prog w = .ok (.enter 46 args) w := enters_of Try.func46 (by kernel_rfl) rfl
theorem en_33 : ∀ args w, (callFunc 33 args).run Try.prog w = .ok (.enter 33 args) w := enters_of Try.func33 (by kernel_rfl) rfl
theorem en_18 : ∀ args w, (callFunc 18 args).run Try.prog w = .ok (.enter 18 args) w := enters_of Try.func18 (by kernel_rfl) rfl
theorem en_25 : ∀ args w, (callFunc 25 args).run Try.prog w = .ok (.enter 25 args) w := enters_of Try.func25 (by kernel_rfl) rfl
theorem awake_ok (w : World) :
  Calls Try.prog 17 #[] w (Ret fun v w' => v = .bool true ∧ Ext NoB w w') := by
 refine a_8 Try.func17 rfl fun a0 Z => ?_
 replace Z : Fr 71 [] [] a0 := Z
 have AS : Sep NoB w w [] := Sep.start _ _
 refine m2 ?_
 refine s1 Z (a_0 rfl (evc _ _)) fun a1 AR => ?_; clear Z a0
 refine n4 ?_
 refine s2 AR (b_4 rfl en_46 ev0 (kept_ok _)) ?_
 rintro a3 _ w5 ⟨vt6, vm7, lr8, lb9, lk10, rfl, AM⟩ r; have L := AS.w_7 AM rfl; clear AM AR AS a1
 refine s2 r (b_4 rfl en_33 (ev2 (r.ev rfl) (evc _ _)) (Bias_ok e_1 vt6 vm7 lr8 lb9 lk10 _ (c_1 (L.ok 0 _ rfl)) (c_8 (L.ok 1 _ rfl)) kept_thin 0)) ?_
 rintro AY _ BG ⟨rfl, y⟩ O; have AB := L.step y; clear y r L a3
 refine s1 O (a_1 rfl (O.ev rfl)) fun AZ P => ?_; clear O AY
 refine s1 P (d_9 rfl (P.ev rfl) rfl) fun Aa Q => ?_; clear P AZ
 refine s1 Q (d_9 rfl (Q.ev rfl) rfl) fun Ab n => ?_; clear Q Aa
 refine s2 n (e_4 AB rfl z_3 (cs := [(Value.int .i64 0), (Value.int .i64 0)]) rfl) ?_
 rintro Ac _ BH ⟨B, rfl, AC⟩ H; clear n AB Ab
 refine s7 H (c_2 AC rfl g_7 (H.ev rfl) (H.ev rfl) (i := 0) rfl (vs := [(Value.int .i64 ((y_8 e_1 0).1)), (Value.int .i64 ((y_8 e_1 0).2))]) rfl rfl rfl (Nat.le_of_ble_eq_true rfl)) ?_
 intro _ A3 AD R; clear H
 have AE : Sep NoB w A3 [(blk B 30 [(Value.int .i64 ((y_8 e_1 0).1)), (Value.int .i64 ((y_8 e_1 0).2))]), (d_8 true vt6 lr8 lb9 e_1.tabs), (e_6 true vm7 lk10 e_1.macs)] := AD; clear AD AC
 refine s1 R (a_0 rfl (R.ev rfl)) fun Ad o => ?_; clear R Ac
 refine n2 ?_
 have p := o.as [(2, (Value.int .i64 (y_7 e_1 0))), (1, (bptr B 0))] rfl; clear o
 refine a_5 ?_
 refine s2 p (b_4 rfl en_46 ev0 (kept_ok _)) ?_
 rintro Ae _ BI ⟨vt39, vm40, lr41, lb42, lk43, rfl, AN⟩ q; have AF := AE.w_7 AN rfl; clear AN p AE Ad
 refine s2 q (b_4 rfl en_31 (ev2 (evc _ _) (evc _ _)) (m_8 _ _ _)) ?_
 rintro Af _ BJ ⟨rfl, z⟩ I; have M := AF.step z; clear z q AF Ae
 refine s2 I (b_4 rfl en_18 (ev3 (I.ev rfl) (evc _ _) (I.ev rfl)) (Convert_ok e_1 vt39 vm40 lr41 lb42 lk43 _ (c_1 (M.ok 0 _ rfl)) (c_8 (M.ok 1 _ rfl)) kept_thin 0 150 180)) ?_
 rintro Ag _ BK ⟨rfl, AA⟩ S; have AG := M.step AA; clear AA I M Af
 refine s1 S (a_1 rfl (S.ev rfl)) fun Ah T => ?_; clear S Ag
 refine s1 T (d_9 rfl (T.ev rfl) rfl) fun Ai U => ?_; clear T Ah
 refine s1 U (d_9 rfl (U.ev rfl) rfl) fun Aj s => ?_; clear U Ai
 refine s2 s (e_4 AG rfl z_3 (cs := [(Value.int .i64 0), (Value.int .i64 0)]) rfl) ?_
 rintro Ak _ BL ⟨N, rfl, AH⟩ J; clear s AG Aj
 refine s7 J (c_2 AH rfl g_7 (J.ev rfl) (J.ev rfl) (i := 0) rfl (vs := [(Value.int .i64 ((z_1 e_1 0 (150, 180)).1)), (Value.int .i64 ((z_1 e_1 0 (150, 180)).2))]) rfl rfl rfl (Nat.le_of_ble_eq_true rfl)) ?_
 intro _ A4 AI V; clear J
 have AJ : Sep NoB w A4 [(blk N 30 [(Value.int .i64 ((z_1 e_1 0 (150, 180)).1)), (Value.int .i64 ((z_1 e_1 0 (150, 180)).2))]), (d_8 true vt39 lr41 lb42 e_1.tabs), (e_6 true vm40 lk43 e_1.macs), (blk B 30 [(Value.int .i64 ((y_8 e_1 0).1)), (Value.int .i64 ((y_8 e_1 0).2))]), (d_8 true vt6 lr8 lb9 e_1.tabs), (e_6 true vm7 lk10 e_1.macs)] := AI; clear AI AH
 refine s1 V (a_0 rfl (V.ev rfl)) fun Al t => ?_; clear V Ak
 refine n2 ?_
 have u := t.as [(4, (Value.int .i64 (y_9 e_1 0 (150, 180)))), (3, (bptr N 0)), (2, (Value.int .i64 (y_7 e_1 0))), (1, (bptr B 0))] rfl; clear t
 refine a_5 ?_
 refine s2 u (b_4 rfl en_46 ev0 (kept_ok _)) ?_
 rintro Am _ BM ⟨vt77, vm78, lr79, lb80, lk81, rfl, AO⟩ x; have AK := AJ.w_7 AO rfl; clear AO u AJ Al
 refine s1 x (e_5 rfl (pv2 (evc _ _) (evc _ _)) (bd_98_0i_1i _ _)) fun An W => ?_; clear x Am
 refine s2 W (h_8 AK rfl (pv1 (W.ev rfl)) un_53 ty_98 ze_98 (by decide) (cs := [(Value.int .i64 0), (Value.int .i64 170)]) (bs_98_1_0iia _ _)) ?_
 rintro Ao _ BN ⟨As, rfl, C⟩ K; clear W AK An
 refine s2 K (b_4 rfl en_25 (ev2 (K.ev rfl) (K.ev rfl)) (Spans_ok e_1 vt77 vm78 lr79 lb80 lk81 _ (c_1 (C.ok 1 _ rfl)) (c_8 (C.ok 2 _ rfl)) kept_thin ([(0, 170)]) _ (SlAt.of_blk (C.bk 0 rfl) rfl (Nat.le_of_ble_eq_true rfl)) (by decide) ([(161, 164), (259, 266), (83, 87)]) kept_read kept_spans)) ?_
 rintro Ap _ A5 ⟨A, rfl, AP⟩ X
 have AL : Sep NoB w A5 [(row A 30 2 ([(161, 164), (259, 266), (83, 87)].length) (pairs ([(161, 164), (259, 266), (83, 87)]))), (blk As 98 [(Value.int .i64 0), (Value.int .i64 170)]), (d_8 true vt77 lr79 lb80 e_1.tabs), (e_6 true vm78 lk81 e_1.macs), (blk N 30 [(Value.int .i64 ((z_1 e_1 0 (150, 180)).1)), (Value.int .i64 ((z_1 e_1 0 (150, 180)).2))]), (d_8 true vt39 lr41 lb42 e_1.tabs), (e_6 true vm40 lk43 e_1.macs), (blk B 30 [(Value.int .i64 ((y_8 e_1 0).1)), (Value.int .i64 ((y_8 e_1 0).2))]), (d_8 true vt6 lr8 lb9 e_1.tabs), (e_6 true vm7 lk10 e_1.macs)] := C.w_7 AP rfl; clear AP K C Ao
 refine s1 X (a_1 rfl (X.ev rfl)) fun Aq Y => ?_; clear X Ap
 refine s1 Y (d_9 rfl (Y.ev rfl) rfl) fun Ar D => ?_; clear Y Aq
 refine s1 D (d_9 rfl (D.ev rfl) rfl) fun AT E => ?_; clear D Ar
 refine s1 E (a_0 rfl (E.ev rfl)) fun AU F => ?_; clear E AT
 refine s1 F (a_0 rfl (F.ev rfl)) fun A7 b => ?_; clear F AU
 refine n2 ?_
 have c := b.as [(6, (Value.int .i64 0)), (5, A), (4, (Value.int .i64 (y_9 e_1 0 (150, 180)))), (3, (bptr N 0)), (2, (Value.int .i64 (y_7 e_1 0))), (1, (bptr B 0))] rfl; clear b
 have d := c.as [(6, (Value.int .i64 0)), (5, A), (4, (Value.int .i64 (y_9 e_1 0 (150, 180)))), (3, (bptr N 0)), (2, (Value.int .i64 (y_7 e_1 0))), (1, (bptr B 0))] rfl; clear c
 refine g_3 mixed d AL 46 [[], [0], [1], [2], [2], [2, 3, 4], [2, 5], [6], [7], [7, 8], [7, 9], [10], [11], [11], [11, 12, 13], [11, 14], [15], [16], [16, 17], [16, 18], [19], [20], [20, 21], [20, 22], [20, 23], [24], [25], [25, 26], [25, 27], [25], [25, 28, 29], [25, 30], [31], [32], [32, 33], [32, 34], [32], [32, 35, 36], [32, 37], [38], [39], [39, 40], [39, 41], [39], [39, 42, 43], [39, 44]] [(Yd.val (Value.int .i64 (y_7 e_1 0))), (Yd.val (Value.bool true)), (Yd.val (Value.bool true)), (Yd.val (Value.agg #[(Value.int .i64 ((y_8 e_1 0).1)), (Value.int .i64 ((y_8 e_1 0).2))])), (Yd.val (Value.agg #[(Value.int .i64 6), (Value.int .i64 9)])), (Yd.val (Value.bool true)), (Yd.val (Value.bool true)), (Yd.val (Value.bool true)), (Yd.val (Value.int .i64 (y_9 e_1 0 (150, 180)))), (Yd.val (Value.bool true)), (Yd.val (Value.bool true)), (Yd.val (Value.bool true)), (Yd.val (Value.agg #[(Value.int .i64 ((z_1 e_1 0 (150, 180)).1)), (Value.int .i64 ((z_1 e_1 0 (150, 180)).2))])), (Yd.val (Value.agg #[(Value.int .i64 248), (Value.int .i64 282)])), (Yd.val (Value.bool true)), (Yd.val (Value.bool true)), (Yd.val (Value.bool true)), (Yd.val (Value.int .i64 0)), (Yd.val (Value.bool true)), (Yd.val (Value.bool true)), (Yd.val (Value.bool true)), (Yd.val A), (Yd.val (Value.int .i64 ([(161, 164), (259, 266), (83, 87)].length : Int))), (Yd.val (Value.bool true)), (Yd.val (Value.bool true)), (Yd.val (Value.bool true)), (Yd.val A), (Yd.val (eptr A (0 * 2))), (Yd.val (Value.agg #[(Value.int .i64 ((([(161, 164), (259, 266), (83, 87)]).getD 0 (0, 0)).1)), (Value.int .i64 ((([(161, 164), (259, 266), (83, 87)]).getD 0 (0, 0)).2))])), (Yd.val (Value.agg #[(Value.int .i64 161), (Value.int .i64 164)])), (Yd.val (Value.bool true)), (Yd.val (Value.bool true)), (Yd.val (Value.bool true)), (Yd.val A), (Yd.val (eptr A (1 * 2))), (Yd.val (Value.agg #[(Value.int .i64 ((([(161, 164), (259, 266), (83, 87)]).getD 1 (0, 0)).1)), (Value.int .i64 ((([(161, 164), (259, 266), (83, 87)]).getD 1 (0, 0)).2))])), (Yd.val (Value.agg #[(Value.int .i64 259), (Value.int .i64 266)])), (Yd.val (Value.bool true)), (Yd.val (Value.bool true)), (Yd.val (Value.bool true)), (Yd.val A), (Yd.val (eptr A (2 * 2))), (Yd.val (Value.agg #[(Value.int .i64 ((([(161, 164), (259, 266), (83, 87)]).getD 2 (0, 0)).1)), (Value.int .i64 ((([(161, 164), (259, 266), (83, 87)]).getD 2 (0, 0)).2))])), (Yd.val (Value.agg #[(Value.int .i64 83), (Value.int .i64 87)])), (Yd.val (Value.bool true)), (Yd.val (Value.bool true))] (by decide +kernel) rfl rfl ?_ ?_
 ·skip
  refine dq (fun a w hA hS hd => a_1 rfl (hA.ev rfl)) ?_
  refine ⟨fun a w hA hS hd => by have e0 := hx hd 0; exact b_1 rfl (dv (n_7 rfl (a_7 e0) (evc _ _)) hS (by show Value.bool _ = _; simp only [decide_eq_true (show (y_7 e_1 0) = 0 from (by decide)), decide_true, decide_false, Bool.not_true, Bool.not_false])), ?_⟩
  refine dq (fun a w hA hS hd => a_1 rfl (hq hd 1)) ?_
  refine dy 2 (fun a w hA hS hd => c_5 rfl g_7 (hA.ev rfl) (hS.bk 7 rfl) (l := [(Value.int .i64 ((y_8 e_1 0).1)), (Value.int .i64 ((y_8 e_1 0).2))]) rfl rfl) ?_
  refine ⟨fun a w hA hS hd => by have e2 := hx hd 2; exact i_1 rfl rfl e2 (dx (b_4 rfl en_31 (ev2 (evc _ _) (evc _ _)) (m_8 _ _ _)) hS (fun _ => rfl)), ?_⟩
  refine ⟨fun a w hA hS hd => by have e2 := hx hd 2; have e3 := hx hd 3; have e4 := hx hd 4; exact i_1 rfl rfl e2 (dv (op_eqlP tw_30 rfl (a_7 e3) (a_7 e4)) hS (by show Value.bool _ = _; simp only [(show (decide ((((y_8 e_1 0).1) : Int) = 6) && decide ((((y_8 e_1 0).2) : Int) = 9)) = true from (by decide)), decide_true, decide_false, Bool.not_true, Bool.not_false])), ?_⟩
  refine dq (fun a w hA hS hd => b_9 rfl (hq hd 2) (hq hd 5)) ?_
  refine dq (fun a w hA hS hd => a_1 rfl (hq hd 6)) ?_
  refine dy 7 (fun a w hA hS hd => a_1 rfl (hA.ev rfl)) ?_
  refine ⟨fun a w hA hS hd => by have e7 := hx hd 7; have e8 := hx hd 8; exact i_1 rfl rfl e7 (dv (n_7 rfl (a_7 e8) (evc _ _)) hS (by show Value.bool _ = _; simp only [decide_eq_true (show (y_9 e_1 0 (150, 180)) = 0 from (by decide)), decide_true, decide_false, Bool.not_true, Bool.not_false])), ?_⟩
  refine dq (fun a w hA hS hd => b_9 rfl (hq hd 7) (hq hd 9)) ?_
  refine dq (fun a w hA hS hd => a_1 rfl (hq hd 10)) ?_
  refine dy 11 (fun a w hA hS hd => c_5 rfl g_7 (hA.ev rfl) (hS.bk 4 rfl) (l := [(Value.int .i64 ((z_1 e_1 0 (150, 180)).1)), (Value.int .i64 ((z_1 e_1 0 (150, 180)).2))]) rfl rfl) ?_
  refine ⟨fun a w hA hS hd => by have h := hx hd 11; exact i_1 rfl rfl h (dx (b_4 rfl en_31 (ev2 (evc _ _) (evc _ _)) (m_8 _ _ _)) hS (fun _ => rfl)), ?_⟩
  refine ⟨fun a w hA hS hd => by have h := hx hd 11; have At := hx hd 12; have Au := hx hd 13; exact i_1 rfl rfl h (dv (op_eqlP tw_30 rfl (a_7 At) (a_7 Au)) hS (by show Value.bool _ = _; simp only [(show (decide ((((z_1 e_1 0 (150, 180)).1) : Int) = 248) && decide ((((z_1 e_1 0 (150, 180)).2) : Int) = 282)) = true from (by decide)), decide_true, decide_false, Bool.not_true, Bool.not_false])), ?_⟩
  refine dq (fun a w hA hS hd => b_9 rfl (hq hd 11) (hq hd 14)) ?_
  refine dq (fun a w hA hS hd => a_1 rfl (hq hd 15)) ?_
  refine dy 16 (fun a w hA hS hd => a_1 rfl (hA.ev rfl)) ?_
  refine dy 16 (fun a w hA hS hd => n_7 rfl (hq hd 17) (evc _ _)) ?_
  refine dq (fun a w hA hS hd => b_9 rfl (hq hd 16) (hq hd 18)) ?_
  refine dq (fun a w hA hS hd => a_1 rfl (hq hd 19)) ?_
  refine dy 20 (fun a w hA hS hd => a_1 rfl (hA.ev rfl)) ?_
  refine dy 20 (fun a w hA hS hd => d_6 rfl aa_9 (hq hd 21) (SlAt.d_7 (hS.e_2 0 rfl))) ?_
  refine ⟨fun a w hA hS hd => by have Av := hx hd 20; have Aw := hx hd 22; exact i_1 rfl rfl Av (dv (n_7 rfl (a_7 Aw) (evc _ _)) hS (by show Value.bool _ = _; simp only [decide_eq_true (show ([(161, 164), (259, 266), (83, 87)].length : Int) = 3 from (by decide)), decide_true, decide_false, Bool.not_true, Bool.not_false])), ?_⟩
  refine dq (fun a w hA hS hd => b_9 rfl (hq hd 20) (hq hd 23)) ?_
  refine dq (fun a w hA hS hd => a_1 rfl (hq hd 24)) ?_
  refine dy 25 (fun a w hA hS hd => a_1 rfl (hA.ev rfl)) ?_
  refine dy 25 (fun a w hA hS hd => b_3 rfl aa_9 g_7 (hq hd 26) (i := 0) (show _ = Value.int .i64 ((0 : Nat) : Int) from (evc _ _)) (SlAt.d_7 (hS.e_2 0 rfl)) (by decide) (by decide)) ?_
  refine dy 25 (fun a w hA hS hd => e_7 rfl g_7 (hq hd 27) (SlAt.d_7 (hS.e_2 0 rfl)) (g_9 (by decide)) rfl (by decide)) ?_
  refine ⟨fun a w hA hS hd => by have j := hx hd 25; exact i_1 rfl rfl j (dx (b_4 rfl en_31 (ev2 (evc _ _) (evc _ _)) (m_8 _ _ _)) hS (fun _ => rfl)), ?_⟩
  refine ⟨fun a w hA hS hd => by have j := hx hd 25; have Ax := hx hd 28; have Ay := hx hd 29; exact i_1 rfl rfl j (dv (op_eqlP tw_30 rfl (a_7 Ax) (a_7 Ay)) hS (by show Value.bool _ = _; simp only [(show (decide ((((([(161, 164), (259, 266), (83, 87)]).getD 0 (0, 0)).1) : Int) = 161) && decide ((((([(161, 164), (259, 266), (83, 87)]).getD 0 (0, 0)).2) : Int) = 164)) = true from (by decide)), decide_true, decide_false, Bool.not_true, Bool.not_false])), ?_⟩
  refine dq (fun a w hA hS hd => b_9 rfl (hq hd 25) (hq hd 30)) ?_
  refine dq (fun a w hA hS hd => a_1 rfl (hq hd 31)) ?_
  refine dy 32 (fun a w hA hS hd => a_1 rfl (hA.ev rfl)) ?_
  refine dy 32 (fun a w hA hS hd => b_3 rfl aa_9 g_7 (hq hd 33) (i := 1) (show _ = Value.int .i64 ((1 : Nat) : Int) from (evc _ _)) (SlAt.d_7 (hS.e_2 0 rfl)) (by decide) (by decide)) ?_
  refine dy 32 (fun a w hA hS hd => e_7 rfl g_7 (hq hd 34) (SlAt.d_7 (hS.e_2 0 rfl)) (g_9 (by decide)) rfl (by decide)) ?_
  refine ⟨fun a w hA hS hd => by have k := hx hd 32; exact i_1 rfl rfl k (dx (b_4 rfl en_31 (ev2 (evc _ _) (evc _ _)) (m_8 _ _ _)) hS (fun _ => rfl)), ?_⟩
  refine ⟨fun a w hA hS hd => by have k := hx hd 32; have Az := hx hd 35; have A0 := hx hd 36; exact i_1 rfl rfl k (dv (op_eqlP tw_30 rfl (a_7 Az) (a_7 A0)) hS (by show Value.bool _ = _; simp only [(show (decide ((((([(161, 164), (259, 266), (83, 87)]).getD 1 (0, 0)).1) : Int) = 259) && decide ((((([(161, 164), (259, 266), (83, 87)]).getD 1 (0, 0)).2) : Int) = 266)) = true from (by decide)), decide_true, decide_false, Bool.not_true, Bool.not_false])), ?_⟩
  refine dq (fun a w hA hS hd => b_9 rfl (hq hd 32) (hq hd 37)) ?_
  refine dq (fun a w hA hS hd => a_1 rfl (hq hd 38)) ?_
  refine dy 39 (fun a w hA hS hd => a_1 rfl (hA.ev rfl)) ?_
  refine dy 39 (fun a w hA hS hd => b_3 rfl aa_9 g_7 (hq hd 40) (i := 2) (show _ = Value.int .i64 ((2 : Nat) : Int) from (evc _ _)) (SlAt.d_7 (hS.e_2 0 rfl)) (by decide) (by decide)) ?_
  refine dy 39 (fun a w hA hS hd => e_7 rfl g_7 (hq hd 41) (SlAt.d_7 (hS.e_2 0 rfl)) (g_9 (by decide)) rfl (by decide)) ?_
  refine ⟨fun a w hA hS hd => by have m := hx hd 39; exact i_1 rfl rfl m (dx (b_4 rfl en_31 (ev2 (evc _ _) (evc _ _)) (m_8 _ _ _)) hS (fun _ => rfl)), ?_⟩
  refine ⟨fun a w hA hS hd => by have m := hx hd 39; have A1 := hx hd 42; have A2 := hx hd 43; exact i_1 rfl rfl m (dv (op_eqlP tw_30 rfl (a_7 A1) (a_7 A2)) hS (by show Value.bool _ = _; simp only [(show (decide ((((([(161, 164), (259, 266), (83, 87)]).getD 2 (0, 0)).1) : Int) = 83) && decide ((((([(161, 164), (259, 266), (83, 87)]).getD 2 (0, 0)).2) : Int) = 87)) = true from (by decide)), decide_true, decide_false, Bool.not_true, Bool.not_false])), ?_⟩
  refine dq (fun a w hA hS hd => b_9 rfl (hq hd 39) (hq hd 44)) ?_
  trivial
 intro AV BF e AQ g; clear d AL
 have G := e.add (hz g 45); clear e
 clear g
 refine s1 G (a_0 rfl (G.ev rfl)) fun A8 f => ?_; clear G AV
 refine n1 ?_
 refine c_9 ?_
 refine a_9 f (.inl rfl) (a_4 f rfl (.tmp rfl)) ?_
 exact ⟨rfl, AQ.ext⟩
end Go.Proofs.Ytohgladndklciaa

namespace Go.Proofs.Ytohgladndklciaa
open Go.RowKit Go.Shelf Go.Eng Go.Hard
theorem en_16 : ∀ args w, (callFunc 16 args).run Try.prog w = .ok (.enter 16 args) w := enters_of Try.func16 (by kernel_rfl) rfl
theorem en_17 : ∀ args w, (callFunc 17 args).run Try.prog w = .ok (.enter 17 args) w := enters_of Try.func17 (by kernel_rfl) rfl
theorem en_19 : ∀ args w, (callFunc 19 args).run Try.prog w = .ok (.enter 19 args) w := enters_of Try.func19 (by kernel_rfl) rfl
theorem en_23 : ∀ args w, (callFunc 23 args).run Try.prog w = .ok (.enter 23 args) w := enters_of Try.func23 (by kernel_rfl) rfl
theorem en_24 : ∀ args w, (callFunc 24 args).run Try.prog w = .ok (.enter 24 args) w := enters_of Try.func24 (by kernel_rfl) rfl
theorem bs_27_1_0iia (x0_0 : Int) (x0_1 : Int) : Instr.fill (fun i => some (i * 2, 2)) ((Array.range (1 * 2)).map ((Value.agg #[(Value.int .i64 0), (Value.int .i64 0)]).cells[· % (Value.agg #[(Value.int .i64 0), (Value.int .i64 0)]).cells.size]!)) [(0, .agg #[(.int .i64 x0_0), (.int .i64 x0_1)])] = some (([(.int .i64 x0_0), (.int .i64 x0_1)] : List Value).toArray) := by kernel_rfl
theorem t_8 : Try.prog.underlying 56 = some (.slice 27) := by kernel_rfl
theorem el_27 : elK Try.prog 27 = some ((Value.agg #[(Value.int .i64 0), (Value.int .i64 0)]), 2, 16) := by kernel_rfl
theorem en_60 : ∀ args w, (callFunc 60 args).run Try.prog w = .ok (.enter 60 args) w := enters_of Try.func60 (by kernel_rfl) rfl
theorem tw_27 : j_2 Try.prog 27 = true := by kernel_rfl
theorem en_26 : ∀ args w, (callFunc 26 args).run Try.prog w = .ok (.enter 26 args) w := enters_of Try.func26 (by kernel_rfl) rfl
theorem en_27 : ∀ args w, (callFunc 27 args).run Try.prog w = .ok (.enter 27 args) w := enters_of Try.func27 (by kernel_rfl) rfl
theorem en_28 : ∀ args w, (callFunc 28 args).run Try.prog w = .ok (.enter 28 args) w := enters_of Try.func28 (by kernel_rfl) rfl
end Go.Proofs.Ytohgladndklciaa

namespace Go.Hard
section
variable {n : Nat} {ts : List TabD} {s0 x y : g_6} {q : Nat}
def i_0 (n : Nat) : g_6 := List.replicate n rng0
theorem freeN_len (n : Nat) : (i_0 n).length = n := by simp [i_0]
theorem freeN_at {n i : Nat} (h : i < n) : at' (i_0 n) i = rng0 := by unfold at' i_0; simp [List.getD, h]
theorem free4_at {i : Nat} (h : i < 4) : at' e_8 i = rng0 := by
  match i, h with
  | 0, _ => rfl
  | 1, _ => rfl
  | 2, _ => rfl
  | 3, _ => rfl
theorem freeN_snoc (k : Nat) : i_0 k ++ [((0 : Int), (100000 : Int))] = i_0 (k + 1) := by unfold i_0; rw [List.replicate_succ']; rfl
theorem startN_at {b : h_6} {l : List (Int × Int)} (hb : n_0 b) (hl : u_6 b l) {i : Nat} (hi : i < b.scales.toNat) : ∀ k, k ≤ l.length → at' (c_0 b l (i_0 b.scales.toNat) k) i = at' (c_0 b l e_8 k) i
  | 0, _ => by have := hb.four; show at' (i_0 _) i = at' e_8 i; rw [freeN_at hi, free4_at (by omega)]
  | k + 1, hk => by
    have ih := startN_at hb hl hi k (by omega)
    have hsc := x_7 hb hl (k := k) (by omega)
    have h1 := n_8 b l (i_0 b.scales.toNat) k
    have h2 := n_8 b l e_8 k
    rw [freeN_len] at h1
    have h4 : e_8.length = 4 := rfl
    have hn := hb.four
    rw [t_6, t_6, at_set (by omega), at_set (by omega)]
    split
    · rename_i e; subst e; rw [ih]
    · exact ih
theorem Sub.congr {s s' : g_6} (h : ∀ i, i < n → at' s i = at' s' i) : Sub n y s ↔ Sub n y s' :=
  ⟨fun g i hi => by rw [← h i hi]; exact g i hi, fun g i hi => by rw [h i hi]; exact g i hi⟩
theorem o_6.start {s s' : g_6} {r : Option g_6} (h : ∀ i, i < n → at' s i = at' s' i) (g : o_6 n ts s r) : o_6 n ts s' r := by
  have key : ∀ z, Sol n ts s z ↔ Sol n ts s' z := fun z => ⟨fun k => ⟨(Sub.congr h).1 k.sub, k.full, k.stable⟩, fun k => ⟨(Sub.congr h).2 k.sub, k.full, k.stable⟩⟩
  cases r with
  | none => exact fun z hz => g z ((key z).2 hz)
  | some t => exact ⟨g.1, (key t).1 g.2.1, fun z hz => g.2.2 z ((key z).2 hz)⟩
structure RndI (n : Nat) (ts : List TabD) (s0 x : g_6) : Prop where
  len : x.length = n
  ub : Ub n ts s0 x
structure RndJ (n : Nat) (ts : List TabD) (s0 x : g_6) (q : Nat) (y : g_6) (ch : Bool) : Prop where
  len : y.length = n
  ub : Ub n ts s0 y
  same : ch = false → y = x ∧ ∀ i, i < q → u_7 (ts.getD i tab0) x
  less : ch = true → Full n y → width y < width x
theorem RndJ.start (h : RndI n ts s0 x) : RndJ n ts s0 x 0 x false := ⟨h.len, h.ub, fun _ => ⟨rfl, fun _ h => absurd h (Nat.not_lt_zero _)⟩, fun h => by cases h⟩
theorem full_sub {y' : g_6} (h : Sub n y' y) (hf : Full n y') : Full n y := fun i hi => by have := h i hi; have := hf i hi; omega
theorem RndJ.skip {ch : Bool} (h : RndJ n ts s0 x q y ch) (hf : Full n x) (hV : TabV n (ts.getD q tab0)) (hs : (at' y (ts.getD q tab0).dst.toNat).2 < (at' y (ts.getD q tab0).dst.toNat).1 ∨ (at' y (ts.getD q tab0).frm.toNat).2 < (at' y (ts.getD q tab0).frm.toNat).1 ∨ n_5 (ts.getD q tab0) (at' y (ts.getD q tab0).frm.toNat) = false) : RndJ n ts s0 x (q + 1) y ch := by
  refine ⟨h.len, h.ub, fun hc => ?_, h.less⟩
  obtain ⟨rfl, h2⟩ := h.same hc
  refine ⟨rfl, fun i hi => ?_⟩
  rcases Nat.lt_succ_iff_lt_or_eq.1 hi with hi | rfl
  · exact h2 i hi
  · have h3 := hV.dst; have h4 := hV.frm
    have h5 := hf (ts.getD i tab0).dst.toNat (by omega)
    have h6 := hf (ts.getD i tab0).frm.toNat (by omega)
    rcases hs with hs | hs | hs
    · omega
    · omega
    · intro hc; rw [hs] at hc; cases hc
theorem RndJ.keep {ch : Bool} (h : RndJ n ts s0 x q y ch) (he : cutR (at' y (ts.getD q tab0).dst.toNat) (f_3 (ts.getD q tab0) (at' y (ts.getD q tab0).frm.toNat)) = at' y (ts.getD q tab0).dst.toNat) : RndJ n ts s0 x (q + 1) y ch := by
  refine ⟨h.len, h.ub, fun hc => ?_, h.less⟩
  obtain ⟨rfl, h2⟩ := h.same hc
  refine ⟨rfl, fun i hi => ?_⟩
  rcases Nat.lt_succ_iff_lt_or_eq.1 hi with hi | rfl
  · exact h2 i hi
  · intro _
    have e1 := congrArg Prod.fst he
    have e2 := congrArg Prod.snd he
    dsimp only [cutR] at e1 e2
    constructor <;> omega
theorem RndJ.cut {ch : Bool} (h : RndJ n ts s0 x q y ch) (hn : n ≤ 4) (hf : Full n x) (hV : TabV n (ts.getD q tab0)) (ht : ts.getD q tab0 ∈ ts) (hc : n_5 (ts.getD q tab0) (at' y (ts.getD q tab0).frm.toNat) = true) (he : ¬ cutR (at' y (ts.getD q tab0).dst.toNat) (f_3 (ts.getD q tab0) (at' y (ts.getD q tab0).frm.toNat)) = at' y (ts.getD q tab0).dst.toNat) :
    RndJ n ts s0 x (q + 1) (y.set (ts.getD q tab0).dst.toNat (cutR (at' y (ts.getD q tab0).dst.toNat) (f_3 (ts.getD q tab0) (at' y (ts.getD q tab0).frm.toNat)))) true := by
  have e : r_4 (ts.getD q tab0) y = y.set (ts.getD q tab0).dst.toNat (cutR (at' y (ts.getD q tab0).dst.toNat) (f_3 (ts.getD q tab0) (at' y (ts.getD q tab0).frm.toNat))) := by unfold r_4; rw [if_pos hc]
  have hd := hV.dst
  have hl := h.len
  have hle := step_le hV (s := y) (by omega)
  have hub := h.ub.step hV ht (by omega)
  have hlen := step_len (ts.getD q tab0) y
  rw [← e]
  refine ⟨by omega, hub, (fun h => by cases h), fun _ hf' => ?_⟩
  -- width of y': less than that of y, and y's is at most that of x
  have hfy := full_sub hle hf'
  have h1 : width (r_4 (ts.getD q tab0) y) < width y := by
    have each : ∀ i, wide (at' (r_4 (ts.getD q tab0) y) i) ≤ wide (at' y i) ∧ (i = (ts.getD q tab0).dst.toNat → wide (at' (r_4 (ts.getD q tab0) y) i) < wide (at' y i)) := fun i => by
      by_cases hi : i < n
      · have := hle i hi
        refine ⟨wide_le this.1 this.2, fun e2 => wide_lt this.1 this.2 (hf' i hi) ?_⟩
        subst e2
        rw [e, at_set (by omega), if_pos rfl]; exact he
      · refine ⟨?_, fun e2 => by omega⟩
        rw [e, at_set (by omega), if_neg (by omega)]; exact Nat.le_refl _
    have e0 := each 0; have e1 := each 1; have e2 := each 2; have e3 := each 3
    unfold width
    have : (ts.getD q tab0).dst.toNat = 0 ∨ (ts.getD q tab0).dst.toNat = 1 ∨ (ts.getD q tab0).dst.toNat = 2 ∨ (ts.getD q tab0).dst.toNat = 3 := by omega
    rcases this with g | g | g | g
    · have := e0.2 g.symm; omega
    · have := e1.2 g.symm; omega
    · have := e2.2 g.symm; omega
    · have := e3.2 g.symm; omega
  cases ch with
  | false => rw [(h.same rfl).1] at h1 ⊢; exact h1
  | true => have := h.less rfl hfy; omega
def measR (n : Nat) (x : g_6) (ch : Bool) : Nat := if ch = true then (if ab_4 n x then width x + 2 else 1) else 0
theorem meas_dec {ch : Bool} (hf : Full n x) (h : RndJ n ts s0 x q y ch) : measR n y ch < measR n x true := by
  unfold measR
  rw [if_pos rfl, if_pos (o_8.2 hf)]
  cases ch with
  | false => rw [if_neg (by decide)]; omega
  | true =>
    rw [if_pos rfl]
    split
    · rename_i hy; have := h.less rfl (o_8.1 hy); omega
    · omega
end
section
variable {b : h_6} {l : List (Int × Int)} {x : g_6}
theorem ref_some (hb : n_0 b) (hl : u_6 b l) (h : RndI b.scales.toNat b.tabs (c_0 b l (i_0 b.scales.toNat) l.length) x) (hf : Full b.scales.toNat x) (hs : ∀ i, i < b.tabs.length → u_7 (b.tabs.getD i tab0) x) : k_8 b l = some x := by
  have hw := (h.ub.some (by rw [h.len]; exact Nat.le_refl _) hf (fun t ht => hb.natV t ht) (fun t ht => by
    obtain ⟨i, hi, rfl⟩ := List.getElem_of_mem ht
    have := hs i hi
    simpa only [List.getD, List.getElem?_eq_getElem hi, Option.getD_some] using this)).start (s' := s_1 b l) (fun i hi => startN_at hb hl hi _ (Nat.le_refl _))
  rw [List.take_of_length_le (by rw [h.len]; exact Nat.le_refl _)] at hw
  exact widest_one (spans_is hb hl) hw
theorem ref_none (hb : n_0 b) (hl : u_6 b l) (h : RndI b.scales.toNat b.tabs (c_0 b l (i_0 b.scales.toNat) l.length) x) {i : Nat} (hi : i < b.scales.toNat) (he : (at' x i).2 < (at' x i).1) : k_8 b l = none :=
  widest_one (spans_is hb hl) ((h.ub.none hi he).start (s' := s_1 b l) (fun i hi => startN_at hb hl hi _ (Nat.le_refl _)))
theorem ref_start (b : h_6) (l : List (Int × Int)) : RndI b.scales.toNat b.tabs (c_0 b l (i_0 b.scales.toNat) l.length) (c_0 b l (i_0 b.scales.toNat) l.length) := ⟨by rw [n_8, freeN_len], Ub.start⟩
theorem pair_neq {a1 a2 b1 b2 : Int} (h : (decide (a1 = b1) && decide (a2 = b2)) = false) : ¬ ((a1, a2) : Rng) = (b1, b2) := fun e => by
  have e1 := congrArg Prod.fst e; have e2 := congrArg Prod.snd e; dsimp only at e1 e2
  rw [decide_eq_true e1, decide_eq_true e2] at h; cases h
theorem pair_eq' {a1 a2 b1 b2 : Int} (h : (decide (a1 = b1) && decide (a2 = b2)) = true) : ((a1, a2) : Rng) = (b1, b2) := by
  rw [Bool.and_eq_true, decide_eq_true_eq, decide_eq_true_eq] at h; rw [h.1, h.2]
theorem spans_len (hb : n_0 b) (hl : u_6 b l) {t : g_6} (h : k_8 b l = some t) : t.length = b.scales.toNat ∧ t.length ≤ 4 := by
  have := spans_is hb hl
  rw [h] at this
  have h4 := hb.four
  exact ⟨this.1, by rw [this.1]; exact h4⟩
end
end Go.Hard

namespace Go.Proofs.Ytohgladndklciaa
open Go.RowKit Go.Shelf Go.Eng Go.Hard
set_option maxHeartbeats 4000000 in
theorem rspans_ok (b : h_6) (vt vm : Value) (lr lb lk : Nat → Value) (w : World) (hT : i_5 w vt lr lb b.tabs) (hM : j_6 w vm lk b.macs) (hth : n_4 b) (hb : n_0 b) (l : List (Int × Int)) (xl : Value) (hxl : SlAt w xl 2 l.length (pairs l)) (hl : u_6 b l) :
  Calls Try.prog 28 #[(Value.agg #[(Value.int .i64 b.scales), vt, vm]), xl] w (Ret fun v w' => (k_8 b l = none ∧ v = .tuple #[.slice none 0 0, .bool false] ∧ Ext NoB w w') ∨ ∃ t u, k_8 b l = some t ∧ v = .tuple #[u, .bool true] ∧ Sep NoB w w' [row u 27 2 t.length (pairs t)]) := by
 refine a_8 Try.func28 rfl fun a0 BP => ?_
 replace BP : Fr 164 [] [(0, (Value.agg #[(Value.int .i64 b.scales), vt, vm])), (1, xl)] a0 := BP
 have hsc := hb.scales; have htl9 := hth.tl; have hml9 := hth.ml; have hll := hl.len; have HK := hb.four
 have Ek : Sep NoB w w [(d_8 false vt lr lb b.tabs), (e_6 false vm lk b.macs), (sl xl 2 l.length (pairs l))] := f_1 ⟨rfl, hT, rfl, hM, rfl, hxl, trivial⟩
 refine m2 ?_
 refine s2 BP (f_0 Ek rfl (BP.ev rfl) (cs := [(Value.int .i64 b.scales), vt, vm]) rfl) ?_
 rintro a1 _ w3 ⟨C, rfl, El⟩ Eh; clear BP Ek a0
 refine s1 Eh (a_0 rfl (evc _ _)) fun a6 Ei => ?_; clear Eh a1
 refine s1 Ei (a_0 rfl (evc _ _)) fun a8 Ej => ?_; clear Ei a6
 refine n4 ?_
 refine s1 Ej (a_0 rfl (evc _ _)) fun F4 DX => ?_; clear Ej a8
 have Dk := El.x_3 27 2; clear El
 refine n2 ?_
 refine m2 ?_
 refine s1 DX (a_0 rfl (evc _ _)) fun F5 DY => ?_; clear DX F4
 refine n1 ?_
 refine c_7 ?_
 have DZ := DY.as [(7, (Value.int .i64 0)), (6, (Value.slice none 0 0)), (2, (bptr C 0)), (1, xl)] rfl; clear DY
 refine h_3 (G := Nat) (fun (k : Nat) a_ w_ => ∃ v6_ : Value, Fr 164 [] [(7, (Value.int .i64 (k : Int))), (6, v6_), (2, (bptr C 0)), (1, xl)] a_ ∧ Sep NoB w w_ [(row v6_ 27 2 ((i_0 k).length) (pairs (i_0 k))), (blk C 25 [(Value.int .i64 b.scales), vt, vm]), (d_8 false vt lr lb b.tabs), (e_6 false vm lk b.macs), (sl xl 2 l.length (pairs l))] ∧ (k ≤ b.scales.toNat)) (fun k => b.scales.toNat - k) 0 ⟨(Value.slice none 0 0), DZ.as _ rfl, (Dk.i_4 (i := 0) rfl (by rfl) (by rfl)), by omega⟩ ?_
 clear DZ Dk F5
 rintro k F6 HP ⟨v6_, BR, AG, hk⟩
 have hfl := freeN_len k
 refine b_8 ?_
 refine m2 ?_
 refine s1 BR (a_1 rfl (BR.ev rfl)) fun F7 BS => ?_; clear BR F6
 refine s1 BS (a_3 rfl fd_25_0 (BS.ev rfl)) fun F8 BT => ?_; clear BS F7
 refine s1 BT (a_2 rfl ty_3 (BT.ev rfl) (AG.bk 1 rfl) rfl) fun F9 Ap => ?_; clear BT F8
 refine s1 Ap (f_8 rfl (Ap.ev rfl) (Ap.ev rfl)) fun Ef P => ?_; clear Ap F9
 refine n1 ?_
 by_cases Dr : (k : Int) < b.scales
 ·skip
  rw [decide_eq_true Dr] at P
  refine c_3 P rfl ?_
  refine d_0 ?_
  refine b_0 ?_
  refine b_8 ?_
  refine c_7 ?_
  refine a_5 ?_
  refine s1 P (a_1 rfl (P.ev rfl)) fun GA Da => ?_; clear P Ef
  refine s1 Da (e_5 rfl (pv2 (evc _ _) (evc _ _)) (m_6 _ _)) fun GB BU => ?_; clear Da GA
  refine s2 BU (h_8 AG rfl (pv1 (BU.ev rfl)) t_8 j_5 ze_27 (by decide) (cs := [(Value.int .i64 0), (Value.int .i64 100000)]) (bs_27_1_0iia _ _)) ?_
  rintro GC _ HQ ⟨HI, rfl, Be⟩ A1; clear BU AG GB
  refine s2 A1 (p_0 Be rfl t_8 el_27 (A1.ev rfl) (A1.ev rfl) (i := 1) rfl (SlAt.of_blk (Be.bk 0 rfl) rfl (Nat.le_of_ble_eq_true rfl)) rfl (by simp only [maxLen]; omega) (by omega)) ?_
  intro GD EH Go Dl BV
  have Dm := Dl.i_4 (i := 1) rfl (n' := (i_0 (k + 1)).length) (xs' := (pairs (i_0 (k + 1)))) (by rw [← freeN_snoc]; simp) (by rw [← freeN_snoc]; simp [pairs]); clear Dl A1 Be GC
  refine s1 BV (a_0 rfl (BV.ev rfl)) fun GE Db => ?_; clear BV GD
  refine e_9 ?_
  refine h_0 ?_
  refine b_0 ?_
  have BW := Db.as [(6, EH), (7, (Value.int .i64 (k : Int))), (2, (bptr C 0)), (1, xl)] rfl; clear Db
  refine a_5 ?_
  refine s1 BW (a_1 rfl (BW.ev rfl)) fun GF BX => ?_; clear BW GE
  refine s1 BX (f_4 rfl (BX.ev rfl) (evc _ _) (by omega) (by omega)) fun GG BY => ?_; clear BX GF
  refine s1 BY (a_0 rfl (BY.ev rfl)) fun HG Fl => ?_; clear BY GG
  refine e_9 ?_
  have Fm : Sep NoB w Go [(row EH 27 2 ((i_0 (k + 1)).length) (pairs (i_0 (k + 1)))), (blk C 25 [(Value.int .i64 b.scales), vt, vm]), (d_8 false vt lr lb b.tabs), (e_6 false vm lk b.macs), (sl xl 2 l.length (pairs l))] := Dm.keep [1, 2, 3, 4, 5] (by decide) _ rfl rfl; clear Dm
  exact b_0 ⟨k + 1, ⟨EH, Fl.as _ rfl, (Fm.i_4 (i := 0) rfl rfl rfl), by omega⟩, by omega⟩
 skip
 rw [decide_eq_false Dr] at P
 refine b_7 P rfl ?_
 refine g_8 ?_
 refine b_6 ?_
 refine b_6 ?_
 refine f_5 ?_
 refine b_0 ?_
 refine b_8 ?_
 refine m2 ?_
 refine s1 P (a_0 rfl (evc _ _)) fun GH Dc => ?_; clear P Ef
 refine n1 ?_
 refine c_7 ?_
 have Dd := Dc.as [(8, (Value.int .i64 0)), (6, v6_), (2, (bptr C 0)), (1, xl)] rfl; clear Dc
 refine h_3 (G := Nat) (fun (k : Nat) a_ w_ => Fr 164 [] [(8, (Value.int .i64 (k : Int))), (6, v6_), (2, (bptr C 0)), (1, xl)] a_ ∧ Sep NoB w w_ [(row v6_ 27 2 ((c_0 b l (i_0 b.scales.toNat) k).length) (pairs (c_0 b l (i_0 b.scales.toNat) k))), (blk C 25 [(Value.int .i64 b.scales), vt, vm]), (d_8 false vt lr lb b.tabs), (e_6 false vm lk b.macs), (sl xl 2 l.length (pairs l))] ∧ (k ≤ l.length)) (fun k => l.length - k) 0 ⟨Dd.as _ rfl, (AG.i_4 (i := 0) rfl (by rw [show k = b.scales.toNat by omega]; rfl) (by rw [show k = b.scales.toNat by omega]; rfl)), Nat.zero_le _⟩ ?_
 clear Dd AG GH
 rintro k GI HR ⟨BZ, AH, hk⟩
 have hsl := n_8 b l (i_0 b.scales.toNat) k; have hfn := freeN_len b.scales.toNat
 refine b_8 ?_
 refine m2 ?_
 refine s1 BZ (a_1 rfl (BZ.ev rfl)) fun GJ Ba => ?_; clear BZ GI
 refine s1 Ba (a_1 rfl (Ba.ev rfl)) fun GK Bb => ?_; clear Ba GJ
 refine s1 Bb (d_6 rfl z_9 (Bb.ev rfl) (AH.sk 4 rfl)) fun GL A9 => ?_; clear Bb GK
 refine s1 A9 (f_8 rfl (A9.ev rfl) (A9.ev rfl)) fun GM R => ?_; clear A9 GL
 refine n1 ?_
 by_cases Ds : (k : Int) < (l.length : Int)
 ·skip
  rw [decide_eq_true Ds] at R
  have hscl := x_7 hb hl (k := k) (by omega); unfold o_4 at hscl; have hmv := hl.macV hb (k := k) (by omega); have hsv := hmv.scale; have hbb := biasF_bd hmv; have hlm := hl.mac k (by omega); have hlr := hl.read k (by omega)
  refine c_3 R rfl ?_
  refine d_0 ?_
  refine b_0 ?_
  refine b_8 ?_
  refine c_7 ?_
  refine b_8 ?_
  have De := R.as [(8, (Value.int .i64 (k : Int))), (6, v6_), (2, (bptr C 0)), (1, xl)] rfl; clear R
  refine w_6 mixed De AH 10 [[], [0], [], [], [2, 3], [4], [5], [1, 6], [7], []] [(fun (D : Nat → Value) (v_ : Value) (rs_ : List Res) => v_ = (bptr C 2) ∧ rs_ = []), (fun (D : Nat → Value) (v_ : Value) (rs_ : List Res) => v_ = vm ∧ rs_ = []), (fun (D : Nat → Value) (v_ : Value) (rs_ : List Res) => v_ = xl ∧ rs_ = []), (fun (D : Nat → Value) (v_ : Value) (rs_ : List Res) => v_ = (Value.int .i64 (k : Int)) ∧ rs_ = []), (fun (D : Nat → Value) (v_ : Value) (rs_ : List Res) => v_ = (eptr xl (k * 2)) ∧ rs_ = []), (fun (D : Nat → Value) (v_ : Value) (rs_ : List Res) => v_ = (eptr xl (k * 2 + 0)) ∧ rs_ = []), (fun (D : Nat → Value) (v_ : Value) (rs_ : List Res) => v_ = (Value.int .i64 ((l.getD k (0, 0)).1)) ∧ rs_ = []), (fun (D : Nat → Value) (v_ : Value) (rs_ : List Res) => v_ = (eptr vm (((l.getD k (0, 0)).1).toNat * 2)) ∧ rs_ = []), (fun (D : Nat → Value) (v_ : Value) (rs_ : List Res) => v_ = (Value.agg #[(Value.int .i64 ((b.macs.getD (((l.getD k (0, 0)).1).toNat) mac0).scale)), (lk (((l.getD k (0, 0)).1).toNat))]) ∧ rs_ = []), (fun (D : Nat → Value) (v_ : Value) (rs_ : List Res) => ∃ (b9_ : Nat), v_ = (bptr b9_ 0) ∧ rs_ = [(blk b9_ 61 [(Value.int .i64 0), (Value.slice none 0 0)])])] (by decide +kernel) (by decide +kernel) rfl rfl ⟨(fun _ _ _ _ _ h_ => h_), (fun _ _ _ _ _ h_ => h_), (fun _ _ _ _ _ h_ => h_), (fun _ _ _ _ _ h_ => h_), (fun _ _ _ _ _ h_ => h_), (fun _ _ _ _ _ h_ => h_), (fun _ _ _ _ _ h_ => h_), (fun _ _ _ _ _ h_ => h_), (fun _ _ _ _ _ h_ => h_), (fun _ _ _ _ _ h_ => h_), trivial⟩ ?_ ?_
  ·skip
   refine ⟨fun a w D hA hS hd => ?_, ?_⟩
   ·skip
    exact b_1 rfl (vv (a_3 rfl o_7 (hA.ev rfl)) (And.intro rfl rfl))
   refine ⟨fun a w D hA hS hd => ?_, ?_⟩
   ·skip
    obtain ⟨e0, Gg, D9, GS⟩ := hd 0 (by decide)
    obtain ⟨D1, Dt⟩ := D9; subst Dt
    rw [D1] at e0
    exact b_1 rfl (vv (a_2 rfl aa_4 (a_7 (b_5 e0 rfl)) (hS.bk 1 rfl) rfl) (And.intro rfl rfl))
   refine ⟨fun a w D hA hS hd => ?_, ?_⟩
   ·skip
    exact b_1 rfl (vv (a_1 rfl (hA.ev rfl)) (And.intro rfl rfl))
   refine ⟨fun a w D hA hS hd => ?_, ?_⟩
   ·skip
    exact b_1 rfl (vv (a_1 rfl (hA.ev rfl)) (And.intro rfl rfl))
   refine ⟨fun a w D hA hS hd => ?_, ?_⟩
   ·skip
    obtain ⟨e2, Gi, EB, GU⟩ := hd 2 (by decide)
    obtain ⟨D3, Dv⟩ := EB; subst Dv
    rw [D3] at e2
    obtain ⟨e3, Gj, EC, GV⟩ := hd 3 (by decide)
    obtain ⟨D4, Dw⟩ := EC; subst Dw
    rw [D4] at e3
    exact b_1 rfl (vv (b_3 rfl z_9 ty_67 (a_7 (b_5 e2 rfl)) (i := k) (a_7 (b_5 e3 rfl)) (hS.sk 4 rfl) (by decide) (by omega)) (And.intro rfl rfl))
   refine ⟨fun a w D hA hS hd => ?_, ?_⟩
   ·skip
    obtain ⟨e4, Gk, ED, GW⟩ := hd 4 (by decide)
    obtain ⟨D5, Dx⟩ := ED; subst Dx
    rw [D5] at e4
    exact b_1 rfl (vv (d_1 rfl fd_67_0 (a_7 (b_5 e4 rfl)) (hS.sk 4 rfl) (by rw [((hS.sk 4 rfl)).1]; omega)) (And.intro rfl rfl))
   refine ⟨fun a w D hA hS hd => ?_, ?_⟩
   ·skip
    obtain ⟨e5, Gl, EE, GX⟩ := hd 5 (by decide)
    obtain ⟨D6, Dy⟩ := EE; subst Dy
    rw [D6] at e5
    exact b_1 rfl (vv (c_4 rfl ty_3 (a_7 (b_5 e5 rfl)) (hS.sk 4 rfl) (f_7 (by omega))) (And.intro rfl rfl))
   refine ⟨fun a w D hA hS hd => ?_, ?_⟩
   ·skip
    obtain ⟨e1, Gh, EA, GT⟩ := hd 1 (by decide)
    obtain ⟨D2, Du⟩ := EA; subst Du
    rw [D2] at e1
    obtain ⟨e6, Gm, EF, GY⟩ := hd 6 (by decide)
    obtain ⟨D7, Dz⟩ := EF; subst Dz
    rw [D7] at e6
    exact b_1 rfl (vv (b_3 rfl aa_8 z_2 (a_7 (b_5 e1 rfl)) (i := ((l.getD k (0, 0)).1).toNat) ((a_7 (b_5 e6 rfl)).trans (h_1 (by omega))) (c_8 (hS.ok 3 _ rfl)).macs (by decide) (by omega)) (And.intro rfl rfl))
   refine ⟨fun a w D hA hS hd => ?_, ?_⟩
   ·skip
    obtain ⟨e7, Gn, EG, GZ⟩ := hd 7 (by decide)
    obtain ⟨D8, D0⟩ := EG; subst D0
    rw [D8] at e7
    exact b_1 rfl (vv (e_7 rfl z_2 (a_7 (b_5 e7 rfl)) (c_8 (hS.ok 3 _ rfl)).macs (u_2 (by omega)) rfl (by decide)) (And.intro rfl rfl))
   refine ⟨fun a w D hA hS hd => ?_, ?_⟩
   ·skip
    exact b_1 rfl (valloc rfl ze_61 (cs := [(Value.int .i64 0), (Value.slice none 0 0)]) rfl (fun b_ => ⟨b_, rfl, rfl⟩))
   trivial
  intro DN Gp D rsf77 Df J Bf; clear De AH
  obtain ⟨Bh, Bx⟩ := J 0 (by decide)
  obtain ⟨Bp, AI⟩ := Bx
  obtain ⟨Bi, By⟩ := J 1 (by decide)
  obtain ⟨Bq, AJ⟩ := By
  obtain ⟨Bj, Bz⟩ := J 2 (by decide)
  obtain ⟨Br, AK⟩ := Bz
  obtain ⟨Bk, B0⟩ := J 3 (by decide)
  obtain ⟨Bs, AL⟩ := B0
  obtain ⟨Bl, B1⟩ := J 4 (by decide)
  obtain ⟨Bt, AM⟩ := B1
  obtain ⟨Bm, B2⟩ := J 5 (by decide)
  obtain ⟨Bu, AN⟩ := B2
  obtain ⟨Bn, B3⟩ := J 6 (by decide)
  obtain ⟨Bv, AO⟩ := B3
  obtain ⟨Bo, B4⟩ := J 7 (by decide)
  obtain ⟨Bw, AP⟩ := B4
  obtain ⟨AS, B5⟩ := J 8 (by decide)
  obtain ⟨BN, AQ⟩ := B5
  obtain ⟨AT, B6⟩ := J 9 (by decide)
  obtain ⟨b9_, BO, AR⟩ := B6
  have Bg : Sep NoB w Gp [(blk b9_ 61 [(Value.int .i64 0), (Value.slice none 0 0)]), (row v6_ 27 2 ((c_0 b l (i_0 b.scales.toNat) k).length) (pairs (c_0 b l (i_0 b.scales.toNat) k))), (blk C 25 [(Value.int .i64 b.scales), vt, vm]), (d_8 false vt lr lb b.tabs), (e_6 false vm lk b.macs), (sl xl 2 l.length (pairs l))] := by rw [show catR rsf77 0 10 = ([(blk b9_ 61 [(Value.int .i64 0), (Value.slice none 0 0)])] : List Res) by (try simp only [catR, AI, AJ, AK, AL, AM, AN, AO, AP, AQ, AR]); (try rfl)] at Bf; exact Bf
  rw [BN] at AS
  have Dg : Fr 164 [] [(40, (Value.agg #[(Value.int .i64 ((b.macs.getD (((l.getD k (0, 0)).1).toNat) mac0).scale)), (lk (((l.getD k (0, 0)).1).toNat))])), (8, (Value.int .i64 (k : Int))), (6, v6_), (2, (bptr C 0)), (1, xl)] DN := Df.add (b_5 AS rfl); clear Df
  rw [BO] at AT
  have BA : Fr 164 [] [(9, (bptr b9_ 0)), (40, (Value.agg #[(Value.int .i64 ((b.macs.getD (((l.getD k (0, 0)).1).toNat) mac0).scale)), (lk (((l.getD k (0, 0)).1).toNat))])), (8, (Value.int .i64 (k : Int))), (6, v6_), (2, (bptr C 0)), (1, xl)] DN := Dg.add (b_5 AT rfl); clear Dg
  clear J Bf Bh Bi Bj Bk Bl Bm Bn Bo AS AT
  clear AI
  clear Bp
  clear AJ
  clear Bq
  clear AK
  clear Br
  clear AL
  clear Bs
  clear AM
  clear Bt
  clear AN
  clear Bu
  clear AO
  clear Bv
  clear AP
  clear Bw
  clear AQ
  clear BN
  clear AR
  clear BO
  refine s7 BA (c_2 Bg rfl z_2 (BA.ev rfl) (BA.ev rfl) (i := 0) rfl (vs := [(Value.int .i64 ((b.macs.getD (((l.getD k (0, 0)).1).toNat) mac0).scale)), (lk (((l.getD k (0, 0)).1).toNat))]) rfl rfl (i_3 rfl (i_3 (SlAt.one ((c_8 (Bg.ok 4 _ rfl)).blk (i := ((l.getD k (0, 0)).1).toNat) (by omega))) v_3)) (Nat.le_of_ble_eq_true rfl)) ?_
  intro _ Gq Dn Bc; clear BA
  have BH : Sep NoB w Gq [(blk b9_ 61 [(Value.int .i64 ((b.macs.getD (((l.getD k (0, 0)).1).toNat) mac0).scale)), (lk (((l.getD k (0, 0)).1).toNat))]), (row v6_ 27 2 ((c_0 b l (i_0 b.scales.toNat) k).length) (pairs (c_0 b l (i_0 b.scales.toNat) k))), (blk C 25 [(Value.int .i64 b.scales), vt, vm]), (d_8 false vt lr lb b.tabs), (e_6 false vm lk b.macs), (sl xl 2 l.length (pairs l))] := Dn; clear Dn Bg
  refine n4 ?_
  refine s1 Bc (c_5 rfl z_2 (Bc.ev rfl) (BH.bk 0 rfl) (l := [(Value.int .i64 ((b.macs.getD (((l.getD k (0, 0)).1).toNat) mac0).scale)), (lk (((l.getD k (0, 0)).1).toNat))]) rfl rfl) fun GN Bd => ?_; clear Bc DN
  refine s2 Bd (b_4 rfl en_37 (ev1 (Bd.ev rfl)) (rbias_ok _ (b.macs.getD (((l.getD k (0, 0)).1).toNat) mac0) _ _ ((c_8 (BH.ok 4 _ rfl)).blk (i := ((l.getD k (0, 0)).1).toNat) (by omega)) (hl.macV hb (by omega)) (hth.kl _))) ?_
  rintro GO _ HS ⟨rfl, Dj⟩ Dh; have Do := BH.step Dj; clear Dj Bd BH GN
  refine s2 Dh (e_4 Do rfl ze_27 (cs := [(Value.int .i64 0), (Value.int .i64 0)]) rfl) ?_
  rintro HH _ HT ⟨B7, rfl, Dp⟩ BB; clear Dh Do GO
  refine s7 BB (c_2 Dp rfl j_5 (BB.ev rfl) (BB.ev rfl) (i := 0) rfl (vs := [(Value.int .i64 ((d_5 (b.macs.getD (((l.getD k (0, 0)).1).toNat) mac0)).1)), (Value.int .i64 ((d_5 (b.macs.getD (((l.getD k (0, 0)).1).toNat) mac0)).2))]) rfl rfl rfl (Nat.le_of_ble_eq_true rfl)) ?_
  intro _ Gr Dq Di; clear BB
  have Cx : Sep NoB w Gr [(blk B7 27 [(Value.int .i64 ((d_5 (b.macs.getD (((l.getD k (0, 0)).1).toNat) mac0)).1)), (Value.int .i64 ((d_5 (b.macs.getD (((l.getD k (0, 0)).1).toNat) mac0)).2))]), (blk b9_ 61 [(Value.int .i64 ((b.macs.getD (((l.getD k (0, 0)).1).toNat) mac0).scale)), (lk (((l.getD k (0, 0)).1).toNat))]), (row v6_ 27 2 ((c_0 b l (i_0 b.scales.toNat) k).length) (pairs (c_0 b l (i_0 b.scales.toNat) k))), (blk C 25 [(Value.int .i64 b.scales), vt, vm]), (d_8 false vt lr lb b.tabs), (e_6 false vm lk b.macs), (sl xl 2 l.length (pairs l))] := Dq; clear Dq Dp
  refine n1 ?_
  have B8 := Di.as [(10, (bptr B7 0)), (9, (bptr b9_ 0)), (8, (Value.int .i64 (k : Int))), (6, v6_), (2, (bptr C 0)), (1, xl)] rfl; clear Di
  refine g_3 mixed B8 Cx 26 [[], [], [1], [], [], [4], [3, 5], [6], [], [], [8, 9], [10], [11], [], [13], [12, 14], [], [], [16, 17], [18], [19], [], [21], [20, 22], [15, 23], [7, 24]] [(Yd.val v6_), (Yd.val (bptr b9_ 0)), (Yd.val (Value.int .i64 ((b.macs.getD (((l.getD k (0, 0)).1).toNat) mac0).scale))), (Yd.val v6_), (Yd.val (bptr b9_ 0)), (Yd.val (Value.int .i64 ((b.macs.getD (((l.getD k (0, 0)).1).toNat) mac0).scale))), (Yd.val (eptr v6_ (((b.macs.getD (((l.getD k (0, 0)).1).toNat) mac0).scale).toNat * 2))), (Yd.val (Value.agg #[(Value.int .i64 (((c_0 b l (i_0 b.scales.toNat) k).getD (((b.macs.getD (((l.getD k (0, 0)).1).toNat) mac0).scale).toNat) (0, 0)).1)), (Value.int .i64 (((c_0 b l (i_0 b.scales.toNat) k).getD (((b.macs.getD (((l.getD k (0, 0)).1).toNat) mac0).scale).toNat) (0, 0)).2))])), (Yd.val xl), (Yd.val (Value.int .i64 (k : Int))), (Yd.val (eptr xl (k * 2))), (Yd.val (eptr xl (k * 2 + 1))), (Yd.val (Value.int .i64 ((l.getD k (0, 0)).2))), (Yd.val (bptr B7 1)), (Yd.val (Value.int .i64 ((d_5 (b.macs.getD (((l.getD k (0, 0)).1).toNat) mac0)).2))), (Yd.val (Value.int .i64 (((l.getD k (0, 0)).2) - ((d_5 (b.macs.getD (((l.getD k (0, 0)).1).toNat) mac0)).2)))), (Yd.val xl), (Yd.val (Value.int .i64 (k : Int))), (Yd.val (eptr xl (k * 2))), (Yd.val (eptr xl (k * 2 + 1))), (Yd.val (Value.int .i64 ((l.getD k (0, 0)).2))), (Yd.val (bptr B7 0)), (Yd.val (Value.int .i64 ((d_5 (b.macs.getD (((l.getD k (0, 0)).1).toNat) mac0)).1))), (Yd.val (Value.int .i64 (((l.getD k (0, 0)).2) - ((d_5 (b.macs.getD (((l.getD k (0, 0)).1).toNat) mac0)).1)))), (Yd.val (Value.agg #[(Value.int .i64 (((l.getD k (0, 0)).2) - ((d_5 (b.macs.getD (((l.getD k (0, 0)).1).toNat) mac0)).2))), (Value.int .i64 (((l.getD k (0, 0)).2) - ((d_5 (b.macs.getD (((l.getD k (0, 0)).1).toNat) mac0)).1)))])), (Yd.val (Value.agg #[(Value.int .i64 ((cutR (((c_0 b l (i_0 b.scales.toNat) k).getD (((b.macs.getD (((l.getD k (0, 0)).1).toNat) mac0).scale).toNat) (0, 0)).1, ((c_0 b l (i_0 b.scales.toNat) k).getD (((b.macs.getD (((l.getD k (0, 0)).1).toNat) mac0).scale).toNat) (0, 0)).2) (((l.getD k (0, 0)).2) - ((d_5 (b.macs.getD (((l.getD k (0, 0)).1).toNat) mac0)).2), ((l.getD k (0, 0)).2) - ((d_5 (b.macs.getD (((l.getD k (0, 0)).1).toNat) mac0)).1))).1)), (Value.int .i64 ((cutR (((c_0 b l (i_0 b.scales.toNat) k).getD (((b.macs.getD (((l.getD k (0, 0)).1).toNat) mac0).scale).toNat) (0, 0)).1, ((c_0 b l (i_0 b.scales.toNat) k).getD (((b.macs.getD (((l.getD k (0, 0)).1).toNat) mac0).scale).toNat) (0, 0)).2) (((l.getD k (0, 0)).2) - ((d_5 (b.macs.getD (((l.getD k (0, 0)).1).toNat) mac0)).2), ((l.getD k (0, 0)).2) - ((d_5 (b.macs.getD (((l.getD k (0, 0)).1).toNat) mac0)).1))).2))]))] (by decide +kernel) rfl rfl ?_ ?_
  ·skip
   refine dq (fun a w hA hS hd => a_1 rfl (hA.ev rfl)) ?_
   refine dq (fun a w hA hS hd => a_3 rfl fd_61_0 (hA.ev rfl)) ?_
   refine dq (fun a w hA hS hd => a_2 rfl ty_3 (hq hd 1) (hS.bk 1 rfl) rfl) ?_
   refine dq (fun a w hA hS hd => a_1 rfl (hA.ev rfl)) ?_
   refine dq (fun a w hA hS hd => a_3 rfl fd_61_0 (hA.ev rfl)) ?_
   refine dq (fun a w hA hS hd => a_2 rfl ty_3 (hq hd 4) (hS.bk 1 rfl) rfl) ?_
   refine dq (fun a w hA hS hd => b_3 rfl t_8 j_5 (hq hd 3) (i := ((b.macs.getD (((l.getD k (0, 0)).1).toNat) mac0).scale).toNat) ((hq hd 5).trans (h_1 (by omega))) (SlAt.d_7 (hS.e_2 2 rfl)) (by decide) (by omega)) ?_
   refine dq (fun a w hA hS hd => e_7 rfl j_5 (hq hd 6) (SlAt.d_7 (hS.e_2 2 rfl)) (g_9 (by omega)) rfl (by decide)) ?_
   refine dq (fun a w hA hS hd => a_1 rfl (hA.ev rfl)) ?_
   refine dq (fun a w hA hS hd => a_1 rfl (hA.ev rfl)) ?_
   refine dq (fun a w hA hS hd => b_3 rfl z_9 ty_67 (hq hd 8) (i := k) (hq hd 9) (hS.sk 6 rfl) (by decide) (by omega)) ?_
   refine dq (fun a w hA hS hd => d_1 rfl fd_67_1 (hq hd 10) (hS.sk 6 rfl) (by rw [((hS.sk 6 rfl)).1]; omega)) ?_
   refine dq (fun a w hA hS hd => c_4 rfl ty_3 (hq hd 11) (hS.sk 6 rfl) (h_2 (by omega))) ?_
   refine dq (fun a w hA hS hd => a_3 rfl l_1 (hA.ev rfl)) ?_
   refine dq (fun a w hA hS hd => a_2 rfl ty_3 (hq hd 13) (hS.bk 0 rfl) rfl) ?_
   refine dq (fun a w hA hS hd => h_9 rfl (hq hd 12) (hq hd 14) (by omega) (by omega)) ?_
   refine dq (fun a w hA hS hd => a_1 rfl (hA.ev rfl)) ?_
   refine dq (fun a w hA hS hd => a_1 rfl (hA.ev rfl)) ?_
   refine dq (fun a w hA hS hd => b_3 rfl z_9 ty_67 (hq hd 16) (i := k) (hq hd 17) (hS.sk 6 rfl) (by decide) (by omega)) ?_
   refine dq (fun a w hA hS hd => d_1 rfl fd_67_1 (hq hd 18) (hS.sk 6 rfl) (by rw [((hS.sk 6 rfl)).1]; omega)) ?_
   refine dq (fun a w hA hS hd => c_4 rfl ty_3 (hq hd 19) (hS.sk 6 rfl) (h_2 (by omega))) ?_
   refine dq (fun a w hA hS hd => a_3 rfl l_0 (hA.ev rfl)) ?_
   refine dq (fun a w hA hS hd => a_2 rfl ty_3 (hq hd 21) (hS.bk 0 rfl) rfl) ?_
   refine dq (fun a w hA hS hd => h_9 rfl (hq hd 20) (hq hd 22) (by omega) (by omega)) ?_
   refine dq (fun a w hA hS hd => e_5 rfl (pv2 (hq hd 15) (hq hd 23)) (m_6 _ _)) ?_
   refine ⟨fun a w hA hS hd => by have e7 := hx hd 7; have GP := hx hd 24; exact b_1 rfl (dx (b_4 rfl en_60 (ev2 (a_7 e7) (a_7 GP)) (rcut_ok _ _ _ _ _)) hS (fun _ => rfl)), ?_⟩
   trivial
  intro Em G9 B9 BE y; clear B8 Cx
  have CA := B9.add (hz y 0); clear B9
  have CB := CA.add (hz y 2); clear CA
  have X := CB.add (hz y 25); clear CB
  clear y
  refine s1 X (b_3 rfl t_8 j_5 (X.ev rfl) (i := ((b.macs.getD (((l.getD k (0, 0)).1).toNat) mac0).scale).toNat) ((X.ev rfl).trans (h_1 (by omega))) (SlAt.d_7 (BE.e_2 2 rfl)) (by decide) (by omega)) fun En Y => ?_; clear X Em
  refine s7 Y (op_storeE BE rfl j_5 (Y.ev rfl) (Y.ev rfl) (i := 2) rfl (vs := [(Value.int .i64 ((cutR (((c_0 b l (i_0 b.scales.toNat) k).getD (((b.macs.getD (((l.getD k (0, 0)).1).toNat) mac0).scale).toNat) (0, 0)).1, ((c_0 b l (i_0 b.scales.toNat) k).getD (((b.macs.getD (((l.getD k (0, 0)).1).toNat) mac0).scale).toNat) (0, 0)).2) (((l.getD k (0, 0)).2) - ((d_5 (b.macs.getD (((l.getD k (0, 0)).1).toNat) mac0)).2), ((l.getD k (0, 0)).2) - ((d_5 (b.macs.getD (((l.getD k (0, 0)).1).toNat) mac0)).1))).1)), (Value.int .i64 ((cutR (((c_0 b l (i_0 b.scales.toNat) k).getD (((b.macs.getD (((l.getD k (0, 0)).1).toNat) mac0).scale).toNat) (0, 0)).1, ((c_0 b l (i_0 b.scales.toNat) k).getD (((b.macs.getD (((l.getD k (0, 0)).1).toNat) mac0).scale).toNat) (0, 0)).2) (((l.getD k (0, 0)).2) - ((d_5 (b.macs.getD (((l.getD k (0, 0)).1).toNat) mac0)).2), ((l.getD k (0, 0)).2) - ((d_5 (b.macs.getD (((l.getD k (0, 0)).1).toNat) mac0)).1))).2))]) rfl rfl rfl (by simp only [b_2, List.length_set]; omega) (by decide)) ?_
  intro _ Fu Cy CC; have Cz := Cy.i_4 (i := 2) rfl (n' := ((c_0 b l (i_0 b.scales.toNat) k).set (((b.macs.getD (((l.getD k (0, 0)).1).toNat) mac0).scale).toNat) ((cutR (((c_0 b l (i_0 b.scales.toNat) k).getD (((b.macs.getD (((l.getD k (0, 0)).1).toNat) mac0).scale).toNat) (0, 0)).1, ((c_0 b l (i_0 b.scales.toNat) k).getD (((b.macs.getD (((l.getD k (0, 0)).1).toNat) mac0).scale).toNat) (0, 0)).2) (((l.getD k (0, 0)).2) - ((d_5 (b.macs.getD (((l.getD k (0, 0)).1).toNat) mac0)).2), ((l.getD k (0, 0)).2) - ((d_5 (b.macs.getD (((l.getD k (0, 0)).1).toNat) mac0)).1))).1, (cutR (((c_0 b l (i_0 b.scales.toNat) k).getD (((b.macs.getD (((l.getD k (0, 0)).1).toNat) mac0).scale).toNat) (0, 0)).1, ((c_0 b l (i_0 b.scales.toNat) k).getD (((b.macs.getD (((l.getD k (0, 0)).1).toNat) mac0).scale).toNat) (0, 0)).2) (((l.getD k (0, 0)).2) - ((d_5 (b.macs.getD (((l.getD k (0, 0)).1).toNat) mac0)).2), ((l.getD k (0, 0)).2) - ((d_5 (b.macs.getD (((l.getD k (0, 0)).1).toNat) mac0)).1))).2)).length) (xs' := (pairs ((c_0 b l (i_0 b.scales.toNat) k).set (((b.macs.getD (((l.getD k (0, 0)).1).toNat) mac0).scale).toNat) ((cutR (((c_0 b l (i_0 b.scales.toNat) k).getD (((b.macs.getD (((l.getD k (0, 0)).1).toNat) mac0).scale).toNat) (0, 0)).1, ((c_0 b l (i_0 b.scales.toNat) k).getD (((b.macs.getD (((l.getD k (0, 0)).1).toNat) mac0).scale).toNat) (0, 0)).2) (((l.getD k (0, 0)).2) - ((d_5 (b.macs.getD (((l.getD k (0, 0)).1).toNat) mac0)).2), ((l.getD k (0, 0)).2) - ((d_5 (b.macs.getD (((l.getD k (0, 0)).1).toNat) mac0)).1))).1, (cutR (((c_0 b l (i_0 b.scales.toNat) k).getD (((b.macs.getD (((l.getD k (0, 0)).1).toNat) mac0).scale).toNat) (0, 0)).1, ((c_0 b l (i_0 b.scales.toNat) k).getD (((b.macs.getD (((l.getD k (0, 0)).1).toNat) mac0).scale).toNat) (0, 0)).2) (((l.getD k (0, 0)).2) - ((d_5 (b.macs.getD (((l.getD k (0, 0)).1).toNat) mac0)).2), ((l.getD k (0, 0)).2) - ((d_5 (b.macs.getD (((l.getD k (0, 0)).1).toNat) mac0)).1))).2)))) (by simp) (pairs_set _ _ (_, _)); clear Cy Y BE
  refine e_9 ?_
  refine h_0 ?_
  refine b_0 ?_
  have AU := CC.as [(8, (Value.int .i64 (k : Int))), (6, v6_), (2, (bptr C 0)), (1, xl)] rfl; clear CC
  refine a_5 ?_
  refine s1 AU (a_1 rfl (AU.ev rfl)) fun Eo AV => ?_; clear AU En
  refine s1 AV (f_4 rfl (AV.ev rfl) (evc _ _) (by omega) (by omega)) fun Ep AW => ?_; clear AV Eo
  refine s1 AW (a_0 rfl (AW.ev rfl)) fun Gt EI => ?_; clear AW Ep
  refine e_9 ?_
  have EP : Sep NoB w Fu [(row v6_ 27 2 (((c_0 b l (i_0 b.scales.toNat) k).set (((b.macs.getD (((l.getD k (0, 0)).1).toNat) mac0).scale).toNat) ((cutR (((c_0 b l (i_0 b.scales.toNat) k).getD (((b.macs.getD (((l.getD k (0, 0)).1).toNat) mac0).scale).toNat) (0, 0)).1, ((c_0 b l (i_0 b.scales.toNat) k).getD (((b.macs.getD (((l.getD k (0, 0)).1).toNat) mac0).scale).toNat) (0, 0)).2) (((l.getD k (0, 0)).2) - ((d_5 (b.macs.getD (((l.getD k (0, 0)).1).toNat) mac0)).2), ((l.getD k (0, 0)).2) - ((d_5 (b.macs.getD (((l.getD k (0, 0)).1).toNat) mac0)).1))).1, (cutR (((c_0 b l (i_0 b.scales.toNat) k).getD (((b.macs.getD (((l.getD k (0, 0)).1).toNat) mac0).scale).toNat) (0, 0)).1, ((c_0 b l (i_0 b.scales.toNat) k).getD (((b.macs.getD (((l.getD k (0, 0)).1).toNat) mac0).scale).toNat) (0, 0)).2) (((l.getD k (0, 0)).2) - ((d_5 (b.macs.getD (((l.getD k (0, 0)).1).toNat) mac0)).2), ((l.getD k (0, 0)).2) - ((d_5 (b.macs.getD (((l.getD k (0, 0)).1).toNat) mac0)).1))).2)).length) (pairs ((c_0 b l (i_0 b.scales.toNat) k).set (((b.macs.getD (((l.getD k (0, 0)).1).toNat) mac0).scale).toNat) ((cutR (((c_0 b l (i_0 b.scales.toNat) k).getD (((b.macs.getD (((l.getD k (0, 0)).1).toNat) mac0).scale).toNat) (0, 0)).1, ((c_0 b l (i_0 b.scales.toNat) k).getD (((b.macs.getD (((l.getD k (0, 0)).1).toNat) mac0).scale).toNat) (0, 0)).2) (((l.getD k (0, 0)).2) - ((d_5 (b.macs.getD (((l.getD k (0, 0)).1).toNat) mac0)).2), ((l.getD k (0, 0)).2) - ((d_5 (b.macs.getD (((l.getD k (0, 0)).1).toNat) mac0)).1))).1, (cutR (((c_0 b l (i_0 b.scales.toNat) k).getD (((b.macs.getD (((l.getD k (0, 0)).1).toNat) mac0).scale).toNat) (0, 0)).1, ((c_0 b l (i_0 b.scales.toNat) k).getD (((b.macs.getD (((l.getD k (0, 0)).1).toNat) mac0).scale).toNat) (0, 0)).2) (((l.getD k (0, 0)).2) - ((d_5 (b.macs.getD (((l.getD k (0, 0)).1).toNat) mac0)).2), ((l.getD k (0, 0)).2) - ((d_5 (b.macs.getD (((l.getD k (0, 0)).1).toNat) mac0)).1))).2)))), (blk C 25 [(Value.int .i64 b.scales), vt, vm]), (d_8 false vt lr lb b.tabs), (e_6 false vm lk b.macs), (sl xl 2 l.length (pairs l))] := Cz.keep [2, 3, 4, 5, 6] (by decide) _ rfl rfl; clear Cz
  exact b_0 ⟨k + 1, ⟨EI.as _ rfl, (EP.i_4 (i := 0) rfl rfl rfl), by omega⟩, by omega⟩
 skip
 rw [decide_eq_false Ds] at R
 refine b_7 R rfl ?_
 refine g_8 ?_
 refine b_6 ?_
 refine b_6 ?_
 refine f_5 ?_
 refine b_0 ?_
 refine b_8 ?_
 refine b_8 ?_
 have CD := R.as [(6, v6_), (2, (bptr C 0))] rfl; clear R
 refine a_5 ?_
 refine s1 CD (a_0 rfl (evc _ _)) fun Eq CE => ?_; clear CD GM
 refine n1 ?_
 refine c_7 ?_
 have CF := CE.as [(11, (Value.bool true)), (6, v6_), (2, (bptr C 0))] rfl; clear CE
 refine h_3 (G := Nat) (fun (g : Nat) a_ w_ => ∃ x_ : List (Int × Int), ∃ ch_ : Bool, Fr 164 [] [(11, (Value.bool ch_)), (6, v6_), (2, (bptr C 0))] a_ ∧ Sep NoB w w_ [(row v6_ 27 2 x_.length (pairs x_)), (blk C 25 [(Value.int .i64 b.scales), vt, vm]), (d_8 false vt lr lb b.tabs), (e_6 false vm lk b.macs), (sl xl 2 l.length (pairs l))] ∧ (g = measR b.scales.toNat x_ ch_) ∧ (RndI b.scales.toNat b.tabs (c_0 b l (i_0 b.scales.toNat) l.length) x_) ∧ (ch_ = false → Full b.scales.toNat x_ ∧ ∀ i, i < b.tabs.length → u_7 (b.tabs.getD i tab0) x_)) (fun g => g) (measR b.scales.toNat (c_0 b l (i_0 b.scales.toNat) k) true) ⟨(c_0 b l (i_0 b.scales.toNat) k), true, CF.as _ rfl, AH, rfl, (by have hkl : k = l.length := (by omega); subst hkl; exact (ref_start b l)), (fun h => by cases h)⟩ ?_
 clear CF AH Eq
 rintro g Er HA ⟨x_, ch_, AX, BF, hg, hri, hst⟩
 have hxl := hri.len
 refine b_8 ?_
 refine m2 ?_
 refine s1 AX (a_1 rfl (AX.ev rfl)) fun DJ H => ?_; clear AX Er
 refine n1 ?_
 rcases Bool.eq_false_or_eq_true (ch_) with BI | BI
 ·skip
  rw [BI] at H
  refine c_3 H rfl ?_
  refine d_0 ?_
  refine b_0 ?_
  refine c_7 ?_
  refine m2 ?_
  refine s1 H (a_0 rfl (evc _ _)) fun Es CG => ?_; clear H DJ
  refine n2 ?_
  refine m2 ?_
  refine s1 CG (a_0 rfl (evc _ _)) fun Et CH => ?_; clear CG Es
  refine n1 ?_
  refine c_7 ?_
  have CI := CH.as [(12, (Value.int .i64 0)), (11, (Value.bool false)), (6, v6_), (2, (bptr C 0))] rfl; clear CH
  refine h_3 (G := Nat) (fun (K : Nat) a_ w_ => Fr 164 [] [(12, (Value.int .i64 (K : Int))), (11, (Value.bool false)), (6, v6_), (2, (bptr C 0))] a_ ∧ Sep NoB w w_ [(row v6_ 27 2 x_.length (pairs x_)), (blk C 25 [(Value.int .i64 b.scales), vt, vm]), (d_8 false vt lr lb b.tabs), (e_6 false vm lk b.macs), (sl xl 2 l.length (pairs l))] ∧ (K ≤ b.scales.toNat) ∧ (∀ i, i < K → ¬ (at' x_ i).2 < (at' x_ i).1)) (fun K => b.scales.toNat - K) 0 ⟨CI.as _ rfl, BF, Nat.zero_le _, (fun _ h => absurd h (Nat.not_lt_zero _))⟩ ?_
  clear CI BF Et
  rintro K Eu HB ⟨AY, U, HJ, hne⟩
  refine b_8 ?_
  refine m2 ?_
  refine s1 AY (a_1 rfl (AY.ev rfl)) fun Ev AZ => ?_; clear AY Eu
  refine s1 AZ (a_3 rfl fd_25_0 (AZ.ev rfl)) fun Ew Aa => ?_; clear AZ Ev
  refine s1 Aa (a_2 rfl ty_3 (Aa.ev rfl) (U.bk 1 rfl) rfl) fun Ex Z => ?_; clear Aa Ew
  refine s1 Z (f_8 rfl (Z.ev rfl) (Z.ev rfl)) fun Ey L => ?_; clear Z Ex
  refine n1 ?_
  by_cases C9 : (K : Int) < b.scales
  ·skip
   rw [decide_eq_true C9] at L
   refine c_3 L rfl ?_
   refine d_0 ?_
   refine b_0 ?_
   refine b_8 ?_
   refine c_7 ?_
   refine b_8 ?_
   have CJ := L.as [(12, (Value.int .i64 (K : Int))), (11, (Value.bool false)), (6, v6_), (2, (bptr C 0))] rfl; clear L
   refine g_3 mixed CJ U 10 [[], [], [0, 1], [2], [3], [], [], [5, 6], [7], [8]] [(Yd.val v6_), (Yd.val (Value.int .i64 (K : Int))), (Yd.val (eptr v6_ (K * 2))), (Yd.val (eptr v6_ (K * 2 + 0))), (Yd.val (Value.int .i64 ((x_.getD K (0, 0)).1))), (Yd.val v6_), (Yd.val (Value.int .i64 (K : Int))), (Yd.val (eptr v6_ (K * 2))), (Yd.val (eptr v6_ (K * 2 + 1))), (Yd.val (Value.int .i64 ((x_.getD K (0, 0)).2)))] (by decide +kernel) rfl rfl ?_ ?_
   ·skip
    refine dq (fun a w hA hS hd => a_1 rfl (hA.ev rfl)) ?_
    refine dq (fun a w hA hS hd => a_1 rfl (hA.ev rfl)) ?_
    refine dq (fun a w hA hS hd => b_3 rfl t_8 j_5 (hq hd 0) (i := K) (hq hd 1) (SlAt.d_7 (hS.e_2 0 rfl)) (by decide) (by omega)) ?_
    refine dq (fun a w hA hS hd => d_1 rfl l_0 (hq hd 2) (SlAt.d_7 (hS.e_2 0 rfl)) (by rw [((SlAt.d_7 (hS.e_2 0 rfl))).1]; omega)) ?_
    refine dq (fun a w hA hS hd => c_4 rfl ty_3 (hq hd 3) (SlAt.d_7 (hS.e_2 0 rfl)) (f_7 (by omega))) ?_
    refine dq (fun a w hA hS hd => a_1 rfl (hA.ev rfl)) ?_
    refine dq (fun a w hA hS hd => a_1 rfl (hA.ev rfl)) ?_
    refine dq (fun a w hA hS hd => b_3 rfl t_8 j_5 (hq hd 5) (i := K) (hq hd 6) (SlAt.d_7 (hS.e_2 0 rfl)) (by decide) (by omega)) ?_
    refine dq (fun a w hA hS hd => d_1 rfl l_1 (hq hd 7) (SlAt.d_7 (hS.e_2 0 rfl)) (by rw [((SlAt.d_7 (hS.e_2 0 rfl))).1]; omega)) ?_
    refine dq (fun a w hA hS hd => c_4 rfl ty_3 (hq hd 8) (SlAt.d_7 (hS.e_2 0 rfl)) (h_2 (by omega))) ?_
    trivial
   intro Ez HC CK C0 BC; clear CJ U
   have CL := CK.add (hz BC 4); clear CK
   have c := CL.add (hz BC 9); clear CL
   clear BC
   refine s1 c (j_0 rfl (c.ev rfl) (c.ev rfl)) fun DK I => ?_; clear c Ez
   refine n1 ?_
   by_cases DA : ((x_.getD K (0, 0)).2) < ((x_.getD K (0, 0)).1)
   ·skip
    rw [decide_eq_true DA] at I
    refine c_3 I rfl ?_
    refine b_8 ?_
    have CM := I.as [] rfl; clear I
    refine a_5 ?_
    refine s1 CM (a_0 rfl (evc _ _)) fun E0 CN => ?_; clear CM DK
    refine s1 CN (a_0 rfl (evc _ _)) fun Gu CO => ?_; clear CN E0
    refine n1 ?_
    refine c_9 ?_
    refine c_6 ?_
    refine a_6 ?_
    refine a_6 ?_
    refine c_6 ?_
    refine a_6 ?_
    refine c_6 ?_
    refine a_6 ?_
    refine c_6 ?_
    refine a_6 ?_
    refine a_9 CO (.inl rfl) (d_2 CO rfl (.tmp rfl) (.tmp rfl)) ?_
    exact .inl ⟨ref_none hb hl hri (i := K) (by omega) (by assumption), rfl, C0.ext⟩
   skip
   rw [decide_eq_false DA] at I
   refine b_7 I rfl ?_
   refine d_0 ?_
   refine h_0 ?_
   refine b_0 ?_
   refine a_5 ?_
   refine s1 I (a_1 rfl (I.ev rfl)) fun E1 Ab => ?_; clear I DK
   refine s1 Ab (f_4 rfl (Ab.ev rfl) (evc _ _) (by omega) (by omega)) fun E2 Ac => ?_; clear Ab E1
   refine s1 Ac (a_0 rfl (Ac.ev rfl)) fun Gv EJ => ?_; clear Ac E2
   refine e_9 ?_
   exact b_0 ⟨K + 1, ⟨EJ.as _ rfl, C0, by omega, (fun i hi => by rcases Nat.lt_succ_iff_lt_or_eq.1 hi with h | h; exact hne i h; subst h; assumption)⟩, by omega⟩
  skip
  rw [decide_eq_false C9] at L
  refine b_7 L rfl ?_
  refine g_8 ?_
  refine b_6 ?_
  refine b_6 ?_
  refine f_5 ?_
  refine b_0 ?_
  refine m2 ?_
  refine s1 L (a_0 rfl (evc _ _)) fun E3 CP => ?_; clear L Ey
  refine n1 ?_
  refine c_7 ?_
  have hfu : Full b.scales.toNat x_ := fun i hi => by have := hne i (by omega); omega
  have CQ := CP.as [(13, (Value.int .i64 0)), (11, (Value.bool false)), (6, v6_), (2, (bptr C 0))] rfl; clear CP
  refine h_3 (G := Nat) (fun (q : Nat) a_ w_ => ∃ y_ : List (Int × Int), ∃ cg_ : Bool, Fr 164 [] [(13, (Value.int .i64 (q : Int))), (11, (Value.bool cg_)), (6, v6_), (2, (bptr C 0))] a_ ∧ Sep NoB w w_ [(row v6_ 27 2 y_.length (pairs y_)), (blk C 25 [(Value.int .i64 b.scales), vt, vm]), (d_8 false vt lr lb b.tabs), (e_6 false vm lk b.macs), (sl xl 2 l.length (pairs l))] ∧ (q ≤ b.tabs.length) ∧ (RndJ b.scales.toNat b.tabs (c_0 b l (i_0 b.scales.toNat) l.length) x_ q y_ cg_)) (fun q => b.tabs.length - q) 0 ⟨x_, false, CQ.as _ rfl, U, Nat.zero_le _, (RndJ.start hri)⟩ ?_
  clear CQ U E3
  rintro q E4 HD ⟨y_, cg_, Ad, O, hkq, T⟩
  have hyl := T.len
  refine b_8 ?_
  refine m2 ?_
  refine s1 Ad (a_1 rfl (Ad.ev rfl)) fun E5 Ae => ?_; clear Ad E4
  refine s1 Ae (a_3 rfl p_6 (Ae.ev rfl)) fun E6 Af => ?_; clear Ae E5
  refine s1 Af (a_2 rfl ab_2 (Af.ev rfl) (O.bk 1 rfl) rfl) fun E7 Ag => ?_; clear Af E6
  refine s1 Ag (d_6 rfl ab_3 (Ag.ev rfl) (c_1 (O.ok 2 _ rfl)).tabs) fun E8 d => ?_; clear Ag E7
  refine s1 d (f_8 rfl (d.ev rfl) (d.ev rfl)) fun E9 M => ?_; clear d E8
  refine n1 ?_
  by_cases DB : (q : Int) < (b.tabs.length : Int)
  ·skip
   rw [decide_eq_true DB] at M
   have htv := hb.tab (k := q) (by omega); have hfd := htv.frm; have hdd := htv.dst
   refine c_3 M rfl ?_
   refine d_0 ?_
   refine b_0 ?_
   refine b_8 ?_
   refine c_7 ?_
   refine m2 ?_
   refine s1 M (a_3 rfl p_6 (M.ev rfl)) fun FA Ah => ?_; clear M E9
   refine s1 Ah (a_2 rfl ab_2 (Ah.ev rfl) (O.bk 1 rfl) rfl) fun FB Ai => ?_; clear Ah FA
   refine s1 Ai (a_1 rfl (Ai.ev rfl)) fun FC e => ?_; clear Ai FB
   refine s1 e (b_3 rfl ab_3 y_3 (e.ev rfl) (i := q) (e.ev rfl) (c_1 (O.ok 2 _ rfl)).tabs (by decide) (by omega)) fun FD Aj => ?_; clear e FC
   refine s1 Aj (e_7 rfl y_3 (Aj.ev rfl) (c_1 (O.ok 2 _ rfl)).tabs (u_5 (by omega)) rfl (by decide)) fun FE CR => ?_; clear Aj FD
   refine s2 CR (e_4 O rfl ze_46 (cs := [(Value.int .i64 0), (Value.int .i64 0), (Value.slice none 0 0), (Value.slice none 0 0), (Value.int .i64 0)]) rfl) ?_
   rintro Gw _ HE ⟨B, rfl, AC⟩ f; clear CR O FE
   refine s7 f (c_2 AC rfl y_3 (f.ev rfl) (f.ev rfl) (i := 0) rfl (vs := [(Value.int .i64 ((b.tabs.getD q tab0).frm)), (Value.int .i64 ((b.tabs.getD q tab0).dst)), (lr q), (lb q), (Value.int .i64 ((b.tabs.getD q tab0).err))]) rfl rfl (i_3 rfl (i_3 rfl (i_3 (SlAt.one ((c_1 (AC.ok 3 _ rfl)).row (i := q) (by omega))) (i_3 (SlAt.one ((c_1 (AC.ok 3 _ rfl)).brk (i := q) (by omega))) (i_3 rfl v_3))))) (Nat.le_of_ble_eq_true rfl)) ?_
   intro _ Fv C1 CS; clear f
   have S : Sep NoB w Fv [(blk B 46 [(Value.int .i64 ((b.tabs.getD q tab0).frm)), (Value.int .i64 ((b.tabs.getD q tab0).dst)), (lr q), (lb q), (Value.int .i64 ((b.tabs.getD q tab0).err))]), (row v6_ 27 2 y_.length (pairs y_)), (blk C 25 [(Value.int .i64 b.scales), vt, vm]), (d_8 false vt lr lb b.tabs), (e_6 false vm lk b.macs), (sl xl 2 l.length (pairs l))] := C1; clear C1 AC
   refine n2 ?_
   refine b_8 ?_
   have CT := CS.as [(14, (bptr B 0)), (13, (Value.int .i64 (q : Int))), (11, (Value.bool cg_)), (6, v6_), (2, (bptr C 0))] rfl; clear CS
   have j := CT.as [(14, (bptr B 0)), (13, (Value.int .i64 (q : Int))), (11, (Value.bool cg_)), (6, v6_), (2, (bptr C 0))] rfl; clear CT
   by_cases BJ : ((y_.getD (((b.tabs.getD q tab0).dst).toNat) (0, 0)).2) < ((y_.getD (((b.tabs.getD q tab0).dst).toNat) (0, 0)).1)
   ·skip
    have CU := j.as [(14, (bptr B 0)), (13, (Value.int .i64 (q : Int))), (11, (Value.bool cg_)), (6, v6_), (2, (bptr C 0))] rfl; clear j
    refine g_3 mixed CU S 35 [[], [], [1], [0, 2], [3], [4], [], [], [7], [6, 8], [9], [10], [5, 11], [12], [13], [13], [13, 15], [13, 14, 16], [13, 17], [13, 18], [13], [13], [13, 21], [13, 20, 22], [13, 23], [13, 24], [13, 19, 25], [13, 26], [27], [28], [28], [28], [28, 31], [28, 30, 32], [28, 33]] [(Yd.val v6_), (Yd.val (bptr B 1)), (Yd.val (Value.int .i64 ((b.tabs.getD q tab0).dst))), (Yd.val (eptr v6_ (((b.tabs.getD q tab0).dst).toNat * 2))), (Yd.val (eptr v6_ (((b.tabs.getD q tab0).dst).toNat * 2 + 0))), (Yd.val (Value.int .i64 ((y_.getD (((b.tabs.getD q tab0).dst).toNat) (0, 0)).1))), (Yd.val v6_), (Yd.val (bptr B 1)), (Yd.val (Value.int .i64 ((b.tabs.getD q tab0).dst))), (Yd.val (eptr v6_ (((b.tabs.getD q tab0).dst).toNat * 2))), (Yd.val (eptr v6_ (((b.tabs.getD q tab0).dst).toNat * 2 + 1))), (Yd.val (Value.int .i64 ((y_.getD (((b.tabs.getD q tab0).dst).toNat) (0, 0)).2))), (Yd.val (Value.bool true)), (Yd.val (Value.bool true)), (Yd.val undef), (Yd.val undef), (Yd.val undef), (Yd.val undef), (Yd.val undef), (Yd.val undef), (Yd.val undef), (Yd.val undef), (Yd.val undef), (Yd.val undef), (Yd.val undef), (Yd.val undef), (Yd.val undef), (Yd.val (Value.bool true)), (Yd.val (Value.bool true)), (Yd.val undef), (Yd.val undef), (Yd.val undef), (Yd.val undef), (Yd.val undef), (Yd.val undef)] (by decide +kernel) rfl rfl ?_ ?_
    ·skip
     refine dq (fun a w hA hS hd => a_1 rfl (hA.ev rfl)) ?_
     refine dq (fun a w hA hS hd => a_3 rfl r_6 (hA.ev rfl)) ?_
     refine dq (fun a w hA hS hd => a_2 rfl ty_3 (hq hd 1) (hS.bk 0 rfl) rfl) ?_
     refine dq (fun a w hA hS hd => b_3 rfl t_8 j_5 (hq hd 0) (i := ((b.tabs.getD q tab0).dst).toNat) ((hq hd 2).trans (h_1 (by omega))) (SlAt.d_7 (hS.e_2 1 rfl)) (by decide) (by omega)) ?_
     refine dq (fun a w hA hS hd => d_1 rfl l_0 (hq hd 3) (SlAt.d_7 (hS.e_2 1 rfl)) (by rw [((SlAt.d_7 (hS.e_2 1 rfl))).1]; omega)) ?_
     refine dq (fun a w hA hS hd => c_4 rfl ty_3 (hq hd 4) (SlAt.d_7 (hS.e_2 1 rfl)) (f_7 (by omega))) ?_
     refine dq (fun a w hA hS hd => a_1 rfl (hA.ev rfl)) ?_
     refine dq (fun a w hA hS hd => a_3 rfl r_6 (hA.ev rfl)) ?_
     refine dq (fun a w hA hS hd => a_2 rfl ty_3 (hq hd 7) (hS.bk 0 rfl) rfl) ?_
     refine dq (fun a w hA hS hd => b_3 rfl t_8 j_5 (hq hd 6) (i := ((b.tabs.getD q tab0).dst).toNat) ((hq hd 8).trans (h_1 (by omega))) (SlAt.d_7 (hS.e_2 1 rfl)) (by decide) (by omega)) ?_
     refine dq (fun a w hA hS hd => d_1 rfl l_1 (hq hd 9) (SlAt.d_7 (hS.e_2 1 rfl)) (by rw [((SlAt.d_7 (hS.e_2 1 rfl))).1]; omega)) ?_
     refine dq (fun a w hA hS hd => c_4 rfl ty_3 (hq hd 10) (SlAt.d_7 (hS.e_2 1 rfl)) (h_2 (by omega))) ?_
     refine ⟨fun a w hA hS hd => by have e5 := hx hd 5; have W := hx hd 11; exact b_1 rfl (dv (j_0 rfl (a_7 e5) (a_7 W)) hS (by show Value.bool _ = _; simp only [decide_eq_true BJ, decide_true, decide_false, Bool.not_true, Bool.not_false])), ?_⟩
     refine dq (fun a w hA hS hd => a_1 rfl (hq hd 12)) ?_
     refine dn 13 ?_
     refine dn 13 ?_
     refine dn 13 ?_
     refine dn 13 ?_
     refine dn 13 ?_
     refine dn 13 ?_
     refine dn 13 ?_
     refine dn 13 ?_
     refine dn 13 ?_
     refine dn 13 ?_
     refine dn 13 ?_
     refine dn 13 ?_
     refine dn 13 ?_
     refine dq (fun a w hA hS hd => b_9 rfl (hq hd 13) (evc _ _)) ?_
     refine dq (fun a w hA hS hd => a_1 rfl (hq hd 27)) ?_
     refine dn 28 ?_
     refine dn 28 ?_
     refine dn 28 ?_
     refine dn 28 ?_
     refine dn 28 ?_
     refine dn 28 ?_
     trivial
    intro FF Fw CV C2 z; clear CU S
    have CW := CV.add (hz z 28); clear CV
    have CX := CW.add (hz z 29); clear CW
    have CY := CX.add (hz z 34); clear CX
    clear z
    refine s3 CY fun FG CZ => ?_; clear CY FF
    refine s3 CZ fun FH Ak => ?_; clear CZ FG
    refine s1 Ak (b_9 rfl (Ak.ev rfl) (evc _ _)) fun FI Al => ?_; clear Ak FH
    refine n1 ?_
    refine c_3 Al rfl ?_
    refine g_8 ?_
    refine b_6 ?_
    refine f_5 ?_
    refine b_0 ?_
    have Am := Al.as [(13, (Value.int .i64 (q : Int))), (11, (Value.bool cg_)), (6, v6_), (2, (bptr C 0))] rfl; clear Al
    refine a_5 ?_
    refine s1 Am (a_1 rfl (Am.ev rfl)) fun FJ An => ?_; clear Am FI
    refine s1 An (f_4 rfl (An.ev rfl) (evc _ _) (by omega) (by omega)) fun FK Ao => ?_; clear An FJ
    refine s1 Ao (a_0 rfl (Ao.ev rfl)) fun Gx EK => ?_; clear Ao FK
    refine e_9 ?_
    have EQ : Sep NoB w Fw [(row v6_ 27 2 y_.length (pairs y_)), (blk C 25 [(Value.int .i64 b.scales), vt, vm]), (d_8 false vt lr lb b.tabs), (e_6 false vm lk b.macs), (sl xl 2 l.length (pairs l))] := C2.keep [1, 2, 3, 4, 5] (by decide) _ rfl rfl; clear C2
    exact b_0 ⟨q + 1, ⟨y_, cg_, EK.as _ rfl, EQ, by omega, (T.skip hfu (hb.natV _ (o_9 (by omega))) (by first | exact .inl (by assumption) | exact .inr (.inl (by assumption)) | exact .inr (.inr (by assumption))))⟩, by omega⟩
   skip
   have m := j.as [(14, (bptr B 0)), (13, (Value.int .i64 (q : Int))), (11, (Value.bool cg_)), (6, v6_), (2, (bptr C 0))] rfl; clear j
   by_cases DC : ((y_.getD (((b.tabs.getD q tab0).frm).toNat) (0, 0)).2) < ((y_.getD (((b.tabs.getD q tab0).frm).toNat) (0, 0)).1)
   ·skip
    have Ca := m.as [(14, (bptr B 0)), (13, (Value.int .i64 (q : Int))), (11, (Value.bool cg_)), (6, v6_), (2, (bptr C 0))] rfl; clear m
    refine g_3 mixed Ca S 35 [[], [], [1], [0, 2], [3], [4], [], [], [7], [6, 8], [9], [10], [5, 11], [12], [13], [13], [13, 15], [13, 14, 16], [13, 17], [13, 18], [13], [13], [13, 21], [13, 20, 22], [13, 23], [13, 24], [13, 19, 25], [13, 26], [27], [28], [28], [28], [28, 31], [28, 30, 32], [28, 33]] [(Yd.val v6_), (Yd.val (bptr B 1)), (Yd.val (Value.int .i64 ((b.tabs.getD q tab0).dst))), (Yd.val (eptr v6_ (((b.tabs.getD q tab0).dst).toNat * 2))), (Yd.val (eptr v6_ (((b.tabs.getD q tab0).dst).toNat * 2 + 0))), (Yd.val (Value.int .i64 ((y_.getD (((b.tabs.getD q tab0).dst).toNat) (0, 0)).1))), (Yd.val v6_), (Yd.val (bptr B 1)), (Yd.val (Value.int .i64 ((b.tabs.getD q tab0).dst))), (Yd.val (eptr v6_ (((b.tabs.getD q tab0).dst).toNat * 2))), (Yd.val (eptr v6_ (((b.tabs.getD q tab0).dst).toNat * 2 + 1))), (Yd.val (Value.int .i64 ((y_.getD (((b.tabs.getD q tab0).dst).toNat) (0, 0)).2))), (Yd.val (Value.bool false)), (Yd.val (Value.bool false)), (Yd.val v6_), (Yd.val (bptr B 0)), (Yd.val (Value.int .i64 ((b.tabs.getD q tab0).frm))), (Yd.val (eptr v6_ (((b.tabs.getD q tab0).frm).toNat * 2))), (Yd.val (eptr v6_ (((b.tabs.getD q tab0).frm).toNat * 2 + 0))), (Yd.val (Value.int .i64 ((y_.getD (((b.tabs.getD q tab0).frm).toNat) (0, 0)).1))), (Yd.val v6_), (Yd.val (bptr B 0)), (Yd.val (Value.int .i64 ((b.tabs.getD q tab0).frm))), (Yd.val (eptr v6_ (((b.tabs.getD q tab0).frm).toNat * 2))), (Yd.val (eptr v6_ (((b.tabs.getD q tab0).frm).toNat * 2 + 1))), (Yd.val (Value.int .i64 ((y_.getD (((b.tabs.getD q tab0).frm).toNat) (0, 0)).2))), (Yd.val (Value.bool true)), (Yd.val (Value.bool true)), (Yd.val (Value.bool true)), (Yd.val undef), (Yd.val undef), (Yd.val undef), (Yd.val undef), (Yd.val undef), (Yd.val undef)] (by decide +kernel) rfl rfl ?_ ?_
    ·skip
     refine dq (fun a w hA hS hd => a_1 rfl (hA.ev rfl)) ?_
     refine dq (fun a w hA hS hd => a_3 rfl r_6 (hA.ev rfl)) ?_
     refine dq (fun a w hA hS hd => a_2 rfl ty_3 (hq hd 1) (hS.bk 0 rfl) rfl) ?_
     refine dq (fun a w hA hS hd => b_3 rfl t_8 j_5 (hq hd 0) (i := ((b.tabs.getD q tab0).dst).toNat) ((hq hd 2).trans (h_1 (by omega))) (SlAt.d_7 (hS.e_2 1 rfl)) (by decide) (by omega)) ?_
     refine dq (fun a w hA hS hd => d_1 rfl l_0 (hq hd 3) (SlAt.d_7 (hS.e_2 1 rfl)) (by rw [((SlAt.d_7 (hS.e_2 1 rfl))).1]; omega)) ?_
     refine dq (fun a w hA hS hd => c_4 rfl ty_3 (hq hd 4) (SlAt.d_7 (hS.e_2 1 rfl)) (f_7 (by omega))) ?_
     refine dq (fun a w hA hS hd => a_1 rfl (hA.ev rfl)) ?_
     refine dq (fun a w hA hS hd => a_3 rfl r_6 (hA.ev rfl)) ?_
     refine dq (fun a w hA hS hd => a_2 rfl ty_3 (hq hd 7) (hS.bk 0 rfl) rfl) ?_
     refine dq (fun a w hA hS hd => b_3 rfl t_8 j_5 (hq hd 6) (i := ((b.tabs.getD q tab0).dst).toNat) ((hq hd 8).trans (h_1 (by omega))) (SlAt.d_7 (hS.e_2 1 rfl)) (by decide) (by omega)) ?_
     refine dq (fun a w hA hS hd => d_1 rfl l_1 (hq hd 9) (SlAt.d_7 (hS.e_2 1 rfl)) (by rw [((SlAt.d_7 (hS.e_2 1 rfl))).1]; omega)) ?_
     refine dq (fun a w hA hS hd => c_4 rfl ty_3 (hq hd 10) (SlAt.d_7 (hS.e_2 1 rfl)) (h_2 (by omega))) ?_
     refine ⟨fun a w hA hS hd => by have e5 := hx hd 5; have W := hx hd 11; exact b_1 rfl (dv (j_0 rfl (a_7 e5) (a_7 W)) hS (by show Value.bool _ = _; simp only [decide_eq_false BJ, decide_true, decide_false, Bool.not_true, Bool.not_false])), ?_⟩
     refine dq (fun a w hA hS hd => a_1 rfl (hq hd 12)) ?_
     refine dy 13 (fun a w hA hS hd => a_1 rfl (hA.ev rfl)) ?_
     refine dy 13 (fun a w hA hS hd => a_3 rfl x_0 (hA.ev rfl)) ?_
     refine dy 13 (fun a w hA hS hd => a_2 rfl ty_3 (hq hd 15) (hS.bk 0 rfl) rfl) ?_
     refine dy 13 (fun a w hA hS hd => b_3 rfl t_8 j_5 (hq hd 14) (i := ((b.tabs.getD q tab0).frm).toNat) ((hq hd 16).trans (h_1 (by omega))) (SlAt.d_7 (hS.e_2 1 rfl)) (by decide) (by omega)) ?_
     refine dy 13 (fun a w hA hS hd => d_1 rfl l_0 (hq hd 17) (SlAt.d_7 (hS.e_2 1 rfl)) (by rw [((SlAt.d_7 (hS.e_2 1 rfl))).1]; omega)) ?_
     refine dy 13 (fun a w hA hS hd => c_4 rfl ty_3 (hq hd 18) (SlAt.d_7 (hS.e_2 1 rfl)) (f_7 (by omega))) ?_
     refine dy 13 (fun a w hA hS hd => a_1 rfl (hA.ev rfl)) ?_
     refine dy 13 (fun a w hA hS hd => a_3 rfl x_0 (hA.ev rfl)) ?_
     refine dy 13 (fun a w hA hS hd => a_2 rfl ty_3 (hq hd 21) (hS.bk 0 rfl) rfl) ?_
     refine dy 13 (fun a w hA hS hd => b_3 rfl t_8 j_5 (hq hd 20) (i := ((b.tabs.getD q tab0).frm).toNat) ((hq hd 22).trans (h_1 (by omega))) (SlAt.d_7 (hS.e_2 1 rfl)) (by decide) (by omega)) ?_
     refine dy 13 (fun a w hA hS hd => d_1 rfl l_1 (hq hd 23) (SlAt.d_7 (hS.e_2 1 rfl)) (by rw [((SlAt.d_7 (hS.e_2 1 rfl))).1]; omega)) ?_
     refine dy 13 (fun a w hA hS hd => c_4 rfl ty_3 (hq hd 24) (SlAt.d_7 (hS.e_2 1 rfl)) (h_2 (by omega))) ?_
     refine ⟨fun a w hA hS hd => by have DQ := hx hd 13; have DR := hx hd 19; have DT := hx hd 25; exact i_1 rfl rfl DQ (dv (j_0 rfl (a_7 DR) (a_7 DT)) hS (by show Value.bool _ = _; simp only [decide_eq_true DC, decide_true, decide_false, Bool.not_true, Bool.not_false])), ?_⟩
     refine dq (fun a w hA hS hd => d_3 rfl (hq hd 13) (hq hd 26)) ?_
     refine dq (fun a w hA hS hd => a_1 rfl (hq hd 27)) ?_
     refine dn 28 ?_
     refine dn 28 ?_
     refine dn 28 ?_
     refine dn 28 ?_
     refine dn 28 ?_
     refine dn 28 ?_
     trivial
    intro FL Fx Cb C3 AA; clear Ca S
    have Cc := Cb.add (hz AA 28); clear Cb
    have Cd := Cc.add (hz AA 29); clear Cc
    have Ce := Cd.add (hz AA 34); clear Cd
    clear AA
    refine s3 Ce fun FM Cf => ?_; clear Ce FL
    refine s3 Cf fun FN Aq => ?_; clear Cf FM
    refine s1 Aq (b_9 rfl (Aq.ev rfl) (evc _ _)) fun FO Ar => ?_; clear Aq FN
    refine n1 ?_
    refine c_3 Ar rfl ?_
    refine g_8 ?_
    refine b_6 ?_
    refine f_5 ?_
    refine b_0 ?_
    have As := Ar.as [(13, (Value.int .i64 (q : Int))), (11, (Value.bool cg_)), (6, v6_), (2, (bptr C 0))] rfl; clear Ar
    refine a_5 ?_
    refine s1 As (a_1 rfl (As.ev rfl)) fun FP At => ?_; clear As FO
    refine s1 At (f_4 rfl (At.ev rfl) (evc _ _) (by omega) (by omega)) fun FQ Au => ?_; clear At FP
    refine s1 Au (a_0 rfl (Au.ev rfl)) fun Gy EL => ?_; clear Au FQ
    refine e_9 ?_
    have ER : Sep NoB w Fx [(row v6_ 27 2 y_.length (pairs y_)), (blk C 25 [(Value.int .i64 b.scales), vt, vm]), (d_8 false vt lr lb b.tabs), (e_6 false vm lk b.macs), (sl xl 2 l.length (pairs l))] := C3.keep [1, 2, 3, 4, 5] (by decide) _ rfl rfl; clear C3
    exact b_0 ⟨q + 1, ⟨y_, cg_, EL.as _ rfl, ER, by omega, (T.skip hfu (hb.natV _ (o_9 (by omega))) (by first | exact .inl (by assumption) | exact .inr (.inl (by assumption)) | exact .inr (.inr (by assumption))))⟩, by omega⟩
   skip
   have Cg := m.as [(14, (bptr B 0)), (13, (Value.int .i64 (q : Int))), (11, (Value.bool cg_)), (6, v6_), (2, (bptr C 0))] rfl; clear m
   refine g_3 mixed Cg S 35 [[], [], [1], [0, 2], [3], [4], [], [], [7], [6, 8], [9], [10], [5, 11], [12], [13], [13], [13, 15], [13, 14, 16], [13, 17], [13, 18], [13], [13], [13, 21], [13, 20, 22], [13, 23], [13, 24], [13, 19, 25], [13, 26], [27], [28], [28], [28], [28, 31], [28, 30, 32], [28, 33]] [(Yd.val v6_), (Yd.val (bptr B 1)), (Yd.val (Value.int .i64 ((b.tabs.getD q tab0).dst))), (Yd.val (eptr v6_ (((b.tabs.getD q tab0).dst).toNat * 2))), (Yd.val (eptr v6_ (((b.tabs.getD q tab0).dst).toNat * 2 + 0))), (Yd.val (Value.int .i64 ((y_.getD (((b.tabs.getD q tab0).dst).toNat) (0, 0)).1))), (Yd.val v6_), (Yd.val (bptr B 1)), (Yd.val (Value.int .i64 ((b.tabs.getD q tab0).dst))), (Yd.val (eptr v6_ (((b.tabs.getD q tab0).dst).toNat * 2))), (Yd.val (eptr v6_ (((b.tabs.getD q tab0).dst).toNat * 2 + 1))), (Yd.val (Value.int .i64 ((y_.getD (((b.tabs.getD q tab0).dst).toNat) (0, 0)).2))), (Yd.val (Value.bool false)), (Yd.val (Value.bool false)), (Yd.val v6_), (Yd.val (bptr B 0)), (Yd.val (Value.int .i64 ((b.tabs.getD q tab0).frm))), (Yd.val (eptr v6_ (((b.tabs.getD q tab0).frm).toNat * 2))), (Yd.val (eptr v6_ (((b.tabs.getD q tab0).frm).toNat * 2 + 0))), (Yd.val (Value.int .i64 ((y_.getD (((b.tabs.getD q tab0).frm).toNat) (0, 0)).1))), (Yd.val v6_), (Yd.val (bptr B 0)), (Yd.val (Value.int .i64 ((b.tabs.getD q tab0).frm))), (Yd.val (eptr v6_ (((b.tabs.getD q tab0).frm).toNat * 2))), (Yd.val (eptr v6_ (((b.tabs.getD q tab0).frm).toNat * 2 + 1))), (Yd.val (Value.int .i64 ((y_.getD (((b.tabs.getD q tab0).frm).toNat) (0, 0)).2))), (Yd.val (Value.bool false)), (Yd.val (Value.bool false)), (Yd.val (Value.bool false)), (Yd.val (Value.agg #[(Value.int .i64 ((b.tabs.getD q tab0).frm)), (Value.int .i64 ((b.tabs.getD q tab0).dst)), (lr q), (lb q), (Value.int .i64 ((b.tabs.getD q tab0).err))])), (Yd.val v6_), (Yd.val (bptr B 0)), (Yd.val (Value.int .i64 ((b.tabs.getD q tab0).frm))), (Yd.val (eptr v6_ (((b.tabs.getD q tab0).frm).toNat * 2))), (Yd.val (Value.agg #[(Value.int .i64 ((y_.getD (((b.tabs.getD q tab0).frm).toNat) (0, 0)).1)), (Value.int .i64 ((y_.getD (((b.tabs.getD q tab0).frm).toNat) (0, 0)).2))]))] (by decide +kernel) rfl rfl ?_ ?_
   ·skip
    refine dq (fun a w hA hS hd => a_1 rfl (hA.ev rfl)) ?_
    refine dq (fun a w hA hS hd => a_3 rfl r_6 (hA.ev rfl)) ?_
    refine dq (fun a w hA hS hd => a_2 rfl ty_3 (hq hd 1) (hS.bk 0 rfl) rfl) ?_
    refine dq (fun a w hA hS hd => b_3 rfl t_8 j_5 (hq hd 0) (i := ((b.tabs.getD q tab0).dst).toNat) ((hq hd 2).trans (h_1 (by omega))) (SlAt.d_7 (hS.e_2 1 rfl)) (by decide) (by omega)) ?_
    refine dq (fun a w hA hS hd => d_1 rfl l_0 (hq hd 3) (SlAt.d_7 (hS.e_2 1 rfl)) (by rw [((SlAt.d_7 (hS.e_2 1 rfl))).1]; omega)) ?_
    refine dq (fun a w hA hS hd => c_4 rfl ty_3 (hq hd 4) (SlAt.d_7 (hS.e_2 1 rfl)) (f_7 (by omega))) ?_
    refine dq (fun a w hA hS hd => a_1 rfl (hA.ev rfl)) ?_
    refine dq (fun a w hA hS hd => a_3 rfl r_6 (hA.ev rfl)) ?_
    refine dq (fun a w hA hS hd => a_2 rfl ty_3 (hq hd 7) (hS.bk 0 rfl) rfl) ?_
    refine dq (fun a w hA hS hd => b_3 rfl t_8 j_5 (hq hd 6) (i := ((b.tabs.getD q tab0).dst).toNat) ((hq hd 8).trans (h_1 (by omega))) (SlAt.d_7 (hS.e_2 1 rfl)) (by decide) (by omega)) ?_
    refine dq (fun a w hA hS hd => d_1 rfl l_1 (hq hd 9) (SlAt.d_7 (hS.e_2 1 rfl)) (by rw [((SlAt.d_7 (hS.e_2 1 rfl))).1]; omega)) ?_
    refine dq (fun a w hA hS hd => c_4 rfl ty_3 (hq hd 10) (SlAt.d_7 (hS.e_2 1 rfl)) (h_2 (by omega))) ?_
    refine ⟨fun a w hA hS hd => by have e5 := hx hd 5; have W := hx hd 11; exact b_1 rfl (dv (j_0 rfl (a_7 e5) (a_7 W)) hS (by show Value.bool _ = _; simp only [decide_eq_false BJ, decide_true, decide_false, Bool.not_true, Bool.not_false])), ?_⟩
    refine dq (fun a w hA hS hd => a_1 rfl (hq hd 12)) ?_
    refine dy 13 (fun a w hA hS hd => a_1 rfl (hA.ev rfl)) ?_
    refine dy 13 (fun a w hA hS hd => a_3 rfl x_0 (hA.ev rfl)) ?_
    refine dy 13 (fun a w hA hS hd => a_2 rfl ty_3 (hq hd 15) (hS.bk 0 rfl) rfl) ?_
    refine dy 13 (fun a w hA hS hd => b_3 rfl t_8 j_5 (hq hd 14) (i := ((b.tabs.getD q tab0).frm).toNat) ((hq hd 16).trans (h_1 (by omega))) (SlAt.d_7 (hS.e_2 1 rfl)) (by decide) (by omega)) ?_
    refine dy 13 (fun a w hA hS hd => d_1 rfl l_0 (hq hd 17) (SlAt.d_7 (hS.e_2 1 rfl)) (by rw [((SlAt.d_7 (hS.e_2 1 rfl))).1]; omega)) ?_
    refine dy 13 (fun a w hA hS hd => c_4 rfl ty_3 (hq hd 18) (SlAt.d_7 (hS.e_2 1 rfl)) (f_7 (by omega))) ?_
    refine dy 13 (fun a w hA hS hd => a_1 rfl (hA.ev rfl)) ?_
    refine dy 13 (fun a w hA hS hd => a_3 rfl x_0 (hA.ev rfl)) ?_
    refine dy 13 (fun a w hA hS hd => a_2 rfl ty_3 (hq hd 21) (hS.bk 0 rfl) rfl) ?_
    refine dy 13 (fun a w hA hS hd => b_3 rfl t_8 j_5 (hq hd 20) (i := ((b.tabs.getD q tab0).frm).toNat) ((hq hd 22).trans (h_1 (by omega))) (SlAt.d_7 (hS.e_2 1 rfl)) (by decide) (by omega)) ?_
    refine dy 13 (fun a w hA hS hd => d_1 rfl l_1 (hq hd 23) (SlAt.d_7 (hS.e_2 1 rfl)) (by rw [((SlAt.d_7 (hS.e_2 1 rfl))).1]; omega)) ?_
    refine dy 13 (fun a w hA hS hd => c_4 rfl ty_3 (hq hd 24) (SlAt.d_7 (hS.e_2 1 rfl)) (h_2 (by omega))) ?_
    refine ⟨fun a w hA hS hd => by have DQ := hx hd 13; have DR := hx hd 19; have DT := hx hd 25; exact i_1 rfl rfl DQ (dv (j_0 rfl (a_7 DR) (a_7 DT)) hS (by show Value.bool _ = _; simp only [decide_eq_false DC, decide_true, decide_false, Bool.not_true, Bool.not_false])), ?_⟩
    refine dq (fun a w hA hS hd => d_3 rfl (hq hd 13) (hq hd 26)) ?_
    refine dq (fun a w hA hS hd => a_1 rfl (hq hd 27)) ?_
    refine dy 28 (fun a w hA hS hd => c_5 rfl y_3 (hA.ev rfl) (hS.bk 0 rfl) (l := [(Value.int .i64 ((b.tabs.getD q tab0).frm)), (Value.int .i64 ((b.tabs.getD q tab0).dst)), (lr q), (lb q), (Value.int .i64 ((b.tabs.getD q tab0).err))]) rfl rfl) ?_
    refine dy 28 (fun a w hA hS hd => a_1 rfl (hA.ev rfl)) ?_
    refine dy 28 (fun a w hA hS hd => a_3 rfl x_0 (hA.ev rfl)) ?_
    refine dy 28 (fun a w hA hS hd => a_2 rfl ty_3 (hq hd 31) (hS.bk 0 rfl) rfl) ?_
    refine dy 28 (fun a w hA hS hd => b_3 rfl t_8 j_5 (hq hd 30) (i := ((b.tabs.getD q tab0).frm).toNat) ((hq hd 32).trans (h_1 (by omega))) (SlAt.d_7 (hS.e_2 1 rfl)) (by decide) (by omega)) ?_
    refine dy 28 (fun a w hA hS hd => e_7 rfl j_5 (hq hd 33) (SlAt.d_7 (hS.e_2 1 rfl)) (g_9 (by omega)) rfl (by decide)) ?_
    trivial
   intro FSa HF Ch AD AB; clear Cg S
   have Ci := Ch.add (hz AB 28); clear Ch
   have Cj := Ci.add (hz AB 29); clear Ci
   have n := Cj.add (hz AB 34); clear Cj
   clear AB
   refine s6 n (b_4 rfl en_23 (ev2 (n.ev rfl) (n.ev rfl)) (rconverts_ok ((y_.getD (((b.tabs.getD q tab0).frm).toNat) (0, 0)).1) ((y_.getD (((b.tabs.getD q tab0).frm).toNat) (0, 0)).2) (b.tabs.getD q tab0) _ _ _ ((c_1 (AD.ok 3 _ rfl)).row (i := q) (by omega)) ((c_1 (AD.ok 3 _ rfl)).brk (i := q) (by omega)) (hth.rl _) (hth.bl _) _ (hb.tab (by omega)))) ?_
   rintro FT _ Fy ⟨rfl, Cw⟩ Av; have AE := AD.step Cw; clear Cw n AD FSa
   refine s5 Av (f_6 rfl (Av.ev rfl)) fun FU o => ?_; clear Av FT
   refine s1 o (d_3 rfl (o.ev rfl) (o.ev rfl)) fun FV N => ?_; clear o FU
   refine n1 ?_
   rcases Bool.eq_false_or_eq_true ((n_5 (b.tabs.getD q tab0) ((y_.getD (((b.tabs.getD q tab0).frm).toNat) (0, 0)).1, (y_.getD (((b.tabs.getD q tab0).frm).toNat) (0, 0)).2))) with BK | BK
   ·skip
    rw [BK] at N
    refine b_7 N rfl ?_
    refine d_0 ?_
    refine b_0 ?_
    refine b_8 ?_
    have Ck := N.as [(14, (bptr B 0)), (13, (Value.int .i64 (q : Int))), (11, (Value.bool cg_)), (6, v6_), (2, (bptr C 0))] rfl; clear N
    have Cl := Ck.as [(14, (bptr B 0)), (13, (Value.int .i64 (q : Int))), (11, (Value.bool cg_)), (6, v6_), (2, (bptr C 0))] rfl; clear Ck
    refine w_6 mixed Cl AE 14 [[], [], [1], [0, 2], [3], [], [], [], [7], [6, 8], [9], [5, 10], [4, 11], []] [(fun (A : Nat → Value) (v_ : Value) (rs_ : List Res) => v_ = v6_ ∧ rs_ = []), (fun (A : Nat → Value) (v_ : Value) (rs_ : List Res) => v_ = (bptr B 1) ∧ rs_ = []), (fun (A : Nat → Value) (v_ : Value) (rs_ : List Res) => v_ = (Value.int .i64 ((b.tabs.getD q tab0).dst)) ∧ rs_ = []), (fun (A : Nat → Value) (v_ : Value) (rs_ : List Res) => v_ = (eptr v6_ (((b.tabs.getD q tab0).dst).toNat * 2)) ∧ rs_ = []), (fun (A : Nat → Value) (v_ : Value) (rs_ : List Res) => v_ = (Value.agg #[(Value.int .i64 ((y_.getD (((b.tabs.getD q tab0).dst).toNat) (0, 0)).1)), (Value.int .i64 ((y_.getD (((b.tabs.getD q tab0).dst).toNat) (0, 0)).2))]) ∧ rs_ = []), (fun (A : Nat → Value) (v_ : Value) (rs_ : List Res) => v_ = (Value.agg #[(Value.int .i64 ((b.tabs.getD q tab0).frm)), (Value.int .i64 ((b.tabs.getD q tab0).dst)), (lr q), (lb q), (Value.int .i64 ((b.tabs.getD q tab0).err))]) ∧ rs_ = []), (fun (A : Nat → Value) (v_ : Value) (rs_ : List Res) => v_ = v6_ ∧ rs_ = []), (fun (A : Nat → Value) (v_ : Value) (rs_ : List Res) => v_ = (bptr B 0) ∧ rs_ = []), (fun (A : Nat → Value) (v_ : Value) (rs_ : List Res) => v_ = (Value.int .i64 ((b.tabs.getD q tab0).frm)) ∧ rs_ = []), (fun (A : Nat → Value) (v_ : Value) (rs_ : List Res) => v_ = (eptr v6_ (((b.tabs.getD q tab0).frm).toNat * 2)) ∧ rs_ = []), (fun (A : Nat → Value) (v_ : Value) (rs_ : List Res) => v_ = (Value.agg #[(Value.int .i64 ((y_.getD (((b.tabs.getD q tab0).frm).toNat) (0, 0)).1)), (Value.int .i64 ((y_.getD (((b.tabs.getD q tab0).frm).toNat) (0, 0)).2))]) ∧ rs_ = []), (fun (A : Nat → Value) (v_ : Value) (rs_ : List Res) => v_ = (Value.agg #[(Value.int .i64 ((f_3 (b.tabs.getD q tab0) ((y_.getD (((b.tabs.getD q tab0).frm).toNat) (0, 0)).1, (y_.getD (((b.tabs.getD q tab0).frm).toNat) (0, 0)).2)).1)), (Value.int .i64 ((f_3 (b.tabs.getD q tab0) ((y_.getD (((b.tabs.getD q tab0).frm).toNat) (0, 0)).1, (y_.getD (((b.tabs.getD q tab0).frm).toNat) (0, 0)).2)).2))]) ∧ rs_ = []), (fun (A : Nat → Value) (v_ : Value) (rs_ : List Res) => v_ = (Value.agg #[(Value.int .i64 ((cutR ((y_.getD (((b.tabs.getD q tab0).dst).toNat) (0, 0)).1, (y_.getD (((b.tabs.getD q tab0).dst).toNat) (0, 0)).2) ((f_3 (b.tabs.getD q tab0) ((y_.getD (((b.tabs.getD q tab0).frm).toNat) (0, 0)).1, (y_.getD (((b.tabs.getD q tab0).frm).toNat) (0, 0)).2)).1, (f_3 (b.tabs.getD q tab0) ((y_.getD (((b.tabs.getD q tab0).frm).toNat) (0, 0)).1, (y_.getD (((b.tabs.getD q tab0).frm).toNat) (0, 0)).2)).2)).1)), (Value.int .i64 ((cutR ((y_.getD (((b.tabs.getD q tab0).dst).toNat) (0, 0)).1, (y_.getD (((b.tabs.getD q tab0).dst).toNat) (0, 0)).2) ((f_3 (b.tabs.getD q tab0) ((y_.getD (((b.tabs.getD q tab0).frm).toNat) (0, 0)).1, (y_.getD (((b.tabs.getD q tab0).frm).toNat) (0, 0)).2)).1, (f_3 (b.tabs.getD q tab0) ((y_.getD (((b.tabs.getD q tab0).frm).toNat) (0, 0)).1, (y_.getD (((b.tabs.getD q tab0).frm).toNat) (0, 0)).2)).2)).2))]) ∧ rs_ = []), (fun (A : Nat → Value) (v_ : Value) (rs_ : List Res) => ∃ (b13_ : Nat), v_ = (bptr b13_ 0) ∧ rs_ = [(blk b13_ 27 [(Value.int .i64 0), (Value.int .i64 0)])])] (by decide +kernel) (by decide +kernel) rfl rfl ⟨(fun _ _ _ _ _ h_ => h_), (fun _ _ _ _ _ h_ => h_), (fun _ _ _ _ _ h_ => h_), (fun _ _ _ _ _ h_ => h_), (fun _ _ _ _ _ h_ => h_), (fun _ _ _ _ _ h_ => h_), (fun _ _ _ _ _ h_ => h_), (fun _ _ _ _ _ h_ => h_), (fun _ _ _ _ _ h_ => h_), (fun _ _ _ _ _ h_ => h_), (fun _ _ _ _ _ h_ => h_), (fun _ _ _ _ _ h_ => h_), (fun _ _ _ _ _ h_ => h_), (fun _ _ _ _ _ h_ => h_), trivial⟩ ?_ ?_
    ·skip
     refine ⟨fun a w A hA hS hd => ?_, ?_⟩
     ·skip
      exact b_1 rfl (vv (a_1 rfl (hA.ev rfl)) (And.intro rfl rfl))
     refine ⟨fun a w A hA hS hd => ?_, ?_⟩
     ·skip
      exact b_1 rfl (vv (a_3 rfl r_6 (hA.ev rfl)) (And.intro rfl rfl))
     refine ⟨fun a w A hA hS hd => ?_, ?_⟩
     ·skip
      obtain ⟨e1, Gh, EA, GT⟩ := hd 1 (by decide)
      obtain ⟨D2, Du⟩ := EA; subst Du
      rw [D2] at e1
      exact b_1 rfl (vv (a_2 rfl ty_3 (a_7 (b_5 e1 rfl)) (hS.bk 0 rfl) rfl) (And.intro rfl rfl))
     refine ⟨fun a w A hA hS hd => ?_, ?_⟩
     ·skip
      obtain ⟨e0, Gg, D9, GS⟩ := hd 0 (by decide)
      obtain ⟨D1, Dt⟩ := D9; subst Dt
      rw [D1] at e0
      obtain ⟨e2, Gi, EB, GU⟩ := hd 2 (by decide)
      obtain ⟨D3, Dv⟩ := EB; subst Dv
      rw [D3] at e2
      exact b_1 rfl (vv (b_3 rfl t_8 j_5 (a_7 (b_5 e0 rfl)) (i := ((b.tabs.getD q tab0).dst).toNat) ((a_7 (b_5 e2 rfl)).trans (h_1 (by omega))) (SlAt.d_7 (hS.e_2 1 rfl)) (by decide) (by omega)) (And.intro rfl rfl))
     refine ⟨fun a w A hA hS hd => ?_, ?_⟩
     ·skip
      obtain ⟨e3, Gj, EC, GV⟩ := hd 3 (by decide)
      obtain ⟨D4, Dw⟩ := EC; subst Dw
      rw [D4] at e3
      exact b_1 rfl (vv (e_7 rfl j_5 (a_7 (b_5 e3 rfl)) (SlAt.d_7 (hS.e_2 1 rfl)) (g_9 (by omega)) rfl (by decide)) (And.intro rfl rfl))
     refine ⟨fun a w A hA hS hd => ?_, ?_⟩
     ·skip
      exact b_1 rfl (vv (c_5 rfl y_3 (hA.ev rfl) (hS.bk 0 rfl) (l := [(Value.int .i64 ((b.tabs.getD q tab0).frm)), (Value.int .i64 ((b.tabs.getD q tab0).dst)), (lr q), (lb q), (Value.int .i64 ((b.tabs.getD q tab0).err))]) rfl rfl) (And.intro rfl rfl))
     refine ⟨fun a w A hA hS hd => ?_, ?_⟩
     ·skip
      exact b_1 rfl (vv (a_1 rfl (hA.ev rfl)) (And.intro rfl rfl))
     refine ⟨fun a w A hA hS hd => ?_, ?_⟩
     ·skip
      exact b_1 rfl (vv (a_3 rfl x_0 (hA.ev rfl)) (And.intro rfl rfl))
     refine ⟨fun a w A hA hS hd => ?_, ?_⟩
     ·skip
      obtain ⟨e7, Gn, EG, GZ⟩ := hd 7 (by decide)
      obtain ⟨D8, D0⟩ := EG; subst D0
      rw [D8] at e7
      exact b_1 rfl (vv (a_2 rfl ty_3 (a_7 (b_5 e7 rfl)) (hS.bk 0 rfl) rfl) (And.intro rfl rfl))
     refine ⟨fun a w A hA hS hd => ?_, ?_⟩
     ·skip
      obtain ⟨e6, Gm, EF, GY⟩ := hd 6 (by decide)
      obtain ⟨D7, Dz⟩ := EF; subst Dz
      rw [D7] at e6
      obtain ⟨e8, HN, Ge, HL⟩ := hd 8 (by decide)
      obtain ⟨Gc, Ga⟩ := Ge; subst Ga
      rw [Gc] at e8
      exact b_1 rfl (vv (b_3 rfl t_8 j_5 (a_7 (b_5 e6 rfl)) (i := ((b.tabs.getD q tab0).frm).toNat) ((a_7 (b_5 e8 rfl)).trans (h_1 (by omega))) (SlAt.d_7 (hS.e_2 1 rfl)) (by decide) (by omega)) (And.intro rfl rfl))
     refine ⟨fun a w A hA hS hd => ?_, ?_⟩
     ·skip
      obtain ⟨e9, HO, Gf, HM⟩ := hd 9 (by decide)
      obtain ⟨Gd, Gb⟩ := Gf; subst Gb
      rw [Gd] at e9
      exact b_1 rfl (vv (e_7 rfl j_5 (a_7 (b_5 e9 rfl)) (SlAt.d_7 (hS.e_2 1 rfl)) (g_9 (by omega)) rfl (by decide)) (And.intro rfl rfl))
     refine ⟨fun a w A hA hS hd => ?_, ?_⟩
     ·skip
      obtain ⟨e5, Gl, EE, GX⟩ := hd 5 (by decide)
      obtain ⟨D6, Dy⟩ := EE; subst Dy
      rw [D6] at e5
      obtain ⟨Eg, G7, Fs, G5⟩ := hd 10 (by decide)
      obtain ⟨Fp, Fn⟩ := Fs; subst Fn
      rw [Fp] at Eg
      exact b_1 rfl (vx (b_4 rfl en_24 (ev2 (a_7 (b_5 e5 rfl)) (a_7 (b_5 Eg rfl))) (rconvert_ok ((y_.getD (((b.tabs.getD q tab0).frm).toNat) (0, 0)).1) ((y_.getD (((b.tabs.getD q tab0).frm).toNat) (0, 0)).2) (b.tabs.getD q tab0) _ _ _ ((c_1 (hS.ok 3 _ rfl)).row (i := q) (by omega)) ((c_1 (hS.ok 3 _ rfl)).brk (i := q) (by omega)) (hth.rl _) (hth.bl _) _ (hb.tab (by omega)))) (And.intro rfl rfl))
     refine ⟨fun a w A hA hS hd => ?_, ?_⟩
     ·skip
      obtain ⟨e4, Gk, ED, GW⟩ := hd 4 (by decide)
      obtain ⟨D5, Dx⟩ := ED; subst Dx
      rw [D5] at e4
      obtain ⟨W, G8, Ft, G6⟩ := hd 11 (by decide)
      obtain ⟨Fq, Fo⟩ := Ft; subst Fo
      rw [Fq] at W
      exact b_1 rfl (vx (b_4 rfl en_60 (ev2 (a_7 (b_5 e4 rfl)) (a_7 (b_5 W rfl))) (rcut_ok _ _ _ _ _)) (And.intro rfl rfl))
     refine ⟨fun a w A hA hS hd => ?_, ?_⟩
     ·skip
      exact b_1 rfl (valloc rfl ze_27 (cs := [(Value.int .i64 0), (Value.int .i64 0)]) rfl (fun b_ => ⟨b_, rfl, rfl⟩))
     trivial
    intro DL Fz A rsf297 Cm E BG; clear Cl AE
    obtain ⟨Bh, Bx⟩ := E 0 (by decide)
    obtain ⟨Bp, AI⟩ := Bx
    obtain ⟨Bi, By⟩ := E 1 (by decide)
    obtain ⟨Bq, AJ⟩ := By
    obtain ⟨Bj, Bz⟩ := E 2 (by decide)
    obtain ⟨Br, AK⟩ := Bz
    obtain ⟨Bk, B0⟩ := E 3 (by decide)
    obtain ⟨Bs, AL⟩ := B0
    obtain ⟨Bl, B1⟩ := E 4 (by decide)
    obtain ⟨Bt, AM⟩ := B1
    obtain ⟨Bm, B2⟩ := E 5 (by decide)
    obtain ⟨Bu, AN⟩ := B2
    obtain ⟨Bn, B3⟩ := E 6 (by decide)
    obtain ⟨Bv, AO⟩ := B3
    obtain ⟨Bo, B4⟩ := E 7 (by decide)
    obtain ⟨Bw, AP⟩ := B4
    obtain ⟨AS, B5⟩ := E 8 (by decide)
    obtain ⟨BN, AQ⟩ := B5
    obtain ⟨AT, B6⟩ := E 9 (by decide)
    obtain ⟨BO, AR⟩ := B6
    obtain ⟨EX, Eb⟩ := E 10 (by decide)
    obtain ⟨EZ, DD⟩ := Eb
    obtain ⟨EY, Ec⟩ := E 11 (by decide)
    obtain ⟨Ea, DE⟩ := Ec
    obtain ⟨BL, Ed⟩ := E 12 (by decide)
    obtain ⟨DH, DF⟩ := Ed
    obtain ⟨BM, Ee⟩ := E 13 (by decide)
    obtain ⟨b13_, DI, DG⟩ := Ee
    have C4 : Sep NoB w Fz [(blk b13_ 27 [(Value.int .i64 0), (Value.int .i64 0)]), (blk B 46 [(Value.int .i64 ((b.tabs.getD q tab0).frm)), (Value.int .i64 ((b.tabs.getD q tab0).dst)), (lr q), (lb q), (Value.int .i64 ((b.tabs.getD q tab0).err))]), (row v6_ 27 2 y_.length (pairs y_)), (blk C 25 [(Value.int .i64 b.scales), vt, vm]), (d_8 false vt lr lb b.tabs), (e_6 false vm lk b.macs), (sl xl 2 l.length (pairs l))] := by rw [show catR rsf297 0 14 = ([(blk b13_ 27 [(Value.int .i64 0), (Value.int .i64 0)])] : List Res) by (try simp only [catR, AI, AJ, AK, AL, AM, AN, AO, AP, AQ, AR, DD, DE, DF, DG]); (try rfl)] at BG; exact BG
    rw [DH] at BL
    have Cn : Fr 164 [] [(150, (Value.agg #[(Value.int .i64 ((cutR ((y_.getD (((b.tabs.getD q tab0).dst).toNat) (0, 0)).1, (y_.getD (((b.tabs.getD q tab0).dst).toNat) (0, 0)).2) ((f_3 (b.tabs.getD q tab0) ((y_.getD (((b.tabs.getD q tab0).frm).toNat) (0, 0)).1, (y_.getD (((b.tabs.getD q tab0).frm).toNat) (0, 0)).2)).1, (f_3 (b.tabs.getD q tab0) ((y_.getD (((b.tabs.getD q tab0).frm).toNat) (0, 0)).1, (y_.getD (((b.tabs.getD q tab0).frm).toNat) (0, 0)).2)).2)).1)), (Value.int .i64 ((cutR ((y_.getD (((b.tabs.getD q tab0).dst).toNat) (0, 0)).1, (y_.getD (((b.tabs.getD q tab0).dst).toNat) (0, 0)).2) ((f_3 (b.tabs.getD q tab0) ((y_.getD (((b.tabs.getD q tab0).frm).toNat) (0, 0)).1, (y_.getD (((b.tabs.getD q tab0).frm).toNat) (0, 0)).2)).1, (f_3 (b.tabs.getD q tab0) ((y_.getD (((b.tabs.getD q tab0).frm).toNat) (0, 0)).1, (y_.getD (((b.tabs.getD q tab0).frm).toNat) (0, 0)).2)).2)).2))])), (14, (bptr B 0)), (13, (Value.int .i64 (q : Int))), (11, (Value.bool cg_)), (6, v6_), (2, (bptr C 0))] DL := Cm.add (b_5 BL rfl); clear Cm
    rw [DI] at BM
    have p : Fr 164 [] [(15, (bptr b13_ 0)), (150, (Value.agg #[(Value.int .i64 ((cutR ((y_.getD (((b.tabs.getD q tab0).dst).toNat) (0, 0)).1, (y_.getD (((b.tabs.getD q tab0).dst).toNat) (0, 0)).2) ((f_3 (b.tabs.getD q tab0) ((y_.getD (((b.tabs.getD q tab0).frm).toNat) (0, 0)).1, (y_.getD (((b.tabs.getD q tab0).frm).toNat) (0, 0)).2)).1, (f_3 (b.tabs.getD q tab0) ((y_.getD (((b.tabs.getD q tab0).frm).toNat) (0, 0)).1, (y_.getD (((b.tabs.getD q tab0).frm).toNat) (0, 0)).2)).2)).1)), (Value.int .i64 ((cutR ((y_.getD (((b.tabs.getD q tab0).dst).toNat) (0, 0)).1, (y_.getD (((b.tabs.getD q tab0).dst).toNat) (0, 0)).2) ((f_3 (b.tabs.getD q tab0) ((y_.getD (((b.tabs.getD q tab0).frm).toNat) (0, 0)).1, (y_.getD (((b.tabs.getD q tab0).frm).toNat) (0, 0)).2)).1, (f_3 (b.tabs.getD q tab0) ((y_.getD (((b.tabs.getD q tab0).frm).toNat) (0, 0)).1, (y_.getD (((b.tabs.getD q tab0).frm).toNat) (0, 0)).2)).2)).2))])), (14, (bptr B 0)), (13, (Value.int .i64 (q : Int))), (11, (Value.bool cg_)), (6, v6_), (2, (bptr C 0))] DL := Cn.add (b_5 BM rfl); clear Cn
    clear E BG Bh Bi Bj Bk Bl Bm Bn Bo AS AT EX EY BL BM
    clear AI
    clear Bp
    clear AJ
    clear Bq
    clear AK
    clear Br
    clear AL
    clear Bs
    clear AM
    clear Bt
    clear AN
    clear Bu
    clear AO
    clear Bv
    clear AP
    clear Bw
    clear AQ
    clear BN
    clear AR
    clear BO
    clear DD
    clear EZ
    clear DE
    clear Ea
    clear DF
    clear DH
    clear DG
    clear DI
    refine s7 p (c_2 C4 rfl j_5 (p.ev rfl) (p.ev rfl) (i := 0) rfl (vs := [(Value.int .i64 ((cutR ((y_.getD (((b.tabs.getD q tab0).dst).toNat) (0, 0)).1, (y_.getD (((b.tabs.getD q tab0).dst).toNat) (0, 0)).2) ((f_3 (b.tabs.getD q tab0) ((y_.getD (((b.tabs.getD q tab0).frm).toNat) (0, 0)).1, (y_.getD (((b.tabs.getD q tab0).frm).toNat) (0, 0)).2)).1, (f_3 (b.tabs.getD q tab0) ((y_.getD (((b.tabs.getD q tab0).frm).toNat) (0, 0)).1, (y_.getD (((b.tabs.getD q tab0).frm).toNat) (0, 0)).2)).2)).1)), (Value.int .i64 ((cutR ((y_.getD (((b.tabs.getD q tab0).dst).toNat) (0, 0)).1, (y_.getD (((b.tabs.getD q tab0).dst).toNat) (0, 0)).2) ((f_3 (b.tabs.getD q tab0) ((y_.getD (((b.tabs.getD q tab0).frm).toNat) (0, 0)).1, (y_.getD (((b.tabs.getD q tab0).frm).toNat) (0, 0)).2)).1, (f_3 (b.tabs.getD q tab0) ((y_.getD (((b.tabs.getD q tab0).frm).toNat) (0, 0)).1, (y_.getD (((b.tabs.getD q tab0).frm).toNat) (0, 0)).2)).2)).2))]) rfl rfl rfl (Nat.le_of_ble_eq_true rfl)) ?_
    intro _ F0 C5 Co; clear p
    have C6 : Sep NoB w F0 [(blk b13_ 27 [(Value.int .i64 ((cutR ((y_.getD (((b.tabs.getD q tab0).dst).toNat) (0, 0)).1, (y_.getD (((b.tabs.getD q tab0).dst).toNat) (0, 0)).2) ((f_3 (b.tabs.getD q tab0) ((y_.getD (((b.tabs.getD q tab0).frm).toNat) (0, 0)).1, (y_.getD (((b.tabs.getD q tab0).frm).toNat) (0, 0)).2)).1, (f_3 (b.tabs.getD q tab0) ((y_.getD (((b.tabs.getD q tab0).frm).toNat) (0, 0)).1, (y_.getD (((b.tabs.getD q tab0).frm).toNat) (0, 0)).2)).2)).1)), (Value.int .i64 ((cutR ((y_.getD (((b.tabs.getD q tab0).dst).toNat) (0, 0)).1, (y_.getD (((b.tabs.getD q tab0).dst).toNat) (0, 0)).2) ((f_3 (b.tabs.getD q tab0) ((y_.getD (((b.tabs.getD q tab0).frm).toNat) (0, 0)).1, (y_.getD (((b.tabs.getD q tab0).frm).toNat) (0, 0)).2)).1, (f_3 (b.tabs.getD q tab0) ((y_.getD (((b.tabs.getD q tab0).frm).toNat) (0, 0)).1, (y_.getD (((b.tabs.getD q tab0).frm).toNat) (0, 0)).2)).2)).2))]), (blk B 46 [(Value.int .i64 ((b.tabs.getD q tab0).frm)), (Value.int .i64 ((b.tabs.getD q tab0).dst)), (lr q), (lb q), (Value.int .i64 ((b.tabs.getD q tab0).err))]), (row v6_ 27 2 y_.length (pairs y_)), (blk C 25 [(Value.int .i64 b.scales), vt, vm]), (d_8 false vt lr lb b.tabs), (e_6 false vm lk b.macs), (sl xl 2 l.length (pairs l))] := C5; clear C5 C4
    refine n2 ?_
    have Cp := Co.as [(15, (bptr b13_ 0)), (14, (bptr B 0)), (13, (Value.int .i64 (q : Int))), (11, (Value.bool cg_)), (6, v6_), (2, (bptr C 0))] rfl; clear Co
    refine g_3 mixed Cp C6 6 [[], [], [], [2], [1, 3], [4]] [(Yd.val (Value.agg #[(Value.int .i64 ((cutR ((y_.getD (((b.tabs.getD q tab0).dst).toNat) (0, 0)).1, (y_.getD (((b.tabs.getD q tab0).dst).toNat) (0, 0)).2) ((f_3 (b.tabs.getD q tab0) ((y_.getD (((b.tabs.getD q tab0).frm).toNat) (0, 0)).1, (y_.getD (((b.tabs.getD q tab0).frm).toNat) (0, 0)).2)).1, (f_3 (b.tabs.getD q tab0) ((y_.getD (((b.tabs.getD q tab0).frm).toNat) (0, 0)).1, (y_.getD (((b.tabs.getD q tab0).frm).toNat) (0, 0)).2)).2)).1)), (Value.int .i64 ((cutR ((y_.getD (((b.tabs.getD q tab0).dst).toNat) (0, 0)).1, (y_.getD (((b.tabs.getD q tab0).dst).toNat) (0, 0)).2) ((f_3 (b.tabs.getD q tab0) ((y_.getD (((b.tabs.getD q tab0).frm).toNat) (0, 0)).1, (y_.getD (((b.tabs.getD q tab0).frm).toNat) (0, 0)).2)).1, (f_3 (b.tabs.getD q tab0) ((y_.getD (((b.tabs.getD q tab0).frm).toNat) (0, 0)).1, (y_.getD (((b.tabs.getD q tab0).frm).toNat) (0, 0)).2)).2)).2))])), (Yd.val v6_), (Yd.val (bptr B 1)), (Yd.val (Value.int .i64 ((b.tabs.getD q tab0).dst))), (Yd.val (eptr v6_ (((b.tabs.getD q tab0).dst).toNat * 2))), (Yd.val (Value.agg #[(Value.int .i64 ((y_.getD (((b.tabs.getD q tab0).dst).toNat) (0, 0)).1)), (Value.int .i64 ((y_.getD (((b.tabs.getD q tab0).dst).toNat) (0, 0)).2))]))] (by decide +kernel) rfl rfl ?_ ?_
    ·skip
     refine dq (fun a w hA hS hd => c_5 rfl j_5 (hA.ev rfl) (hS.bk 0 rfl) (l := [(Value.int .i64 ((cutR ((y_.getD (((b.tabs.getD q tab0).dst).toNat) (0, 0)).1, (y_.getD (((b.tabs.getD q tab0).dst).toNat) (0, 0)).2) ((f_3 (b.tabs.getD q tab0) ((y_.getD (((b.tabs.getD q tab0).frm).toNat) (0, 0)).1, (y_.getD (((b.tabs.getD q tab0).frm).toNat) (0, 0)).2)).1, (f_3 (b.tabs.getD q tab0) ((y_.getD (((b.tabs.getD q tab0).frm).toNat) (0, 0)).1, (y_.getD (((b.tabs.getD q tab0).frm).toNat) (0, 0)).2)).2)).1)), (Value.int .i64 ((cutR ((y_.getD (((b.tabs.getD q tab0).dst).toNat) (0, 0)).1, (y_.getD (((b.tabs.getD q tab0).dst).toNat) (0, 0)).2) ((f_3 (b.tabs.getD q tab0) ((y_.getD (((b.tabs.getD q tab0).frm).toNat) (0, 0)).1, (y_.getD (((b.tabs.getD q tab0).frm).toNat) (0, 0)).2)).1, (f_3 (b.tabs.getD q tab0) ((y_.getD (((b.tabs.getD q tab0).frm).toNat) (0, 0)).1, (y_.getD (((b.tabs.getD q tab0).frm).toNat) (0, 0)).2)).2)).2))]) rfl rfl) ?_
     refine dq (fun a w hA hS hd => a_1 rfl (hA.ev rfl)) ?_
     refine dq (fun a w hA hS hd => a_3 rfl r_6 (hA.ev rfl)) ?_
     refine dq (fun a w hA hS hd => a_2 rfl ty_3 (hq hd 2) (hS.bk 1 rfl) rfl) ?_
     refine dq (fun a w hA hS hd => b_3 rfl t_8 j_5 (hq hd 1) (i := ((b.tabs.getD q tab0).dst).toNat) ((hq hd 3).trans (h_1 (by omega))) (SlAt.d_7 (hS.e_2 2 rfl)) (by decide) (by omega)) ?_
     refine dq (fun a w hA hS hd => e_7 rfl j_5 (hq hd 4) (SlAt.d_7 (hS.e_2 2 rfl)) (g_9 (by omega)) rfl (by decide)) ?_
     trivial
    intro FW F1 Cq Q BD; clear Cp C6
    have Cr := Cq.add (hz BD 0); clear Cq
    have r := Cr.add (hz BD 5); clear Cr
    clear BD
    refine s1 r (op_neqP tw_27 rfl (r.ev rfl) (r.ev rfl)) fun DM F => ?_; clear r FW
    refine n1 ?_
    rcases Bool.eq_false_or_eq_true ((decide ((((cutR ((y_.getD (((b.tabs.getD q tab0).dst).toNat) (0, 0)).1, (y_.getD (((b.tabs.getD q tab0).dst).toNat) (0, 0)).2) ((f_3 (b.tabs.getD q tab0) ((y_.getD (((b.tabs.getD q tab0).frm).toNat) (0, 0)).1, (y_.getD (((b.tabs.getD q tab0).frm).toNat) (0, 0)).2)).1, (f_3 (b.tabs.getD q tab0) ((y_.getD (((b.tabs.getD q tab0).frm).toNat) (0, 0)).1, (y_.getD (((b.tabs.getD q tab0).frm).toNat) (0, 0)).2)).2)).1) : Int) = ((y_.getD (((b.tabs.getD q tab0).dst).toNat) (0, 0)).1)) && decide ((((cutR ((y_.getD (((b.tabs.getD q tab0).dst).toNat) (0, 0)).1, (y_.getD (((b.tabs.getD q tab0).dst).toNat) (0, 0)).2) ((f_3 (b.tabs.getD q tab0) ((y_.getD (((b.tabs.getD q tab0).frm).toNat) (0, 0)).1, (y_.getD (((b.tabs.getD q tab0).frm).toNat) (0, 0)).2)).1, (f_3 (b.tabs.getD q tab0) ((y_.getD (((b.tabs.getD q tab0).frm).toNat) (0, 0)).1, (y_.getD (((b.tabs.getD q tab0).frm).toNat) (0, 0)).2)).2)).2) : Int) = ((y_.getD (((b.tabs.getD q tab0).dst).toNat) (0, 0)).2)))) with V | V
    ·skip
     rw [V] at F
     have EV := V; simp only [Bool.and_eq_true, Bool.and_eq_false_iff, decide_eq_true_eq, decide_eq_false_iff_not] at EV
     refine b_7 F rfl ?_
     refine d_0 ?_
     refine h_0 ?_
     refine b_0 ?_
     refine a_5 ?_
     refine s1 F (a_1 rfl (F.ev rfl)) fun FX Aw => ?_; clear F DM
     refine s1 Aw (f_4 rfl (Aw.ev rfl) (evc _ _) (by omega) (by omega)) fun FY Ax => ?_; clear Aw FX
     refine s1 Ax (a_0 rfl (Ax.ev rfl)) fun Gz EM => ?_; clear Ax FY
     refine e_9 ?_
     have ES : Sep NoB w F1 [(row v6_ 27 2 y_.length (pairs y_)), (blk C 25 [(Value.int .i64 b.scales), vt, vm]), (d_8 false vt lr lb b.tabs), (e_6 false vm lk b.macs), (sl xl 2 l.length (pairs l))] := Q.keep [2, 3, 4, 5, 6] (by decide) _ rfl rfl; clear Q
     exact b_0 ⟨q + 1, ⟨y_, cg_, EM.as _ rfl, ES, by omega, (T.keep (pair_eq' (by assumption)))⟩, by omega⟩
    skip
    rw [V] at F
    have EW := V; simp only [Bool.and_eq_true, Bool.and_eq_false_iff, decide_eq_true_eq, decide_eq_false_iff_not] at EW
    refine c_3 F rfl ?_
    refine m2 ?_
    refine s1 F (a_1 rfl (F.ev rfl)) fun FZ Ay => ?_; clear F DM
    refine s1 Ay (a_3 rfl r_6 (Ay.ev rfl)) fun Fa Az => ?_; clear Ay FZ
    refine s1 Az (a_2 rfl ty_3 (Az.ev rfl) (Q.bk 1 rfl) rfl) fun Fb A0 => ?_; clear Az Fa
    refine s1 A0 (c_5 rfl j_5 (A0.ev rfl) (Q.bk 0 rfl) (l := [(Value.int .i64 ((cutR ((y_.getD (((b.tabs.getD q tab0).dst).toNat) (0, 0)).1, (y_.getD (((b.tabs.getD q tab0).dst).toNat) (0, 0)).2) ((f_3 (b.tabs.getD q tab0) ((y_.getD (((b.tabs.getD q tab0).frm).toNat) (0, 0)).1, (y_.getD (((b.tabs.getD q tab0).frm).toNat) (0, 0)).2)).1, (f_3 (b.tabs.getD q tab0) ((y_.getD (((b.tabs.getD q tab0).frm).toNat) (0, 0)).1, (y_.getD (((b.tabs.getD q tab0).frm).toNat) (0, 0)).2)).2)).1)), (Value.int .i64 ((cutR ((y_.getD (((b.tabs.getD q tab0).dst).toNat) (0, 0)).1, (y_.getD (((b.tabs.getD q tab0).dst).toNat) (0, 0)).2) ((f_3 (b.tabs.getD q tab0) ((y_.getD (((b.tabs.getD q tab0).frm).toNat) (0, 0)).1, (y_.getD (((b.tabs.getD q tab0).frm).toNat) (0, 0)).2)).1, (f_3 (b.tabs.getD q tab0) ((y_.getD (((b.tabs.getD q tab0).frm).toNat) (0, 0)).1, (y_.getD (((b.tabs.getD q tab0).frm).toNat) (0, 0)).2)).2)).2))]) rfl rfl) fun Fc s => ?_; clear A0 Fb
    refine s1 s (b_3 rfl t_8 j_5 (s.ev rfl) (i := ((b.tabs.getD q tab0).dst).toNat) ((s.ev rfl).trans (h_1 (by omega))) (SlAt.d_7 (Q.e_2 2 rfl)) (by decide) (by omega)) fun Fd x => ?_; clear s Fc
    refine s7 x (op_storeE Q rfl j_5 (x.ev rfl) (x.ev rfl) (i := 2) rfl (vs := [(Value.int .i64 ((cutR ((y_.getD (((b.tabs.getD q tab0).dst).toNat) (0, 0)).1, (y_.getD (((b.tabs.getD q tab0).dst).toNat) (0, 0)).2) ((f_3 (b.tabs.getD q tab0) ((y_.getD (((b.tabs.getD q tab0).frm).toNat) (0, 0)).1, (y_.getD (((b.tabs.getD q tab0).frm).toNat) (0, 0)).2)).1, (f_3 (b.tabs.getD q tab0) ((y_.getD (((b.tabs.getD q tab0).frm).toNat) (0, 0)).1, (y_.getD (((b.tabs.getD q tab0).frm).toNat) (0, 0)).2)).2)).1)), (Value.int .i64 ((cutR ((y_.getD (((b.tabs.getD q tab0).dst).toNat) (0, 0)).1, (y_.getD (((b.tabs.getD q tab0).dst).toNat) (0, 0)).2) ((f_3 (b.tabs.getD q tab0) ((y_.getD (((b.tabs.getD q tab0).frm).toNat) (0, 0)).1, (y_.getD (((b.tabs.getD q tab0).frm).toNat) (0, 0)).2)).1, (f_3 (b.tabs.getD q tab0) ((y_.getD (((b.tabs.getD q tab0).frm).toNat) (0, 0)).1, (y_.getD (((b.tabs.getD q tab0).frm).toNat) (0, 0)).2)).2)).2))]) rfl rfl rfl (by simp only [b_2, List.length_set]; omega) (by decide)) ?_
    intro _ F2 C7 Cs; have C8 := C7.i_4 (i := 2) rfl (n' := (y_.set (((b.tabs.getD q tab0).dst).toNat) ((cutR ((y_.getD (((b.tabs.getD q tab0).dst).toNat) (0, 0)).1, (y_.getD (((b.tabs.getD q tab0).dst).toNat) (0, 0)).2) ((f_3 (b.tabs.getD q tab0) ((y_.getD (((b.tabs.getD q tab0).frm).toNat) (0, 0)).1, (y_.getD (((b.tabs.getD q tab0).frm).toNat) (0, 0)).2)).1, (f_3 (b.tabs.getD q tab0) ((y_.getD (((b.tabs.getD q tab0).frm).toNat) (0, 0)).1, (y_.getD (((b.tabs.getD q tab0).frm).toNat) (0, 0)).2)).2)).1, (cutR ((y_.getD (((b.tabs.getD q tab0).dst).toNat) (0, 0)).1, (y_.getD (((b.tabs.getD q tab0).dst).toNat) (0, 0)).2) ((f_3 (b.tabs.getD q tab0) ((y_.getD (((b.tabs.getD q tab0).frm).toNat) (0, 0)).1, (y_.getD (((b.tabs.getD q tab0).frm).toNat) (0, 0)).2)).1, (f_3 (b.tabs.getD q tab0) ((y_.getD (((b.tabs.getD q tab0).frm).toNat) (0, 0)).1, (y_.getD (((b.tabs.getD q tab0).frm).toNat) (0, 0)).2)).2)).2)).length) (xs' := (pairs (y_.set (((b.tabs.getD q tab0).dst).toNat) ((cutR ((y_.getD (((b.tabs.getD q tab0).dst).toNat) (0, 0)).1, (y_.getD (((b.tabs.getD q tab0).dst).toNat) (0, 0)).2) ((f_3 (b.tabs.getD q tab0) ((y_.getD (((b.tabs.getD q tab0).frm).toNat) (0, 0)).1, (y_.getD (((b.tabs.getD q tab0).frm).toNat) (0, 0)).2)).1, (f_3 (b.tabs.getD q tab0) ((y_.getD (((b.tabs.getD q tab0).frm).toNat) (0, 0)).1, (y_.getD (((b.tabs.getD q tab0).frm).toNat) (0, 0)).2)).2)).1, (cutR ((y_.getD (((b.tabs.getD q tab0).dst).toNat) (0, 0)).1, (y_.getD (((b.tabs.getD q tab0).dst).toNat) (0, 0)).2) ((f_3 (b.tabs.getD q tab0) ((y_.getD (((b.tabs.getD q tab0).frm).toNat) (0, 0)).1, (y_.getD (((b.tabs.getD q tab0).frm).toNat) (0, 0)).2)).1, (f_3 (b.tabs.getD q tab0) ((y_.getD (((b.tabs.getD q tab0).frm).toNat) (0, 0)).1, (y_.getD (((b.tabs.getD q tab0).frm).toNat) (0, 0)).2)).2)).2)))) (by simp) (pairs_set _ _ (_, _)); clear C7 x Q
    refine n1 ?_
    have Ct := Cs.as [(13, (Value.int .i64 (q : Int))), (6, v6_), (2, (bptr C 0))] rfl; clear Cs
    refine a_5 ?_
    refine s1 Ct (a_0 rfl (evc _ _)) fun Fe A2 => ?_; clear Ct Fd
    refine e_9 ?_
    refine h_0 ?_
    refine b_0 ?_
    refine a_5 ?_
    refine s1 A2 (a_1 rfl (A2.ev rfl)) fun Ff A3 => ?_; clear A2 Fe
    refine s1 A3 (f_4 rfl (A3.ev rfl) (evc _ _) (by omega) (by omega)) fun Fg A4 => ?_; clear A3 Ff
    refine s1 A4 (a_0 rfl (A4.ev rfl)) fun G0 EN => ?_; clear A4 Fg
    refine e_9 ?_
    have ET : Sep NoB w F2 [(row v6_ 27 2 ((y_.set (((b.tabs.getD q tab0).dst).toNat) ((cutR ((y_.getD (((b.tabs.getD q tab0).dst).toNat) (0, 0)).1, (y_.getD (((b.tabs.getD q tab0).dst).toNat) (0, 0)).2) ((f_3 (b.tabs.getD q tab0) ((y_.getD (((b.tabs.getD q tab0).frm).toNat) (0, 0)).1, (y_.getD (((b.tabs.getD q tab0).frm).toNat) (0, 0)).2)).1, (f_3 (b.tabs.getD q tab0) ((y_.getD (((b.tabs.getD q tab0).frm).toNat) (0, 0)).1, (y_.getD (((b.tabs.getD q tab0).frm).toNat) (0, 0)).2)).2)).1, (cutR ((y_.getD (((b.tabs.getD q tab0).dst).toNat) (0, 0)).1, (y_.getD (((b.tabs.getD q tab0).dst).toNat) (0, 0)).2) ((f_3 (b.tabs.getD q tab0) ((y_.getD (((b.tabs.getD q tab0).frm).toNat) (0, 0)).1, (y_.getD (((b.tabs.getD q tab0).frm).toNat) (0, 0)).2)).1, (f_3 (b.tabs.getD q tab0) ((y_.getD (((b.tabs.getD q tab0).frm).toNat) (0, 0)).1, (y_.getD (((b.tabs.getD q tab0).frm).toNat) (0, 0)).2)).2)).2)).length) (pairs (y_.set (((b.tabs.getD q tab0).dst).toNat) ((cutR ((y_.getD (((b.tabs.getD q tab0).dst).toNat) (0, 0)).1, (y_.getD (((b.tabs.getD q tab0).dst).toNat) (0, 0)).2) ((f_3 (b.tabs.getD q tab0) ((y_.getD (((b.tabs.getD q tab0).frm).toNat) (0, 0)).1, (y_.getD (((b.tabs.getD q tab0).frm).toNat) (0, 0)).2)).1, (f_3 (b.tabs.getD q tab0) ((y_.getD (((b.tabs.getD q tab0).frm).toNat) (0, 0)).1, (y_.getD (((b.tabs.getD q tab0).frm).toNat) (0, 0)).2)).2)).1, (cutR ((y_.getD (((b.tabs.getD q tab0).dst).toNat) (0, 0)).1, (y_.getD (((b.tabs.getD q tab0).dst).toNat) (0, 0)).2) ((f_3 (b.tabs.getD q tab0) ((y_.getD (((b.tabs.getD q tab0).frm).toNat) (0, 0)).1, (y_.getD (((b.tabs.getD q tab0).frm).toNat) (0, 0)).2)).1, (f_3 (b.tabs.getD q tab0) ((y_.getD (((b.tabs.getD q tab0).frm).toNat) (0, 0)).1, (y_.getD (((b.tabs.getD q tab0).frm).toNat) (0, 0)).2)).2)).2)))), (blk C 25 [(Value.int .i64 b.scales), vt, vm]), (d_8 false vt lr lb b.tabs), (e_6 false vm lk b.macs), (sl xl 2 l.length (pairs l))] := C8.keep [2, 3, 4, 5, 6] (by decide) _ rfl rfl; clear C8
    exact b_0 ⟨q + 1, ⟨(y_.set (((b.tabs.getD q tab0).dst).toNat) ((cutR ((y_.getD (((b.tabs.getD q tab0).dst).toNat) (0, 0)).1, (y_.getD (((b.tabs.getD q tab0).dst).toNat) (0, 0)).2) ((f_3 (b.tabs.getD q tab0) ((y_.getD (((b.tabs.getD q tab0).frm).toNat) (0, 0)).1, (y_.getD (((b.tabs.getD q tab0).frm).toNat) (0, 0)).2)).1, (f_3 (b.tabs.getD q tab0) ((y_.getD (((b.tabs.getD q tab0).frm).toNat) (0, 0)).1, (y_.getD (((b.tabs.getD q tab0).frm).toNat) (0, 0)).2)).2)).1, (cutR ((y_.getD (((b.tabs.getD q tab0).dst).toNat) (0, 0)).1, (y_.getD (((b.tabs.getD q tab0).dst).toNat) (0, 0)).2) ((f_3 (b.tabs.getD q tab0) ((y_.getD (((b.tabs.getD q tab0).frm).toNat) (0, 0)).1, (y_.getD (((b.tabs.getD q tab0).frm).toNat) (0, 0)).2)).1, (f_3 (b.tabs.getD q tab0) ((y_.getD (((b.tabs.getD q tab0).frm).toNat) (0, 0)).1, (y_.getD (((b.tabs.getD q tab0).frm).toNat) (0, 0)).2)).2)).2)), true, EN.as _ rfl, ET, by omega, (T.cut hb.four hfu (hb.natV _ (o_9 (by omega))) (o_9 (by omega)) (by assumption) (pair_neq (by assumption)))⟩, by omega⟩
   skip
   rw [BK] at N
   refine c_3 N rfl ?_
   refine g_8 ?_
   refine b_6 ?_
   refine f_5 ?_
   refine b_0 ?_
   have A5 := N.as [(13, (Value.int .i64 (q : Int))), (11, (Value.bool cg_)), (6, v6_), (2, (bptr C 0))] rfl; clear N
   refine a_5 ?_
   refine s1 A5 (a_1 rfl (A5.ev rfl)) fun Fh A6 => ?_; clear A5 FV
   refine s1 A6 (f_4 rfl (A6.ev rfl) (evc _ _) (by omega) (by omega)) fun Fi A7 => ?_; clear A6 Fh
   refine s1 A7 (a_0 rfl (A7.ev rfl)) fun G1 EO => ?_; clear A7 Fi
   refine e_9 ?_
   have EU : Sep NoB w Fy [(row v6_ 27 2 y_.length (pairs y_)), (blk C 25 [(Value.int .i64 b.scales), vt, vm]), (d_8 false vt lr lb b.tabs), (e_6 false vm lk b.macs), (sl xl 2 l.length (pairs l))] := AE.keep [1, 2, 3, 4, 5] (by decide) _ rfl rfl; clear AE
   exact b_0 ⟨q + 1, ⟨y_, cg_, EO.as _ rfl, EU, by omega, (T.skip hfu (hb.natV _ (o_9 (by omega))) (by first | exact .inl (by assumption) | exact .inr (.inl (by assumption)) | exact .inr (.inr (by assumption))))⟩, by omega⟩
  skip
  rw [decide_eq_false DB] at M
  refine b_7 M rfl ?_
  refine g_8 ?_
  refine b_6 ?_
  refine b_6 ?_
  refine f_5 ?_
  refine h_0 ?_
  exact b_0 ⟨(measR b.scales.toNat y_ cg_), ⟨y_, cg_, M.as _ rfl, O, rfl, ⟨T.len, T.ub⟩, (fun hc_ => by have hz := T.same hc_; rw [hz.1]; exact ⟨hfu, fun i hi => hz.2 i (by omega)⟩)⟩, (by rw [hg, show ch_ = true by assumption]; exact meas_dec hfu T)⟩
 skip
 rw [BI] at H
 refine b_7 H rfl ?_
 refine g_8 ?_
 refine b_6 ?_
 refine b_6 ?_
 refine f_5 ?_
 refine b_0 ?_
 refine m2 ?_
 refine s1 H (a_1 rfl (H.ev rfl)) fun Fj A8 => ?_; clear H DJ
 refine s1 A8 (a_0 rfl (A8.ev rfl)) fun Fk Cu => ?_; clear A8 Fj
 refine s1 Cu (a_0 rfl (evc _ _)) fun G2 Cv => ?_; clear Cu Fk
 refine n1 ?_
 refine c_9 ?_
 refine a_9 Cv (.inl rfl) (d_2 Cv rfl (.tmp rfl) (.tmp rfl)) ?_
 have hz := hst (by assumption)
 exact .inr ⟨x_, _, ref_some hb hl hri hz.1 hz.2, rfl, BF.keep [0] (by decide) _ rfl rfl⟩
end Go.Proofs.Ytohgladndklciaa

namespace Go.Proofs.Ytohgladndklciaa
open Go.RowKit Go.Shelf Go.Eng Go.Hard
theorem rspans_none (b : h_6) (vt vm : Value) (lr lb lk : Nat → Value) (w : World) (hT : i_5 w vt lr lb b.tabs) (hM : j_6 w vm lk b.macs) (hth : n_4 b) (hb : n_0 b) (l : List (Int × Int)) (xl : Value) (hxl : SlAt w xl 2 l.length (pairs l)) (hl : u_6 b l) (hs : k_8 b l = none) : Calls Try.prog 28 #[.agg #[.int .i64 b.scales, vt, vm], xl] w (Ret fun v w' => v = .tuple #[.slice none 0 0, .bool false] ∧ Ext NoB w w') := by
  refine (rspans_ok b vt vm lr lb lk w hT hM hth hb l xl hxl hl).mono fun e w' he => ?_
  cases e with
  | panicked c => exact he.elim
  | outgrown => exact he.elim
  | returned v =>
    rcases he with h | ⟨t, u, h, _⟩
    · exact h.2
    · rw [hs] at h; cases h
theorem rspans_some (b : h_6) (vt vm : Value) (lr lb lk : Nat → Value) (w : World) (hT : i_5 w vt lr lb b.tabs) (hM : j_6 w vm lk b.macs) (hth : n_4 b) (hb : n_0 b) (l : List (Int × Int)) (xl : Value) (hxl : SlAt w xl 2 l.length (pairs l)) (hl : u_6 b l) {t : g_6} (hs : k_8 b l = some t) : Calls Try.prog 28 #[.agg #[.int .i64 b.scales, vt, vm], xl] w (Ret fun v w' => ∃ u, v = .tuple #[u, .bool true] ∧ Sep NoB w w' [row u 27 2 t.length (pairs t)]) := by
  refine (rspans_ok b vt vm lr lb lk w hT hM hth hb l xl hxl hl).mono fun e w' he => ?_
  cases e with
  | panicked c => exact he.elim
  | outgrown => exact he.elim
  | returned v =>
    rcases he with h | ⟨t', u, h, h2⟩
    · rw [hs] at h; cases h.1
    · rw [hs] at h
      obtain rfl := Option.some.inj h
      exact ⟨u, h2⟩
end Go.Proofs.Ytohgladndklciaa
