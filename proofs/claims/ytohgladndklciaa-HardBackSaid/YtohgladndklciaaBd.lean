/-
  The chapter's book and what it shows; decided by the kernel.
  What the laws ask first: may a book be played; narrower spans. What HardAllows says.
  Values that fit a book: told by all their tests at once.
  The doubtful readings: lists of numbers by size, readings but some, the first list without which the others fit.
  Books and readings that are changed: how their spans differ.
  Books that are copied and changed: the structs in new memory, the inner lists where they were.
  Finer books: lesser errors, narrower blocks; what HardFiner says of them.
  Books with more in them: what HardMore says of them.
  A table that is turned round: what HardBack says of it.
-/
import Derived.Test.YtohgladndklciaaBc
import Derived.Test.YtohgladndklciaaBa
set_option linter.unusedSimpArgs false
set_option linter.unusedVariables false
namespace Go.Proofs.Ytohgladndklciaa
open Go.RowKit Go.Shelf Go.Eng Go.Hard
theorem ze_37 : (Try.prog.info? 37).bind (·.zero) = some (Value.agg #[(iv 0), (Value.slice none 0 0), (Value.slice none 0 0)]) := by kernel_rfl
theorem bd_37_0i (x0_0 : Int) (w : World) : (Instr.build 37 #[(0, (.int .i64 x0_0))]).run Try.prog w = .ok (.agg #[(.int .i64 x0_0), (Value.slice none 0 0), (Value.slice none 0 0)]) w := by kernel_rfl
theorem ze_46 : (Try.prog.info? 46).bind (·.zero) = some (Value.agg #[(iv 0), (iv 0), (Value.slice none 0 0), (Value.slice none 0 0), (iv 0)]) := by kernel_rfl
theorem bd_106_0i_1i_3s_4i (x0_0 : Int) (x1_0 : Int) (x2_0 : Value) (hx2_0 : IsSl x2_0) (x3_0 : Int) (w : World) : (Instr.build 106 #[(0, (.int .i64 x0_0)), (1, (.int .i64 x1_0)), (3, x2_0), (4, (.int .i64 x3_0))]).run Try.prog w = .ok (.agg #[(.int .i64 x0_0), (.int .i64 x1_0), (Value.slice none 0 0), x2_0, (.int .i64 x3_0)]) w := by obtain ⟨Ax2_0, Bx2_0, Cx2_0, rfl⟩ := hx2_0; kernel_rfl
theorem en_40 : ∀ args w, (callFunc 40 args).run Try.prog w = .ok (.enter 40 args) w := enters_of Try.func40 (by kernel_rfl) rfl
theorem m_2 (x0_0 : Int) (x1_0 : Int) (w : World) : (Instr.build 107 #[(0, (.int .i64 x0_0)), (1, (.int .i64 x1_0))]).run Try.prog w = .ok (.agg #[(.int .i64 x0_0), (.int .i64 x1_0)]) w := by kernel_rfl
theorem bs_107_1_0iia (x0_0 : Int) (x0_1 : Int) : Instr.fill (fun i => some (i * 2, 2)) ((Array.range (1 * 2)).map ((Value.agg #[(iv 0), (iv 0)]).cells[· % (Value.agg #[(iv 0), (iv 0)]).cells.size]!)) [(0, .agg #[(.int .i64 x0_0), (.int .i64 x0_1)])] = some (([(.int .i64 x0_0), (.int .i64 x0_1)] : List Value).toArray) := by kernel_rfl
theorem el_107 : elK Try.prog 107 = some ((Value.agg #[(iv 0), (iv 0)]), 2, 16) := by kernel_rfl
theorem bd_103_0i (x0_0 : Int) (w : World) : (Instr.build 103 #[(0, (.int .i64 x0_0))]).run Try.prog w = .ok (.agg #[(.int .i64 x0_0), (Value.slice none 0 0)]) w := by kernel_rfl
theorem p_7 (x0_0 : Int) (x0_1 : Int) (x1_0 : Int) (w : World) : (Instr.build 100 #[(0, .agg #[(.int .i64 x0_0), (.int .i64 x0_1)]), (1, (.int .i64 x1_0))]).run Try.prog w = .ok (.agg #[(.int .i64 x0_0), (.int .i64 x0_1), (.int .i64 x1_0)]) w := by kernel_rfl
theorem en_20 : ∀ args w, (callFunc 20 args).run Try.prog w = .ok (.enter 20 args) w := enters_of Try.func20 (by kernel_rfl) rfl
theorem bs_100_1_0iiia (x0_0 : Int) (x0_1 : Int) (x0_2 : Int) : Instr.fill (fun i => some (i * 3, 3)) ((Array.range (1 * 3)).map ((Value.agg #[(iv 0), (iv 0), (iv 0)]).cells[· % (Value.agg #[(iv 0), (iv 0), (iv 0)]).cells.size]!)) [(0, .agg #[(.int .i64 x0_0), (.int .i64 x0_1), (.int .i64 x0_2)])] = some (([(.int .i64 x0_0), (.int .i64 x0_1), (.int .i64 x0_2)] : List Value).toArray) := by kernel_rfl
theorem el_100 : elK Try.prog 100 = some ((Value.agg #[(iv 0), (iv 0), (iv 0)]), 3, 24) := by kernel_rfl
theorem bs_103_1_0iva (x0_0 : Int) (x0_1 : Value) : Instr.fill (fun i => some (i * 2, 2)) ((Array.range (1 * 2)).map ((Value.agg #[(iv 0), (Value.slice none 0 0)]).cells[· % (Value.agg #[(iv 0), (Value.slice none 0 0)]).cells.size]!)) [(0, .agg #[(.int .i64 x0_0), x0_1])] = some (([(.int .i64 x0_0), x0_1] : List Value).toArray) := by kernel_rfl
theorem el_103 : elK Try.prog 103 = some ((Value.agg #[(iv 0), (Value.slice none 0 0)]), 2, 32) := by kernel_rfl
set_option maxHeartbeats 4000000 in
theorem Book_ok (b : h_5) (vt vm : Value) (lr lb lk : Nat → Value) (w : World) (hT : n_1 w vt lr lb b.tabs) (hM : o_4 w vm lk b.macs) (hth : q_8 b) :
  Calls Try.prog 19 #[(Value.agg #[(iv b.scales), vt, vm])] w (Ret fun v w' => ∃ vt' vm' lr' lb' lk', v = .agg #[.int .i64 b.scales, vt', vm'] ∧ Sep NoB w w' [d_5 true vt' lr' lb' b.tabs, f_0 true vm' lk' b.macs]) := by
 refine b_0 Try.func19 rfl fun a0 A8 => ?_
 replace A8 : Fr 116 [] [(0, (Value.agg #[(iv b.scales), vt, vm]))] a0 := A8
 have htl9 := hth.tl; have hml9 := hth.ml
 have C4 : Sep NoB w w [(d_5 false vt lr lb b.tabs), (f_0 false vm lk b.macs)] := f_1 ⟨rfl, hT, rfl, hM, trivial⟩
 refine m2 (s2 A8 (f_2 C4 rfl A8.e (cs := [(iv b.scales), vt, vm]) rfl) ?_)
 rintro a1 _ w3 ⟨I, rfl, C5⟩ C3; clear A8 C4 a0
 refine s2 C3 (d_8 C5 rfl ze_37 (cs := [(iv 0), (Value.slice none 0 0), (Value.slice none 0 0)]) rfl) ?_
 rintro a6 _ w8 ⟨H, rfl, BM⟩ CV; clear C3 C5 a1
 refine n4 (s1 CV (a_3 rfl fd_25_0 CV.e) fun D6 A9 => ?_); clear CV a6
 refine s1 A9 (a_4 rfl ty_3 A9.e (BM.bk 1 rfl) rfl) fun D7 BA => ?_; clear A9 D6
 refine s1 BA (e_1 rfl (pv1 BA.e) (bd_37_0i _)) fun D8 CM => ?_; clear BA D7
 refine s2 CM (d_8 BM rfl ze_37 (cs := [(iv 0), (Value.slice none 0 0), (Value.slice none 0 0)]) rfl) ?_
 rintro D9 _ Eu ⟨B, rfl, Cb⟩ AO; clear CM BM D8
 refine s7 AO (b_6 Cb rfl x_6 AO.e AO.e (i := 0) rfl (vs := [(iv b.scales), (Value.slice none 0 0), (Value.slice none 0 0)]) rfl rfl (g_8 rfl (g_8 rfl (g_8 rfl q_9))) (Nat.le_of_ble_eq_true rfl)) ?_
 intro _ EV Cc CN; clear AO
 have Cd : Sep NoB w EV [(blk B 37 [(iv b.scales), (Value.slice none 0 0), (Value.slice none 0 0)]), (blk H 37 [(iv 0), (Value.slice none 0 0), (Value.slice none 0 0)]), (blk I 25 [(iv b.scales), vt, vm]), (d_5 false vt lr lb b.tabs), (f_0 false vm lk b.macs)] := Cc; clear Cc Cb
 refine n2 (m2 (s1 CN (a_0 rfl (evc _ _)) fun EA CO => ?_)); clear CN D9
 refine n1 (c_6 ?_)
 have Ce := p_5 (p_5 (Cd.v_7 106 5) (fun _ => Value.slice none 0 0) 1 (brkN (b.tabs.take 0)) (brkC (b.tabs.take 0))) (fun _ => Value.slice none 0 0) 2 (j_6 (b.tabs.take 0)) (j_5 (b.tabs.take 0)); clear Cd
 have CP := CO.as [(4, (iv 0)), (3, (bptr B 0)), (2, (bptr H 0)), (1, (bptr I 0))] rfl; clear CO
 refine h_7 (G := Nat) (fun (k : Nat) a_ w_ => ∃ vt_ : Value, ∃ lr_ : Nat → Value, ∃ lb_ : Nat → Value, Fr 116 [] [(4, (iv (k : Int))), (3, (bptr B 0)), (2, (bptr H 0)), (1, (bptr I 0))] a_ ∧ Sep NoB w w_ [(slsR true ((b.tabs.take k).length) lr_ 2 (j_6 (b.tabs.take k)) (j_5 (b.tabs.take k))), (slsR true ((b.tabs.take k).length) lb_ 1 (brkN (b.tabs.take k)) (brkC (b.tabs.take k))), (row vt_ 106 5 ((b.tabs.take k).length) (m_1 lr_ lb_ (b.tabs.take k))), (blk B 37 [(iv b.scales), vt_, (Value.slice none 0 0)]), (blk H 37 [(iv 0), (Value.slice none 0 0), (Value.slice none 0 0)]), (blk I 25 [(iv b.scales), vt, vm]), (d_5 false vt lr lb b.tabs), (f_0 false vm lk b.macs)] ∧ (k ≤ b.tabs.length)) (fun k => b.tabs.length - k) 0 ⟨(Value.slice none 0 0), (fun _ => Value.slice none 0 0), (fun _ => Value.slice none 0 0), CP.as _ rfl, (Ce.h_2 (i := 2) rfl (by rfl) (by rfl)), by omega⟩ ?_
 clear CP Ce EA
 rintro k EB Ev ⟨vt_, lr_, lb_, BB, S, hk⟩
 have htk : (b.tabs.take k).length = k := by rw [List.length_take]; omega
 refine b_9 (m2 (s1 BB (a_1 rfl BB.e) fun EC BC => ?_)); clear BB EB
 refine s1 BC (a_3 rfl p_1 BC.e) fun ED BD => ?_; clear BC EC
 refine s1 BD (a_4 rfl z_3 BD.e (S.bk 5 rfl) rfl) fun EE BE => ?_; clear BD ED
 refine s1 BE (e_0 rfl y_7 BE.e (b_7 (S.ok 6 _ rfl)).tabs) fun EF Ap => ?_; clear BE EE
 refine s1 Ap (g_2 rfl Ap.e Ap.e) fun C1 R => ?_; clear Ap EF
 refine n1 ?_
 by_cases Ck : (k : Int) < (b.tabs.length : Int)
 ·skip
  rw [decide_eq_true Ck] at R
  have htkk := hth.tab k
  refine c_0 R rfl (d_4 (b_1 (b_9 (c_6 (m2 (s1 R (a_3 rfl p_1 R.e) fun EG BF => ?_)))))); clear R C1
  refine s1 BF (a_4 rfl z_3 BF.e (S.bk 5 rfl) rfl) fun EH BG => ?_; clear BF EG
  refine s1 BG (a_1 rfl BG.e) fun EI Aq => ?_; clear BG EH
  refine s1 Aq (b_4 rfl y_7 z_4 Aq.e (i := k) Aq.e (b_7 (S.ok 6 _ rfl)).tabs (by decide) (by omega)) fun EJ BH => ?_; clear Aq EI
  refine s1 BH (e_6 rfl z_4 BH.e (b_7 (S.ok 6 _ rfl)).tabs (w_0 (by omega)) rfl (by decide)) fun EK CQ => ?_; clear BH EJ
  refine s2 CQ (d_8 S rfl ze_46 (cs := [(iv 0), (iv 0), (Value.slice none 0 0), (Value.slice none 0 0), (iv 0)]) rfl) ?_
  rintro Er _ Ew ⟨K, rfl, A2⟩ Ar; clear CQ S EK
  refine s7 Ar (b_6 A2 rfl z_4 Ar.e Ar.e (i := 0) rfl (vs := [(iv ((b.tabs.getD k tab0).frm)), (iv ((b.tabs.getD k tab0).dst)), (lr k), (lb k), (iv ((b.tabs.getD k tab0).err))]) rfl rfl (g_8 rfl (g_8 rfl (g_8 (SlAt.one ((b_7 (A2.ok 7 _ rfl)).row (i := k) (by omega))) (g_8 (SlAt.one ((b_7 (A2.ok 7 _ rfl)).brk (i := k) (by omega))) (g_8 rfl q_9))))) (Nat.le_of_ble_eq_true rfl)) ?_
  intro _ EW Cf CR; clear Ar
  have Cg : Sep NoB w EW [(blk K 46 [(iv ((b.tabs.getD k tab0).frm)), (iv ((b.tabs.getD k tab0).dst)), (lr k), (lb k), (iv ((b.tabs.getD k tab0).err))]), (slsR true ((b.tabs.take k).length) lr_ 2 (j_6 (b.tabs.take k)) (j_5 (b.tabs.take k))), (slsR true ((b.tabs.take k).length) lb_ 1 (brkN (b.tabs.take k)) (brkC (b.tabs.take k))), (row vt_ 106 5 ((b.tabs.take k).length) (m_1 lr_ lb_ (b.tabs.take k))), (blk B 37 [(iv b.scales), vt_, (Value.slice none 0 0)]), (blk H 37 [(iv 0), (Value.slice none 0 0), (Value.slice none 0 0)]), (blk I 25 [(iv b.scales), vt, vm]), (d_5 false vt lr lb b.tabs), (f_0 false vm lk b.macs)] := Cf; clear Cf A2
  refine n2 ?_
  have CS := CR.as [(5, (bptr K 0)), (4, (iv (k : Int))), (3, (bptr B 0)), (2, (bptr H 0)), (1, (bptr I 0))] rfl; clear CR
  have CT := CS.as [(5, (bptr K 0)), (4, (iv (k : Int))), (3, (bptr B 0)), (2, (bptr H 0)), (1, (bptr I 0))] rfl; clear CS
  refine x_2 mixed CT Cg 11 [[], [0], [], [2], [], [4], [5], [], [7], [1, 3, 6, 8], []] [(yw (bptr K 0)), (yw (iv ((b.tabs.getD k tab0).frm))), (yw (bptr K 1)), (yw (iv ((b.tabs.getD k tab0).dst))), (yw (bptr K 3)), (yw (lb k)), (fun (A : Nat → Value) (v_ : Value) (rs_ : List Res) => True ∧ rs_ = [(row v_ 3 1 ((b.tabs.getD k tab0).brk.length) (ints ((b.tabs.getD k tab0).brk)))]), (yw (bptr K 4)), (yw (iv ((b.tabs.getD k tab0).err))), (fun (A : Nat → Value) (v_ : Value) (rs_ : List Res) => v_ = (Value.agg #[(iv ((b.tabs.getD k tab0).frm)), (iv ((b.tabs.getD k tab0).dst)), (Value.slice none 0 0), (A 6), (iv ((b.tabs.getD k tab0).err))]) ∧ rs_ = []), (fun (A : Nat → Value) (v_ : Value) (rs_ : List Res) => ∃ (b10_ : Nat), v_ = (bptr b10_ 0) ∧ rs_ = [(blk b10_ 106 [(iv 0), (iv 0), (Value.slice none 0 0), (Value.slice none 0 0), (iv 0)])])] (by decide +kernel) (by decide +kernel) rfl rfl ⟨dw, dw, dw, dw, dw, dw, (fun _ _ _ _ _ h_ => h_), dw, dw, (fun _ _ _ _ he_ h_ => by dsimp only at h_ ⊢; rw [← he_ 6 (by decide)]; exact h_), (fun _ _ _ _ _ h_ => h_), trivial⟩ ?_ ?_
  ·skip
   refine ⟨fun a w A hA hS hd => gv1 (a_3 rfl fd_46_0 hA.e), ?_⟩
   refine ⟨fun a w A hA hS hd => gv1 (a_4 rfl ty_3 (gu hd 0) (hS.bk 0 rfl) rfl), ?_⟩
   refine ⟨fun a w A hA hS hd => gv1 (a_3 rfl fd_46_1 hA.e), ?_⟩
   refine ⟨fun a w A hA hS hd => gv1 (a_4 rfl ty_3 (gu hd 2) (hS.bk 0 rfl) rfl), ?_⟩
   refine ⟨fun a w A hA hS hd => gv1 (a_3 rfl n_9 hA.e), ?_⟩
   refine ⟨fun a w A hA hS hd => gv1 (a_4 rfl w_1 (gu hd 4) (hS.bk 0 rfl) rfl), ?_⟩
   refine ⟨fun a w A hA hS hd => d_6 rfl (vn (b_2 rfl en_40 (ev1 (gu hd 5)) (list_ok ((b.tabs.getD k tab0).brk) _ _ ((b_7 (hS.ok 7 _ rfl)).brk (i := k) (by omega)) (hth.bl _))) (fun v w' h => ⟨_, And.intro trivial rfl, (Sep.start NoB _).new_row h.1 h.2, rfl⟩)), ?_⟩
   refine ⟨fun a w A hA hS hd => gv1 (a_3 rfl fd_46_4 hA.e), ?_⟩
   refine ⟨fun a w A hA hS hd => gv1 (a_4 rfl ty_3 (gu hd 7) (hS.bk 0 rfl) rfl), ?_⟩
   refine ⟨fun a w A hA hS hd => ?_, ?_⟩
   ·skip
    obtain ⟨e6, Et, EU, ES⟩ := hd 6 (by decide)
    obtain ⟨Es, ET⟩ := EU; subst ET
    have hp6_0 := ES _ (List.mem_of_getElem? (i := 0) rfl)
    exact gv1 (e_1 rfl (pv4 (gu hd 1) (gu hd 3) (c_1 (j_0 e6 rfl)) (gu hd 8)) (bd_106_0i_1i_3s_4i _ _ _ (SlAt.isSl (SlAt.g_9 hp6_0)) _))
   refine ⟨fun a w A hA hS hd => d_6 rfl (valloc rfl ze_106 (cs := [(iv 0), (iv 0), (Value.slice none 0 0), (Value.slice none 0 0), (iv 0)]) rfl (fun b_ => ⟨b_, rfl, rfl⟩)), ?_⟩
   trivial
  intro C2 EX A rsf72 CU M BN; clear CT Cg
  obtain ⟨Dt, Dv⟩ := M 6 (by decide)
  obtain ⟨Du, Cm⟩ := Dv
  obtain ⟨A3, Cy⟩ := M 10 (by decide)
  obtain ⟨b10_, CI, CD⟩ := Cy
  have BO : Sep NoB w EX [(row (A 6) 3 1 ((b.tabs.getD k tab0).brk.length) (ints ((b.tabs.getD k tab0).brk))), (blk b10_ 106 [(iv 0), (iv 0), (Value.slice none 0 0), (Value.slice none 0 0), (iv 0)]), (blk K 46 [(iv ((b.tabs.getD k tab0).frm)), (iv ((b.tabs.getD k tab0).dst)), (lr k), (lb k), (iv ((b.tabs.getD k tab0).err))]), (slsR true ((b.tabs.take k).length) lr_ 2 (j_6 (b.tabs.take k)) (j_5 (b.tabs.take k))), (slsR true ((b.tabs.take k).length) lb_ 1 (brkN (b.tabs.take k)) (brkC (b.tabs.take k))), (row vt_ 106 5 ((b.tabs.take k).length) (m_1 lr_ lb_ (b.tabs.take k))), (blk B 37 [(iv b.scales), vt_, (Value.slice none 0 0)]), (blk H 37 [(iv 0), (Value.slice none 0 0), (Value.slice none 0 0)]), (blk I 25 [(iv b.scales), vt, vm]), (d_5 false vt lr lb b.tabs), (f_0 false vm lk b.macs)] := by rw [show catR rsf72 0 11 = ([(row (A 6) 3 1 ((b.tabs.getD k tab0).brk.length) (ints ((b.tabs.getD k tab0).brk))), (blk b10_ 106 [(iv 0), (iv 0), (Value.slice none 0 0), (Value.slice none 0 0), (iv 0)])] : List Res) by (try simp only [catR, gr (M 0 (by decide)), gr (M 1 (by decide)), gr (M 2 (by decide)), gr (M 3 (by decide)), gr (M 4 (by decide)), gr (M 5 (by decide)), Cm, gr (M 7 (by decide)), gr (M 8 (by decide)), gr (M 9 (by decide)), CD]); (try rfl)] at BN; exact BN
  have CW := CU.add (gs (M 9 (by decide))); clear CU
  rw [CI] at A3
  have As : Fr 116 [] [(6, (bptr b10_ 0)), (36, (Value.agg #[(iv ((b.tabs.getD k tab0).frm)), (iv ((b.tabs.getD k tab0).dst)), (Value.slice none 0 0), (A 6), (iv ((b.tabs.getD k tab0).err))])), (5, (bptr K 0)), (4, (iv (k : Int))), (3, (bptr B 0)), (2, (bptr H 0)), (1, (bptr I 0))] C2 := CW.add (j_0 A3 rfl); clear CW
  clear M BN Dt A3
  clear Cm
  clear Du
  clear CD
  clear CI
  refine s7 As (b_6 BO rfl k_9 As.e As.e (i := 1) rfl (vs := [(iv ((b.tabs.getD k tab0).frm)), (iv ((b.tabs.getD k tab0).dst)), (Value.slice none 0 0), (A 6), (iv ((b.tabs.getD k tab0).err))]) rfl rfl (g_8 rfl (g_8 rfl (g_8 rfl (g_8 (SlAt.one (SlAt.g_9 (BO.i_1 0 rfl))) (g_8 rfl q_9))))) (Nat.le_of_ble_eq_true rfl)) ?_
  intro _ EY Ch CX; clear As
  have Ci : Sep NoB w EY [(row (A 6) 3 1 ((b.tabs.getD k tab0).brk.length) (ints ((b.tabs.getD k tab0).brk))), (blk b10_ 106 [(iv ((b.tabs.getD k tab0).frm)), (iv ((b.tabs.getD k tab0).dst)), (Value.slice none 0 0), (A 6), (iv ((b.tabs.getD k tab0).err))]), (blk K 46 [(iv ((b.tabs.getD k tab0).frm)), (iv ((b.tabs.getD k tab0).dst)), (lr k), (lb k), (iv ((b.tabs.getD k tab0).err))]), (slsR true ((b.tabs.take k).length) lr_ 2 (j_6 (b.tabs.take k)) (j_5 (b.tabs.take k))), (slsR true ((b.tabs.take k).length) lb_ 1 (brkN (b.tabs.take k)) (brkC (b.tabs.take k))), (row vt_ 106 5 ((b.tabs.take k).length) (m_1 lr_ lb_ (b.tabs.take k))), (blk B 37 [(iv b.scales), vt_, (Value.slice none 0 0)]), (blk H 37 [(iv 0), (Value.slice none 0 0), (Value.slice none 0 0)]), (blk I 25 [(iv b.scales), vt, vm]), (d_5 false vt lr lb b.tabs), (f_0 false vm lk b.macs)] := Ch; clear Ch BO
  refine n2 (m2 (s1 CX (a_0 rfl (evc _ _)) fun EL CY => ?_)); clear CX C2
  refine n1 (c_6 ?_)
  have Cj := Ci.v_7 107 2; clear Ci
  have CZ := CY.as [(7, (iv 0)), (6, (bptr b10_ 0)), (5, (bptr K 0)), (4, (iv (k : Int))), (3, (bptr B 0)), (2, (bptr H 0)), (1, (bptr I 0))] rfl; clear CY
  refine h_7 (G := Nat) (fun (j : Nat) a_ w_ => ∃ vr_ : Value, Fr 116 [] [(7, (iv (j : Int))), (6, (bptr b10_ 0)), (5, (bptr K 0)), (4, (iv (k : Int))), (3, (bptr B 0)), (2, (bptr H 0)), (1, (bptr I 0))] a_ ∧ Sep NoB w w_ [(row vr_ 107 2 (((b.tabs.getD k tab0).rows.take j).length) (pairs ((b.tabs.getD k tab0).rows.take j))), (row (A 6) 3 1 ((b.tabs.getD k tab0).brk.length) (ints ((b.tabs.getD k tab0).brk))), (blk b10_ 106 [(iv ((b.tabs.getD k tab0).frm)), (iv ((b.tabs.getD k tab0).dst)), vr_, (A 6), (iv ((b.tabs.getD k tab0).err))]), (blk K 46 [(iv ((b.tabs.getD k tab0).frm)), (iv ((b.tabs.getD k tab0).dst)), (lr k), (lb k), (iv ((b.tabs.getD k tab0).err))]), (slsR true ((b.tabs.take k).length) lr_ 2 (j_6 (b.tabs.take k)) (j_5 (b.tabs.take k))), (slsR true ((b.tabs.take k).length) lb_ 1 (brkN (b.tabs.take k)) (brkC (b.tabs.take k))), (row vt_ 106 5 ((b.tabs.take k).length) (m_1 lr_ lb_ (b.tabs.take k))), (blk B 37 [(iv b.scales), vt_, (Value.slice none 0 0)]), (blk H 37 [(iv 0), (Value.slice none 0 0), (Value.slice none 0 0)]), (blk I 25 [(iv b.scales), vt, vm]), (d_5 false vt lr lb b.tabs), (f_0 false vm lk b.macs)] ∧ (j ≤ (b.tabs.getD k tab0).rows.length)) (fun j => (b.tabs.getD k tab0).rows.length - j) 0 ⟨(Value.slice none 0 0), CZ.as _ rfl, (Cj.h_2 (i := 0) rfl (by rfl) (by rfl)), (Nat.zero_le _)⟩ ?_
  clear CZ Cj EL
  rintro j EM Ex ⟨vr_, BI, U, hkj⟩
  have hlt_j : ((b.tabs.getD k tab0).rows.take j).length ≤ 12 := by simp only [List.length_take]; omega
  refine b_9 (m2 (s1 BI (a_1 rfl BI.e) fun EN BJ => ?_)); clear BI EM
  refine s1 BJ (a_3 rfl g_0 BJ.e) fun EO BK => ?_; clear BJ EN
  refine s1 BK (a_4 rfl l_8 BK.e (U.bk 3 rfl) rfl) fun EP BL => ?_; clear BK EO
  refine s1 BL (e_0 rfl l_9 BL.e ((b_7 (U.ok 10 _ rfl)).row (i := k) (by omega))) fun EQ At => ?_; clear BL EP
  refine s1 At (g_2 rfl At.e At.e) fun ER T => ?_; clear At EQ
  refine n1 ?_
  by_cases Cl : (j : Int) < ((b.tabs.getD k tab0).rows.length : Int)
  ·skip
   rw [decide_eq_true Cl] at T
   refine c_0 T rfl (d_4 (b_1 (b_9 (c_6 ?_))))
   have Ca := T.as [(7, (iv (j : Int))), (6, (bptr b10_ 0)), (5, (bptr K 0)), (4, (iv (k : Int))), (3, (bptr B 0)), (2, (bptr H 0)), (1, (bptr I 0))] rfl; clear T
   refine x_2 mixed Ca U 16 [[], [0], [], [2], [], [3, 4], [5], [6], [], [8], [], [9, 10], [11], [12], [7, 13], [14]] [(yw (bptr b10_ 2)), (yw vr_), (yw (bptr K 2)), (yw (lr k)), (yw (iv (j : Int))), (yw (eptr (lr k) (j * 2))), (yw (eptr (lr k) (j * 2 + 0))), (yw (iv ((((b.tabs.getD k tab0).rows).getD j (0, 0)).1))), (yw (bptr K 2)), (yw (lr k)), (yw (iv (j : Int))), (yw (eptr (lr k) (j * 2))), (yw (eptr (lr k) (j * 2 + 1))), (yw (iv ((((b.tabs.getD k tab0).rows).getD j (0, 0)).2))), (yw (Value.agg #[(iv ((((b.tabs.getD k tab0).rows).getD j (0, 0)).1)), (iv ((((b.tabs.getD k tab0).rows).getD j (0, 0)).2))])), (fun (D : Nat → Value) (v_ : Value) (rs_ : List Res) => True ∧ rs_ = [(row v_ 107 2 1 [(iv ((((b.tabs.getD k tab0).rows).getD j (0, 0)).1)), (iv ((((b.tabs.getD k tab0).rows).getD j (0, 0)).2))])])] (by decide +kernel) (by decide +kernel) rfl rfl ⟨dw, dw, dw, dw, dw, dw, dw, dw, dw, dw, dw, dw, dw, dw, dw, (fun _ _ _ _ _ h_ => h_), trivial⟩ ?_ ?_
   ·skip
    refine ⟨fun a w D hA hS hd => gv1 (a_3 rfl i_3 hA.e), ?_⟩
    refine ⟨fun a w D hA hS hd => gv1 (a_4 rfl n_6 (gu hd 0) (hS.bk 2 rfl) rfl), ?_⟩
    refine ⟨fun a w D hA hS hd => gv1 (a_3 rfl g_0 hA.e), ?_⟩
    refine ⟨fun a w D hA hS hd => gv1 (a_4 rfl l_8 (gu hd 2) (hS.bk 3 rfl) rfl), ?_⟩
    refine ⟨fun a w D hA hS hd => gv1 (a_1 rfl hA.e), ?_⟩
    refine ⟨fun a w D hA hS hd => gv1 (b_4 rfl l_9 o_3 (gu hd 3) (i := j) (gu hd 4) ((b_7 (hS.ok 10 _ rfl)).row (i := k) (by omega)) (by decide) (by omega)), ?_⟩
    refine ⟨fun a w D hA hS hd => gv1 (e_2 rfl u_1 (gu hd 5) ((b_7 (hS.ok 10 _ rfl)).row (i := k) (by omega)) (by rw [(((b_7 (hS.ok 10 _ rfl)).row (i := k) (by omega))).1]; omega)), ?_⟩
    refine ⟨fun a w D hA hS hd => gv1 (d_0 rfl ty_3 (gu hd 6) ((b_7 (hS.ok 10 _ rfl)).row (i := k) (by omega)) (j_4 (by omega))), ?_⟩
    refine ⟨fun a w D hA hS hd => gv1 (a_3 rfl g_0 hA.e), ?_⟩
    refine ⟨fun a w D hA hS hd => gv1 (a_4 rfl l_8 (gu hd 8) (hS.bk 3 rfl) rfl), ?_⟩
    refine ⟨fun a w D hA hS hd => gv1 (a_1 rfl hA.e), ?_⟩
    refine ⟨fun a w D hA hS hd => gv1 (b_4 rfl l_9 o_3 (gu hd 9) (i := j) (gu hd 10) ((b_7 (hS.ok 10 _ rfl)).row (i := k) (by omega)) (by decide) (by omega)), ?_⟩
    refine ⟨fun a w D hA hS hd => gv1 (e_2 rfl n_2 (gu hd 11) ((b_7 (hS.ok 10 _ rfl)).row (i := k) (by omega)) (by rw [(((b_7 (hS.ok 10 _ rfl)).row (i := k) (by omega))).1]; omega)), ?_⟩
    refine ⟨fun a w D hA hS hd => gv1 (d_0 rfl ty_3 (gu hd 12) ((b_7 (hS.ok 10 _ rfl)).row (i := k) (by omega)) (i_6 (by omega))), ?_⟩
    refine ⟨fun a w D hA hS hd => gv1 (e_1 rfl (pv2 (gu hd 7) (gu hd 13)) (m_2 _ _)), ?_⟩
    refine ⟨fun a w D hA hS hd => d_6 rfl (vblt rfl (pv1 (gu hd 14)) k_0 h_8 w_6 (by decide) (cs := [(iv ((((b.tabs.getD k tab0).rows).getD j (0, 0)).1)), (iv ((((b.tabs.getD k tab0).rows).getD j (0, 0)).2))]) (bs_107_1_0iia _ _) rfl (by decide) (fun _ => And.intro trivial rfl)), ?_⟩
    trivial
   intro CJ Dw D rsf106 BP F Au; clear Ca U
   obtain ⟨CG, Cz⟩ := F 15 (by decide)
   obtain ⟨Cw, CE⟩ := Cz
   have Av : Sep NoB w Dw [(row (D 15) 107 2 1 [(iv ((((b.tabs.getD k tab0).rows).getD j (0, 0)).1)), (iv ((((b.tabs.getD k tab0).rows).getD j (0, 0)).2))]), (row vr_ 107 2 (((b.tabs.getD k tab0).rows.take j).length) (pairs ((b.tabs.getD k tab0).rows.take j))), (row (A 6) 3 1 ((b.tabs.getD k tab0).brk.length) (ints ((b.tabs.getD k tab0).brk))), (blk b10_ 106 [(iv ((b.tabs.getD k tab0).frm)), (iv ((b.tabs.getD k tab0).dst)), vr_, (A 6), (iv ((b.tabs.getD k tab0).err))]), (blk K 46 [(iv ((b.tabs.getD k tab0).frm)), (iv ((b.tabs.getD k tab0).dst)), (lr k), (lb k), (iv ((b.tabs.getD k tab0).err))]), (slsR true ((b.tabs.take k).length) lr_ 2 (j_6 (b.tabs.take k)) (j_5 (b.tabs.take k))), (slsR true ((b.tabs.take k).length) lb_ 1 (brkN (b.tabs.take k)) (brkC (b.tabs.take k))), (row vt_ 106 5 ((b.tabs.take k).length) (m_1 lr_ lb_ (b.tabs.take k))), (blk B 37 [(iv b.scales), vt_, (Value.slice none 0 0)]), (blk H 37 [(iv 0), (Value.slice none 0 0), (Value.slice none 0 0)]), (blk I 25 [(iv b.scales), vt, vm]), (d_5 false vt lr lb b.tabs), (f_0 false vm lk b.macs)] := by rw [show catR rsf106 0 16 = ([(row (D 15) 107 2 1 [(iv ((((b.tabs.getD k tab0).rows).getD j (0, 0)).1)), (iv ((((b.tabs.getD k tab0).rows).getD j (0, 0)).2))])] : List Res) by (try simp only [catR, gr (F 0 (by decide)), gr (F 1 (by decide)), gr (F 2 (by decide)), gr (F 3 (by decide)), gr (F 4 (by decide)), gr (F 5 (by decide)), gr (F 6 (by decide)), gr (F 7 (by decide)), gr (F 8 (by decide)), gr (F 9 (by decide)), gr (F 10 (by decide)), gr (F 11 (by decide)), gr (F 12 (by decide)), gr (F 13 (by decide)), gr (F 14 (by decide)), CE]); (try rfl)] at Au; exact Au
   have BQ := BP.add (gs (F 1 (by decide))); clear BP
   have W : Fr 116 [] [(59, (D 15)), (45, vr_), (7, (iv (j : Int))), (6, (bptr b10_ 0)), (5, (bptr K 0)), (4, (iv (k : Int))), (3, (bptr B 0)), (2, (bptr H 0)), (1, (bptr I 0))] CJ := BQ.add (j_0 CG rfl); clear BQ
   clear F Au CG
   clear CE
   clear Cw
   refine s2 W (m_6 Av rfl k_0 el_107 W.e W.e (i := 1) rfl (SlAt.g_9 (Av.i_1 0 rfl)) rfl (by simp only [maxLen]; omega) (by omega)) ?_
   intro C6 A4 Eh Bg AB
   have u := Bg.h_2 (i := 1) rfl (n' := (((b.tabs.getD k tab0).rows.take j) ++ [(b.tabs.getD k tab0).rows.getD j (0, 0)]).length) (xs' := (pairs (((b.tabs.getD k tab0).rows.take j) ++ [(b.tabs.getD k tab0).rows.getD j (0, 0)]))) (by simp) (by simp [pairs]); clear Bg W Av CJ
   refine s1 AB (a_3 rfl i_3 AB.e) fun C7 X => ?_; clear AB C6
   refine s7 X (b_6 u rfl n_6 X.e X.e (i := 3) rfl (vs := [A4]) (m_9 (SlAt.isSl (SlAt.g_9 (u.i_1 1 rfl)))) rfl (g_8 (SlAt.one (SlAt.g_9 (u.i_1 1 rfl))) q_9) (Nat.le_of_ble_eq_true rfl)) ?_
   intro _ Dx Bh AC; clear X
   have Bi : Sep NoB w Dx [(row (D 15) 107 2 1 [(iv ((((b.tabs.getD k tab0).rows).getD j (0, 0)).1)), (iv ((((b.tabs.getD k tab0).rows).getD j (0, 0)).2))]), (row A4 107 2 ((((b.tabs.getD k tab0).rows.take j) ++ [(b.tabs.getD k tab0).rows.getD j (0, 0)]).length) (pairs (((b.tabs.getD k tab0).rows.take j) ++ [(b.tabs.getD k tab0).rows.getD j (0, 0)]))), (row (A 6) 3 1 ((b.tabs.getD k tab0).brk.length) (ints ((b.tabs.getD k tab0).brk))), (blk b10_ 106 [(iv ((b.tabs.getD k tab0).frm)), (iv ((b.tabs.getD k tab0).dst)), A4, (A 6), (iv ((b.tabs.getD k tab0).err))]), (blk K 46 [(iv ((b.tabs.getD k tab0).frm)), (iv ((b.tabs.getD k tab0).dst)), (lr k), (lb k), (iv ((b.tabs.getD k tab0).err))]), (slsR true ((b.tabs.take k).length) lr_ 2 (j_6 (b.tabs.take k)) (j_5 (b.tabs.take k))), (slsR true ((b.tabs.take k).length) lb_ 1 (brkN (b.tabs.take k)) (brkC (b.tabs.take k))), (row vt_ 106 5 ((b.tabs.take k).length) (m_1 lr_ lb_ (b.tabs.take k))), (blk B 37 [(iv b.scales), vt_, (Value.slice none 0 0)]), (blk H 37 [(iv 0), (Value.slice none 0 0), (Value.slice none 0 0)]), (blk I 25 [(iv b.scales), vt, vm]), (d_5 false vt lr lb b.tabs), (f_0 false vm lk b.macs)] := Bh; clear Bh u
   refine e_8 (h_0 (b_1 (a_5 (s1 AC (a_1 rfl AC.e) fun C8 AD => ?_)))); clear AC C7
   refine s1 AD (g_1 rfl AD.e (evc _ _) (by omega) (by omega)) fun C9 AE => ?_; clear AD C8
   refine s1 AE (a_0 rfl AE.e) fun Ea Cn => ?_; clear AE C9
   refine e_8 ?_
   have Cr := Bi.gkp (gpc 1 (gpc 2 (gpc 3 (gpc 4 (gpc 5 (gpc 6 (gpc 7 (gpc 8 (gpc 9 (gpc 10 (gpc 11 (gpc 12 gpn)))))))))))); clear Bi
   exact b_1 ⟨j + 1, ⟨A4, Cn.as _ rfl, (Cr.h_2 (i := 0) rfl (by rw [t_7 (by omega)]) (by rw [t_7 (by omega)])), by omega⟩, by omega⟩
  skip
  rw [decide_eq_false Cl] at T
  refine b_8 T rfl (h_6 (b_5 (b_5 (f_9 (b_1 ?_)))))
  have AF := T.as [(6, (bptr b10_ 0)), (4, (iv (k : Int))), (3, (bptr B 0)), (2, (bptr H 0)), (1, (bptr I 0))] rfl; clear T
  refine a_5 (s1 AF (a_3 rfl v_6 AF.e) fun DA AG => ?_); clear AF ER
  refine s1 AG (a_4 rfl ty_34 AG.e (U.bk 7 rfl) rfl) fun DB AH => ?_; clear AG DA
  refine s1 AH (c_5 rfl k_9 (AH.ev rfl) (U.bk 2 rfl) (l := [(iv ((b.tabs.getD k tab0).frm)), (iv ((b.tabs.getD k tab0).dst)), vr_, (A 6), (iv ((b.tabs.getD k tab0).err))]) rfl rfl) fun DC AI => ?_; clear AH DB
  refine s2 AI (f_4 U rfl (pv1 AI.e) y_2 k_9 ze_106 (by decide) (cs := [(iv ((b.tabs.getD k tab0).frm)), (iv ((b.tabs.getD k tab0).dst)), vr_, (A 6), (iv ((b.tabs.getD k tab0).err))]) (bs_106_1_0iivvia _ _ _ _ _)) ?_
  rintro DD _ Ei ⟨Dr, rfl, V⟩ Y; clear AI U DC
  refine s2 Y (m_6 V rfl y_2 el_106 Y.e Y.e (i := 7) rfl (SlAt.of_blk (V.bk 0 rfl) rfl (Nat.le_of_ble_eq_true rfl)) (g_8 rfl (g_8 rfl (g_8 (SlAt.one (SlAt.g_9 (V.i_1 1 rfl))) (g_8 (SlAt.one (SlAt.g_9 (V.i_1 2 rfl))) (g_8 rfl q_9))))) (by simp only [maxLen]; omega) (by omega)) ?_
  intro DE A5 Ej Bj AJ
  have x := Bj.h_2 (i := 7) rfl (n' := ((b.tabs.take k) ++ [(b.tabs.getD k tab0)]).length) (xs' := (m_1 (putV (b.tabs.take k).length lr_ vr_) (putV (b.tabs.take k).length lb_ (A 6)) ((b.tabs.take k) ++ [(b.tabs.getD k tab0)]))) (by simp) (tabs_snoc (b.tabs.getD k tab0) vr_ (A 6)); clear Bj Y V DD
  refine s1 AJ (a_3 rfl v_6 AJ.e) fun DF Z => ?_; clear AJ DE
  refine s7 Z (b_6 x rfl ty_34 Z.e Z.e (i := 8) rfl (vs := [A5]) (m_9 (SlAt.isSl (SlAt.g_9 (x.i_1 7 rfl)))) rfl (g_8 (SlAt.one (SlAt.g_9 (x.i_1 7 rfl))) q_9) (Nat.le_of_ble_eq_true rfl)) ?_
  intro _ Dy Bk BR; clear Z
  have Bl : Sep NoB w Dy [(blk Dr 106 [(iv ((b.tabs.getD k tab0).frm)), (iv ((b.tabs.getD k tab0).dst)), vr_, (A 6), (iv ((b.tabs.getD k tab0).err))]), (row vr_ 107 2 (((b.tabs.getD k tab0).rows.take j).length) (pairs ((b.tabs.getD k tab0).rows.take j))), (row (A 6) 3 1 ((b.tabs.getD k tab0).brk.length) (ints ((b.tabs.getD k tab0).brk))), (blk b10_ 106 [(iv ((b.tabs.getD k tab0).frm)), (iv ((b.tabs.getD k tab0).dst)), vr_, (A 6), (iv ((b.tabs.getD k tab0).err))]), (blk K 46 [(iv ((b.tabs.getD k tab0).frm)), (iv ((b.tabs.getD k tab0).dst)), (lr k), (lb k), (iv ((b.tabs.getD k tab0).err))]), (slsR true ((b.tabs.take k).length) lr_ 2 (j_6 (b.tabs.take k)) (j_5 (b.tabs.take k))), (slsR true ((b.tabs.take k).length) lb_ 1 (brkN (b.tabs.take k)) (brkC (b.tabs.take k))), (row A5 106 5 (((b.tabs.take k) ++ [(b.tabs.getD k tab0)]).length) (m_1 (putV (b.tabs.take k).length lr_ vr_) (putV (b.tabs.take k).length lb_ (A 6)) ((b.tabs.take k) ++ [(b.tabs.getD k tab0)]))), (blk B 37 [(iv b.scales), A5, (Value.slice none 0 0)]), (blk H 37 [(iv 0), (Value.slice none 0 0), (Value.slice none 0 0)]), (blk I 25 [(iv b.scales), vt, vm]), (d_5 false vt lr lb b.tabs), (f_0 false vm lk b.macs)] := Bk; clear Bk x
  refine e_8 (h_0 (b_1 ?_))
  have AK := BR.as [(4, (iv (k : Int))), (3, (bptr B 0)), (2, (bptr H 0)), (1, (bptr I 0))] rfl; clear BR
  refine a_5 (s1 AK (a_1 rfl AK.e) fun DG AL => ?_); clear AK DF
  refine s1 AL (g_1 rfl AL.e (evc _ _) (by omega) (by omega)) fun DH AM => ?_; clear AL DG
  refine s1 AM (a_0 rfl AM.e) fun Eb Co => ?_; clear AM DH
  refine e_8 ?_
  have Bm := Bl.h_2 (i := 1) rfl (n' := (b.tabs.getD k tab0).rows.length) (xs' := pairs (b.tabs.getD k tab0).rows) (by rw [List.take_of_length_le (by omega)]) (by rw [List.take_of_length_le (by omega)]); clear Bl
  have Bn := Bm.gkp (gpc 1 (gpc 5 (gpc 0 (gpc 2 (gpc 3 (gpc 4 (gpc 6 (gpc 7 (gpc 8 (gpc 9 (gpc 10 (gpc 11 (gpc 12 gpn))))))))))))); clear Bm
  have Bo := k_3 (k' := j_6 (b.tabs.take (k + 1))) (c' := j_5 (b.tabs.take (k + 1))) Bn (rowsN_new (by omega)).1 (rowsN_new (by omega)).2.1 (fun i hi => (rowsN_old i hi).1); clear Bn
  have Bp := sep_sls_say (i := 0) (n' := (b.tabs.take (k + 1)).length) (v' := (putV (b.tabs.take k).length lr_ vr_)) (k' := j_6 (b.tabs.take (k + 1))) (c' := j_5 (b.tabs.take (k + 1))) Bo rfl (take_len1 (by omega)) (fun _ _ => ⟨rfl, rfl, rfl⟩); clear Bo
  have Bq := Bp.gkp (gpc 2 (gpc 5 (gpc 0 (gpc 1 (gpc 3 (gpc 4 (gpc 6 (gpc 7 (gpc 8 (gpc 9 (gpc 10 (gpc 11 gpn)))))))))))); clear Bp
  have Br := k_3 (k' := brkN (b.tabs.take (k + 1))) (c' := brkC (b.tabs.take (k + 1))) Bq (rowsN_new (by omega)).2.2.1 (rowsN_new (by omega)).2.2.2 (fun i hi => (rowsN_old i hi).2); clear Bq
  have Bs := sep_sls_say (i := 0) (n' := (b.tabs.take (k + 1)).length) (v' := (putV (b.tabs.take k).length lb_ (A 6))) (k' := brkN (b.tabs.take (k + 1))) (c' := brkC (b.tabs.take (k + 1))) Br rfl (take_len1 (by omega)) (fun _ _ => ⟨rfl, rfl, rfl⟩); clear Br
  have Cs := Bs.gkp (gpc 1 (gpc 0 (gpc 5 (gpc 6 (gpc 7 (gpc 8 (gpc 9 (gpc 10 gpn)))))))); clear Bs
  exact b_1 ⟨k + 1, ⟨A5, (putV (b.tabs.take k).length lr_ vr_), (putV (b.tabs.take k).length lb_ (A 6)), Co.as _ rfl, (Cs.h_2 (i := 2) rfl (by rw [t_7 (by omega)]) (by rw [t_7 (by omega)])), by omega⟩, by omega⟩
 skip
 rw [decide_eq_false Ck] at R
 refine b_8 R rfl (h_6 (b_5 (b_5 (f_9 (b_1 (b_9 (b_9 ?_)))))))
 have BS := R.as [(3, (bptr B 0)), (2, (bptr H 0)), (1, (bptr I 0))] rfl; clear R
 refine a_5 (s1 BS (a_0 rfl (evc _ _)) fun DI BT => ?_); clear BS C1
 refine n1 (c_6 ?_)
 have hkt : k = b.tabs.length := by omega
 have Aw := S.gkp (gpc 2 (gpc 0 (gpc 1 (gpc 3 (gpc 4 (gpc 5 (gpc 6 (gpc 7 gpn)))))))); clear S
 rw [hkt, List.take_length] at Aw
 have Bt := sep_tabs_join Aw; clear Aw
 have Bu := p_5 (Bt.v_7 103 2) (fun _ => Value.slice none 0 0) 3 (blkN (b.macs.take 0)) (blkC (b.macs.take 0)); clear Bt
 have BU := BT.as [(8, (iv 0)), (3, (bptr B 0)), (2, (bptr H 0)), (1, (bptr I 0))] rfl; clear BT
 refine h_7 (G := Nat) (fun (m : Nat) a_ w_ => ∃ vm_ : Value, ∃ lk_ : Nat → Value, Fr 116 [] [(8, (iv (m : Int))), (3, (bptr B 0)), (2, (bptr H 0)), (1, (bptr I 0))] a_ ∧ Sep NoB w w_ [(slsR true ((b.macs.take m).length) lk_ 3 (blkN (b.macs.take m)) (blkC (b.macs.take m))), (row vm_ 103 2 ((b.macs.take m).length) (p_0 lk_ (b.macs.take m))), (d_5 true vt_ lr_ lb_ b.tabs), (blk B 37 [(iv b.scales), vt_, vm_]), (blk H 37 [(iv 0), (Value.slice none 0 0), (Value.slice none 0 0)]), (blk I 25 [(iv b.scales), vt, vm]), (d_5 false vt lr lb b.tabs), (f_0 false vm lk b.macs)] ∧ (m ≤ b.macs.length)) (fun m => b.macs.length - m) 0 ⟨(Value.slice none 0 0), (fun _ => Value.slice none 0 0), BU.as _ rfl, (Bu.h_2 (i := 1) rfl (by rfl) (by rfl)), (Nat.zero_le _)⟩ ?_
 clear BU Bu DI
 rintro m DJ Ek ⟨vm_, lk_, AN, J, hkm⟩
 have hmtk : (b.macs.take m).length = m := by rw [List.length_take]; omega
 refine b_9 (m2 (s1 AN (a_1 rfl AN.e) fun DK AP => ?_)); clear AN DJ
 refine s1 AP (a_3 rfl t_9 AP.e) fun DL AQ => ?_; clear AP DK
 refine s1 AQ (a_4 rfl ty_23 AQ.e (J.bk 5 rfl) rfl) fun DM AR => ?_; clear AQ DL
 refine s1 AR (e_0 rfl un_23 AR.e (c_9 (J.ok 7 _ rfl)).macs) fun DN c => ?_; clear AR DM
 refine s1 c (g_2 rfl c.e c.e) fun CK N => ?_; clear c DN
 refine n1 ?_
 by_cases CB : (m : Int) < (b.macs.length : Int)
 ·skip
  rw [decide_eq_true CB] at N
  have hmkk := hth.mac m
  refine c_0 N rfl (d_4 (b_1 (b_9 (c_6 (m2 (s1 N (a_3 rfl t_9 N.e) fun DO AS => ?_)))))); clear N CK
  refine s1 AS (a_4 rfl ty_23 AS.e (J.bk 5 rfl) rfl) fun DP AT => ?_; clear AS DO
  refine s1 AT (a_1 rfl AT.e) fun DQ d => ?_; clear AT DP
  refine s1 d (b_4 rfl un_23 ty_61 d.e (i := m) d.e (c_9 (J.ok 7 _ rfl)).macs (by decide) (by omega)) fun DR AU => ?_; clear d DQ
  refine s1 AU (e_6 rfl ty_61 AU.e (c_9 (J.ok 7 _ rfl)).macs (macs_all (by omega)) rfl (by decide)) fun DS BV => ?_; clear AU DR
  refine s2 BV (d_8 J rfl ze_61 (cs := [(iv 0), (Value.slice none 0 0)]) rfl) ?_
  rintro DT _ El ⟨L, rfl, Ax⟩ f; clear BV J DS
  refine s7 f (b_6 Ax rfl ty_61 f.e f.e (i := 0) rfl (vs := [(iv ((b.macs.getD m mac0).scale)), (lk m)]) rfl rfl (g_8 rfl (g_8 (SlAt.one ((c_9 (Ax.ok 8 _ rfl)).blk (i := m) (by omega))) q_9)) (Nat.le_of_ble_eq_true rfl)) ?_
  intro _ Dz Bv BW; clear f
  have Ay : Sep NoB w Dz [(blk L 61 [(iv ((b.macs.getD m mac0).scale)), (lk m)]), (slsR true ((b.macs.take m).length) lk_ 3 (blkN (b.macs.take m)) (blkC (b.macs.take m))), (row vm_ 103 2 ((b.macs.take m).length) (p_0 lk_ (b.macs.take m))), (d_5 true vt_ lr_ lb_ b.tabs), (blk B 37 [(iv b.scales), vt_, vm_]), (blk H 37 [(iv 0), (Value.slice none 0 0), (Value.slice none 0 0)]), (blk I 25 [(iv b.scales), vt, vm]), (d_5 false vt lr lb b.tabs), (f_0 false vm lk b.macs)] := Bv; clear Bv Ax
  refine n2 ?_
  have AV := BW.as [(9, (bptr L 0)), (8, (iv (m : Int))), (3, (bptr B 0)), (2, (bptr H 0)), (1, (bptr I 0))] rfl; clear BW
  refine a_5 (s1 AV (a_3 rfl fd_61_0 AV.e) fun DU AW => ?_); clear AV DT
  refine s1 AW (a_4 rfl ty_3 AW.e (Ay.bk 0 rfl) rfl) fun DV AX => ?_; clear AW DU
  refine s1 AX (e_1 rfl (pv1 AX.e) (bd_103_0i _)) fun DW BX => ?_; clear AX DV
  refine s2 BX (d_8 Ay rfl ze_103 (cs := [(iv 0), (Value.slice none 0 0)]) rfl) ?_
  rintro DX _ Em ⟨O, rfl, Bw⟩ g; clear BX Ay DW
  refine s7 g (b_6 Bw rfl t_0 g.e g.e (i := 0) rfl (vs := [(iv ((b.macs.getD m mac0).scale)), (Value.slice none 0 0)]) rfl rfl (g_8 rfl (g_8 rfl q_9)) (Nat.le_of_ble_eq_true rfl)) ?_
  intro _ D0 Bx BY; clear g
  have By : Sep NoB w D0 [(blk O 103 [(iv ((b.macs.getD m mac0).scale)), (Value.slice none 0 0)]), (blk L 61 [(iv ((b.macs.getD m mac0).scale)), (lk m)]), (slsR true ((b.macs.take m).length) lk_ 3 (blkN (b.macs.take m)) (blkC (b.macs.take m))), (row vm_ 103 2 ((b.macs.take m).length) (p_0 lk_ (b.macs.take m))), (d_5 true vt_ lr_ lb_ b.tabs), (blk B 37 [(iv b.scales), vt_, vm_]), (blk H 37 [(iv 0), (Value.slice none 0 0), (Value.slice none 0 0)]), (blk I 25 [(iv b.scales), vt, vm]), (d_5 false vt lr lb b.tabs), (f_0 false vm lk b.macs)] := Bx; clear Bx Bw
  refine n2 (m2 (s1 BY (a_0 rfl (evc _ _)) fun DY BZ => ?_)); clear BY DX
  refine n1 (c_6 ?_)
  have Bz := By.v_7 100 3; clear By
  have Ba := BZ.as [(11, (iv 0)), (10, (bptr O 0)), (9, (bptr L 0)), (8, (iv (m : Int))), (3, (bptr B 0)), (2, (bptr H 0)), (1, (bptr I 0))] rfl; clear BZ
  refine h_7 (G := Nat) (fun (q : Nat) a_ w_ => ∃ vk_ : Value, Fr 116 [] [(11, (iv (q : Int))), (10, (bptr O 0)), (9, (bptr L 0)), (8, (iv (m : Int))), (3, (bptr B 0)), (2, (bptr H 0)), (1, (bptr I 0))] a_ ∧ Sep NoB w w_ [(row vk_ 100 3 (((b.macs.getD m mac0).blocks.take q).length) (trips ((b.macs.getD m mac0).blocks.take q))), (blk O 103 [(iv ((b.macs.getD m mac0).scale)), vk_]), (blk L 61 [(iv ((b.macs.getD m mac0).scale)), (lk m)]), (slsR true ((b.macs.take m).length) lk_ 3 (blkN (b.macs.take m)) (blkC (b.macs.take m))), (row vm_ 103 2 ((b.macs.take m).length) (p_0 lk_ (b.macs.take m))), (d_5 true vt_ lr_ lb_ b.tabs), (blk B 37 [(iv b.scales), vt_, vm_]), (blk H 37 [(iv 0), (Value.slice none 0 0), (Value.slice none 0 0)]), (blk I 25 [(iv b.scales), vt, vm]), (d_5 false vt lr lb b.tabs), (f_0 false vm lk b.macs)] ∧ (q ≤ (b.macs.getD m mac0).blocks.length)) (fun q => (b.macs.getD m mac0).blocks.length - q) 0 ⟨(Value.slice none 0 0), Ba.as _ rfl, (Bz.h_2 (i := 0) rfl (by rfl) (by rfl)), (Nat.zero_le _)⟩ ?_
  clear Ba Bz DY
  rintro q DZ En ⟨vk_, AY, Q, hkq⟩
  have hlt_q : ((b.macs.getD m mac0).blocks.take q).length ≤ 12 := by simp only [List.length_take]; omega
  refine b_9 (m2 (s1 AY (a_1 rfl AY.e) fun Da AZ => ?_)); clear AY DZ
  refine s1 AZ (a_3 rfl x_3 AZ.e) fun Db Aa => ?_; clear AZ Da
  refine s1 Aa (a_4 rfl ty_59 Aa.e (Q.bk 2 rfl) rfl) fun Dc Ab => ?_; clear Aa Db
  refine s1 Ab (e_0 rfl un_59 Ab.e ((c_9 (Q.ok 10 _ rfl)).blk (i := m) (by omega))) fun Dd n => ?_; clear Ab Dc
  refine s1 n (g_2 rfl n.e n.e) fun De P => ?_; clear n Dd
  refine n1 ?_
  by_cases CC : (q : Int) < ((b.macs.getD m mac0).blocks.length : Int)
  ·skip
   rw [decide_eq_true CC] at P
   refine c_0 P rfl (d_4 (b_1 (b_9 (c_6 ?_))))
   have Bb := P.as [(11, (iv (q : Int))), (10, (bptr O 0)), (9, (bptr L 0)), (8, (iv (m : Int))), (3, (bptr B 0)), (2, (bptr H 0)), (1, (bptr I 0))] rfl; clear P
   refine x_2 mixed Bb Q 17 [[], [0], [], [2], [], [3, 4], [5], [6], [7], [], [9], [], [10, 11], [12], [13], [8, 14], [15]] [(yw (bptr O 1)), (yw vk_), (yw (bptr L 1)), (yw (lk m)), (yw (iv (q : Int))), (yw (eptr (lk m) (q * 3))), (yw (eptr (lk m) (q * 3 + 0))), (yw (Value.agg #[(iv ((((b.macs.getD m mac0).blocks).getD q (0, 0, 0)).1)), (iv ((((b.macs.getD m mac0).blocks).getD q (0, 0, 0)).2.1))])), (yw (Value.agg #[(iv ((((b.macs.getD m mac0).blocks).getD q (0, 0, 0)).1)), (iv ((((b.macs.getD m mac0).blocks).getD q (0, 0, 0)).2.1))])), (yw (bptr L 1)), (yw (lk m)), (yw (iv (q : Int))), (yw (eptr (lk m) (q * 3))), (yw (eptr (lk m) (q * 3 + 2))), (yw (iv ((((b.macs.getD m mac0).blocks).getD q (0, 0, 0)).2.2))), (yw (Value.agg #[(iv ((((b.macs.getD m mac0).blocks).getD q (0, 0, 0)).1)), (iv ((((b.macs.getD m mac0).blocks).getD q (0, 0, 0)).2.1)), (iv ((((b.macs.getD m mac0).blocks).getD q (0, 0, 0)).2.2))])), (fun (C : Nat → Value) (v_ : Value) (rs_ : List Res) => True ∧ rs_ = [(row v_ 100 3 1 [(iv ((((b.macs.getD m mac0).blocks).getD q (0, 0, 0)).1)), (iv ((((b.macs.getD m mac0).blocks).getD q (0, 0, 0)).2.1)), (iv ((((b.macs.getD m mac0).blocks).getD q (0, 0, 0)).2.2))])])] (by decide +kernel) (by decide +kernel) rfl rfl ⟨dw, dw, dw, dw, dw, dw, dw, dw, dw, dw, dw, dw, dw, dw, dw, dw, (fun _ _ _ _ _ h_ => h_), trivial⟩ ?_ ?_
   ·skip
    refine ⟨fun a w C hA hS hd => gv1 (a_3 rfl fd_103_1 hA.e), ?_⟩
    refine ⟨fun a w C hA hS hd => gv1 (a_4 rfl ty_101 (gu hd 0) (hS.bk 1 rfl) rfl), ?_⟩
    refine ⟨fun a w C hA hS hd => gv1 (a_3 rfl x_3 hA.e), ?_⟩
    refine ⟨fun a w C hA hS hd => gv1 (a_4 rfl ty_59 (gu hd 2) (hS.bk 2 rfl) rfl), ?_⟩
    refine ⟨fun a w C hA hS hd => gv1 (a_1 rfl hA.e), ?_⟩
    refine ⟨fun a w C hA hS hd => gv1 (b_4 rfl un_59 ty_63 (gu hd 3) (i := q) (gu hd 4) ((c_9 (hS.ok 10 _ rfl)).blk (i := m) (by omega)) (by decide) (by omega)), ?_⟩
    refine ⟨fun a w C hA hS hd => gv1 (e_2 rfl fd_63_0 (gu hd 5) ((c_9 (hS.ok 10 _ rfl)).blk (i := m) (by omega)) (by rw [(((c_9 (hS.ok 10 _ rfl)).blk (i := m) (by omega))).1]; omega)), ?_⟩
    refine ⟨fun a w C hA hS hd => gv1 (e_6 rfl ty_27 (gu hd 6) ((c_9 (hS.ok 10 _ rfl)).blk (i := m) (by omega)) (trips_sub0 (by omega)) rfl (by decide)), ?_⟩
    refine ⟨fun a w C hA hS hd => gx1 (b_2 rfl en_20 (ev1 (gu hd 7)) (to_ok _ _ _)), ?_⟩
    refine ⟨fun a w C hA hS hd => gv1 (a_3 rfl x_3 hA.e), ?_⟩
    refine ⟨fun a w C hA hS hd => gv1 (a_4 rfl ty_59 (gu hd 9) (hS.bk 2 rfl) rfl), ?_⟩
    refine ⟨fun a w C hA hS hd => gv1 (a_1 rfl hA.e), ?_⟩
    refine ⟨fun a w C hA hS hd => gv1 (b_4 rfl un_59 ty_63 (gu hd 10) (i := q) (gu hd 11) ((c_9 (hS.ok 10 _ rfl)).blk (i := m) (by omega)) (by decide) (by omega)), ?_⟩
    refine ⟨fun a w C hA hS hd => gv1 (e_2 rfl fd_63_1 (gu hd 12) ((c_9 (hS.ok 10 _ rfl)).blk (i := m) (by omega)) (by rw [(((c_9 (hS.ok 10 _ rfl)).blk (i := m) (by omega))).1]; omega)), ?_⟩
    refine ⟨fun a w C hA hS hd => gv1 (d_0 rfl ty_3 (gu hd 13) ((c_9 (hS.ok 10 _ rfl)).blk (i := m) (by omega)) (trips_at2 (by omega))), ?_⟩
    refine ⟨fun a w C hA hS hd => gv1 (e_1 rfl (pv2 (gu hd 8) (gu hd 14)) (p_7 _ _ _)), ?_⟩
    refine ⟨fun a w C hA hS hd => d_6 rfl (vblt rfl (pv1 (gu hd 15)) y_6 y_5 ze_100 (by decide) (cs := [(iv ((((b.macs.getD m mac0).blocks).getD q (0, 0, 0)).1)), (iv ((((b.macs.getD m mac0).blocks).getD q (0, 0, 0)).2.1)), (iv ((((b.macs.getD m mac0).blocks).getD q (0, 0, 0)).2.2))]) (bs_100_1_0iiia _ _ _) rfl (by decide) (fun _ => And.intro trivial rfl)), ?_⟩
    trivial
   intro CL D1 C rsf252 Bc E Az; clear Bb Q
   obtain ⟨CH, C0⟩ := E 16 (by decide)
   obtain ⟨Cx, CF⟩ := C0
   have A0 : Sep NoB w D1 [(row (C 16) 100 3 1 [(iv ((((b.macs.getD m mac0).blocks).getD q (0, 0, 0)).1)), (iv ((((b.macs.getD m mac0).blocks).getD q (0, 0, 0)).2.1)), (iv ((((b.macs.getD m mac0).blocks).getD q (0, 0, 0)).2.2))]), (row vk_ 100 3 (((b.macs.getD m mac0).blocks.take q).length) (trips ((b.macs.getD m mac0).blocks.take q))), (blk O 103 [(iv ((b.macs.getD m mac0).scale)), vk_]), (blk L 61 [(iv ((b.macs.getD m mac0).scale)), (lk m)]), (slsR true ((b.macs.take m).length) lk_ 3 (blkN (b.macs.take m)) (blkC (b.macs.take m))), (row vm_ 103 2 ((b.macs.take m).length) (p_0 lk_ (b.macs.take m))), (d_5 true vt_ lr_ lb_ b.tabs), (blk B 37 [(iv b.scales), vt_, vm_]), (blk H 37 [(iv 0), (Value.slice none 0 0), (Value.slice none 0 0)]), (blk I 25 [(iv b.scales), vt, vm]), (d_5 false vt lr lb b.tabs), (f_0 false vm lk b.macs)] := by rw [show catR rsf252 0 17 = ([(row (C 16) 100 3 1 [(iv ((((b.macs.getD m mac0).blocks).getD q (0, 0, 0)).1)), (iv ((((b.macs.getD m mac0).blocks).getD q (0, 0, 0)).2.1)), (iv ((((b.macs.getD m mac0).blocks).getD q (0, 0, 0)).2.2))])] : List Res) by (try simp only [catR, gr (E 0 (by decide)), gr (E 1 (by decide)), gr (E 2 (by decide)), gr (E 3 (by decide)), gr (E 4 (by decide)), gr (E 5 (by decide)), gr (E 6 (by decide)), gr (E 7 (by decide)), gr (E 8 (by decide)), gr (E 9 (by decide)), gr (E 10 (by decide)), gr (E 11 (by decide)), gr (E 12 (by decide)), gr (E 13 (by decide)), gr (E 14 (by decide)), gr (E 15 (by decide)), CF]); (try rfl)] at Az; exact Az
   have Bd := Bc.add (gs (E 1 (by decide))); clear Bc
   have o : Fr 116 [] [(106, (C 16)), (91, vk_), (11, (iv (q : Int))), (10, (bptr O 0)), (9, (bptr L 0)), (8, (iv (m : Int))), (3, (bptr B 0)), (2, (bptr H 0)), (1, (bptr I 0))] CL := Bd.add (j_0 CH rfl); clear Bd
   clear E Az CH
   clear CF
   clear Cx
   refine s2 o (m_6 A0 rfl y_6 el_100 o.e o.e (i := 1) rfl (SlAt.g_9 (A0.i_1 0 rfl)) rfl (by simp only [maxLen]; omega) (by omega)) ?_
   intro Df A6 Eo B0 Ac
   have y := B0.h_2 (i := 1) rfl (n' := (((b.macs.getD m mac0).blocks.take q) ++ [(b.macs.getD m mac0).blocks.getD q (0, 0, 0)]).length) (xs' := (trips (((b.macs.getD m mac0).blocks.take q) ++ [(b.macs.getD m mac0).blocks.getD q (0, 0, 0)]))) (by simp) (by simp [trips]); clear B0 o A0 CL
   refine s1 Ac (a_3 rfl fd_103_1 Ac.e) fun Dg p => ?_; clear Ac Df
   refine s7 p (b_6 y rfl ty_101 p.e p.e (i := 2) rfl (vs := [A6]) (m_9 (SlAt.isSl (SlAt.g_9 (y.i_1 1 rfl)))) rfl (g_8 (SlAt.one (SlAt.g_9 (y.i_1 1 rfl))) q_9) (Nat.le_of_ble_eq_true rfl)) ?_
   intro _ D2 B1 Ad; clear p
   have B2 : Sep NoB w D2 [(row (C 16) 100 3 1 [(iv ((((b.macs.getD m mac0).blocks).getD q (0, 0, 0)).1)), (iv ((((b.macs.getD m mac0).blocks).getD q (0, 0, 0)).2.1)), (iv ((((b.macs.getD m mac0).blocks).getD q (0, 0, 0)).2.2))]), (row A6 100 3 ((((b.macs.getD m mac0).blocks.take q) ++ [(b.macs.getD m mac0).blocks.getD q (0, 0, 0)]).length) (trips (((b.macs.getD m mac0).blocks.take q) ++ [(b.macs.getD m mac0).blocks.getD q (0, 0, 0)]))), (blk O 103 [(iv ((b.macs.getD m mac0).scale)), A6]), (blk L 61 [(iv ((b.macs.getD m mac0).scale)), (lk m)]), (slsR true ((b.macs.take m).length) lk_ 3 (blkN (b.macs.take m)) (blkC (b.macs.take m))), (row vm_ 103 2 ((b.macs.take m).length) (p_0 lk_ (b.macs.take m))), (d_5 true vt_ lr_ lb_ b.tabs), (blk B 37 [(iv b.scales), vt_, vm_]), (blk H 37 [(iv 0), (Value.slice none 0 0), (Value.slice none 0 0)]), (blk I 25 [(iv b.scales), vt, vm]), (d_5 false vt lr lb b.tabs), (f_0 false vm lk b.macs)] := B1; clear B1 y
   refine e_8 (h_0 (b_1 (a_5 (s1 Ad (a_1 rfl Ad.e) fun Dh Ae => ?_)))); clear Ad Dg
   refine s1 Ae (g_1 rfl Ae.e (evc _ _) (by omega) (by omega)) fun Di Af => ?_; clear Ae Dh
   refine s1 Af (a_0 rfl Af.e) fun Ec Cp => ?_; clear Af Di
   refine e_8 ?_
   have Ct := B2.gkp (gpc 1 (gpc 2 (gpc 3 (gpc 4 (gpc 5 (gpc 6 (gpc 7 (gpc 8 (gpc 9 (gpc 10 (gpc 11 gpn))))))))))); clear B2
   exact b_1 ⟨q + 1, ⟨A6, Cp.as _ rfl, (Ct.h_2 (i := 0) rfl (by rw [t_7 (by omega)]) (by rw [t_7 (by omega)])), by omega⟩, by omega⟩
  skip
  rw [decide_eq_false CC] at P
  refine b_8 P rfl (h_6 (b_5 (b_5 (f_9 (b_1 ?_)))))
  have Ag := P.as [(10, (bptr O 0)), (8, (iv (m : Int))), (3, (bptr B 0)), (2, (bptr H 0)), (1, (bptr I 0))] rfl; clear P
  refine a_5 (s1 Ag (a_3 rfl u_0 Ag.e) fun Dj Ah => ?_); clear Ag De
  refine s1 Ah (a_4 rfl ty_35 Ah.e (Q.bk 6 rfl) rfl) fun Dk Ai => ?_; clear Ah Dj
  refine s1 Ai (c_5 rfl t_0 (Ai.ev rfl) (Q.bk 1 rfl) (l := [(iv ((b.macs.getD m mac0).scale)), vk_]) rfl rfl) fun Dl Aj => ?_; clear Ai Dk
  refine s2 Aj (f_4 Q rfl (pv1 Aj.e) aa_3 t_0 ze_103 (by decide) (cs := [(iv ((b.macs.getD m mac0).scale)), vk_]) (bs_103_1_0iva _ _)) ?_
  rintro Dm _ Ep ⟨Ds, rfl, z⟩ r; clear Aj Q Dl
  refine s2 r (m_6 z rfl aa_3 el_103 r.e r.e (i := 5) rfl (SlAt.of_blk (z.bk 0 rfl) rfl (Nat.le_of_ble_eq_true rfl)) (g_8 rfl (g_8 (SlAt.one (SlAt.g_9 (z.i_1 1 rfl))) q_9)) (by simp only [maxLen]; omega) (by omega)) ?_
  intro Dn A7 Eq B3 Ak
  have AA := B3.h_2 (i := 5) rfl (n' := ((b.macs.take m) ++ [(b.macs.getD m mac0)]).length) (xs' := (p_0 (putV (b.macs.take m).length lk_ vk_) ((b.macs.take m) ++ [(b.macs.getD m mac0)]))) (by simp) (macs_snoc (b.macs.getD m mac0) vk_); clear B3 r z Dm
  refine s1 Ak (a_3 rfl u_0 Ak.e) fun Do s => ?_; clear Ak Dn
  refine s7 s (b_6 AA rfl ty_35 s.e s.e (i := 7) rfl (vs := [A7]) (m_9 (SlAt.isSl (SlAt.g_9 (AA.i_1 5 rfl)))) rfl (g_8 (SlAt.one (SlAt.g_9 (AA.i_1 5 rfl))) q_9) (Nat.le_of_ble_eq_true rfl)) ?_
  intro _ D3 B4 Be; clear s
  have B5 : Sep NoB w D3 [(blk Ds 103 [(iv ((b.macs.getD m mac0).scale)), vk_]), (row vk_ 100 3 (((b.macs.getD m mac0).blocks.take q).length) (trips ((b.macs.getD m mac0).blocks.take q))), (blk O 103 [(iv ((b.macs.getD m mac0).scale)), vk_]), (blk L 61 [(iv ((b.macs.getD m mac0).scale)), (lk m)]), (slsR true ((b.macs.take m).length) lk_ 3 (blkN (b.macs.take m)) (blkC (b.macs.take m))), (row A7 103 2 (((b.macs.take m) ++ [(b.macs.getD m mac0)]).length) (p_0 (putV (b.macs.take m).length lk_ vk_) ((b.macs.take m) ++ [(b.macs.getD m mac0)]))), (d_5 true vt_ lr_ lb_ b.tabs), (blk B 37 [(iv b.scales), vt_, A7]), (blk H 37 [(iv 0), (Value.slice none 0 0), (Value.slice none 0 0)]), (blk I 25 [(iv b.scales), vt, vm]), (d_5 false vt lr lb b.tabs), (f_0 false vm lk b.macs)] := B4; clear B4 AA
  refine e_8 (h_0 (b_1 ?_))
  have Al := Be.as [(8, (iv (m : Int))), (3, (bptr B 0)), (2, (bptr H 0)), (1, (bptr I 0))] rfl; clear Be
  refine a_5 (s1 Al (a_1 rfl Al.e) fun Dp Am => ?_); clear Al Do
  refine s1 Am (g_1 rfl Am.e (evc _ _) (by omega) (by omega)) fun Dq An => ?_; clear Am Dp
  refine s1 An (a_0 rfl An.e) fun Ed Cq => ?_; clear An Dq
  refine e_8 ?_
  have B6 := B5.h_2 (i := 1) rfl (n' := (b.macs.getD m mac0).blocks.length) (xs' := trips (b.macs.getD m mac0).blocks) (by rw [List.take_of_length_le (by omega)]) (by rw [List.take_of_length_le (by omega)]); clear B5
  have B7 := B6.gkp (gpc 1 (gpc 4 (gpc 0 (gpc 2 (gpc 3 (gpc 5 (gpc 6 (gpc 7 (gpc 8 (gpc 9 (gpc 10 (gpc 11 gpn)))))))))))); clear B6
  have B8 := k_3 (k' := blkN (b.macs.take (m + 1))) (c' := blkC (b.macs.take (m + 1))) B7 (blkN_new (by omega)).1 (blkN_new (by omega)).2 blkN_old; clear B7
  have B9 := sep_sls_say (i := 0) (n' := (b.macs.take (m + 1)).length) (v' := (putV (b.macs.take m).length lk_ vk_)) (k' := blkN (b.macs.take (m + 1))) (c' := blkC (b.macs.take (m + 1))) B8 rfl (take_len1 (by omega)) (fun _ _ => ⟨rfl, rfl, rfl⟩); clear B8
  have Cu := B9.gkp (gpc 0 (gpc 4 (gpc 5 (gpc 6 (gpc 7 (gpc 8 (gpc 9 (gpc 10 gpn)))))))); clear B9
  exact b_1 ⟨m + 1, ⟨A7, (putV (b.macs.take m).length lk_ vk_), Cq.as _ rfl, (Cu.h_2 (i := 1) rfl (by rw [t_7 (by omega)]) (by rw [t_7 (by omega)])), by omega⟩, by omega⟩
 skip
 rw [decide_eq_false CB] at N
 refine b_8 N rfl (h_6 (b_5 (b_5 (f_9 (b_1 (b_9 ?_))))))
 have Ao := N.as [(3, (bptr B 0)), (2, (bptr H 0))] rfl; clear N
 refine a_5 (s1 Ao (c_5 rfl x_6 (Ao.ev rfl) (J.bk 3 rfl) (l := [(iv b.scales), vt_, vm_]) rfl rfl) fun Ee t => ?_); clear Ao CK
 refine s7 t (b_6 J rfl x_6 t.e t.e (i := 4) rfl (vs := [(iv b.scales), vt_, vm_]) rfl rfl (g_8 rfl (g_8 ((b_7 (J.ok 2 _ rfl)).tabs.one) (g_8 (SlAt.one (SlAt.g_9 (J.i_1 1 rfl))) q_9))) (Nat.le_of_ble_eq_true rfl)) ?_
 intro _ D4 CA Bf; clear t
 have A1 : Sep NoB w D4 [(slsR true ((b.macs.take m).length) lk_ 3 (blkN (b.macs.take m)) (blkC (b.macs.take m))), (row vm_ 103 2 ((b.macs.take m).length) (p_0 lk_ (b.macs.take m))), (d_5 true vt_ lr_ lb_ b.tabs), (blk B 37 [(iv b.scales), vt_, vm_]), (blk H 37 [(iv b.scales), vt_, vm_]), (blk I 25 [(iv b.scales), vt, vm]), (d_5 false vt lr lb b.tabs), (f_0 false vm lk b.macs)] := CA; clear CA J
 refine n1 (c_2 (a_8 Bf (.inl rfl) (a_2 Bf rfl (.cellA rfl x_6 (A1.bk 4 rfl) (l := [(iv b.scales), vt_, vm_]) rfl rfl)) ?_))
 have Cv := A1.gkp (gpc 1 (gpc 0 (gpc 2 gpn))); clear A1
 have hmt : m = b.macs.length := by omega
 have hz := Cv
 rw [hmt, List.take_length] at hz
 exact ⟨_, _, _, _, _, rfl, (sep_macs_join hz).keep [1, 0] (by decide) _ rfl rfl⟩
end Go.Proofs.Ytohgladndklciaa

namespace Go.Hard
def d_3 : h_5 := ⟨3, [⟨0, 1, [(100, 200), (200, 300), (300, 500), (400, 600)], [2], 2⟩, ⟨1, 2, [(250, 90), (350, 50)], [], 0⟩], [⟨0, [(150, 154, 160), (240, 246, 249)]⟩, ⟨1, [(300, 300, 299)]⟩]⟩
open Go.RowKit Go.Eng in
theorem kept_tabsC (a b c d : Value) : m_1 (putV 1 (putV 0 (fun _ => Value.slice none 0 0) a) c) (putV 1 (putV 0 (fun _ => Value.slice none 0 0) b) d) d_3.tabs = [.int .i64 0, .int .i64 1, a, b, .int .i64 2, .int .i64 1, .int .i64 2, c, d, .int .i64 0] := rfl
open Go.RowKit Go.Eng in
theorem kept_macsC (a b : Value) : p_0 (putV 1 (putV 0 (fun _ => Value.slice none 0 0) a) b) d_3.macs = [.int .i64 0, a, .int .i64 1, b] := rfl
theorem kept_thin : q_8 d_3 := (thin_iff (n := 0)).1 (by decide) |>.1
theorem kept_read : z_2 d_3 [(0, 170)] = 0 := by decide
theorem kept_spans : w_4 d_3 [(0, 170)] = some [(161, 164), (259, 266), (83, 87)] := by
  unfold w_4
  rw [if_pos (by decide)]
  show s_9 3 _ (400000 + 1) _ = _
  rw [s_9, if_pos (by decide), if_neg (by decide)]
  show s_9 3 _ (399999 + 1) _ = _
  rw [s_9, if_pos (by decide), if_pos (by decide)]
  decide
end Go.Hard

namespace Go.Proofs.Ytohgladndklciaa
open Go.RowKit Go.Shelf Go.Eng Go.Hard
theorem bs_107_4_0iia_1iia_2iia_3iia (x0_0 : Int) (x0_1 : Int) (x1_0 : Int) (x1_1 : Int) (x2_0 : Int) (x2_1 : Int) (x3_0 : Int) (x3_1 : Int) : Instr.fill (fun i => some (i * 2, 2)) ((Array.range (4 * 2)).map ((Value.agg #[(iv 0), (iv 0)]).cells[· % (Value.agg #[(iv 0), (iv 0)]).cells.size]!)) [(0, .agg #[(.int .i64 x0_0), (.int .i64 x0_1)]), (1, .agg #[(.int .i64 x1_0), (.int .i64 x1_1)]), (2, .agg #[(.int .i64 x2_0), (.int .i64 x2_1)]), (3, .agg #[(.int .i64 x3_0), (.int .i64 x3_1)])] = some (([(.int .i64 x0_0), (.int .i64 x0_1), (.int .i64 x1_0), (.int .i64 x1_1), (.int .i64 x2_0), (.int .i64 x2_1), (.int .i64 x3_0), (.int .i64 x3_1)] : List Value).toArray) := by kernel_rfl
theorem bd_106_0i_1i_2s_3s_4i (x0_0 : Int) (x1_0 : Int) (x2_0 : Value) (hx2_0 : IsSl x2_0) (x3_0 : Value) (hx3_0 : IsSl x3_0) (x4_0 : Int) (w : World) : (Instr.build 106 #[(0, (.int .i64 x0_0)), (1, (.int .i64 x1_0)), (2, x2_0), (3, x3_0), (4, (.int .i64 x4_0))]).run Try.prog w = .ok (.agg #[(.int .i64 x0_0), (.int .i64 x1_0), x2_0, x3_0, (.int .i64 x4_0)]) w := by obtain ⟨Ax2_0, Bx2_0, Cx2_0, rfl⟩ := hx2_0; obtain ⟨Ax3_0, Bx3_0, Cx3_0, rfl⟩ := hx3_0; kernel_rfl
theorem bs_107_2_0iia_1iia (x0_0 : Int) (x0_1 : Int) (x1_0 : Int) (x1_1 : Int) : Instr.fill (fun i => some (i * 2, 2)) ((Array.range (2 * 2)).map ((Value.agg #[(iv 0), (iv 0)]).cells[· % (Value.agg #[(iv 0), (iv 0)]).cells.size]!)) [(0, .agg #[(.int .i64 x0_0), (.int .i64 x0_1)]), (1, .agg #[(.int .i64 x1_0), (.int .i64 x1_1)])] = some (([(.int .i64 x0_0), (.int .i64 x0_1), (.int .i64 x1_0), (.int .i64 x1_1)] : List Value).toArray) := by kernel_rfl
theorem bd_106_0i_1i_2s (x0_0 : Int) (x1_0 : Int) (x2_0 : Value) (hx2_0 : IsSl x2_0) (w : World) : (Instr.build 106 #[(0, (.int .i64 x0_0)), (1, (.int .i64 x1_0)), (2, x2_0)]).run Try.prog w = .ok (.agg #[(.int .i64 x0_0), (.int .i64 x1_0), x2_0, (Value.slice none 0 0), (iv 0)]) w := by obtain ⟨Ax2_0, Bx2_0, Cx2_0, rfl⟩ := hx2_0; kernel_rfl
theorem bs_106_2_0iivvia_1iivvia (x0_0 : Int) (x0_1 : Int) (x0_2 : Value) (x0_3 : Value) (x0_4 : Int) (x1_0 : Int) (x1_1 : Int) (x1_2 : Value) (x1_3 : Value) (x1_4 : Int) : Instr.fill (fun i => some (i * 5, 5)) ((Array.range (2 * 5)).map ((Value.agg #[(iv 0), (iv 0), (Value.slice none 0 0), (Value.slice none 0 0), (iv 0)]).cells[· % (Value.agg #[(iv 0), (iv 0), (Value.slice none 0 0), (Value.slice none 0 0), (iv 0)]).cells.size]!)) [(0, .agg #[(.int .i64 x0_0), (.int .i64 x0_1), x0_2, x0_3, (.int .i64 x0_4)]), (1, .agg #[(.int .i64 x1_0), (.int .i64 x1_1), x1_2, x1_3, (.int .i64 x1_4)])] = some (([(.int .i64 x0_0), (.int .i64 x0_1), x0_2, x0_3, (.int .i64 x0_4), (.int .i64 x1_0), (.int .i64 x1_1), x1_2, x1_3, (.int .i64 x1_4)] : List Value).toArray) := by kernel_rfl
theorem z_0 : ∀ args w, (callFunc 31 args).run Try.prog w = .ok (.enter 31 args) w := enters_of Try.func31 (by kernel_rfl) rfl
theorem bs_100_2_0iiia_1iiia (x0_0 : Int) (x0_1 : Int) (x0_2 : Int) (x1_0 : Int) (x1_1 : Int) (x1_2 : Int) : Instr.fill (fun i => some (i * 3, 3)) ((Array.range (2 * 3)).map ((Value.agg #[(iv 0), (iv 0), (iv 0)]).cells[· % (Value.agg #[(iv 0), (iv 0), (iv 0)]).cells.size]!)) [(0, .agg #[(.int .i64 x0_0), (.int .i64 x0_1), (.int .i64 x0_2)]), (1, .agg #[(.int .i64 x1_0), (.int .i64 x1_1), (.int .i64 x1_2)])] = some (([(.int .i64 x0_0), (.int .i64 x0_1), (.int .i64 x0_2), (.int .i64 x1_0), (.int .i64 x1_1), (.int .i64 x1_2)] : List Value).toArray) := by kernel_rfl
theorem bd_103_0i_1s (x0_0 : Int) (x1_0 : Value) (hx1_0 : IsSl x1_0) (w : World) : (Instr.build 103 #[(0, (.int .i64 x0_0)), (1, x1_0)]).run Try.prog w = .ok (.agg #[(.int .i64 x0_0), x1_0]) w := by obtain ⟨Ax1_0, Bx1_0, Cx1_0, rfl⟩ := hx1_0; kernel_rfl
theorem bs_103_2_0iva_1iva (x0_0 : Int) (x0_1 : Value) (x1_0 : Int) (x1_1 : Value) : Instr.fill (fun i => some (i * 2, 2)) ((Array.range (2 * 2)).map ((Value.agg #[(iv 0), (Value.slice none 0 0)]).cells[· % (Value.agg #[(iv 0), (Value.slice none 0 0)]).cells.size]!)) [(0, .agg #[(.int .i64 x0_0), x0_1]), (1, .agg #[(.int .i64 x1_0), x1_1])] = some (([(.int .i64 x0_0), x0_1, (.int .i64 x1_0), x1_1] : List Value).toArray) := by kernel_rfl
theorem bd_37_0i_1s_2s (x0_0 : Int) (x1_0 : Value) (hx1_0 : IsSl x1_0) (x2_0 : Value) (hx2_0 : IsSl x2_0) (w : World) : (Instr.build 37 #[(0, (.int .i64 x0_0)), (1, x1_0), (2, x2_0)]).run Try.prog w = .ok (.agg #[(.int .i64 x0_0), x1_0, x2_0]) w := by obtain ⟨Ax1_0, Bx1_0, Cx1_0, rfl⟩ := hx1_0; obtain ⟨Ax2_0, Bx2_0, Cx2_0, rfl⟩ := hx2_0; kernel_rfl
set_option maxHeartbeats 1000000 in
theorem kept_ok (w : World) :
  Calls Try.prog 46 #[] w (Ret fun v w' => ∃ vt' vm' lr' lb' lk', v = .agg #[.int .i64 d_3.scales, vt', vm'] ∧ Sep NoB w w' [d_5 true vt' lr' lb' d_3.tabs, f_0 true vm' lk' d_3.macs]) := by
 refine b_0 Try.func46 rfl fun a0 X => ?_
 replace X : Fr 25 [] [] a0 := X
 have AE : Sep NoB w w [] := Sep.start _ _
 refine m2 (s2 X (d_8 AE rfl ze_37 (cs := [(iv 0), (Value.slice none 0 0), (Value.slice none 0 0)]) rfl) ?_)
 rintro a1 _ w3 ⟨b4, rfl, AF⟩ AB; clear X AE a0
 refine n4 (s1 AB (e_1 rfl (pv2 (evc _ _) (evc _ _)) (m_2 _ _)) fun a6 AC => ?_); clear AB a1
 refine s1 AC (e_1 rfl (pv2 (evc _ _) (evc _ _)) (m_2 _ _)) fun a8 AD => ?_; clear AC a6
 refine s1 AD (e_1 rfl (pv2 (evc _ _) (evc _ _)) (m_2 _ _)) fun AW Y => ?_; clear AD a8
 refine s1 Y (e_1 rfl (pv2 (evc _ _) (evc _ _)) (m_2 _ _)) fun AX I => ?_; clear Y AW
 refine s2 I (f_4 AF rfl (pv4 I.e I.e I.e I.e) k_0 h_8 w_6 (by decide) (cs := [(iv 100), (iv 200), (iv 200), (iv 300), (iv 300), (iv 500), (iv 400), (iv 600)]) (bs_107_4_0iia_1iia_2iia_3iia _ _ _ _ _ _ _ _)) ?_
 rintro AY _ BC ⟨C, rfl, m⟩ Z; clear I AF AX
 refine s2 Z (f_4 m rfl (pv1 (evc _ _)) n_0 ty_3 ze_3 (by decide) (cs := [(iv 2)]) (bs_3_1_0i _)) ?_
 rintro AZ _ BD ⟨D, rfl, o⟩ J; clear Z m AY
 refine s1 J (e_1 rfl (pv5 (evc _ _) (evc _ _) J.e J.e (evc _ _)) (bd_106_0i_1i_2s_3s_4i _ _ _ ⟨_, _, _, rfl⟩ _ ⟨_, _, _, rfl⟩ _)) fun Aa a => ?_; clear J AZ
 refine s1 a (e_1 rfl (pv2 (evc _ _) (evc _ _)) (m_2 _ _)) fun Ab b => ?_; clear a Aa
 refine s1 b (e_1 rfl (pv2 (evc _ _) (evc _ _)) (m_2 _ _)) fun Ac K => ?_; clear b Ab
 refine s2 K (f_4 o rfl (pv2 K.e K.e) k_0 h_8 w_6 (by decide) (cs := [(iv 250), (iv 90), (iv 350), (iv 50)]) (bs_107_2_0iia_1iia _ _ _ _)) ?_
 rintro Ad _ BE ⟨E, rfl, p⟩ Q; clear K o Ac
 refine s1 Q (e_1 rfl (pv3 (evc _ _) (evc _ _) Q.e) (bd_106_0i_1i_2s _ _ _ ⟨_, _, _, rfl⟩)) fun Ae L => ?_; clear Q Ad
 refine s2 L (f_4 p rfl (pv2 L.e L.e) y_2 k_9 ze_106 (by decide) (cs := [(iv 0), (iv 1), (Value.slice (some ⟨C, 0, none⟩) 4 4), (Value.slice (some ⟨D, 0, none⟩) 1 1), (iv 2), (iv 1), (iv 2), (Value.slice (some ⟨E, 0, none⟩) 2 2), (Value.slice none 0 0), (iv 0)]) (bs_106_2_0iivvia_1iivvia _ _ _ _ _ _ _ _ _ _)) ?_
 rintro Af _ BF ⟨F, rfl, q⟩ c; clear L p Ae
 refine s2 c (b_2 rfl z_0 (ev2 (evc _ _) (evc _ _)) (j_1 _ _ _)) ?_
 rintro Ag _ BG ⟨rfl, h⟩ R; have r := q.step h; clear h c q Af
 refine s1 R (e_1 rfl (pv2 R.e (evc _ _)) (p_7 _ _ _)) fun Ah d => ?_; clear R Ag
 refine s2 d (b_2 rfl z_0 (ev2 (evc _ _) (evc _ _)) (j_1 _ _ _)) ?_
 rintro Ai _ BH ⟨rfl, j⟩ S; have s := r.step j; clear j d r Ah
 refine s1 S (e_1 rfl (pv2 S.e (evc _ _)) (p_7 _ _ _)) fun Aj M => ?_; clear S Ai
 refine s2 M (f_4 s rfl (pv2 M.e M.e) y_6 y_5 ze_100 (by decide) (cs := [(iv 150), (iv 154), (iv 160), (iv 240), (iv 246), (iv 249)]) (bs_100_2_0iiia_1iiia _ _ _ _ _ _)) ?_
 rintro Ak _ BI ⟨A, rfl, t⟩ T; clear M s Aj
 refine s1 T (e_1 rfl (pv2 (evc _ _) T.e) (bd_103_0i_1s _ _ ⟨_, _, _, rfl⟩)) fun Al f => ?_; clear T Ak
 refine s2 f (b_2 rfl z_0 (ev2 (evc _ _) (evc _ _)) (j_1 _ _ _)) ?_
 rintro Am _ BJ ⟨rfl, k⟩ U; have u := t.step k; clear k f t Al
 refine s1 U (e_1 rfl (pv2 U.e (evc _ _)) (p_7 _ _ _)) fun An V => ?_; clear U Am
 refine s2 V (f_4 u rfl (pv1 V.e) y_6 y_5 ze_100 (by decide) (cs := [(iv 300), (iv 300), (iv 299)]) (bs_100_1_0iiia _ _ _)) ?_
 rintro Ao _ BK ⟨B, rfl, x⟩ W; clear V u An
 refine s1 W (e_1 rfl (pv2 (evc _ _) W.e) (bd_103_0i_1s _ _ ⟨_, _, _, rfl⟩)) fun Ap N => ?_; clear W Ao
 refine s2 N (f_4 x rfl (pv2 N.e N.e) aa_3 t_0 ze_103 (by decide) (cs := [(iv 0), (Value.slice (some ⟨A, 0, none⟩) 2 2), (iv 1), (Value.slice (some ⟨B, 0, none⟩) 1 1)]) (bs_103_2_0iva_1iva _ _ _ _)) ?_
 rintro Aq _ BL ⟨G, rfl, y⟩ O; clear N x Ap
 refine s1 O (e_1 rfl (pv3 (evc _ _) O.e O.e) (bd_37_0i_1s_2s _ _ ⟨_, _, _, rfl⟩ _ ⟨_, _, _, rfl⟩)) fun BB P => ?_; clear O Aq
 refine s7 P (b_6 y rfl x_6 P.e P.e (i := 7) rfl (vs := [(iv 3), (Value.slice (some ⟨F, 0, none⟩) 2 2), (Value.slice (some ⟨G, 0, none⟩) 2 2)]) rfl rfl (g_8 rfl (g_8 rfl (g_8 rfl q_9))) (Nat.le_of_ble_eq_true rfl)) ?_
 intro _ H z g; clear P
 have AA : Sep NoB w H [(blk G 103 [(iv 0), (Value.slice (some ⟨A, 0, none⟩) 2 2), (iv 1), (Value.slice (some ⟨B, 0, none⟩) 1 1)]), (blk B 100 [(iv 300), (iv 300), (iv 299)]), (blk A 100 [(iv 150), (iv 154), (iv 160), (iv 240), (iv 246), (iv 249)]), (blk F 106 [(iv 0), (iv 1), (Value.slice (some ⟨C, 0, none⟩) 4 4), (Value.slice (some ⟨D, 0, none⟩) 1 1), (iv 2), (iv 1), (iv 2), (Value.slice (some ⟨E, 0, none⟩) 2 2), (Value.slice none 0 0), (iv 0)]), (blk E 107 [(iv 250), (iv 90), (iv 350), (iv 50)]), (blk D 3 [(iv 2)]), (blk C 107 [(iv 100), (iv 200), (iv 200), (iv 300), (iv 300), (iv 500), (iv 400), (iv 600)]), (blk b4 37 [(iv 3), (Value.slice (some ⟨F, 0, none⟩) 2 2), (Value.slice (some ⟨G, 0, none⟩) 2 2)])] := z; clear z y
 refine n1 (c_2 (a_8 g (.inl rfl) (a_2 g rfl (.cellA rfl x_6 (AA.bk 7 rfl) (l := [(iv 3), (Value.slice (some ⟨F, 0, none⟩) 2 2), (Value.slice (some ⟨G, 0, none⟩) 2 2)]) rfl rfl)) ?_))
 have Ar := AA.t_8 (i := 6) (sz := 2) (n := 4) rfl rfl (by decide)
 have As := Ar.t_8 (i := 5) (sz := 1) (n := 1) rfl rfl (by decide)
 have At := As.t_8 (i := 4) (sz := 2) (n := 2) rfl rfl (by decide)
 have Au := At.t_8 (i := 3) (sz := 5) (n := 2) rfl rfl (by decide)
 have Av := Au.t_8 (i := 2) (sz := 3) (n := 2) rfl rfl (by decide)
 have Aw := Av.t_8 (i := 1) (sz := 3) (n := 1) rfl rfl (by decide)
 have Ax := Aw.t_8 (i := 0) (sz := 2) (n := 2) rfl rfl (by decide)
 have Ay : Sep NoB w H [(row (Value.slice (some ⟨C, 0, none⟩) 4 4) 107 2 4 [(iv 100), (iv 200), (iv 200), (iv 300), (iv 300), (iv 500), (iv 400), (iv 600)]), (row (Value.slice (some ⟨E, 0, none⟩) 2 2) 107 2 2 [(iv 250), (iv 90), (iv 350), (iv 50)]), (row (Value.slice (some ⟨D, 0, none⟩) 1 1) 3 1 1 [(iv 2)]), (row (Value.slice (some ⟨F, 0, none⟩) 2 2) 106 5 2 [(iv 0), (iv 1), (Value.slice (some ⟨C, 0, none⟩) 4 4), (Value.slice (some ⟨D, 0, none⟩) 1 1), (iv 2), (iv 1), (iv 2), (Value.slice (some ⟨E, 0, none⟩) 2 2), (Value.slice none 0 0), (iv 0)]), (row (Value.slice (some ⟨A, 0, none⟩) 2 2) 100 3 2 [(iv 150), (iv 154), (iv 160), (iv 240), (iv 246), (iv 249)]), (row (Value.slice (some ⟨B, 0, none⟩) 1 1) 100 3 1 [(iv 300), (iv 300), (iv 299)]), (row (Value.slice (some ⟨G, 0, none⟩) 2 2) 103 2 2 [(iv 0), (Value.slice (some ⟨A, 0, none⟩) 2 2), (iv 1), (Value.slice (some ⟨B, 0, none⟩) 1 1)])] := Ax.keep [6, 4, 5, 3, 2, 1, 0] (by decide) _ rfl rfl
 have Az : Sep NoB w H [(slsR true 0 (fun _ => Value.slice none 0 0) 2 (j_6 d_3.tabs) (j_5 d_3.tabs)), (row (Value.slice (some ⟨C, 0, none⟩) 4 4) 107 2 4 [(iv 100), (iv 200), (iv 200), (iv 300), (iv 300), (iv 500), (iv 400), (iv 600)]), (row (Value.slice (some ⟨E, 0, none⟩) 2 2) 107 2 2 [(iv 250), (iv 90), (iv 350), (iv 50)]), (row (Value.slice (some ⟨D, 0, none⟩) 1 1) 3 1 1 [(iv 2)]), (row (Value.slice (some ⟨F, 0, none⟩) 2 2) 106 5 2 [(iv 0), (iv 1), (Value.slice (some ⟨C, 0, none⟩) 4 4), (Value.slice (some ⟨D, 0, none⟩) 1 1), (iv 2), (iv 1), (iv 2), (Value.slice (some ⟨E, 0, none⟩) 2 2), (Value.slice none 0 0), (iv 0)]), (row (Value.slice (some ⟨A, 0, none⟩) 2 2) 100 3 2 [(iv 150), (iv 154), (iv 160), (iv 240), (iv 246), (iv 249)]), (row (Value.slice (some ⟨B, 0, none⟩) 1 1) 100 3 1 [(iv 300), (iv 300), (iv 299)]), (row (Value.slice (some ⟨G, 0, none⟩) 2 2) 103 2 2 [(iv 0), (Value.slice (some ⟨A, 0, none⟩) 2 2), (iv 1), (Value.slice (some ⟨B, 0, none⟩) 1 1)])] := p_5 Ay (fun _ => Value.slice none 0 0) 2 (j_6 d_3.tabs) (j_5 d_3.tabs)
 have A0 : Sep NoB w H [(row (Value.slice (some ⟨C, 0, none⟩) 4 4) 107 2 4 [(iv 100), (iv 200), (iv 200), (iv 300), (iv 300), (iv 500), (iv 400), (iv 600)]), (slsR true 0 (fun _ => Value.slice none 0 0) 2 (j_6 d_3.tabs) (j_5 d_3.tabs)), (row (Value.slice (some ⟨E, 0, none⟩) 2 2) 107 2 2 [(iv 250), (iv 90), (iv 350), (iv 50)]), (row (Value.slice (some ⟨D, 0, none⟩) 1 1) 3 1 1 [(iv 2)]), (row (Value.slice (some ⟨F, 0, none⟩) 2 2) 106 5 2 [(iv 0), (iv 1), (Value.slice (some ⟨C, 0, none⟩) 4 4), (Value.slice (some ⟨D, 0, none⟩) 1 1), (iv 2), (iv 1), (iv 2), (Value.slice (some ⟨E, 0, none⟩) 2 2), (Value.slice none 0 0), (iv 0)]), (row (Value.slice (some ⟨A, 0, none⟩) 2 2) 100 3 2 [(iv 150), (iv 154), (iv 160), (iv 240), (iv 246), (iv 249)]), (row (Value.slice (some ⟨B, 0, none⟩) 1 1) 100 3 1 [(iv 300), (iv 300), (iv 299)]), (row (Value.slice (some ⟨G, 0, none⟩) 2 2) 103 2 2 [(iv 0), (Value.slice (some ⟨A, 0, none⟩) 2 2), (iv 1), (Value.slice (some ⟨B, 0, none⟩) 1 1)])] := Az.keep [1, 0, 2, 3, 4, 5, 6, 7] (by decide) _ rfl rfl
 have A1 : Sep NoB w H [(slsR true 1 (putV 0 (fun _ => Value.slice none 0 0) (Value.slice (some ⟨C, 0, none⟩) 4 4)) 2 (j_6 d_3.tabs) (j_5 d_3.tabs)), (row (Value.slice (some ⟨E, 0, none⟩) 2 2) 107 2 2 [(iv 250), (iv 90), (iv 350), (iv 50)]), (row (Value.slice (some ⟨D, 0, none⟩) 1 1) 3 1 1 [(iv 2)]), (row (Value.slice (some ⟨F, 0, none⟩) 2 2) 106 5 2 [(iv 0), (iv 1), (Value.slice (some ⟨C, 0, none⟩) 4 4), (Value.slice (some ⟨D, 0, none⟩) 1 1), (iv 2), (iv 1), (iv 2), (Value.slice (some ⟨E, 0, none⟩) 2 2), (Value.slice none 0 0), (iv 0)]), (row (Value.slice (some ⟨A, 0, none⟩) 2 2) 100 3 2 [(iv 150), (iv 154), (iv 160), (iv 240), (iv 246), (iv 249)]), (row (Value.slice (some ⟨B, 0, none⟩) 1 1) 100 3 1 [(iv 300), (iv 300), (iv 299)]), (row (Value.slice (some ⟨G, 0, none⟩) 2 2) 103 2 2 [(iv 0), (Value.slice (some ⟨A, 0, none⟩) 2 2), (iv 1), (Value.slice (some ⟨B, 0, none⟩) 1 1)])] := k_3 (k' := j_6 d_3.tabs) (c' := j_5 d_3.tabs) A0 rfl rfl (fun i hi => absurd hi (Nat.not_lt_zero _))
 have A2 : Sep NoB w H [(row (Value.slice (some ⟨E, 0, none⟩) 2 2) 107 2 2 [(iv 250), (iv 90), (iv 350), (iv 50)]), (slsR true 1 (putV 0 (fun _ => Value.slice none 0 0) (Value.slice (some ⟨C, 0, none⟩) 4 4)) 2 (j_6 d_3.tabs) (j_5 d_3.tabs)), (row (Value.slice (some ⟨D, 0, none⟩) 1 1) 3 1 1 [(iv 2)]), (row (Value.slice (some ⟨F, 0, none⟩) 2 2) 106 5 2 [(iv 0), (iv 1), (Value.slice (some ⟨C, 0, none⟩) 4 4), (Value.slice (some ⟨D, 0, none⟩) 1 1), (iv 2), (iv 1), (iv 2), (Value.slice (some ⟨E, 0, none⟩) 2 2), (Value.slice none 0 0), (iv 0)]), (row (Value.slice (some ⟨A, 0, none⟩) 2 2) 100 3 2 [(iv 150), (iv 154), (iv 160), (iv 240), (iv 246), (iv 249)]), (row (Value.slice (some ⟨B, 0, none⟩) 1 1) 100 3 1 [(iv 300), (iv 300), (iv 299)]), (row (Value.slice (some ⟨G, 0, none⟩) 2 2) 103 2 2 [(iv 0), (Value.slice (some ⟨A, 0, none⟩) 2 2), (iv 1), (Value.slice (some ⟨B, 0, none⟩) 1 1)])] := A1.keep [1, 0, 2, 3, 4, 5, 6] (by decide) _ rfl rfl
 have A3 : Sep NoB w H [(slsR true 2 (putV 1 (putV 0 (fun _ => Value.slice none 0 0) (Value.slice (some ⟨C, 0, none⟩) 4 4)) (Value.slice (some ⟨E, 0, none⟩) 2 2)) 2 (j_6 d_3.tabs) (j_5 d_3.tabs)), (row (Value.slice (some ⟨D, 0, none⟩) 1 1) 3 1 1 [(iv 2)]), (row (Value.slice (some ⟨F, 0, none⟩) 2 2) 106 5 2 [(iv 0), (iv 1), (Value.slice (some ⟨C, 0, none⟩) 4 4), (Value.slice (some ⟨D, 0, none⟩) 1 1), (iv 2), (iv 1), (iv 2), (Value.slice (some ⟨E, 0, none⟩) 2 2), (Value.slice none 0 0), (iv 0)]), (row (Value.slice (some ⟨A, 0, none⟩) 2 2) 100 3 2 [(iv 150), (iv 154), (iv 160), (iv 240), (iv 246), (iv 249)]), (row (Value.slice (some ⟨B, 0, none⟩) 1 1) 100 3 1 [(iv 300), (iv 300), (iv 299)]), (row (Value.slice (some ⟨G, 0, none⟩) 2 2) 103 2 2 [(iv 0), (Value.slice (some ⟨A, 0, none⟩) 2 2), (iv 1), (Value.slice (some ⟨B, 0, none⟩) 1 1)])] := k_3 (k' := j_6 d_3.tabs) (c' := j_5 d_3.tabs) A2 rfl rfl (fun _ _ => ⟨rfl, rfl⟩)
 have A4 : Sep NoB w H [(row (Value.slice none 0 0) 3 1 0 []), (slsR true 2 (putV 1 (putV 0 (fun _ => Value.slice none 0 0) (Value.slice (some ⟨C, 0, none⟩) 4 4)) (Value.slice (some ⟨E, 0, none⟩) 2 2)) 2 (j_6 d_3.tabs) (j_5 d_3.tabs)), (row (Value.slice (some ⟨D, 0, none⟩) 1 1) 3 1 1 [(iv 2)]), (row (Value.slice (some ⟨F, 0, none⟩) 2 2) 106 5 2 [(iv 0), (iv 1), (Value.slice (some ⟨C, 0, none⟩) 4 4), (Value.slice (some ⟨D, 0, none⟩) 1 1), (iv 2), (iv 1), (iv 2), (Value.slice (some ⟨E, 0, none⟩) 2 2), (Value.slice none 0 0), (iv 0)]), (row (Value.slice (some ⟨A, 0, none⟩) 2 2) 100 3 2 [(iv 150), (iv 154), (iv 160), (iv 240), (iv 246), (iv 249)]), (row (Value.slice (some ⟨B, 0, none⟩) 1 1) 100 3 1 [(iv 300), (iv 300), (iv 299)]), (row (Value.slice (some ⟨G, 0, none⟩) 2 2) 103 2 2 [(iv 0), (Value.slice (some ⟨A, 0, none⟩) 2 2), (iv 1), (Value.slice (some ⟨B, 0, none⟩) 1 1)])] := A3.v_7 3 1
 have A5 : Sep NoB w H [(slsR true 0 (fun _ => Value.slice none 0 0) 1 (brkN d_3.tabs) (brkC d_3.tabs)), (row (Value.slice none 0 0) 3 1 0 []), (slsR true 2 (putV 1 (putV 0 (fun _ => Value.slice none 0 0) (Value.slice (some ⟨C, 0, none⟩) 4 4)) (Value.slice (some ⟨E, 0, none⟩) 2 2)) 2 (j_6 d_3.tabs) (j_5 d_3.tabs)), (row (Value.slice (some ⟨D, 0, none⟩) 1 1) 3 1 1 [(iv 2)]), (row (Value.slice (some ⟨F, 0, none⟩) 2 2) 106 5 2 [(iv 0), (iv 1), (Value.slice (some ⟨C, 0, none⟩) 4 4), (Value.slice (some ⟨D, 0, none⟩) 1 1), (iv 2), (iv 1), (iv 2), (Value.slice (some ⟨E, 0, none⟩) 2 2), (Value.slice none 0 0), (iv 0)]), (row (Value.slice (some ⟨A, 0, none⟩) 2 2) 100 3 2 [(iv 150), (iv 154), (iv 160), (iv 240), (iv 246), (iv 249)]), (row (Value.slice (some ⟨B, 0, none⟩) 1 1) 100 3 1 [(iv 300), (iv 300), (iv 299)]), (row (Value.slice (some ⟨G, 0, none⟩) 2 2) 103 2 2 [(iv 0), (Value.slice (some ⟨A, 0, none⟩) 2 2), (iv 1), (Value.slice (some ⟨B, 0, none⟩) 1 1)])] := p_5 A4 (fun _ => Value.slice none 0 0) 1 (brkN d_3.tabs) (brkC d_3.tabs)
 have A6 : Sep NoB w H [(row (Value.slice (some ⟨D, 0, none⟩) 1 1) 3 1 1 [(iv 2)]), (slsR true 0 (fun _ => Value.slice none 0 0) 1 (brkN d_3.tabs) (brkC d_3.tabs)), (row (Value.slice none 0 0) 3 1 0 []), (slsR true 2 (putV 1 (putV 0 (fun _ => Value.slice none 0 0) (Value.slice (some ⟨C, 0, none⟩) 4 4)) (Value.slice (some ⟨E, 0, none⟩) 2 2)) 2 (j_6 d_3.tabs) (j_5 d_3.tabs)), (row (Value.slice (some ⟨F, 0, none⟩) 2 2) 106 5 2 [(iv 0), (iv 1), (Value.slice (some ⟨C, 0, none⟩) 4 4), (Value.slice (some ⟨D, 0, none⟩) 1 1), (iv 2), (iv 1), (iv 2), (Value.slice (some ⟨E, 0, none⟩) 2 2), (Value.slice none 0 0), (iv 0)]), (row (Value.slice (some ⟨A, 0, none⟩) 2 2) 100 3 2 [(iv 150), (iv 154), (iv 160), (iv 240), (iv 246), (iv 249)]), (row (Value.slice (some ⟨B, 0, none⟩) 1 1) 100 3 1 [(iv 300), (iv 300), (iv 299)]), (row (Value.slice (some ⟨G, 0, none⟩) 2 2) 103 2 2 [(iv 0), (Value.slice (some ⟨A, 0, none⟩) 2 2), (iv 1), (Value.slice (some ⟨B, 0, none⟩) 1 1)])] := A5.keep [3, 0, 1, 2, 4, 5, 6, 7] (by decide) _ rfl rfl
 have AG : Sep NoB w H [(slsR true 1 (putV 0 (fun _ => Value.slice none 0 0) (Value.slice (some ⟨D, 0, none⟩) 1 1)) 1 (brkN d_3.tabs) (brkC d_3.tabs)), (row (Value.slice none 0 0) 3 1 0 []), (slsR true 2 (putV 1 (putV 0 (fun _ => Value.slice none 0 0) (Value.slice (some ⟨C, 0, none⟩) 4 4)) (Value.slice (some ⟨E, 0, none⟩) 2 2)) 2 (j_6 d_3.tabs) (j_5 d_3.tabs)), (row (Value.slice (some ⟨F, 0, none⟩) 2 2) 106 5 2 [(iv 0), (iv 1), (Value.slice (some ⟨C, 0, none⟩) 4 4), (Value.slice (some ⟨D, 0, none⟩) 1 1), (iv 2), (iv 1), (iv 2), (Value.slice (some ⟨E, 0, none⟩) 2 2), (Value.slice none 0 0), (iv 0)]), (row (Value.slice (some ⟨A, 0, none⟩) 2 2) 100 3 2 [(iv 150), (iv 154), (iv 160), (iv 240), (iv 246), (iv 249)]), (row (Value.slice (some ⟨B, 0, none⟩) 1 1) 100 3 1 [(iv 300), (iv 300), (iv 299)]), (row (Value.slice (some ⟨G, 0, none⟩) 2 2) 103 2 2 [(iv 0), (Value.slice (some ⟨A, 0, none⟩) 2 2), (iv 1), (Value.slice (some ⟨B, 0, none⟩) 1 1)])] := k_3 (k' := brkN d_3.tabs) (c' := brkC d_3.tabs) A6 rfl rfl (fun i hi => absurd hi (Nat.not_lt_zero _))
 have AH : Sep NoB w H [(row (Value.slice none 0 0) 3 1 0 []), (slsR true 1 (putV 0 (fun _ => Value.slice none 0 0) (Value.slice (some ⟨D, 0, none⟩) 1 1)) 1 (brkN d_3.tabs) (brkC d_3.tabs)), (slsR true 2 (putV 1 (putV 0 (fun _ => Value.slice none 0 0) (Value.slice (some ⟨C, 0, none⟩) 4 4)) (Value.slice (some ⟨E, 0, none⟩) 2 2)) 2 (j_6 d_3.tabs) (j_5 d_3.tabs)), (row (Value.slice (some ⟨F, 0, none⟩) 2 2) 106 5 2 [(iv 0), (iv 1), (Value.slice (some ⟨C, 0, none⟩) 4 4), (Value.slice (some ⟨D, 0, none⟩) 1 1), (iv 2), (iv 1), (iv 2), (Value.slice (some ⟨E, 0, none⟩) 2 2), (Value.slice none 0 0), (iv 0)]), (row (Value.slice (some ⟨A, 0, none⟩) 2 2) 100 3 2 [(iv 150), (iv 154), (iv 160), (iv 240), (iv 246), (iv 249)]), (row (Value.slice (some ⟨B, 0, none⟩) 1 1) 100 3 1 [(iv 300), (iv 300), (iv 299)]), (row (Value.slice (some ⟨G, 0, none⟩) 2 2) 103 2 2 [(iv 0), (Value.slice (some ⟨A, 0, none⟩) 2 2), (iv 1), (Value.slice (some ⟨B, 0, none⟩) 1 1)])] := AG.keep [1, 0, 2, 3, 4, 5, 6] (by decide) _ rfl rfl
 have AI : Sep NoB w H [(slsR true 2 (putV 1 (putV 0 (fun _ => Value.slice none 0 0) (Value.slice (some ⟨D, 0, none⟩) 1 1)) (Value.slice none 0 0)) 1 (brkN d_3.tabs) (brkC d_3.tabs)), (slsR true 2 (putV 1 (putV 0 (fun _ => Value.slice none 0 0) (Value.slice (some ⟨C, 0, none⟩) 4 4)) (Value.slice (some ⟨E, 0, none⟩) 2 2)) 2 (j_6 d_3.tabs) (j_5 d_3.tabs)), (row (Value.slice (some ⟨F, 0, none⟩) 2 2) 106 5 2 [(iv 0), (iv 1), (Value.slice (some ⟨C, 0, none⟩) 4 4), (Value.slice (some ⟨D, 0, none⟩) 1 1), (iv 2), (iv 1), (iv 2), (Value.slice (some ⟨E, 0, none⟩) 2 2), (Value.slice none 0 0), (iv 0)]), (row (Value.slice (some ⟨A, 0, none⟩) 2 2) 100 3 2 [(iv 150), (iv 154), (iv 160), (iv 240), (iv 246), (iv 249)]), (row (Value.slice (some ⟨B, 0, none⟩) 1 1) 100 3 1 [(iv 300), (iv 300), (iv 299)]), (row (Value.slice (some ⟨G, 0, none⟩) 2 2) 103 2 2 [(iv 0), (Value.slice (some ⟨A, 0, none⟩) 2 2), (iv 1), (Value.slice (some ⟨B, 0, none⟩) 1 1)])] := k_3 (k' := brkN d_3.tabs) (c' := brkC d_3.tabs) AH rfl rfl (fun _ _ => ⟨rfl, rfl⟩)
 have AJ : Sep NoB w H [(row (Value.slice (some ⟨F, 0, none⟩) 2 2) 106 5 2 [(iv 0), (iv 1), (Value.slice (some ⟨C, 0, none⟩) 4 4), (Value.slice (some ⟨D, 0, none⟩) 1 1), (iv 2), (iv 1), (iv 2), (Value.slice (some ⟨E, 0, none⟩) 2 2), (Value.slice none 0 0), (iv 0)]), (slsR true 2 (putV 1 (putV 0 (fun _ => Value.slice none 0 0) (Value.slice (some ⟨C, 0, none⟩) 4 4)) (Value.slice (some ⟨E, 0, none⟩) 2 2)) 2 (j_6 d_3.tabs) (j_5 d_3.tabs)), (slsR true 2 (putV 1 (putV 0 (fun _ => Value.slice none 0 0) (Value.slice (some ⟨D, 0, none⟩) 1 1)) (Value.slice none 0 0)) 1 (brkN d_3.tabs) (brkC d_3.tabs)), (row (Value.slice (some ⟨A, 0, none⟩) 2 2) 100 3 2 [(iv 150), (iv 154), (iv 160), (iv 240), (iv 246), (iv 249)]), (row (Value.slice (some ⟨B, 0, none⟩) 1 1) 100 3 1 [(iv 300), (iv 300), (iv 299)]), (row (Value.slice (some ⟨G, 0, none⟩) 2 2) 103 2 2 [(iv 0), (Value.slice (some ⟨A, 0, none⟩) 2 2), (iv 1), (Value.slice (some ⟨B, 0, none⟩) 1 1)])] := AI.keep [2, 1, 0, 3, 4, 5] (by decide) _ rfl rfl
 have AK : Sep NoB w H [(row (Value.slice (some ⟨F, 0, none⟩) 2 2) 106 5 d_3.tabs.length (m_1 (putV 1 (putV 0 (fun _ => Value.slice none 0 0) (Value.slice (some ⟨C, 0, none⟩) 4 4)) (Value.slice (some ⟨E, 0, none⟩) 2 2)) (putV 1 (putV 0 (fun _ => Value.slice none 0 0) (Value.slice (some ⟨D, 0, none⟩) 1 1)) (Value.slice none 0 0)) d_3.tabs)), (slsR true 2 (putV 1 (putV 0 (fun _ => Value.slice none 0 0) (Value.slice (some ⟨C, 0, none⟩) 4 4)) (Value.slice (some ⟨E, 0, none⟩) 2 2)) 2 (j_6 d_3.tabs) (j_5 d_3.tabs)), (slsR true 2 (putV 1 (putV 0 (fun _ => Value.slice none 0 0) (Value.slice (some ⟨D, 0, none⟩) 1 1)) (Value.slice none 0 0)) 1 (brkN d_3.tabs) (brkC d_3.tabs)), (row (Value.slice (some ⟨A, 0, none⟩) 2 2) 100 3 2 [(iv 150), (iv 154), (iv 160), (iv 240), (iv 246), (iv 249)]), (row (Value.slice (some ⟨B, 0, none⟩) 1 1) 100 3 1 [(iv 300), (iv 300), (iv 299)]), (row (Value.slice (some ⟨G, 0, none⟩) 2 2) 103 2 2 [(iv 0), (Value.slice (some ⟨A, 0, none⟩) 2 2), (iv 1), (Value.slice (some ⟨B, 0, none⟩) 1 1)])] := AJ.h_2 (i := 0) rfl rfl (kept_tabsC _ _ _ _).symm
 have AL : Sep NoB w H [(d_5 true (Value.slice (some ⟨F, 0, none⟩) 2 2) (putV 1 (putV 0 (fun _ => Value.slice none 0 0) (Value.slice (some ⟨C, 0, none⟩) 4 4)) (Value.slice (some ⟨E, 0, none⟩) 2 2)) (putV 1 (putV 0 (fun _ => Value.slice none 0 0) (Value.slice (some ⟨D, 0, none⟩) 1 1)) (Value.slice none 0 0)) d_3.tabs), (row (Value.slice (some ⟨A, 0, none⟩) 2 2) 100 3 2 [(iv 150), (iv 154), (iv 160), (iv 240), (iv 246), (iv 249)]), (row (Value.slice (some ⟨B, 0, none⟩) 1 1) 100 3 1 [(iv 300), (iv 300), (iv 299)]), (row (Value.slice (some ⟨G, 0, none⟩) 2 2) 103 2 2 [(iv 0), (Value.slice (some ⟨A, 0, none⟩) 2 2), (iv 1), (Value.slice (some ⟨B, 0, none⟩) 1 1)])] := sep_tabs_join AK
 have AM : Sep NoB w H [(slsR true 0 (fun _ => Value.slice none 0 0) 3 (blkN d_3.macs) (blkC d_3.macs)), (d_5 true (Value.slice (some ⟨F, 0, none⟩) 2 2) (putV 1 (putV 0 (fun _ => Value.slice none 0 0) (Value.slice (some ⟨C, 0, none⟩) 4 4)) (Value.slice (some ⟨E, 0, none⟩) 2 2)) (putV 1 (putV 0 (fun _ => Value.slice none 0 0) (Value.slice (some ⟨D, 0, none⟩) 1 1)) (Value.slice none 0 0)) d_3.tabs), (row (Value.slice (some ⟨A, 0, none⟩) 2 2) 100 3 2 [(iv 150), (iv 154), (iv 160), (iv 240), (iv 246), (iv 249)]), (row (Value.slice (some ⟨B, 0, none⟩) 1 1) 100 3 1 [(iv 300), (iv 300), (iv 299)]), (row (Value.slice (some ⟨G, 0, none⟩) 2 2) 103 2 2 [(iv 0), (Value.slice (some ⟨A, 0, none⟩) 2 2), (iv 1), (Value.slice (some ⟨B, 0, none⟩) 1 1)])] := p_5 AL (fun _ => Value.slice none 0 0) 3 (blkN d_3.macs) (blkC d_3.macs)
 have AN : Sep NoB w H [(row (Value.slice (some ⟨A, 0, none⟩) 2 2) 100 3 2 [(iv 150), (iv 154), (iv 160), (iv 240), (iv 246), (iv 249)]), (slsR true 0 (fun _ => Value.slice none 0 0) 3 (blkN d_3.macs) (blkC d_3.macs)), (d_5 true (Value.slice (some ⟨F, 0, none⟩) 2 2) (putV 1 (putV 0 (fun _ => Value.slice none 0 0) (Value.slice (some ⟨C, 0, none⟩) 4 4)) (Value.slice (some ⟨E, 0, none⟩) 2 2)) (putV 1 (putV 0 (fun _ => Value.slice none 0 0) (Value.slice (some ⟨D, 0, none⟩) 1 1)) (Value.slice none 0 0)) d_3.tabs), (row (Value.slice (some ⟨B, 0, none⟩) 1 1) 100 3 1 [(iv 300), (iv 300), (iv 299)]), (row (Value.slice (some ⟨G, 0, none⟩) 2 2) 103 2 2 [(iv 0), (Value.slice (some ⟨A, 0, none⟩) 2 2), (iv 1), (Value.slice (some ⟨B, 0, none⟩) 1 1)])] := AM.keep [2, 0, 1, 3, 4] (by decide) _ rfl rfl
 have AO : Sep NoB w H [(slsR true 1 (putV 0 (fun _ => Value.slice none 0 0) (Value.slice (some ⟨A, 0, none⟩) 2 2)) 3 (blkN d_3.macs) (blkC d_3.macs)), (d_5 true (Value.slice (some ⟨F, 0, none⟩) 2 2) (putV 1 (putV 0 (fun _ => Value.slice none 0 0) (Value.slice (some ⟨C, 0, none⟩) 4 4)) (Value.slice (some ⟨E, 0, none⟩) 2 2)) (putV 1 (putV 0 (fun _ => Value.slice none 0 0) (Value.slice (some ⟨D, 0, none⟩) 1 1)) (Value.slice none 0 0)) d_3.tabs), (row (Value.slice (some ⟨B, 0, none⟩) 1 1) 100 3 1 [(iv 300), (iv 300), (iv 299)]), (row (Value.slice (some ⟨G, 0, none⟩) 2 2) 103 2 2 [(iv 0), (Value.slice (some ⟨A, 0, none⟩) 2 2), (iv 1), (Value.slice (some ⟨B, 0, none⟩) 1 1)])] := k_3 (k' := blkN d_3.macs) (c' := blkC d_3.macs) AN rfl rfl (fun i hi => absurd hi (Nat.not_lt_zero _))
 have AP : Sep NoB w H [(row (Value.slice (some ⟨B, 0, none⟩) 1 1) 100 3 1 [(iv 300), (iv 300), (iv 299)]), (slsR true 1 (putV 0 (fun _ => Value.slice none 0 0) (Value.slice (some ⟨A, 0, none⟩) 2 2)) 3 (blkN d_3.macs) (blkC d_3.macs)), (d_5 true (Value.slice (some ⟨F, 0, none⟩) 2 2) (putV 1 (putV 0 (fun _ => Value.slice none 0 0) (Value.slice (some ⟨C, 0, none⟩) 4 4)) (Value.slice (some ⟨E, 0, none⟩) 2 2)) (putV 1 (putV 0 (fun _ => Value.slice none 0 0) (Value.slice (some ⟨D, 0, none⟩) 1 1)) (Value.slice none 0 0)) d_3.tabs), (row (Value.slice (some ⟨G, 0, none⟩) 2 2) 103 2 2 [(iv 0), (Value.slice (some ⟨A, 0, none⟩) 2 2), (iv 1), (Value.slice (some ⟨B, 0, none⟩) 1 1)])] := AO.keep [2, 0, 1, 3] (by decide) _ rfl rfl
 have AQ : Sep NoB w H [(slsR true 2 (putV 1 (putV 0 (fun _ => Value.slice none 0 0) (Value.slice (some ⟨A, 0, none⟩) 2 2)) (Value.slice (some ⟨B, 0, none⟩) 1 1)) 3 (blkN d_3.macs) (blkC d_3.macs)), (d_5 true (Value.slice (some ⟨F, 0, none⟩) 2 2) (putV 1 (putV 0 (fun _ => Value.slice none 0 0) (Value.slice (some ⟨C, 0, none⟩) 4 4)) (Value.slice (some ⟨E, 0, none⟩) 2 2)) (putV 1 (putV 0 (fun _ => Value.slice none 0 0) (Value.slice (some ⟨D, 0, none⟩) 1 1)) (Value.slice none 0 0)) d_3.tabs), (row (Value.slice (some ⟨G, 0, none⟩) 2 2) 103 2 2 [(iv 0), (Value.slice (some ⟨A, 0, none⟩) 2 2), (iv 1), (Value.slice (some ⟨B, 0, none⟩) 1 1)])] := k_3 (k' := blkN d_3.macs) (c' := blkC d_3.macs) AP rfl rfl (fun _ _ => ⟨rfl, rfl⟩)
 have AR : Sep NoB w H [(row (Value.slice (some ⟨G, 0, none⟩) 2 2) 103 2 2 [(iv 0), (Value.slice (some ⟨A, 0, none⟩) 2 2), (iv 1), (Value.slice (some ⟨B, 0, none⟩) 1 1)]), (slsR true 2 (putV 1 (putV 0 (fun _ => Value.slice none 0 0) (Value.slice (some ⟨A, 0, none⟩) 2 2)) (Value.slice (some ⟨B, 0, none⟩) 1 1)) 3 (blkN d_3.macs) (blkC d_3.macs)), (d_5 true (Value.slice (some ⟨F, 0, none⟩) 2 2) (putV 1 (putV 0 (fun _ => Value.slice none 0 0) (Value.slice (some ⟨C, 0, none⟩) 4 4)) (Value.slice (some ⟨E, 0, none⟩) 2 2)) (putV 1 (putV 0 (fun _ => Value.slice none 0 0) (Value.slice (some ⟨D, 0, none⟩) 1 1)) (Value.slice none 0 0)) d_3.tabs)] := AQ.keep [2, 0, 1] (by decide) _ rfl rfl
 have AS : Sep NoB w H [(row (Value.slice (some ⟨G, 0, none⟩) 2 2) 103 2 d_3.macs.length (p_0 (putV 1 (putV 0 (fun _ => Value.slice none 0 0) (Value.slice (some ⟨A, 0, none⟩) 2 2)) (Value.slice (some ⟨B, 0, none⟩) 1 1)) d_3.macs)), (slsR true 2 (putV 1 (putV 0 (fun _ => Value.slice none 0 0) (Value.slice (some ⟨A, 0, none⟩) 2 2)) (Value.slice (some ⟨B, 0, none⟩) 1 1)) 3 (blkN d_3.macs) (blkC d_3.macs)), (d_5 true (Value.slice (some ⟨F, 0, none⟩) 2 2) (putV 1 (putV 0 (fun _ => Value.slice none 0 0) (Value.slice (some ⟨C, 0, none⟩) 4 4)) (Value.slice (some ⟨E, 0, none⟩) 2 2)) (putV 1 (putV 0 (fun _ => Value.slice none 0 0) (Value.slice (some ⟨D, 0, none⟩) 1 1)) (Value.slice none 0 0)) d_3.tabs)] := AR.h_2 (i := 0) rfl rfl (kept_macsC _ _).symm
 have AT : Sep NoB w H [(f_0 true (Value.slice (some ⟨G, 0, none⟩) 2 2) (putV 1 (putV 0 (fun _ => Value.slice none 0 0) (Value.slice (some ⟨A, 0, none⟩) 2 2)) (Value.slice (some ⟨B, 0, none⟩) 1 1)) d_3.macs), (d_5 true (Value.slice (some ⟨F, 0, none⟩) 2 2) (putV 1 (putV 0 (fun _ => Value.slice none 0 0) (Value.slice (some ⟨C, 0, none⟩) 4 4)) (Value.slice (some ⟨E, 0, none⟩) 2 2)) (putV 1 (putV 0 (fun _ => Value.slice none 0 0) (Value.slice (some ⟨D, 0, none⟩) 1 1)) (Value.slice none 0 0)) d_3.tabs)] := sep_macs_join AS
 have AU : Sep NoB w H [(d_5 true (Value.slice (some ⟨F, 0, none⟩) 2 2) (putV 1 (putV 0 (fun _ => Value.slice none 0 0) (Value.slice (some ⟨C, 0, none⟩) 4 4)) (Value.slice (some ⟨E, 0, none⟩) 2 2)) (putV 1 (putV 0 (fun _ => Value.slice none 0 0) (Value.slice (some ⟨D, 0, none⟩) 1 1)) (Value.slice none 0 0)) d_3.tabs), (f_0 true (Value.slice (some ⟨G, 0, none⟩) 2 2) (putV 1 (putV 0 (fun _ => Value.slice none 0 0) (Value.slice (some ⟨A, 0, none⟩) 2 2)) (Value.slice (some ⟨B, 0, none⟩) 1 1)) d_3.macs)] := AT.keep [1, 0] (by decide) _ rfl rfl
 exact ⟨_, _, _, _, _, rfl, AU⟩
end Go.Proofs.Ytohgladndklciaa

namespace Go.Proofs.Ytohgladndklciaa
open Go.RowKit Go.Shelf Go.Eng Go.Hard
theorem en_46 : ∀ args w, (callFunc 46 args).run Try.prog w = .ok (.enter 46 args) w := enters_of Try.func46 (by kernel_rfl) rfl
theorem en_33 : ∀ args w, (callFunc 33 args).run Try.prog w = .ok (.enter 33 args) w := enters_of Try.func33 (by kernel_rfl) rfl
theorem en_18 : ∀ args w, (callFunc 18 args).run Try.prog w = .ok (.enter 18 args) w := enters_of Try.func18 (by kernel_rfl) rfl
theorem en_25 : ∀ args w, (callFunc 25 args).run Try.prog w = .ok (.enter 25 args) w := enters_of Try.func25 (by kernel_rfl) rfl
theorem awake_ok (w : World) :
  Calls Try.prog 17 #[] w (Ret fun v w' => v = .bool true ∧ Ext NoB w w') := by
 refine b_0 Try.func17 rfl fun a0 Z => ?_
 replace Z : Fr 71 [] [] a0 := Z
 have AT : Sep NoB w w [] := Sep.start _ _
 refine m2 (s1 Z (a_0 rfl (evc _ _)) fun a1 AS => ?_); clear Z a0
 refine n4 (s2 AS (b_2 rfl en_46 ev0 (kept_ok _)) ?_)
 rintro a3 _ w5 ⟨vt6, vm7, lr8, lb9, lk10, rfl, AN⟩ s; have L := AT.y_3 AN rfl; clear AN AS AT a1
 refine s2 s (b_2 rfl en_33 (ev2 s.e (evc _ _)) (Bias_ok d_3 vt6 vm7 lr8 lb9 lk10 _ (b_7 (L.ok 0 _ rfl)) (c_9 (L.ok 1 _ rfl)) kept_thin 0)) ?_
 rintro AZ _ BH ⟨rfl, z⟩ O; have AC := L.step z; clear z s L a3
 refine s1 O (a_1 rfl O.e) fun Aa P => ?_; clear O AZ
 refine s1 P (e_7 rfl P.e rfl) fun Ab Q => ?_; clear P Aa
 refine s1 Q (e_7 rfl Q.e rfl) fun Ac o => ?_; clear Q Ab
 refine s2 o (d_8 AC rfl w_9 (cs := [(iv 0), (iv 0)]) rfl) ?_
 rintro Ad _ BI ⟨B, rfl, AD⟩ H; clear o AC Ac
 refine s7 H (b_6 AD rfl f_5 H.e H.e (i := 0) rfl (vs := [(iv ((w_8 d_3 0).1)), (iv ((w_8 d_3 0).2))]) rfl rfl rfl (Nat.le_of_ble_eq_true rfl)) ?_
 intro _ A4 AE R; clear H
 have AF : Sep NoB w A4 [(blk B 30 [(iv ((w_8 d_3 0).1)), (iv ((w_8 d_3 0).2))]), (d_5 true vt6 lr8 lb9 d_3.tabs), (f_0 true vm7 lk10 d_3.macs)] := AE; clear AE AD
 refine s1 R (a_0 rfl R.e) fun Ae p => ?_; clear R Ad
 refine n2 ?_
 have q := p.as [(2, (iv (w_7 d_3 0))), (1, (bptr B 0))] rfl; clear p
 refine a_5 (s2 q (b_2 rfl en_46 ev0 (kept_ok _)) ?_)
 rintro Af _ BJ ⟨vt39, vm40, lr41, lb42, lk43, rfl, AO⟩ r; have AG := AF.y_3 AO rfl; clear AO q AF Ae
 refine s2 r (b_2 rfl z_0 (ev2 (evc _ _) (evc _ _)) (j_1 _ _ _)) ?_
 rintro Ag _ BK ⟨rfl, AA⟩ I; have M := AG.step AA; clear AA r AG Af
 refine s2 I (b_2 rfl en_18 (ev3 I.e (evc _ _) I.e) (Convert_ok d_3 vt39 vm40 lr41 lb42 lk43 _ (b_7 (M.ok 0 _ rfl)) (c_9 (M.ok 1 _ rfl)) kept_thin 0 150 180)) ?_
 rintro Ah _ BL ⟨rfl, AB⟩ S; have AH := M.step AB; clear AB I M Ag
 refine s1 S (a_1 rfl S.e) fun Ai T => ?_; clear S Ah
 refine s1 T (e_7 rfl T.e rfl) fun Aj U => ?_; clear T Ai
 refine s1 U (e_7 rfl U.e rfl) fun Ak t => ?_; clear U Aj
 refine s2 t (d_8 AH rfl w_9 (cs := [(iv 0), (iv 0)]) rfl) ?_
 rintro Al _ BM ⟨N, rfl, AI⟩ J; clear t AH Ak
 refine s7 J (b_6 AI rfl f_5 J.e J.e (i := 0) rfl (vs := [(iv ((c_7 d_3 0 (150, 180)).1)), (iv ((c_7 d_3 0 (150, 180)).2))]) rfl rfl rfl (Nat.le_of_ble_eq_true rfl)) ?_
 intro _ A5 AJ V; clear J
 have AK : Sep NoB w A5 [(blk N 30 [(iv ((c_7 d_3 0 (150, 180)).1)), (iv ((c_7 d_3 0 (150, 180)).2))]), (d_5 true vt39 lr41 lb42 d_3.tabs), (f_0 true vm40 lk43 d_3.macs), (blk B 30 [(iv ((w_8 d_3 0).1)), (iv ((w_8 d_3 0).2))]), (d_5 true vt6 lr8 lb9 d_3.tabs), (f_0 true vm7 lk10 d_3.macs)] := AJ; clear AJ AI
 refine s1 V (a_0 rfl V.e) fun Am u => ?_; clear V Al
 refine n2 ?_
 have x := u.as [(4, (iv (l_0 d_3 0 (150, 180)))), (3, (bptr N 0)), (2, (iv (w_7 d_3 0))), (1, (bptr B 0))] rfl; clear u
 refine a_5 (s2 x (b_2 rfl en_46 ev0 (kept_ok _)) ?_)
 rintro An _ BN ⟨vt77, vm78, lr79, lb80, lk81, rfl, AP⟩ y; have AL := AK.y_3 AP rfl; clear AP x AK Am
 refine s1 y (e_1 rfl (pv2 (evc _ _) (evc _ _)) (bd_98_0i_1i _ _)) fun Ao W => ?_; clear y An
 refine s2 W (f_4 AL rfl (pv1 W.e) un_53 ty_98 ze_98 (by decide) (cs := [(iv 0), (iv 170)]) (bs_98_1_0iia _ _)) ?_
 rintro Ap _ BO ⟨At, rfl, C⟩ K; clear W AL Ao
 refine s2 K (b_2 rfl en_25 (ev2 K.e K.e) (Spans_ok d_3 vt77 vm78 lr79 lb80 lk81 _ (b_7 (C.ok 1 _ rfl)) (c_9 (C.ok 2 _ rfl)) kept_thin ([(0, 170)]) _ (SlAt.of_blk (C.bk 0 rfl) rfl (Nat.le_of_ble_eq_true rfl)) (by decide) ([(161, 164), (259, 266), (83, 87)]) kept_read kept_spans)) ?_
 rintro Aq _ A6 ⟨A, rfl, AQ⟩ X
 have AM : Sep NoB w A6 [(row A 30 2 ([(161, 164), (259, 266), (83, 87)].length) (pairs ([(161, 164), (259, 266), (83, 87)]))), (blk At 98 [(iv 0), (iv 170)]), (d_5 true vt77 lr79 lb80 d_3.tabs), (f_0 true vm78 lk81 d_3.macs), (blk N 30 [(iv ((c_7 d_3 0 (150, 180)).1)), (iv ((c_7 d_3 0 (150, 180)).2))]), (d_5 true vt39 lr41 lb42 d_3.tabs), (f_0 true vm40 lk43 d_3.macs), (blk B 30 [(iv ((w_8 d_3 0).1)), (iv ((w_8 d_3 0).2))]), (d_5 true vt6 lr8 lb9 d_3.tabs), (f_0 true vm7 lk10 d_3.macs)] := C.y_3 AQ rfl; clear AQ K C Ap
 refine s1 X (a_1 rfl X.e) fun Ar Y => ?_; clear X Aq
 refine s1 Y (e_7 rfl Y.e rfl) fun As D => ?_; clear Y Ar
 refine s1 D (e_7 rfl D.e rfl) fun AU E => ?_; clear D As
 refine s1 E (a_0 rfl E.e) fun AV F => ?_; clear E AU
 refine s1 F (a_0 rfl F.e) fun A8 b => ?_; clear F AV
 refine n2 ?_
 have c := b.as [(6, (iv 0)), (5, A), (4, (iv (l_0 d_3 0 (150, 180)))), (3, (bptr N 0)), (2, (iv (w_7 d_3 0))), (1, (bptr B 0))] rfl; clear b
 have d := c.as [(6, (iv 0)), (5, A), (4, (iv (l_0 d_3 0 (150, 180)))), (3, (bptr N 0)), (2, (iv (w_7 d_3 0))), (1, (bptr B 0))] rfl; clear c
 refine i_2 mixed d AM 46 [[], [0], [1], [2], [2], [2, 3, 4], [2, 5], [6], [7], [7, 8], [7, 9], [10], [11], [11], [11, 12, 13], [11, 14], [15], [16], [16, 17], [16, 18], [19], [20], [20, 21], [20, 22], [20, 23], [24], [25], [25, 26], [25, 27], [25], [25, 28, 29], [25, 30], [31], [32], [32, 33], [32, 34], [32], [32, 35, 36], [32, 37], [38], [39], [39, 40], [39, 41], [39], [39, 42, 43], [39, 44]] [(Yd.val (iv (w_7 d_3 0))), (Yd.val (Value.bool true)), (Yd.val (Value.bool true)), (Yd.val (Value.agg #[(iv ((w_8 d_3 0).1)), (iv ((w_8 d_3 0).2))])), (Yd.val (Value.agg #[(iv 6), (iv 9)])), (Yd.val (Value.bool true)), (Yd.val (Value.bool true)), (Yd.val (Value.bool true)), (Yd.val (iv (l_0 d_3 0 (150, 180)))), (Yd.val (Value.bool true)), (Yd.val (Value.bool true)), (Yd.val (Value.bool true)), (Yd.val (Value.agg #[(iv ((c_7 d_3 0 (150, 180)).1)), (iv ((c_7 d_3 0 (150, 180)).2))])), (Yd.val (Value.agg #[(iv 248), (iv 282)])), (Yd.val (Value.bool true)), (Yd.val (Value.bool true)), (Yd.val (Value.bool true)), (Yd.val (iv 0)), (Yd.val (Value.bool true)), (Yd.val (Value.bool true)), (Yd.val (Value.bool true)), (Yd.val A), (Yd.val (iv ([(161, 164), (259, 266), (83, 87)].length : Int))), (Yd.val (Value.bool true)), (Yd.val (Value.bool true)), (Yd.val (Value.bool true)), (Yd.val A), (Yd.val (eptr A (0 * 2))), (Yd.val (Value.agg #[(iv ((([(161, 164), (259, 266), (83, 87)]).getD 0 (0, 0)).1)), (iv ((([(161, 164), (259, 266), (83, 87)]).getD 0 (0, 0)).2))])), (Yd.val (Value.agg #[(iv 161), (iv 164)])), (Yd.val (Value.bool true)), (Yd.val (Value.bool true)), (Yd.val (Value.bool true)), (Yd.val A), (Yd.val (eptr A (1 * 2))), (Yd.val (Value.agg #[(iv ((([(161, 164), (259, 266), (83, 87)]).getD 1 (0, 0)).1)), (iv ((([(161, 164), (259, 266), (83, 87)]).getD 1 (0, 0)).2))])), (Yd.val (Value.agg #[(iv 259), (iv 266)])), (Yd.val (Value.bool true)), (Yd.val (Value.bool true)), (Yd.val (Value.bool true)), (Yd.val A), (Yd.val (eptr A (2 * 2))), (Yd.val (Value.agg #[(iv ((([(161, 164), (259, 266), (83, 87)]).getD 2 (0, 0)).1)), (iv ((([(161, 164), (259, 266), (83, 87)]).getD 2 (0, 0)).2))])), (Yd.val (Value.agg #[(iv 83), (iv 87)])), (Yd.val (Value.bool true)), (Yd.val (Value.bool true))] (by decide +kernel) rfl rfl ?_ ?_
 ·skip
  refine dq (fun a w hA hS hd => a_1 rfl hA.e) ?_
  refine ⟨fun a w hA hS hd => by have e0 := hx hd 0; exact d_6 rfl (dv (o_2 rfl (c_1 e0) (evc _ _)) hS (by show Value.bool _ = _; simp only [decide_eq_true (show (w_7 d_3 0) = 0 from (by decide)), decide_true, decide_false, Bool.not_true, Bool.not_false])), ?_⟩
  refine dq (fun a w hA hS hd => a_1 rfl (hq hd 1)) ?_
  refine dy 2 (fun a w hA hS hd => c_5 rfl f_5 (hA.ev rfl) (hS.bk 7 rfl) (l := [(iv ((w_8 d_3 0).1)), (iv ((w_8 d_3 0).2))]) rfl rfl) ?_
  refine ⟨fun a w hA hS hd => by have e2 := hx hd 2; exact h_3 rfl rfl e2 (dx (b_2 rfl z_0 (ev2 (evc _ _) (evc _ _)) (j_1 _ _ _)) hS (fun _ => rfl)), ?_⟩
  refine ⟨fun a w hA hS hd => by have e2 := hx hd 2; have e3 := hx hd 3; have e4 := hx hd 4; exact h_3 rfl rfl e2 (dv (op_eqlP tw_30 rfl (c_1 e3) (c_1 e4)) hS (by show Value.bool _ = _; simp only [(show (decide ((((w_8 d_3 0).1) : Int) = 6) && decide ((((w_8 d_3 0).2) : Int) = 9)) = true from (by decide)), decide_true, decide_false, Bool.not_true, Bool.not_false])), ?_⟩
  refine dq (fun a w hA hS hd => b_3 rfl (hq hd 2) (hq hd 5)) ?_
  refine dq (fun a w hA hS hd => a_1 rfl (hq hd 6)) ?_
  refine dy 7 (fun a w hA hS hd => a_1 rfl hA.e) ?_
  refine ⟨fun a w hA hS hd => by have e7 := hx hd 7; have e8 := hx hd 8; exact h_3 rfl rfl e7 (dv (o_2 rfl (c_1 e8) (evc _ _)) hS (by show Value.bool _ = _; simp only [decide_eq_true (show (l_0 d_3 0 (150, 180)) = 0 from (by decide)), decide_true, decide_false, Bool.not_true, Bool.not_false])), ?_⟩
  refine dq (fun a w hA hS hd => b_3 rfl (hq hd 7) (hq hd 9)) ?_
  refine dq (fun a w hA hS hd => a_1 rfl (hq hd 10)) ?_
  refine dy 11 (fun a w hA hS hd => c_5 rfl f_5 (hA.ev rfl) (hS.bk 4 rfl) (l := [(iv ((c_7 d_3 0 (150, 180)).1)), (iv ((c_7 d_3 0 (150, 180)).2))]) rfl rfl) ?_
  refine ⟨fun a w hA hS hd => by have j := hx hd 11; exact h_3 rfl rfl j (dx (b_2 rfl z_0 (ev2 (evc _ _) (evc _ _)) (j_1 _ _ _)) hS (fun _ => rfl)), ?_⟩
  refine ⟨fun a w hA hS hd => by have j := hx hd 11; have Au := hx hd 12; have Av := hx hd 13; exact h_3 rfl rfl j (dv (op_eqlP tw_30 rfl (c_1 Au) (c_1 Av)) hS (by show Value.bool _ = _; simp only [(show (decide ((((c_7 d_3 0 (150, 180)).1) : Int) = 248) && decide ((((c_7 d_3 0 (150, 180)).2) : Int) = 282)) = true from (by decide)), decide_true, decide_false, Bool.not_true, Bool.not_false])), ?_⟩
  refine dq (fun a w hA hS hd => b_3 rfl (hq hd 11) (hq hd 14)) ?_
  refine dq (fun a w hA hS hd => a_1 rfl (hq hd 15)) ?_
  refine dy 16 (fun a w hA hS hd => a_1 rfl hA.e) ?_
  refine dy 16 (fun a w hA hS hd => o_2 rfl (hq hd 17) (evc _ _)) ?_
  refine dq (fun a w hA hS hd => b_3 rfl (hq hd 16) (hq hd 18)) ?_
  refine dq (fun a w hA hS hd => a_1 rfl (hq hd 19)) ?_
  refine dy 20 (fun a w hA hS hd => a_1 rfl hA.e) ?_
  refine dy 20 (fun a w hA hS hd => e_0 rfl un_50 (hq hd 21) (SlAt.g_9 (hS.i_1 0 rfl))) ?_
  refine ⟨fun a w hA hS hd => by have Aw := hx hd 20; have Ax := hx hd 22; exact h_3 rfl rfl Aw (dv (o_2 rfl (c_1 Ax) (evc _ _)) hS (by show Value.bool _ = _; simp only [decide_eq_true (show ([(161, 164), (259, 266), (83, 87)].length : Int) = 3 from (by decide)), decide_true, decide_false, Bool.not_true, Bool.not_false])), ?_⟩
  refine dq (fun a w hA hS hd => b_3 rfl (hq hd 20) (hq hd 23)) ?_
  refine dq (fun a w hA hS hd => a_1 rfl (hq hd 24)) ?_
  refine dy 25 (fun a w hA hS hd => a_1 rfl hA.e) ?_
  refine dy 25 (fun a w hA hS hd => b_4 rfl un_50 f_5 (hq hd 26) (i := 0) (show _ = Value.int .i64 ((0 : Nat) : Int) from (evc _ _)) (SlAt.g_9 (hS.i_1 0 rfl)) (by decide) (by decide)) ?_
  refine dy 25 (fun a w hA hS hd => e_6 rfl f_5 (hq hd 27) (SlAt.g_9 (hS.i_1 0 rfl)) (h_4 (by decide)) rfl (by decide)) ?_
  refine ⟨fun a w hA hS hd => by have k := hx hd 25; exact h_3 rfl rfl k (dx (b_2 rfl z_0 (ev2 (evc _ _) (evc _ _)) (j_1 _ _ _)) hS (fun _ => rfl)), ?_⟩
  refine ⟨fun a w hA hS hd => by have k := hx hd 25; have Ay := hx hd 28; have Az := hx hd 29; exact h_3 rfl rfl k (dv (op_eqlP tw_30 rfl (c_1 Ay) (c_1 Az)) hS (by show Value.bool _ = _; simp only [(show (decide ((((([(161, 164), (259, 266), (83, 87)]).getD 0 (0, 0)).1) : Int) = 161) && decide ((((([(161, 164), (259, 266), (83, 87)]).getD 0 (0, 0)).2) : Int) = 164)) = true from (by decide)), decide_true, decide_false, Bool.not_true, Bool.not_false])), ?_⟩
  refine dq (fun a w hA hS hd => b_3 rfl (hq hd 25) (hq hd 30)) ?_
  refine dq (fun a w hA hS hd => a_1 rfl (hq hd 31)) ?_
  refine dy 32 (fun a w hA hS hd => a_1 rfl hA.e) ?_
  refine dy 32 (fun a w hA hS hd => b_4 rfl un_50 f_5 (hq hd 33) (i := 1) (show _ = Value.int .i64 ((1 : Nat) : Int) from (evc _ _)) (SlAt.g_9 (hS.i_1 0 rfl)) (by decide) (by decide)) ?_
  refine dy 32 (fun a w hA hS hd => e_6 rfl f_5 (hq hd 34) (SlAt.g_9 (hS.i_1 0 rfl)) (h_4 (by decide)) rfl (by decide)) ?_
  refine ⟨fun a w hA hS hd => by have m := hx hd 32; exact h_3 rfl rfl m (dx (b_2 rfl z_0 (ev2 (evc _ _) (evc _ _)) (j_1 _ _ _)) hS (fun _ => rfl)), ?_⟩
  refine ⟨fun a w hA hS hd => by have m := hx hd 32; have A0 := hx hd 35; have A1 := hx hd 36; exact h_3 rfl rfl m (dv (op_eqlP tw_30 rfl (c_1 A0) (c_1 A1)) hS (by show Value.bool _ = _; simp only [(show (decide ((((([(161, 164), (259, 266), (83, 87)]).getD 1 (0, 0)).1) : Int) = 259) && decide ((((([(161, 164), (259, 266), (83, 87)]).getD 1 (0, 0)).2) : Int) = 266)) = true from (by decide)), decide_true, decide_false, Bool.not_true, Bool.not_false])), ?_⟩
  refine dq (fun a w hA hS hd => b_3 rfl (hq hd 32) (hq hd 37)) ?_
  refine dq (fun a w hA hS hd => a_1 rfl (hq hd 38)) ?_
  refine dy 39 (fun a w hA hS hd => a_1 rfl hA.e) ?_
  refine dy 39 (fun a w hA hS hd => b_4 rfl un_50 f_5 (hq hd 40) (i := 2) (show _ = Value.int .i64 ((2 : Nat) : Int) from (evc _ _)) (SlAt.g_9 (hS.i_1 0 rfl)) (by decide) (by decide)) ?_
  refine dy 39 (fun a w hA hS hd => e_6 rfl f_5 (hq hd 41) (SlAt.g_9 (hS.i_1 0 rfl)) (h_4 (by decide)) rfl (by decide)) ?_
  refine ⟨fun a w hA hS hd => by have n := hx hd 39; exact h_3 rfl rfl n (dx (b_2 rfl z_0 (ev2 (evc _ _) (evc _ _)) (j_1 _ _ _)) hS (fun _ => rfl)), ?_⟩
  refine ⟨fun a w hA hS hd => by have n := hx hd 39; have A2 := hx hd 42; have A3 := hx hd 43; exact h_3 rfl rfl n (dv (op_eqlP tw_30 rfl (c_1 A2) (c_1 A3)) hS (by show Value.bool _ = _; simp only [(show (decide ((((([(161, 164), (259, 266), (83, 87)]).getD 2 (0, 0)).1) : Int) = 83) && decide ((((([(161, 164), (259, 266), (83, 87)]).getD 2 (0, 0)).2) : Int) = 87)) = true from (by decide)), decide_true, decide_false, Bool.not_true, Bool.not_false])), ?_⟩
  refine dq (fun a w hA hS hd => b_3 rfl (hq hd 39) (hq hd 44)) ?_
  trivial
 intro AW BG f AR h; clear d AM
 have G := f.add (hz h 45); clear f
 clear h
 refine s1 G (a_0 rfl G.e) fun A9 g => ?_; clear G AW
 exact n1 (c_2 (a_8 g (.inl rfl) (a_2 g rfl (.tmp rfl)) (⟨rfl, AR.ext⟩)))
end Go.Proofs.Ytohgladndklciaa

namespace Go.Proofs.Ytohgladndklciaa
open Go.RowKit Go.Shelf Go.Eng Go.Hard
theorem en_16 : ∀ args w, (callFunc 16 args).run Try.prog w = .ok (.enter 16 args) w := enters_of Try.func16 (by kernel_rfl) rfl
theorem en_17 : ∀ args w, (callFunc 17 args).run Try.prog w = .ok (.enter 17 args) w := enters_of Try.func17 (by kernel_rfl) rfl
theorem en_19 : ∀ args w, (callFunc 19 args).run Try.prog w = .ok (.enter 19 args) w := enters_of Try.func19 (by kernel_rfl) rfl
theorem un_3 : Try.prog.underlying 3 = some (.int .i64) := by kernel_rfl
theorem un_69 : Try.prog.underlying 69 = some (.int .u16) := by kernel_rfl
theorem ze_25 : (Try.prog.info? 25).bind (·.zero) = some (Value.agg #[(iv 0), (Value.slice none 0 0), (Value.slice none 0 0)]) := by kernel_rfl
theorem el_46 : elK Try.prog 46 = some ((Value.agg #[(iv 0), (iv 0), (Value.slice none 0 0), (Value.slice none 0 0), (iv 0)]), 5, 72) := by kernel_rfl
theorem bs_46_1_0iivvia (x0_0 : Int) (x0_1 : Int) (x0_2 : Value) (x0_3 : Value) (x0_4 : Int) : Instr.fill (fun i => some (i * 5, 5)) ((Array.range (1 * 5)).map ((Value.agg #[(iv 0), (iv 0), (Value.slice none 0 0), (Value.slice none 0 0), (iv 0)]).cells[· % (Value.agg #[(iv 0), (iv 0), (Value.slice none 0 0), (Value.slice none 0 0), (iv 0)]).cells.size]!)) [(0, .agg #[(.int .i64 x0_0), (.int .i64 x0_1), x0_2, x0_3, (.int .i64 x0_4)])] = some (([(.int .i64 x0_0), (.int .i64 x0_1), x0_2, x0_3, (.int .i64 x0_4)] : List Value).toArray) := by kernel_rfl
theorem bd_25_0i_1s (x0_0 : Int) (x1_0 : Value) (hx1_0 : IsSl x1_0) (w : World) : (Instr.build 25 #[(0, (.int .i64 x0_0)), (1, x1_0)]).run Try.prog w = .ok (.agg #[(.int .i64 x0_0), x1_0, (Value.slice none 0 0)]) w := by obtain ⟨Ax1_0, Bx1_0, Cx1_0, rfl⟩ := hx1_0; kernel_rfl
theorem bd_46_0i_1i (x0_0 : Int) (x1_0 : Int) (w : World) : (Instr.build 46 #[(0, (.int .i64 x0_0)), (1, (.int .i64 x1_0))]).run Try.prog w = .ok (.agg #[(.int .i64 x0_0), (.int .i64 x1_0), (Value.slice none 0 0), (Value.slice none 0 0), (iv 0)]) w := by kernel_rfl
theorem bd_75_0i_1i (x0_0 : Int) (x1_0 : Int) (w : World) : (Instr.build 75 #[(0, (.int .i64 x0_0)), (1, (.int .i64 x1_0))]).run Try.prog w = .ok (.agg #[(.int .i64 x0_0), (.int .i64 x1_0)]) w := by kernel_rfl
theorem bs_75_1_0iia (x0_0 : Int) (x0_1 : Int) : Instr.fill (fun i => some (i * 2, 2)) ((Array.range (1 * 2)).map ((Value.agg #[(iv 0), (iv 0)]).cells[· % (Value.agg #[(iv 0), (iv 0)]).cells.size]!)) [(0, .agg #[(.int .i64 x0_0), (.int .i64 x0_1)])] = some (([(.int .i64 x0_0), (.int .i64 x0_1)] : List Value).toArray) := by kernel_rfl
theorem el_75 : elK Try.prog 75 = some ((Value.agg #[(iv 0), (iv 0)]), 2, 16) := by kernel_rfl
theorem thin0_ok (b : h_5) (vt vm : Value) (lr lb lk : Nat → Value) (w : World) (hT : n_1 w vt lr lb b.tabs) (hM : o_4 w vm lk b.macs) : Calls Try.prog 16 #[.agg #[.int .i64 b.scales, vt, vm], .slice none 0 0] w (Ret fun v w' => v = .bool (z_5 b 0) ∧ Ext NoB w w') := thin_ok b vt vm lr lb lk w hT hM [] _ (slAt_nil w 2)
end Go.Proofs.Ytohgladndklciaa

namespace Go.Hard
section
variable {s t : g_6} {e f : Int} {k : Nat}
end
section
variable {b : h_5} {l : List (Int × Int)} {k j : Nat}
theorem span_y {r : Rng} (h0 : 0 ≤ r.1) (h1 : r.1 ≤ r.2) (h2 : r.2 ≤ 100000) : u_3 r = true := by
  unfold u_3 inB; simp only [Bool.and_eq_true, decide_eq_true_eq]; omega
variable {i : Nat}
end
end Go.Hard

namespace Go.Proofs.Ytohgladndklciaa
open Go.RowKit Go.Shelf Go.Eng Go.Hard
end Go.Proofs.Ytohgladndklciaa

namespace Go.Hard
section
variable {b : h_5} {l : List (Int × Int)} {z : List Int} {t : TabD} {k : Nat}
end
end Go.Hard

namespace Go.Hard
section
variable {n m next k : Nat} {p : List Int → Bool} {s : List Int} {l : List (Int × Int)} {b : h_5}
def Below0 (s : List Int) (k : Nat) : Prop := ∀ y ∈ s, (0 : Int) ≤ y ∧ y < (k : Int)
theorem Below0.nil : Below0 [] k := fun _ h => by cases h
end
end Go.Hard

namespace Go.Hard
section
variable {b b' : h_5} {l l' : List (Int × Int)} {s : g_6}
end
end Go.Hard

namespace Go.Hard
open Go.RowKit Go.Eng
section
variable {X : Nat → Prop} {w0 w : World} {L : List Res}
theorem sep_fact2 {r : Res} (h : Sep X w0 w L) (ho : r.own = false) (hr : r.p w) (hn : ∀ b, r.S b → ∃ (i : Nat) (s : Res), L[i]? = some s ∧ s.own = false ∧ s.S b) : Sep X w0 w (r :: L) :=
  h.fact ho hr fun b hb i s hi hs hbs => by
    obtain ⟨j, t, hj, ht, hbt⟩ := hn b hb
    have hij : i ≠ j := fun e => by subst e; rw [hi] at hj; cases hj; rw [hs] at ht; cases ht
    exact h.apart i j s t hij hi hj hs b hbs hbt
def RoSl (w : World) (L : List Res) (u : Value) (sz n : Nat) (cs : List Value) : Prop := SlAt w u sz n cs ∧ ∀ b, slFoot u cs b → ∃ (i : Nat) (s : Res), L[i]? = some s ∧ s.own = false ∧ s.S b
theorem roSl_sl {i : Nat} {u : Value} {sz n : Nat} {cs : List Value} (h : Sep X w0 w L) (hi : L[i]? = some (sl u sz n cs)) : RoSl w L u sz n cs := ⟨h.sk i hi, fun _ hb => ⟨i, _, hi, rfl, hb⟩⟩
theorem roSl_row {i q : Nat} {vt : Value} {lr lb : Nat → Value} {ts : List TabD} (h : Sep X w0 w L) (hi : L[i]? = some (d_5 false vt lr lb ts)) (hq : q < ts.length) : RoSl w L (lr q) 2 (j_6 ts q) (j_5 ts q) :=
  ⟨(b_7 (h.ok i _ hi)).rows q hq, fun _ hb => ⟨i, _, hi, rfl, .inr (.inl ⟨q, hq, hb⟩)⟩⟩
theorem roSl_brk {i q : Nat} {vt : Value} {lr lb : Nat → Value} {ts : List TabD} (h : Sep X w0 w L) (hi : L[i]? = some (d_5 false vt lr lb ts)) (hq : q < ts.length) : RoSl w L (lb q) 1 (brkN ts q) (brkC ts q) :=
  ⟨(b_7 (h.ok i _ hi)).brks q hq, fun _ hb => ⟨i, _, hi, rfl, .inr (.inr ⟨q, hq, hb⟩)⟩⟩
theorem sep_tabs_ro {v : Value} {e : Nat} {lr lb : Nat → Value} {ts : List TabD} (h : Sep X w0 w (row v e 5 ts.length (m_1 lr lb ts) :: L)) (hr : ∀ j, j < ts.length → RoSl w L (lr j) 2 (j_6 ts j) (j_5 ts j)) (hb : ∀ j, j < ts.length → RoSl w L (lb j) 1 (brkN ts j) (brkC ts j)) : Sep X w0 w (d_5 false v lr lb ts :: L) := by
  have h1 : Sep X w0 w (sl v 5 ts.length (m_1 lr lb ts) :: L) := sep_row_sl h (i := 0) rfl
  have h2 := sep_fact2 (r := d_5 false v lr lb ts) h1 rfl ⟨h1.sk 0 rfl, fun j hj => (hr j hj).1, fun j hj => (hb j hj).1⟩ (fun b hbb => by
    rcases hbb with hbb | ⟨j, hj, hbb⟩ | ⟨j, hj, hbb⟩
    · exact ⟨0, _, rfl, rfl, hbb⟩
    · obtain ⟨i, s, e1, e2, e3⟩ := (hr j hj).2 b hbb; exact ⟨i + 1, s, e1, e2, e3⟩
    · obtain ⟨i, s, e1, e2, e3⟩ := (hb j hj).2 b hbb; exact ⟨i + 1, s, e1, e2, e3⟩)
  have hp := List.pairwise_cons.1 h2.pw
  exact Sep.of_pw h2.ext (fun r hr => h2.mem (by rcases List.mem_cons.1 hr with rfl | hr <;> simp [*])) (fun r hr ho b hb => h2.mineM (by rcases List.mem_cons.1 hr with rfl | hr <;> simp [*]) ho b hb) (List.pairwise_cons.2 ⟨fun r hr => hp.1 r (List.mem_cons_of_mem _ hr), (List.pairwise_cons.1 hp.2).2⟩)
end
theorem getD_app2 {α : Type} {l m : List α} {d : α} {i : Nat} : (l ++ m).getD i d = if i < l.length then l.getD i d else m.getD (i - l.length) d := by
  split
  · rename_i h; simp [List.getD, List.getElem?_append_left h]
  · rename_i h; simp [List.getD, List.getElem?_append_right (by omega : l.length ≤ i)]
section
variable {lr lb lk : Nat → Value} {ts : List TabD} {ms : List MacD} {k : Nat}
end
section
variable {X : Nat → Prop} {w0 w : World} {L : List Res}
end
section
variable {b : h_5} {l : List (Int × Int)} {k : Nat}
theorem thin_of (h1 : b.tabs.length ≤ 9) (h2 : b.macs.length ≤ 9) (h3 : ∀ t ∈ b.tabs, t.rows.length ≤ 12 ∧ t.brk.length ≤ 12) (h4 : ∀ m ∈ b.macs, m.blocks.length ≤ 8) : q_8 b := by
  refine ⟨h1, h2, fun i => ?_, fun i => ?_⟩
  · by_cases hi : i < b.tabs.length
    · exact h3 _ (n_4 hi)
    · rw [getD_out (by omega)]; exact ⟨Nat.zero_le _, Nat.zero_le _⟩
  · by_cases hi : i < b.macs.length
    · exact h4 _ (n_4 hi)
    · rw [getD_out (by omega)]; exact Nat.zero_le _
theorem check_tabs (hc : f_6 b = 0) : (∀ t ∈ b.tabs, tabB b.scales t = true) ∧ ∀ m ∈ b.macs, macB b.scales m = true := by
  have hb := q_1 hc
  have g : e_9 b := ⟨hb.tlen, hb.mlen, fun i hi => hb.rows _ (n_4 hi), fun i hi => hb.blks _ (n_4 hi)⟩
  rw [n_8 g] at hc
  split at hc
  · cases hc
  · rename_i hn
    simp only [not_or, Bool.not_eq_false] at hn
    exact ⟨(q_4 (p := tabB b.scales) (d := tab0)).1 hn.2.1, (q_4 (p := macB b.scales) (d := mac0)).1 hn.2.2⟩
end
section
variable {b : h_5} {l : List (Int × Int)} {k : Nat} {bl : List (Int × Int × Int)}
end
end Go.Hard

namespace Go.Hard
open Go.RowKit Go.Eng
def withE (t : TabD) (e : Int) : TabD := { t with err := e }
section
variable {t : TabD} {e : Int} {n : Int} {s : g_6}
end
structure FinT (ts ts' : List TabD) : Prop where
  len : ts'.length = ts.length
  each : ∀ j, j < ts.length → ∃ e, 0 ≤ e ∧ e ≤ (ts.getD j tab0).err ∧ ts'.getD j tab0 = withE (ts.getD j tab0) e
theorem FinT.set {ts : List TabD} {k : Nat} {e : Int} (h : ∀ j, j < ts.length → 0 ≤ (ts.getD j tab0).err) (hk : k < ts.length) (h0 : 0 ≤ e) (h1 : e ≤ (ts.getD k tab0).err) : FinT ts (ts.set k { ts.getD k tab0 with err := e }) := by
  refine ⟨List.length_set .., fun j hj => ?_⟩
  by_cases c : j = k
  · subst c; exact ⟨e, h0, h1, by simp [List.getD, hj, withE]⟩
  · exact ⟨_, h j hj, Int.le_refl _, by simp only [List.getD, List.getElem?_set_ne (fun e' => c e'.symm)]; rfl⟩
section
variable {X : Nat → Prop} {w0 w : World} {L : List Res}
end
structure FinM (n : Int) (ms ms' : List MacD) : Prop where
  len : ms'.length = ms.length
  scale : ∀ j, (ms'.getD j mac0).scale = (ms.getD j mac0).scale
  bias : ∀ j, (d_9 (ms.getD j mac0)).1 ≤ (d_9 (ms'.getD j mac0)).1 ∧ (d_9 (ms'.getD j mac0)).2 ≤ (d_9 (ms.getD j mac0)).2
  macs : ∀ m ∈ ms', macB n m = true
  blks : ∀ m ∈ ms', m.blocks.length ≤ 5
theorem set_at {ms : List MacD} {k : Nat} {m : MacD} (hk : k < ms.length) (j : Nat) : (ms.set k m).getD j mac0 = if j = k then m else ms.getD j mac0 := by
  by_cases e : j = k
  · subst e; rw [if_pos rfl]; simp [List.getD, hk]
  · rw [if_neg e]; simp [List.getD, List.getElem?_set_ne (fun e' => e e'.symm)]
theorem FinM.set {n : Int} {ms : List MacD} {k : Nat} {bl : List (Int × Int × Int)} (h1 : ∀ m ∈ ms, macB n m = true) (h2 : ∀ m ∈ ms, m.blocks.length ≤ 5) (hk : k < ms.length) (h3 : bl.length ≤ 5) (h4 : ∀ x ∈ bl, blkB x = true)
    (h5 : (d_9 (ms.getD k mac0)).1 ≤ (d_9 ⟨(ms.getD k mac0).scale, bl⟩).1 ∧ (d_9 ⟨(ms.getD k mac0).scale, bl⟩).2 ≤ (d_9 (ms.getD k mac0)).2) : FinM n ms (ms.set k ⟨(ms.getD k mac0).scale, bl⟩) := by
  refine ⟨List.length_set .., fun j => ?_, fun j => ?_, fun m hm => ?_, fun m hm => ?_⟩
  · rw [set_at hk]; split
    · rename_i e; subst e; rfl
    · rfl
  · rw [set_at hk]; split
    · rename_i e; subst e; exact h5
    · exact ⟨Int.le_refl _, Int.le_refl _⟩
  · rcases List.mem_or_eq_of_mem_set hm with h | h
    · exact h1 m h
    · rw [h]
      have := h1 _ (n_4 (d := mac0) hk)
      unfold macB at this ⊢
      rw [Bool.and_eq_true] at this ⊢
      exact ⟨this.1, (q_4 (p := blkB) (d := (0, 0, 0))).2 h4⟩
  · rcases List.mem_or_eq_of_mem_set hm with h | h
    · exact h2 m h
    · rw [h]; exact h3
section
variable {b b2 : h_5} {l l2 : List (Int × Int)} {ts : List TabD} {ms : List MacD}
end
end Go.Hard

namespace Go.Hard
open Go.RowKit Go.Eng
section
variable {b : h_5} {l ox : List (Int × Int)} {tsx : List TabD} {msx : List MacD}
variable {X : Nat → Prop} {w0 w : World} {L : List Res}
theorem snoc_ro {i j k : Nat} {vt : Value} {lr lb : Nat → Value} {ts : List TabD} {tb : TabD} {vr vb : Value} (h : Sep X w0 w L) (hi : L[i]? = some (d_5 false vt lr lb ts)) (hj : L[j]? = some (sl vr 2 tb.rows.length (pairs tb.rows))) (hk : L[k]? = some (sl vb 1 tb.brk.length (ints tb.brk))) :
    (∀ q, q < (ts ++ [tb]).length → RoSl w L (putV ts.length lr vr q) 2 (j_6 (ts ++ [tb]) q) (j_5 (ts ++ [tb]) q)) ∧ ∀ q, q < (ts ++ [tb]).length → RoSl w L (putV ts.length lb vb q) 1 (brkN (ts ++ [tb]) q) (brkC (ts ++ [tb]) q) := by
  have e1 : ∀ q, q < ts.length → (ts ++ [tb]).getD q tab0 = ts.getD q tab0 := fun q hq => by rw [getD_app2, if_pos hq]
  have e2 : (ts ++ [tb]).getD ts.length tab0 = tb := by rw [getD_app2, if_neg (by omega), Nat.sub_self]; rfl
  constructor <;> intro q hq <;> rw [List.length_append, List.length_singleton] at hq <;> by_cases c : q < ts.length
  · rw [show j_6 (ts ++ [tb]) q = j_6 ts q by unfold j_6; rw [e1 q c], show j_5 (ts ++ [tb]) q = j_5 ts q by unfold j_5; rw [e1 q c], show putV ts.length lr vr q = lr q by unfold putV; rw [if_neg (by omega)]]
    exact roSl_row h hi c
  · obtain rfl : q = ts.length := by omega
    rw [show j_6 (ts ++ [tb]) ts.length = tb.rows.length by unfold j_6; rw [e2], show j_5 (ts ++ [tb]) ts.length = pairs tb.rows by unfold j_5; rw [e2], r_6]
    exact roSl_sl h hj
  · rw [show brkN (ts ++ [tb]) q = brkN ts q by unfold brkN; rw [e1 q c], show brkC (ts ++ [tb]) q = brkC ts q by unfold brkC; rw [e1 q c], show putV ts.length lb vb q = lb q by unfold putV; rw [if_neg (by omega)]]
    exact roSl_brk h hi c
  · obtain rfl : q = ts.length := by omega
    rw [show brkN (ts ++ [tb]) ts.length = tb.brk.length by unfold brkN; rw [e2], show brkC (ts ++ [tb]) ts.length = ints tb.brk by unfold brkC; rw [e2], r_6]
    exact roSl_sl h hk
end
end Go.Hard

namespace Go.Hard
open Go.RowKit Go.Eng
theorem exact_div {N D q : Int} (hD : 0 < D) (h1 : q = N / D) (h2 : q = -(-N / D)) : N = D * q := by
  have a := Int.mul_ediv_self_le (x := N) (k := D) (by omega)
  have b := Int.mul_ediv_self_le (x := -N) (k := D) (by omega)
  rw [show -N / D = -q by omega, Int.mul_neg] at b
  rw [← h1] at a
  omega
theorem turn_up {a b c d q v : Int} (h1 : a < v) (h2 : v < b) (h3 : c < d) (h : (v - a) * (d - c) = (b - a) * q) :
    c < c + q ∧ c + q < d ∧ (c + q - c) * (b - a) / (d - c) = v - a ∧ -(-((c + q - c) * (b - a)) / (d - c)) = v - a := by
  have hq : 0 < (b - a) * q := by rw [← h]; exact Int.mul_pos (by omega) (by omega)
  have q0 : 0 < q := Int.lt_of_mul_lt_mul_left (a := b - a) (by rw [Int.mul_zero]; exact hq) (by omega)
  have hlt : (b - a) * q < (b - a) * (d - c) := by rw [← h]; exact Int.mul_lt_mul_of_pos_right (by omega) (by omega)
  have q1 : q < d - c := Int.lt_of_mul_lt_mul_left hlt (by omega)
  have e : (c + q - c) * (b - a) = (v - a) * (d - c) := by rw [h, show c + q - c = q by omega, Int.mul_comm]
  refine ⟨by omega, by omega, ?_, ?_⟩
  · rw [e, Int.mul_ediv_cancel _ (by omega)]
  · rw [e, ← Int.neg_mul, Int.mul_ediv_cancel _ (by omega)]; omega
theorem turn_down {a b c d q v : Int} (h1 : a < v) (h2 : v < b) (h3 : d < c) (h : (v - a) * (d - c) = (b - a) * q) :
    d < c + q ∧ c + q < c ∧ (c + q - d) * (a - b) / (c - d) = v - b ∧ -(-((c + q - d) * (a - b)) / (c - d)) = v - b := by
  have hq : 0 < (b - a) * -q := by rw [Int.mul_neg, ← h, ← Int.mul_neg]; exact Int.mul_pos (by omega) (by omega)
  have q0 : 0 < -q := Int.lt_of_mul_lt_mul_left (a := b - a) (by rw [Int.mul_zero]; exact hq) (by omega)
  have hlt : (b - a) * -q < (b - a) * (c - d) := by rw [Int.mul_neg, ← h, ← Int.mul_neg, show -(d - c) = c - d by omega]; exact Int.mul_lt_mul_of_pos_right (by omega) (by omega)
  have q1 : -q < c - d := Int.lt_of_mul_lt_mul_left hlt (by omega)
  have e : (c + q - d) * (a - b) = (v - b) * (c - d) := by
    have e1 : (c + q - d) * (a - b) = (c - d) * (a - b) - (b - a) * q := by
      rw [show c + q - d = (c - d) + q by omega, Int.add_mul, show q * (a - b) = -((b - a) * q) by rw [Int.mul_comm, ← Int.neg_mul]; congr 1; omega]; omega
    rw [e1, ← h, show (v - a) * (d - c) = -((c - d) * (v - a)) by rw [Int.mul_comm, ← Int.neg_mul]; congr 1; omega, Int.sub_neg, ← Int.mul_add, Int.mul_comm]; congr 1; omega
  refine ⟨by omega, by omega, ?_, ?_⟩
  · rw [e, Int.mul_ediv_cancel _ (by omega)]
  · rw [e, ← Int.neg_mul, Int.mul_ediv_cancel _ (by omega)]; omega
def x_8 (t : TabD) : Bool := decide (ty t 1 < ty t 0)
def z_6 (t : TabD) : List (Int × Int) := if x_8 t = true then t.rows.reverse else t.rows
def turnX (t : TabD) (x : Int) : Int := (t.rows.length : Int) - 1 - 1 - x
def l_7 (t : TabD) (k : Nat) : List (Int × Int) := ((z_6 t).take k).map fun r => (r.2, r.1)
def brkU (t : TabD) (k : Nat) : List Int := if x_8 t = true then ((t.brk.take k).map (turnX t)).reverse else t.brk.take k
def fwdT (t : TabD) : TabD := ⟨0, 1, t.rows, t.brk, 0⟩
def g_4 (t : TabD) : TabD := ⟨1, 0, l_7 t t.rows.length, brkU t t.brk.length, 0⟩
def j_9 (t : TabD) : h_5 := ⟨2, [fwdT t], []⟩
def a_9 (t : TabD) : h_5 := ⟨2, [fwdT t, g_4 t], []⟩
section
variable {t : TabD} {k i : Nat} {v y : Int}
theorem turn_len (t : TabD) : (z_6 t).length = t.rows.length := by unfold z_6; split <;> simp
theorem rowsU_len (h : k ≤ t.rows.length) : (l_7 t k).length = k := by unfold l_7; rw [List.length_map, List.length_take, turn_len]; omega
theorem turn_f (h : ¬ ty t 1 < ty t 0) : (z_6 t).getD k (0, 0) = t.rows.getD k (0, 0) := by
  unfold z_6; rw [if_neg (by unfold x_8; rw [decide_eq_true_eq]; exact h)]
theorem turn_t (h : ty t 1 < ty t 0) (hk : k < t.rows.length) : (z_6 t).getD k (0, 0) = t.rows.getD (t.rows.length - 1 - k) (0, 0) := by
  unfold z_6; rw [if_pos (by unfold x_8; rw [decide_eq_true_eq]; exact h)]
  simp only [List.getD, List.getElem?_reverse hk]
theorem rowsU_succ (hk : k < t.rows.length) {r : Int × Int} (hr : (z_6 t).getD k (0, 0) = r) : l_7 t k ++ [(r.2, r.1)] = l_7 t (k + 1) := by
  have hk' : k < (z_6 t).length := by rw [turn_len]; exact hk
  unfold l_7
  rw [List.take_add_one, List.getElem?_eq_getElem hk', Option.toList_some, List.map_append, ← hr]
  simp [List.getD, List.getElem?_eq_getElem hk']
theorem brkU_zero : brkU t 0 = [] := by unfold brkU; split <;> rfl
theorem brkU_len (h : k ≤ t.brk.length) : (brkU t k).length = k := by unfold brkU; split <;> simp <;> omega
theorem brkU_f (h : ¬ ty t 1 < ty t 0) (hk : k < t.brk.length) : brkU t k ++ [t.brk.getD k 0] = brkU t (k + 1) := by
  unfold brkU; rw [if_neg (by unfold x_8; rw [decide_eq_true_eq]; exact h), if_neg (by unfold x_8; rw [decide_eq_true_eq]; exact h)]
  rw [List.take_add_one, List.getD, List.getElem?_eq_getElem hk]; rfl
theorem brkU_t (h : ty t 1 < ty t 0) (hk : k < t.brk.length) : [turnX t (t.brk.getD k 0)] ++ brkU t k = brkU t (k + 1) := by
  unfold brkU; rw [if_pos (by unfold x_8; rw [decide_eq_true_eq]; exact h), if_pos (by unfold x_8; rw [decide_eq_true_eq]; exact h)]
  rw [List.take_add_one, List.getD, List.getElem?_eq_getElem hk, List.map_append, List.reverse_append]; rfl
theorem k_6 : (g_4 t).rows.length = t.rows.length := rowsU_len (Nat.le_refl _)
theorem back_at (hi : i < t.rows.length) : (g_4 t).rows.getD i (0, 0) = (((z_6 t).getD i (0, 0)).2, ((z_6 t).getD i (0, 0)).1) := by
  have hi' : i < (z_6 t).length := by rw [turn_len]; exact hi
  show (l_7 t t.rows.length).getD i (0, 0) = _
  unfold l_7
  rw [List.take_of_length_le (by rw [turn_len]; exact Nat.le_refl _)]
  simp [List.getD, List.getElem?_eq_getElem hi']
theorem x_0 (h : ¬ ty t 1 < ty t 0) (hi : i < t.rows.length) : tx (g_4 t) i = ty t i ∧ ty (g_4 t) i = tx t i := by
  unfold tx ty; rw [back_at hi, turn_f h]; exact ⟨rfl, rfl⟩
theorem q_5 (h : ty t 1 < ty t 0) (hi : i < t.rows.length) : tx (g_4 t) i = ty t (t.rows.length - 1 - i) ∧ ty (g_4 t) i = tx t (t.rows.length - 1 - i) := by
  unfold tx ty; rw [back_at hi, turn_t h hi]; exact ⟨rfl, rfl⟩
theorem back_brk_up (h : ¬ ty t 1 < ty t 0) : (g_4 t).brk = t.brk := by
  show brkU t t.brk.length = _
  unfold brkU; rw [if_neg (by unfold x_8; rw [decide_eq_true_eq]; exact h), List.take_length]
theorem back_brk_down (h : ty t 1 < ty t 0) : (g_4 t).brk = (t.brk.map (turnX t)).reverse := by
  show brkU t t.brk.length = _
  unfold brkU; rw [if_pos (by unfold x_8; rw [decide_eq_true_eq]; exact h), List.take_length]
theorem back_brk_at (h : ty t 1 < ty t 0) (hi : i < t.brk.length) : (g_4 t).brk.getD i 0 = turnX t (t.brk.getD (t.brk.length - 1 - i) 0) := by
  rw [back_brk_down h]
  have h2 : t.brk.length - 1 - i < t.brk.length := by omega
  simp only [List.getD, List.getElem?_reverse (show i < (t.brk.map (turnX t)).length by rw [List.length_map]; exact hi), List.length_map, List.getElem?_map, List.getElem?_eq_getElem h2, Option.map_some, Option.getD_some]
section
variable (hV : TabV 2 (fwdT t))
include hV
theorem fwd_up (h : ¬ ty t 1 < ty t 0) : ∀ i, i + 1 < t.rows.length → ty t i < ty t (i + 1) := by
  rcases hV.rows.y with hy | hy
  · exact hy
  · have hl := hV.len
    exact absurd (hy 0 hl) h
theorem fwd_down (h : ty t 1 < ty t 0) : ∀ i, i + 1 < t.rows.length → ty t (i + 1) < ty t i := by
  rcases hV.rows.y with hy | hy
  · have hl := hV.len
    have := hy 0 hl
    have e1 : ty (fwdT t) 0 = ty t 0 := rfl
    have e2 : ty (fwdT t) (0 + 1) = ty t 1 := rfl
    omega
  · exact hy
theorem fwd_x : ∀ i, i + 1 < t.rows.length → tx t i < tx t (i + 1) := hV.rows.x
theorem back_tab (hb : tabB 2 (fwdT t) = true) : tabB 2 (g_4 t) = true := by
  have g := t_5.1 hb
  have hx := fwd_x hV
  have hl := hV.len
  have hbk := brk_ok (t := fwdT t) (h_9.2 g.2.2.2.2.2.2.2)
  have hbd := hV.bnd
  have e1 : ∀ i, tx (fwdT t) i = tx t i := fun _ => rfl
  have e2 : ∀ i, ty (fwdT t) i = ty t i := fun _ => rfl
  have e3 : (fwdT t).rows.length = t.rows.length := rfl
  have e4 : (fwdT t).brk = t.brk := rfl
  rw [e3] at hl hbd hbk
  rw [e4] at hbk
  simp only [e1, e2] at hbd
  refine t_5.2 ⟨show inB 1 0 (2 - 1) = true by decide, show inB 0 0 (2 - 1) = true by decide, show (1 : Int) ≠ 0 by decide, show inB 0 0 1000 = true by decide, by rw [k_6]; omega, fun i hi => ?_, fun i hi => ?_, fun i hi => ?_⟩
  · rw [k_6] at hi
    have : rowB (tx (g_4 t) i, ty (g_4 t) i) = true := by
      by_cases h : ty t 1 < ty t 0
      · have a := q_5 h hi
        have b := hbd (t.rows.length - 1 - i) (by omega)
        rw [a.1, a.2]; unfold rowB; rw [Bool.and_eq_true, g_7, g_7]; dsimp only; omega
      · have a := x_0 h hi
        have b := hbd i hi
        rw [a.1, a.2]; unfold rowB; rw [Bool.and_eq_true, g_7, g_7]; dsimp only; omega
    exact this
  · rw [k_6] at hi
    have : x_7 (w_3 (g_4 t)) (tx (g_4 t) i, ty (g_4 t) i) (tx (g_4 t) (i + 1), ty (g_4 t) (i + 1)) = true := by
      by_cases h : ty t 1 < ty t 0
      · have a := q_5 h (show i < t.rows.length by omega)
        have b := q_5 h (show i + 1 < t.rows.length by omega)
        have c := q_5 h (show 0 < t.rows.length by omega)
        have d := q_5 h (show 1 < t.rows.length by omega)
        have y := fwd_down hV h (t.rows.length - 1 - (i + 1)) (by omega)
        have x := hx (t.rows.length - 1 - (i + 1)) (by omega)
        have x0 := hx (t.rows.length - 1 - 1) (by omega)
        rw [show t.rows.length - 1 - (i + 1) + 1 = t.rows.length - 1 - i by omega] at x y
        rw [show t.rows.length - 1 - 1 + 1 = t.rows.length - 1 - 0 by omega] at x0
        refine step_y (by dsimp only; omega) (by dsimp only; omega) ?_
        unfold w_3
        rw [decide_eq_false (by dsimp only; omega), decide_eq_false (by omega)]
      · have a := x_0 h (show i < t.rows.length by omega)
        have b := x_0 h (show i + 1 < t.rows.length by omega)
        have c := x_0 h (show 0 < t.rows.length by omega)
        have d := x_0 h (show 1 < t.rows.length by omega)
        have y := fwd_up hV h i (by omega)
        have x := hx i (by omega)
        have x0 := hx 0 (by omega)
        rw [Nat.zero_add] at x0
        refine step_y (by dsimp only; omega) (by dsimp only; omega) ?_
        unfold w_3
        rw [decide_eq_true (by dsimp only; omega), decide_eq_true (by omega)]
    exact this
  · have hbl : (g_4 t).brk.length = t.brk.length := brkU_len (Nat.le_refl _)
    rw [hbl] at hi
    by_cases h : ty t 1 < ty t 0
    · have a := back_brk_at h hi
      have b := hbk (t.brk.length - 1 - i) (by omega)
      unfold turnX at a
      cases i with
      | zero => exact brk_y0 (g_7.2 (by rw [k_6]; omega))
      | succ j =>
        have a2 := back_brk_at h (show j < t.brk.length by omega)
        have b2 := hbk (t.brk.length - 1 - j) (by omega)
        unfold turnX at a2
        have c := b2.2.2 (by omega)
        rw [show t.brk.length - 1 - j - 1 = t.brk.length - 1 - (j + 1) by omega] at c
        exact brk_y1 (g_7.2 (by rw [k_6]; omega)) (by omega)
    · have b := hbk i hi
      have e := back_brk_up h
      cases i with
      | zero => exact brk_y0 (g_7.2 (by rw [k_6, e]; omega))
      | succ j =>
        have c := b.2.2 (by omega)
        exact brk_y1 (g_7.2 (by rw [k_6, e]; omega)) (by rw [e]; exact c)
theorem back_made (h : y_8 (fwdT t) v y y) : y_8 (g_4 t) y v v := by
  have hx := fwd_x hV
  by_cases hf : ty t 1 < ty t 0
  · cases h with
    | row i hi hx' h1 h2 =>
      have hi' : i < t.rows.length := hi
      have a := q_5 hf (show t.rows.length - 1 - i < t.rows.length by omega)
      rw [show t.rows.length - 1 - (t.rows.length - 1 - i) = i by omega] at a
      have e1 : tx t i = v := hx'
      have e2 : y = ty t i := h1
      exact .row (t.rows.length - 1 - i) (by rw [k_6]; omega) (by rw [a.1, e2]) (by rw [a.2, e1]) (by rw [a.2, e1])
    | piece i hi ha hb hB h1 h2 =>
      have hi' : i + 1 < t.rows.length := hi
      have ha' : tx t i < v := ha
      have hb' : v < tx t (i + 1) := hb
      have g1 : y = ty t i + (v - tx t i) * (ty t (i + 1) - ty t i) / (tx t (i + 1) - tx t i) := h1
      have g2 : y = ty t i + -(-((v - tx t i) * (ty t (i + 1) - ty t i)) / (tx t (i + 1) - tx t i)) := h2
      have ex := exact_div (N := (v - tx t i) * (ty t (i + 1) - ty t i)) (q := y - ty t i) (show 0 < tx t (i + 1) - tx t i by omega) (by omega) (by omega)
      have k := turn_down ha' hb' (fwd_down hV hf i hi') ex
      have e0 : ty t i + (y - ty t i) = y := by omega
      rw [e0] at k
      have a := q_5 hf (show t.rows.length - 2 - i < t.rows.length by omega)
      have b := q_5 hf (show t.rows.length - 2 - i + 1 < t.rows.length by omega)
      rw [show t.rows.length - 1 - (t.rows.length - 2 - i) = i + 1 by omega] at a
      rw [show t.rows.length - 1 - (t.rows.length - 2 - i + 1) = i by omega] at b
      refine .piece (t.rows.length - 2 - i) (by rw [k_6]; omega) (by rw [a.1]; exact k.1) (by rw [b.1]; exact k.2.1) ?_ ?_ ?_
      · intro hbr
        unfold broken at hbr hB
        rw [back_brk_down hf, List.mem_reverse, List.mem_map] at hbr
        obtain ⟨c, hc, e⟩ := hbr
        unfold turnX at e
        have : c = (i : Int) := by omega
        rw [this] at hc
        exact hB hc
      · rw [a.1, a.2, b.1, b.2, k.2.2.1]; omega
      · rw [a.1, a.2, b.1, b.2, k.2.2.2]; omega
  · cases h with
    | row i hi hx' h1 h2 =>
      have hi' : i < t.rows.length := hi
      have a := x_0 hf hi'
      have e1 : tx t i = v := hx'
      have e2 : y = ty t i := h1
      exact .row i (by rw [k_6]; omega) (by rw [a.1, e2]) (by rw [a.2, e1]) (by rw [a.2, e1])
    | piece i hi ha hb hB h1 h2 =>
      have hi' : i + 1 < t.rows.length := hi
      have ha' : tx t i < v := ha
      have hb' : v < tx t (i + 1) := hb
      have g1 : y = ty t i + (v - tx t i) * (ty t (i + 1) - ty t i) / (tx t (i + 1) - tx t i) := h1
      have g2 : y = ty t i + -(-((v - tx t i) * (ty t (i + 1) - ty t i)) / (tx t (i + 1) - tx t i)) := h2
      have ex := exact_div (N := (v - tx t i) * (ty t (i + 1) - ty t i)) (q := y - ty t i) (show 0 < tx t (i + 1) - tx t i by omega) (by omega) (by omega)
      have k := turn_up ha' hb' (fwd_up hV hf i hi') ex
      have e0 : ty t i + (y - ty t i) = y := by omega
      rw [e0] at k
      have a := x_0 hf (show i < t.rows.length by omega)
      have b := x_0 hf hi'
      refine .piece i (by rw [k_6]; omega) (by rw [a.1]; exact k.1) (by rw [b.1]; exact k.2.1) ?_ ?_ ?_
      · intro hbr
        unfold broken at hbr hB
        rw [back_brk_up hf] at hbr
        exact hB hbr
      · rw [a.1, a.2, b.1, b.2, k.2.2.1]; omega
      · rw [a.1, a.2, b.1, b.2, k.2.2.2]; omega
end
end
theorem conv_at {n : Int} {t : TabD} {v lo hi : Int} (hV : TabV n t) (h : y_8 t v lo hi) : o_9 t (v, v) = true := by
  have hx := hV.rows.x
  refine u_7.2 ?_
  dsimp only
  cases h with
  | row i hi' e h1 h2 =>
    subst e
    refine ⟨j_2 hx (Nat.zero_le _) hi', j_2 hx (by omega) (by omega), fun b hb => ?_⟩
    have := hV.brk b hb
    rcases Nat.lt_or_ge b.toNat i with c | c
    · exact .inr (j_2 hx c hi')
    · exact .inl (j_2 hx c (by omega))
  | piece i hi' ha hb hB h1 h2 =>
    have a := j_2 hx (Nat.zero_le i) (by omega)
    have b := j_2 hx (show i + 1 ≤ t.rows.length - 1 by omega) (by omega)
    refine ⟨by omega, by omega, fun c hc => ?_⟩
    have := hV.brk c hc
    rcases Nat.lt_or_ge c.toNat i with d | d
    · have := j_2 hx (show c.toNat + 1 ≤ i by omega) (by omega); exact .inr (by omega)
    · rcases Nat.eq_or_lt_of_le d with d | d
      · refine absurd ?_ hB
        unfold broken
        rw [show ((i : Nat) : Int) = c by omega]; exact hc
      · have := j_2 hx (show i + 1 ≤ c.toNat by omega) (by omega); exact .inl (by omega)
theorem made_near {n : Int} {t : TabD} {v lo hi : Int} (hV : TabV n t) (h : y_8 t v lo hi) : hi = lo ∨ hi = lo + 1 := by
  have hle := hV.rows.le h
  cases h with
  | row i hi' e h1 h2 => exact .inl (by omega)
  | piece i hi' ha hb hB h1 h2 =>
    have hd := hV.rows.x i hi'
    have a := Int.lt_mul_ediv_self_add (x := (v - tx t i) * (ty t (i + 1) - ty t i)) (show 0 < tx t (i + 1) - tx t i by omega)
    have b := Int.lt_mul_ediv_self_add (x := -((v - tx t i) * (ty t (i + 1) - ty t i))) (show 0 < tx t (i + 1) - tx t i by omega)
    have c : (tx t (i + 1) - tx t i) * -2 < (tx t (i + 1) - tx t i) * ((v - tx t i) * (ty t (i + 1) - ty t i) / (tx t (i + 1) - tx t i) + -((v - tx t i) * (ty t (i + 1) - ty t i)) / (tx t (i + 1) - tx t i)) := by
      rw [Int.mul_add]; omega
    have := Int.lt_of_mul_lt_mul_left c (by omega)
    omega
section
variable {t : TabD} {v : Int}
theorem back_check (hc : f_6 (j_9 t) = 0) : f_6 (a_9 t) = 0 := by
  have hb := q_1 hc
  have ht := (check_tabs hc).1 (fwdT t) (List.mem_singleton.2 rfl)
  have hV := hb.tabs (fwdT t) (List.mem_singleton.2 rfl)
  have hr := hb.rows (fwdT t) (List.mem_singleton.2 rfl)
  refine r_0 (b := a_9 t) ⟨show 2 ≤ 6 by decide, show 0 ≤ 6 by decide, fun i hi => ?_, fun i hi => absurd hi (Nat.not_lt_zero _)⟩ (show inB 2 1 4 = true by decide) (fun i hi => ?_) fun i hi => absurd hi (Nat.not_lt_zero _)
  · have hi : i < 2 := hi
    match i, hi with
    | 0, _ => exact hr
    | 1, _ => show (g_4 t).rows.length ≤ 8; rw [k_6]; exact hr
  · have hi : i < 2 := hi
    match i, hi with
    | 0, _ => exact ht
    | 1, _ => exact back_tab hV ht
theorem back_thin (h : q_8 (j_9 t)) : q_8 (a_9 t) := by
  have h0 := h.tab 0
  have h0 : t.rows.length ≤ 12 ∧ t.brk.length ≤ 12 := h0
  refine thin_of (b := a_9 t) (by show 2 ≤ 9; decide) (by show 0 ≤ 9; decide) (fun u hu => ?_) fun m hm => by cases hm
  have hu : u ∈ [fwdT t, g_4 t] := hu
  rcases List.mem_cons.1 hu with rfl | hu
  · exact h0
  · rw [List.mem_singleton.1 hu]
    exact ⟨by rw [k_6]; exact h0.1, by show (brkU t t.brk.length).length ≤ 12; rw [brkU_len (Nat.le_refl _)]; exact h0.2⟩
theorem back_one (hc : f_6 (j_9 t) = 0) (h0 : 0 ≤ v) (h1 : v ≤ 100000) :
    l_0 (a_9 t) 0 (v, v) = 10 ∨ (l_0 (a_9 t) 0 (v, v) = 0 ∧ (c_7 (a_9 t) 0 (v, v)).2 = (c_7 (a_9 t) 0 (v, v)).1 + 1 ∧ 0 ≤ (c_7 (a_9 t) 0 (v, v)).1 ∧ (c_7 (a_9 t) 0 (v, v)).1 ≤ 100000) ∨
      l_0 (a_9 t) 0 (v, v) = 0 ∧ ∃ y, c_7 (a_9 t) 0 (v, v) = (y, y) ∧ l_0 (a_9 t) 1 (y, y) = 0 ∧ c_7 (a_9 t) 1 (y, y) = (v, v) := by
  have hc2 := back_check hc
  have hV := (q_1 hc).tabs (fwdT t) (List.mem_singleton.2 rfl)
  have hV2 := (q_1 hc2).tabs (g_4 t) (List.mem_cons_of_mem _ (List.mem_singleton.2 rfl))
  cases hv : o_9 (fwdT t) (v, v) with
  | false => exact .inl (convE_10 hc2 (show inB 0 0 (((2 : Nat) : Int) - 1) = true by decide) (span_y h0 (Int.le_refl _) h1) hv)
  | true =>
    have e := convE_0 (b := a_9 t) (i := 0) (r := (v, v)) hc2 (show inB 0 0 (((2 : Nat) : Int) - 1) = true by decide) (span_y h0 (Int.le_refl _) h1) hv
    obtain ⟨r, hm, hcv⟩ := conv_point hV hv
    have hr : c_7 (a_9 t) 0 (v, v) = r := by
      rw [convR_y e]
      show k_2 (fwdT t) (v, v) = r
      rw [hcv]
      show (r.1 - 0, r.2 + 0) = r
      rw [Int.sub_zero, Int.add_zero]
    have hM := made_is hm
    rcases made_near hV hM with hn | hn
    · refine .inr (.inr ⟨e, r.1, by rw [hr]; exact Prod.ext rfl hn, ?_⟩)
      have hM2 : y_8 (fwdT t) v r.1 r.1 := by rw [hn] at hM; exact hM
      have hbk := back_made hV hM2
      have hcb := conv_at hV2 hbk
      have hbd := made_bd hV hM2
      have e2 := convE_0 (b := a_9 t) (i := 1) (r := (r.1, r.1)) hc2 (show inB 1 0 (((2 : Nat) : Int) - 1) = true by decide) (span_y (by dsimp only; omega) (Int.le_refl _) (by dsimp only; omega)) hcb
      refine ⟨e2, ?_⟩
      rw [convR_y e2]
      show k_2 (g_4 t) (r.1, r.1) = (v, v)
      obtain ⟨s, hs, hcs⟩ := conv_point hV2 hcb
      have := hV2.rows.one (made_is hs) hbk
      rw [hcs, this.1, this.2]
      show (v - 0, v + 0) = (v, v)
      rw [Int.sub_zero, Int.add_zero]
    · have hbd := made_bd hV hM
      exact .inr (.inl ⟨e, by rw [hr]; exact ⟨hn, by omega, by omega⟩⟩)
end
end Go.Hard
