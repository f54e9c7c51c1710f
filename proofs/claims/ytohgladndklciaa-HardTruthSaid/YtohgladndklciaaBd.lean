/-
  The chapter's book and what it shows; decided by the kernel.
  What the laws ask first: may a book be played; narrower spans. What HardAllows says.
  Values that fit a book: told by all their tests at once.
  The doubtful readings: lists of numbers by size, readings but some, the first list without which the others fit.
  Values and readings that are made by words; what HardTruth says of them.
-/
import Derived.Test.YtohgladndklciaaBc
import Derived.Test.YtohgladndklciaaEngb
set_option linter.unusedSimpArgs false
set_option linter.unusedVariables false
namespace Go.Proofs.Ytohgladndklciaa
open Go.RowKit Go.Shelf Go.Eng Go.Hard
theorem ze_37 : (Try.prog.info? 37).bind (·.zero) = some (Value.agg #[(iv 0), (Value.slice none 0 0), (Value.slice none 0 0)]) := by kernel_rfl
theorem bd_37_0i (x0_0 : Int) (w : World) : (Instr.build 37 #[(0, (.int .i64 x0_0))]).run Try.prog w = .ok (.agg #[(.int .i64 x0_0), (Value.slice none 0 0), (Value.slice none 0 0)]) w := by kernel_rfl
theorem ze_46 : (Try.prog.info? 46).bind (·.zero) = some (Value.agg #[(iv 0), (iv 0), (Value.slice none 0 0), (Value.slice none 0 0), (iv 0)]) := by kernel_rfl
theorem bd_106_0i_1i_3s_4i (x0_0 : Int) (x1_0 : Int) (x2_0 : Value) (hx2_0 : IsSl x2_0) (x3_0 : Int) (w : World) : (Instr.build 106 #[(0, (.int .i64 x0_0)), (1, (.int .i64 x1_0)), (3, x2_0), (4, (.int .i64 x3_0))]).run Try.prog w = .ok (.agg #[(.int .i64 x0_0), (.int .i64 x1_0), (Value.slice none 0 0), x2_0, (.int .i64 x3_0)]) w := by obtain ⟨Ax2_0, Bx2_0, Cx2_0, rfl⟩ := hx2_0; kernel_rfl
theorem en_40 : ∀ args w, (callFunc 40 args).run Try.prog w = .ok (.enter 40 args) w := enters_of Try.func40 (by kernel_rfl) rfl
theorem m_6 (x0_0 : Int) (x1_0 : Int) (w : World) : (Instr.build 107 #[(0, (.int .i64 x0_0)), (1, (.int .i64 x1_0))]).run Try.prog w = .ok (.agg #[(.int .i64 x0_0), (.int .i64 x1_0)]) w := by kernel_rfl
theorem bs_107_1_0iia (x0_0 : Int) (x0_1 : Int) : Instr.fill (fun i => some (i * 2, 2)) ((Array.range (1 * 2)).map ((Value.agg #[(iv 0), (iv 0)]).cells[· % (Value.agg #[(iv 0), (iv 0)]).cells.size]!)) [(0, .agg #[(.int .i64 x0_0), (.int .i64 x0_1)])] = some (([(.int .i64 x0_0), (.int .i64 x0_1)] : List Value).toArray) := by kernel_rfl
theorem el_107 : elK Try.prog 107 = some ((Value.agg #[(iv 0), (iv 0)]), 2, 16) := by kernel_rfl
theorem bd_103_0i (x0_0 : Int) (w : World) : (Instr.build 103 #[(0, (.int .i64 x0_0))]).run Try.prog w = .ok (.agg #[(.int .i64 x0_0), (Value.slice none 0 0)]) w := by kernel_rfl
theorem r_4 (x0_0 : Int) (x0_1 : Int) (x1_0 : Int) (w : World) : (Instr.build 100 #[(0, .agg #[(.int .i64 x0_0), (.int .i64 x0_1)]), (1, (.int .i64 x1_0))]).run Try.prog w = .ok (.agg #[(.int .i64 x0_0), (.int .i64 x0_1), (.int .i64 x1_0)]) w := by kernel_rfl
theorem en_20 : ∀ args w, (callFunc 20 args).run Try.prog w = .ok (.enter 20 args) w := enters_of Try.func20 (by kernel_rfl) rfl
theorem bs_100_1_0iiia (x0_0 : Int) (x0_1 : Int) (x0_2 : Int) : Instr.fill (fun i => some (i * 3, 3)) ((Array.range (1 * 3)).map ((Value.agg #[(iv 0), (iv 0), (iv 0)]).cells[· % (Value.agg #[(iv 0), (iv 0), (iv 0)]).cells.size]!)) [(0, .agg #[(.int .i64 x0_0), (.int .i64 x0_1), (.int .i64 x0_2)])] = some (([(.int .i64 x0_0), (.int .i64 x0_1), (.int .i64 x0_2)] : List Value).toArray) := by kernel_rfl
theorem el_100 : elK Try.prog 100 = some ((Value.agg #[(iv 0), (iv 0), (iv 0)]), 3, 24) := by kernel_rfl
theorem bs_103_1_0iva (x0_0 : Int) (x0_1 : Value) : Instr.fill (fun i => some (i * 2, 2)) ((Array.range (1 * 2)).map ((Value.agg #[(iv 0), (Value.slice none 0 0)]).cells[· % (Value.agg #[(iv 0), (Value.slice none 0 0)]).cells.size]!)) [(0, .agg #[(.int .i64 x0_0), x0_1])] = some (([(.int .i64 x0_0), x0_1] : List Value).toArray) := by kernel_rfl
theorem el_103 : elK Try.prog 103 = some ((Value.agg #[(iv 0), (Value.slice none 0 0)]), 2, 32) := by kernel_rfl
set_option maxHeartbeats 4000000 in
theorem Book_ok (b : h_4) (vt vm : Value) (lr lb lk : Nat → Value) (w : World) (hT : j_8 w vt lr lb b.tabs) (hM : k_6 w vm lk b.macs) (hth : o_6 b) :
  Calls Try.prog 19 #[(Value.agg #[(iv b.scales), vt, vm])] w (Ret fun v w' => ∃ vt' vm' lr' lb' lk', v = .agg #[.int .i64 b.scales, vt', vm'] ∧ Sep NoB w w' [d_0 true vt' lr' lb' b.tabs, d_3 true vm' lk' b.macs]) := by
 refine a_9 Try.func19 rfl fun a0 A8 => ?_
 replace A8 : Fr 116 [] [(0, (Value.agg #[(iv b.scales), vt, vm]))] a0 := A8
 have htl9 := hth.tl; have hml9 := hth.ml
 have C4 : Sep NoB w w [(d_0 false vt lr lb b.tabs), (d_3 false vm lk b.macs)] := f_1 ⟨rfl, hT, rfl, hM, trivial⟩
 refine m2 (s2 A8 (f_4 C4 rfl A8.e (cs := [(iv b.scales), vt, vm]) rfl) ?_)
 rintro a1 _ w3 ⟨I, rfl, C5⟩ C3; clear A8 C4 a0
 refine s2 C3 (d_9 C5 rfl ze_37 (cs := [(iv 0), (Value.slice none 0 0), (Value.slice none 0 0)]) rfl) ?_
 rintro a6 _ w8 ⟨H, rfl, BM⟩ CV; clear C3 C5 a1
 refine n4 (s1 CV (a_4 rfl ab_6 CV.e) fun D6 A9 => ?_); clear CV a6
 refine s1 A9 (a_2 rfl ty_3 A9.e (BM.bk 1 rfl) rfl) fun D7 BA => ?_; clear A9 D6
 refine s1 BA (e_7 rfl (pv1 BA.e) (bd_37_0i _)) fun D8 CM => ?_; clear BA D7
 refine s2 CM (d_9 BM rfl ze_37 (cs := [(iv 0), (Value.slice none 0 0), (Value.slice none 0 0)]) rfl) ?_
 rintro D9 _ Eu ⟨B, rfl, Cb⟩ AO; clear CM BM D8
 refine s7 AO (b_7 Cb rfl aa_0 AO.e AO.e (i := 0) rfl (vs := [(iv b.scales), (Value.slice none 0 0), (Value.slice none 0 0)]) rfl rfl (i_0 rfl (i_0 rfl (i_0 rfl u_9))) (Nat.le_of_ble_eq_true rfl)) ?_
 intro _ EV Cc CN; clear AO
 have Cd : Sep NoB w EV [(blk B 37 [(iv b.scales), (Value.slice none 0 0), (Value.slice none 0 0)]), (blk H 37 [(iv 0), (Value.slice none 0 0), (Value.slice none 0 0)]), (blk I 25 [(iv b.scales), vt, vm]), (d_0 false vt lr lb b.tabs), (d_3 false vm lk b.macs)] := Cc; clear Cc Cb
 refine n2 (m2 (s1 CN (a_0 rfl (evc _ _)) fun EA CO => ?_)); clear CN D9
 refine n1 (c_4 ?_)
 have Ce := r_1 (r_1 (Cd.t_0 106 5) (fun _ => Value.slice none 0 0) 1 (brkN (b.tabs.take 0)) (brkC (b.tabs.take 0))) (fun _ => Value.slice none 0 0) 2 (m_3 (b.tabs.take 0)) (m_2 (b.tabs.take 0)); clear Cd
 have CP := CO.as [(4, (iv 0)), (3, (bptr B 0)), (2, (bptr H 0)), (1, (bptr I 0))] rfl; clear CO
 refine h_3 (G := Nat) (fun (k : Nat) a_ w_ => ∃ vt_ : Value, ∃ lr_ : Nat → Value, ∃ lb_ : Nat → Value, Fr 116 [] [(4, (iv (k : Int))), (3, (bptr B 0)), (2, (bptr H 0)), (1, (bptr I 0))] a_ ∧ Sep NoB w w_ [(slsR true ((b.tabs.take k).length) lr_ 2 (m_3 (b.tabs.take k)) (m_2 (b.tabs.take k))), (slsR true ((b.tabs.take k).length) lb_ 1 (brkN (b.tabs.take k)) (brkC (b.tabs.take k))), (row vt_ 106 5 ((b.tabs.take k).length) (n_7 lr_ lb_ (b.tabs.take k))), (blk B 37 [(iv b.scales), vt_, (Value.slice none 0 0)]), (blk H 37 [(iv 0), (Value.slice none 0 0), (Value.slice none 0 0)]), (blk I 25 [(iv b.scales), vt, vm]), (d_0 false vt lr lb b.tabs), (d_3 false vm lk b.macs)] ∧ (k ≤ b.tabs.length)) (fun k => b.tabs.length - k) 0 ⟨(Value.slice none 0 0), (fun _ => Value.slice none 0 0), (fun _ => Value.slice none 0 0), CP.as _ rfl, (Ce.g_2 (i := 2) rfl (by rfl) (by rfl)), by omega⟩ ?_
 clear CP Ce EA
 rintro k EB Ev ⟨vt_, lr_, lb_, BB, S, hk⟩
 have htk : (b.tabs.take k).length = k := by rw [List.length_take]; omega
 refine b_5 (m2 (s1 BB (a_1 rfl BB.e) fun EC BC => ?_)); clear BB EB
 refine s1 BC (a_4 rfl o_9 BC.e) fun ED BD => ?_; clear BC EC
 refine s1 BD (a_2 rfl ac_7 BD.e (S.bk 5 rfl) rfl) fun EE BE => ?_; clear BD ED
 refine s1 BE (d_1 rfl ad_0 BE.e (b_8 (S.ok 6 _ rfl)).tabs) fun EF Ap => ?_; clear BE EE
 refine s1 Ap (f_7 rfl Ap.e Ap.e) fun C1 R => ?_; clear Ap EF
 refine n1 ?_
 by_cases Ck : (k : Int) < (b.tabs.length : Int)
 ·skip
  rw [decide_eq_true Ck] at R
  have htkk := hth.tab k
  refine c_0 R rfl (c_6 (a_7 (b_5 (c_4 (m2 (s1 R (a_4 rfl o_9 R.e) fun EG BF => ?_)))))); clear R C1
  refine s1 BF (a_2 rfl ac_7 BF.e (S.bk 5 rfl) rfl) fun EH BG => ?_; clear BF EG
  refine s1 BG (a_1 rfl BG.e) fun EI Aq => ?_; clear BG EH
  refine s1 Aq (b_0 rfl ad_0 ac_1 Aq.e (i := k) Aq.e (b_8 (S.ok 6 _ rfl)).tabs (by decide) (by omega)) fun EJ BH => ?_; clear Aq EI
  refine s1 BH (e_8 rfl ac_1 BH.e (b_8 (S.ok 6 _ rfl)).tabs (u_3 (by omega)) rfl (by decide)) fun EK CQ => ?_; clear BH EJ
  refine s2 CQ (d_9 S rfl ze_46 (cs := [(iv 0), (iv 0), (Value.slice none 0 0), (Value.slice none 0 0), (iv 0)]) rfl) ?_
  rintro Er _ Ew ⟨K, rfl, A2⟩ Ar; clear CQ S EK
  refine s7 Ar (b_7 A2 rfl ac_1 Ar.e Ar.e (i := 0) rfl (vs := [(iv ((b.tabs.getD k tab0).frm)), (iv ((b.tabs.getD k tab0).dst)), (lr k), (lb k), (iv ((b.tabs.getD k tab0).err))]) rfl rfl (i_0 rfl (i_0 rfl (i_0 (SlAt.one ((b_8 (A2.ok 7 _ rfl)).row (i := k) (by omega))) (i_0 (SlAt.one ((b_8 (A2.ok 7 _ rfl)).brk (i := k) (by omega))) (i_0 rfl u_9))))) (Nat.le_of_ble_eq_true rfl)) ?_
  intro _ EW Cf CR; clear Ar
  have Cg : Sep NoB w EW [(blk K 46 [(iv ((b.tabs.getD k tab0).frm)), (iv ((b.tabs.getD k tab0).dst)), (lr k), (lb k), (iv ((b.tabs.getD k tab0).err))]), (slsR true ((b.tabs.take k).length) lr_ 2 (m_3 (b.tabs.take k)) (m_2 (b.tabs.take k))), (slsR true ((b.tabs.take k).length) lb_ 1 (brkN (b.tabs.take k)) (brkC (b.tabs.take k))), (row vt_ 106 5 ((b.tabs.take k).length) (n_7 lr_ lb_ (b.tabs.take k))), (blk B 37 [(iv b.scales), vt_, (Value.slice none 0 0)]), (blk H 37 [(iv 0), (Value.slice none 0 0), (Value.slice none 0 0)]), (blk I 25 [(iv b.scales), vt, vm]), (d_0 false vt lr lb b.tabs), (d_3 false vm lk b.macs)] := Cf; clear Cf A2
  refine n2 ?_
  have CS := CR.as [(5, (bptr K 0)), (4, (iv (k : Int))), (3, (bptr B 0)), (2, (bptr H 0)), (1, (bptr I 0))] rfl; clear CR
  have CT := CS.as [(5, (bptr K 0)), (4, (iv (k : Int))), (3, (bptr B 0)), (2, (bptr H 0)), (1, (bptr I 0))] rfl; clear CS
  refine ab_4 mixed CT Cg 11 [[], [0], [], [2], [], [4], [5], [], [7], [1, 3, 6, 8], []] [(yw (bptr K 0)), (yw (iv ((b.tabs.getD k tab0).frm))), (yw (bptr K 1)), (yw (iv ((b.tabs.getD k tab0).dst))), (yw (bptr K 3)), (yw (lb k)), (fun (A : Nat → Value) (v_ : Value) (rs_ : List Res) => True ∧ rs_ = [(row v_ 3 1 ((b.tabs.getD k tab0).brk.length) (ints ((b.tabs.getD k tab0).brk)))]), (yw (bptr K 4)), (yw (iv ((b.tabs.getD k tab0).err))), (fun (A : Nat → Value) (v_ : Value) (rs_ : List Res) => v_ = (Value.agg #[(iv ((b.tabs.getD k tab0).frm)), (iv ((b.tabs.getD k tab0).dst)), (Value.slice none 0 0), (A 6), (iv ((b.tabs.getD k tab0).err))]) ∧ rs_ = []), (fun (A : Nat → Value) (v_ : Value) (rs_ : List Res) => ∃ (b10_ : Nat), v_ = (bptr b10_ 0) ∧ rs_ = [(blk b10_ 106 [(iv 0), (iv 0), (Value.slice none 0 0), (Value.slice none 0 0), (iv 0)])])] (by decide +kernel) (by decide +kernel) rfl rfl ⟨dw, dw, dw, dw, dw, dw, (fun _ _ _ _ _ h_ => h_), dw, dw, (fun _ _ _ _ he_ h_ => by dsimp only at h_ ⊢; rw [← he_ 6 (by decide)]; exact h_), (fun _ _ _ _ _ h_ => h_), trivial⟩ ?_ ?_
  ·skip
   refine ⟨fun a w A hA hS hd => gv1 (a_4 rfl fd_46_0 hA.e), ?_⟩
   refine ⟨fun a w A hA hS hd => gv1 (a_2 rfl ty_3 (gu hd 0) (hS.bk 0 rfl) rfl), ?_⟩
   refine ⟨fun a w A hA hS hd => gv1 (a_4 rfl s_7 hA.e), ?_⟩
   refine ⟨fun a w A hA hS hd => gv1 (a_2 rfl ty_3 (gu hd 2) (hS.bk 0 rfl) rfl), ?_⟩
   refine ⟨fun a w A hA hS hd => gv1 (a_4 rfl x_0 hA.e), ?_⟩
   refine ⟨fun a w A hA hS hd => gv1 (a_2 rfl w_2 (gu hd 4) (hS.bk 0 rfl) rfl), ?_⟩
   refine ⟨fun a w A hA hS hd => d_5 rfl (vn (b_3 rfl en_40 (ev1 (gu hd 5)) (list_ok ((b.tabs.getD k tab0).brk) _ _ ((b_8 (hS.ok 7 _ rfl)).brk (i := k) (by omega)) (hth.bl _))) (fun v w' h => ⟨_, And.intro trivial rfl, (Sep.start NoB _).s_9 h.1 h.2, rfl⟩)), ?_⟩
   refine ⟨fun a w A hA hS hd => gv1 (a_4 rfl x_2 hA.e), ?_⟩
   refine ⟨fun a w A hA hS hd => gv1 (a_2 rfl ty_3 (gu hd 7) (hS.bk 0 rfl) rfl), ?_⟩
   refine ⟨fun a w A hA hS hd => ?_, ?_⟩
   ·skip
    obtain ⟨e6, Et, EU, ES⟩ := hd 6 (by decide)
    obtain ⟨Es, ET⟩ := EU; subst ET
    have hp6_0 := ES _ (List.mem_of_getElem? (i := 0) rfl)
    exact gv1 (e_7 rfl (pv4 (gu hd 1) (gu hd 3) (c_3 (f_6 e6 rfl)) (gu hd 8)) (bd_106_0i_1i_3s_4i _ _ _ (SlAt.isSl (SlAt.e_9 hp6_0)) _))
   refine ⟨fun a w A hA hS hd => d_5 rfl (valloc rfl ze_106 (cs := [(iv 0), (iv 0), (Value.slice none 0 0), (Value.slice none 0 0), (iv 0)]) rfl (fun b_ => ⟨b_, rfl, rfl⟩)), ?_⟩
   trivial
  intro C2 EX A rsf72 CU M BN; clear CT Cg
  obtain ⟨Dt, Dv⟩ := M 6 (by decide)
  obtain ⟨Du, Cm⟩ := Dv
  obtain ⟨A3, Cy⟩ := M 10 (by decide)
  obtain ⟨b10_, CI, CD⟩ := Cy
  have BO : Sep NoB w EX [(row (A 6) 3 1 ((b.tabs.getD k tab0).brk.length) (ints ((b.tabs.getD k tab0).brk))), (blk b10_ 106 [(iv 0), (iv 0), (Value.slice none 0 0), (Value.slice none 0 0), (iv 0)]), (blk K 46 [(iv ((b.tabs.getD k tab0).frm)), (iv ((b.tabs.getD k tab0).dst)), (lr k), (lb k), (iv ((b.tabs.getD k tab0).err))]), (slsR true ((b.tabs.take k).length) lr_ 2 (m_3 (b.tabs.take k)) (m_2 (b.tabs.take k))), (slsR true ((b.tabs.take k).length) lb_ 1 (brkN (b.tabs.take k)) (brkC (b.tabs.take k))), (row vt_ 106 5 ((b.tabs.take k).length) (n_7 lr_ lb_ (b.tabs.take k))), (blk B 37 [(iv b.scales), vt_, (Value.slice none 0 0)]), (blk H 37 [(iv 0), (Value.slice none 0 0), (Value.slice none 0 0)]), (blk I 25 [(iv b.scales), vt, vm]), (d_0 false vt lr lb b.tabs), (d_3 false vm lk b.macs)] := by rw [show catR rsf72 0 11 = ([(row (A 6) 3 1 ((b.tabs.getD k tab0).brk.length) (ints ((b.tabs.getD k tab0).brk))), (blk b10_ 106 [(iv 0), (iv 0), (Value.slice none 0 0), (Value.slice none 0 0), (iv 0)])] : List Res) by (try simp only [catR, gr (M 0 (by decide)), gr (M 1 (by decide)), gr (M 2 (by decide)), gr (M 3 (by decide)), gr (M 4 (by decide)), gr (M 5 (by decide)), Cm, gr (M 7 (by decide)), gr (M 8 (by decide)), gr (M 9 (by decide)), CD]); (try rfl)] at BN; exact BN
  have CW := CU.add (gs (M 9 (by decide))); clear CU
  rw [CI] at A3
  have As : Fr 116 [] [(6, (bptr b10_ 0)), (36, (Value.agg #[(iv ((b.tabs.getD k tab0).frm)), (iv ((b.tabs.getD k tab0).dst)), (Value.slice none 0 0), (A 6), (iv ((b.tabs.getD k tab0).err))])), (5, (bptr K 0)), (4, (iv (k : Int))), (3, (bptr B 0)), (2, (bptr H 0)), (1, (bptr I 0))] C2 := CW.add (f_6 A3 rfl); clear CW
  clear M BN Dt A3
  clear Cm
  clear Du
  clear CD
  clear CI
  refine s7 As (b_7 BO rfl k_9 As.e As.e (i := 1) rfl (vs := [(iv ((b.tabs.getD k tab0).frm)), (iv ((b.tabs.getD k tab0).dst)), (Value.slice none 0 0), (A 6), (iv ((b.tabs.getD k tab0).err))]) rfl rfl (i_0 rfl (i_0 rfl (i_0 rfl (i_0 (SlAt.one (SlAt.e_9 (BO.f_3 0 rfl))) (i_0 rfl u_9))))) (Nat.le_of_ble_eq_true rfl)) ?_
  intro _ EY Ch CX; clear As
  have Ci : Sep NoB w EY [(row (A 6) 3 1 ((b.tabs.getD k tab0).brk.length) (ints ((b.tabs.getD k tab0).brk))), (blk b10_ 106 [(iv ((b.tabs.getD k tab0).frm)), (iv ((b.tabs.getD k tab0).dst)), (Value.slice none 0 0), (A 6), (iv ((b.tabs.getD k tab0).err))]), (blk K 46 [(iv ((b.tabs.getD k tab0).frm)), (iv ((b.tabs.getD k tab0).dst)), (lr k), (lb k), (iv ((b.tabs.getD k tab0).err))]), (slsR true ((b.tabs.take k).length) lr_ 2 (m_3 (b.tabs.take k)) (m_2 (b.tabs.take k))), (slsR true ((b.tabs.take k).length) lb_ 1 (brkN (b.tabs.take k)) (brkC (b.tabs.take k))), (row vt_ 106 5 ((b.tabs.take k).length) (n_7 lr_ lb_ (b.tabs.take k))), (blk B 37 [(iv b.scales), vt_, (Value.slice none 0 0)]), (blk H 37 [(iv 0), (Value.slice none 0 0), (Value.slice none 0 0)]), (blk I 25 [(iv b.scales), vt, vm]), (d_0 false vt lr lb b.tabs), (d_3 false vm lk b.macs)] := Ch; clear Ch BO
  refine n2 (m2 (s1 CX (a_0 rfl (evc _ _)) fun EL CY => ?_)); clear CX C2
  refine n1 (c_4 ?_)
  have Cj := Ci.t_0 107 2; clear Ci
  have CZ := CY.as [(7, (iv 0)), (6, (bptr b10_ 0)), (5, (bptr K 0)), (4, (iv (k : Int))), (3, (bptr B 0)), (2, (bptr H 0)), (1, (bptr I 0))] rfl; clear CY
  refine h_3 (G := Nat) (fun (j : Nat) a_ w_ => ∃ vr_ : Value, Fr 116 [] [(7, (iv (j : Int))), (6, (bptr b10_ 0)), (5, (bptr K 0)), (4, (iv (k : Int))), (3, (bptr B 0)), (2, (bptr H 0)), (1, (bptr I 0))] a_ ∧ Sep NoB w w_ [(row vr_ 107 2 (((b.tabs.getD k tab0).rows.take j).length) (pairs ((b.tabs.getD k tab0).rows.take j))), (row (A 6) 3 1 ((b.tabs.getD k tab0).brk.length) (ints ((b.tabs.getD k tab0).brk))), (blk b10_ 106 [(iv ((b.tabs.getD k tab0).frm)), (iv ((b.tabs.getD k tab0).dst)), vr_, (A 6), (iv ((b.tabs.getD k tab0).err))]), (blk K 46 [(iv ((b.tabs.getD k tab0).frm)), (iv ((b.tabs.getD k tab0).dst)), (lr k), (lb k), (iv ((b.tabs.getD k tab0).err))]), (slsR true ((b.tabs.take k).length) lr_ 2 (m_3 (b.tabs.take k)) (m_2 (b.tabs.take k))), (slsR true ((b.tabs.take k).length) lb_ 1 (brkN (b.tabs.take k)) (brkC (b.tabs.take k))), (row vt_ 106 5 ((b.tabs.take k).length) (n_7 lr_ lb_ (b.tabs.take k))), (blk B 37 [(iv b.scales), vt_, (Value.slice none 0 0)]), (blk H 37 [(iv 0), (Value.slice none 0 0), (Value.slice none 0 0)]), (blk I 25 [(iv b.scales), vt, vm]), (d_0 false vt lr lb b.tabs), (d_3 false vm lk b.macs)] ∧ (j ≤ (b.tabs.getD k tab0).rows.length)) (fun j => (b.tabs.getD k tab0).rows.length - j) 0 ⟨(Value.slice none 0 0), CZ.as _ rfl, (Cj.g_2 (i := 0) rfl (by rfl) (by rfl)), (Nat.zero_le _)⟩ ?_
  clear CZ Cj EL
  rintro j EM Ex ⟨vr_, BI, U, hkj⟩
  have hlt_j : ((b.tabs.getD k tab0).rows.take j).length ≤ 12 := by simp only [List.length_take]; omega
  refine b_5 (m2 (s1 BI (a_1 rfl BI.e) fun EN BJ => ?_)); clear BI EM
  refine s1 BJ (a_4 rfl i_1 BJ.e) fun EO BK => ?_; clear BJ EN
  refine s1 BK (a_2 rfl n_8 BK.e (U.bk 3 rfl) rfl) fun EP BL => ?_; clear BK EO
  refine s1 BL (d_1 rfl n_9 BL.e ((b_8 (U.ok 10 _ rfl)).row (i := k) (by omega))) fun EQ At => ?_; clear BL EP
  refine s1 At (f_7 rfl At.e At.e) fun ER T => ?_; clear At EQ
  refine n1 ?_
  by_cases Cl : (j : Int) < ((b.tabs.getD k tab0).rows.length : Int)
  ·skip
   rw [decide_eq_true Cl] at T
   refine c_0 T rfl (c_6 (a_7 (b_5 (c_4 ?_))))
   have Ca := T.as [(7, (iv (j : Int))), (6, (bptr b10_ 0)), (5, (bptr K 0)), (4, (iv (k : Int))), (3, (bptr B 0)), (2, (bptr H 0)), (1, (bptr I 0))] rfl; clear T
   refine ab_4 mixed Ca U 16 [[], [0], [], [2], [], [3, 4], [5], [6], [], [8], [], [9, 10], [11], [12], [7, 13], [14]] [(yw (bptr b10_ 2)), (yw vr_), (yw (bptr K 2)), (yw (lr k)), (yw (iv (j : Int))), (yw (eptr (lr k) (j * 2))), (yw (eptr (lr k) (j * 2 + 0))), (yw (iv ((((b.tabs.getD k tab0).rows).getD j (0, 0)).1))), (yw (bptr K 2)), (yw (lr k)), (yw (iv (j : Int))), (yw (eptr (lr k) (j * 2))), (yw (eptr (lr k) (j * 2 + 1))), (yw (iv ((((b.tabs.getD k tab0).rows).getD j (0, 0)).2))), (yw (Value.agg #[(iv ((((b.tabs.getD k tab0).rows).getD j (0, 0)).1)), (iv ((((b.tabs.getD k tab0).rows).getD j (0, 0)).2))])), (fun (D : Nat → Value) (v_ : Value) (rs_ : List Res) => True ∧ rs_ = [(row v_ 107 2 1 [(iv ((((b.tabs.getD k tab0).rows).getD j (0, 0)).1)), (iv ((((b.tabs.getD k tab0).rows).getD j (0, 0)).2))])])] (by decide +kernel) (by decide +kernel) rfl rfl ⟨dw, dw, dw, dw, dw, dw, dw, dw, dw, dw, dw, dw, dw, dw, dw, (fun _ _ _ _ _ h_ => h_), trivial⟩ ?_ ?_
   ·skip
    refine ⟨fun a w D hA hS hd => gv1 (a_4 rfl j_3 hA.e), ?_⟩
    refine ⟨fun a w D hA hS hd => gv1 (a_2 rfl o_4 (gu hd 0) (hS.bk 2 rfl) rfl), ?_⟩
    refine ⟨fun a w D hA hS hd => gv1 (a_4 rfl i_1 hA.e), ?_⟩
    refine ⟨fun a w D hA hS hd => gv1 (a_2 rfl n_8 (gu hd 2) (hS.bk 3 rfl) rfl), ?_⟩
    refine ⟨fun a w D hA hS hd => gv1 (a_1 rfl hA.e), ?_⟩
    refine ⟨fun a w D hA hS hd => gv1 (b_0 rfl n_9 r_3 (gu hd 3) (i := j) (gu hd 4) ((b_8 (hS.ok 10 _ rfl)).row (i := k) (by omega)) (by decide) (by omega)), ?_⟩
    refine ⟨fun a w D hA hS hd => gv1 (e_5 rfl p_9 (gu hd 5) ((b_8 (hS.ok 10 _ rfl)).row (i := k) (by omega)) (by rw [(((b_8 (hS.ok 10 _ rfl)).row (i := k) (by omega))).1]; omega)), ?_⟩
    refine ⟨fun a w D hA hS hd => gv1 (c_1 rfl ty_3 (gu hd 6) ((b_8 (hS.ok 10 _ rfl)).row (i := k) (by omega)) (i_6 (by omega))), ?_⟩
    refine ⟨fun a w D hA hS hd => gv1 (a_4 rfl i_1 hA.e), ?_⟩
    refine ⟨fun a w D hA hS hd => gv1 (a_2 rfl n_8 (gu hd 8) (hS.bk 3 rfl) rfl), ?_⟩
    refine ⟨fun a w D hA hS hd => gv1 (a_1 rfl hA.e), ?_⟩
    refine ⟨fun a w D hA hS hd => gv1 (b_0 rfl n_9 r_3 (gu hd 9) (i := j) (gu hd 10) ((b_8 (hS.ok 10 _ rfl)).row (i := k) (by omega)) (by decide) (by omega)), ?_⟩
    refine ⟨fun a w D hA hS hd => gv1 (e_5 rfl n_6 (gu hd 11) ((b_8 (hS.ok 10 _ rfl)).row (i := k) (by omega)) (by rw [(((b_8 (hS.ok 10 _ rfl)).row (i := k) (by omega))).1]; omega)), ?_⟩
    refine ⟨fun a w D hA hS hd => gv1 (c_1 rfl ty_3 (gu hd 12) ((b_8 (hS.ok 10 _ rfl)).row (i := k) (by omega)) (j_0 (by omega))), ?_⟩
    refine ⟨fun a w D hA hS hd => gv1 (e_7 rfl (pv2 (gu hd 7) (gu hd 13)) (m_6 _ _)), ?_⟩
    refine ⟨fun a w D hA hS hd => d_5 rfl (vblt rfl (pv1 (gu hd 14)) k_4 i_7 aa_6 (by decide) (cs := [(iv ((((b.tabs.getD k tab0).rows).getD j (0, 0)).1)), (iv ((((b.tabs.getD k tab0).rows).getD j (0, 0)).2))]) (bs_107_1_0iia _ _) rfl (by decide) (fun _ => And.intro trivial rfl)), ?_⟩
    trivial
   intro CJ Dw D rsf106 BP F Au; clear Ca U
   obtain ⟨CG, Cz⟩ := F 15 (by decide)
   obtain ⟨Cw, CE⟩ := Cz
   have Av : Sep NoB w Dw [(row (D 15) 107 2 1 [(iv ((((b.tabs.getD k tab0).rows).getD j (0, 0)).1)), (iv ((((b.tabs.getD k tab0).rows).getD j (0, 0)).2))]), (row vr_ 107 2 (((b.tabs.getD k tab0).rows.take j).length) (pairs ((b.tabs.getD k tab0).rows.take j))), (row (A 6) 3 1 ((b.tabs.getD k tab0).brk.length) (ints ((b.tabs.getD k tab0).brk))), (blk b10_ 106 [(iv ((b.tabs.getD k tab0).frm)), (iv ((b.tabs.getD k tab0).dst)), vr_, (A 6), (iv ((b.tabs.getD k tab0).err))]), (blk K 46 [(iv ((b.tabs.getD k tab0).frm)), (iv ((b.tabs.getD k tab0).dst)), (lr k), (lb k), (iv ((b.tabs.getD k tab0).err))]), (slsR true ((b.tabs.take k).length) lr_ 2 (m_3 (b.tabs.take k)) (m_2 (b.tabs.take k))), (slsR true ((b.tabs.take k).length) lb_ 1 (brkN (b.tabs.take k)) (brkC (b.tabs.take k))), (row vt_ 106 5 ((b.tabs.take k).length) (n_7 lr_ lb_ (b.tabs.take k))), (blk B 37 [(iv b.scales), vt_, (Value.slice none 0 0)]), (blk H 37 [(iv 0), (Value.slice none 0 0), (Value.slice none 0 0)]), (blk I 25 [(iv b.scales), vt, vm]), (d_0 false vt lr lb b.tabs), (d_3 false vm lk b.macs)] := by rw [show catR rsf106 0 16 = ([(row (D 15) 107 2 1 [(iv ((((b.tabs.getD k tab0).rows).getD j (0, 0)).1)), (iv ((((b.tabs.getD k tab0).rows).getD j (0, 0)).2))])] : List Res) by (try simp only [catR, gr (F 0 (by decide)), gr (F 1 (by decide)), gr (F 2 (by decide)), gr (F 3 (by decide)), gr (F 4 (by decide)), gr (F 5 (by decide)), gr (F 6 (by decide)), gr (F 7 (by decide)), gr (F 8 (by decide)), gr (F 9 (by decide)), gr (F 10 (by decide)), gr (F 11 (by decide)), gr (F 12 (by decide)), gr (F 13 (by decide)), gr (F 14 (by decide)), CE]); (try rfl)] at Au; exact Au
   have BQ := BP.add (gs (F 1 (by decide))); clear BP
   have W : Fr 116 [] [(59, (D 15)), (45, vr_), (7, (iv (j : Int))), (6, (bptr b10_ 0)), (5, (bptr K 0)), (4, (iv (k : Int))), (3, (bptr B 0)), (2, (bptr H 0)), (1, (bptr I 0))] CJ := BQ.add (f_6 CG rfl); clear BQ
   clear F Au CG
   clear CE
   clear Cw
   refine s2 W (k_7 Av rfl k_4 el_107 W.e W.e (i := 1) rfl (SlAt.e_9 (Av.f_3 0 rfl)) rfl (by simp only [maxLen]; omega) (by omega)) ?_
   intro C6 A4 Eh Bg AB
   have u := Bg.g_2 (i := 1) rfl (n' := (((b.tabs.getD k tab0).rows.take j) ++ [(b.tabs.getD k tab0).rows.getD j (0, 0)]).length) (xs' := (pairs (((b.tabs.getD k tab0).rows.take j) ++ [(b.tabs.getD k tab0).rows.getD j (0, 0)]))) (by simp) (by simp [pairs]); clear Bg W Av CJ
   refine s1 AB (a_4 rfl j_3 AB.e) fun C7 X => ?_; clear AB C6
   refine s7 X (b_7 u rfl o_4 X.e X.e (i := 3) rfl (vs := [A4]) (q_9 (SlAt.isSl (SlAt.e_9 (u.f_3 1 rfl)))) rfl (i_0 (SlAt.one (SlAt.e_9 (u.f_3 1 rfl))) u_9) (Nat.le_of_ble_eq_true rfl)) ?_
   intro _ Dx Bh AC; clear X
   have Bi : Sep NoB w Dx [(row (D 15) 107 2 1 [(iv ((((b.tabs.getD k tab0).rows).getD j (0, 0)).1)), (iv ((((b.tabs.getD k tab0).rows).getD j (0, 0)).2))]), (row A4 107 2 ((((b.tabs.getD k tab0).rows.take j) ++ [(b.tabs.getD k tab0).rows.getD j (0, 0)]).length) (pairs (((b.tabs.getD k tab0).rows.take j) ++ [(b.tabs.getD k tab0).rows.getD j (0, 0)]))), (row (A 6) 3 1 ((b.tabs.getD k tab0).brk.length) (ints ((b.tabs.getD k tab0).brk))), (blk b10_ 106 [(iv ((b.tabs.getD k tab0).frm)), (iv ((b.tabs.getD k tab0).dst)), A4, (A 6), (iv ((b.tabs.getD k tab0).err))]), (blk K 46 [(iv ((b.tabs.getD k tab0).frm)), (iv ((b.tabs.getD k tab0).dst)), (lr k), (lb k), (iv ((b.tabs.getD k tab0).err))]), (slsR true ((b.tabs.take k).length) lr_ 2 (m_3 (b.tabs.take k)) (m_2 (b.tabs.take k))), (slsR true ((b.tabs.take k).length) lb_ 1 (brkN (b.tabs.take k)) (brkC (b.tabs.take k))), (row vt_ 106 5 ((b.tabs.take k).length) (n_7 lr_ lb_ (b.tabs.take k))), (blk B 37 [(iv b.scales), vt_, (Value.slice none 0 0)]), (blk H 37 [(iv 0), (Value.slice none 0 0), (Value.slice none 0 0)]), (blk I 25 [(iv b.scales), vt, vm]), (d_0 false vt lr lb b.tabs), (d_3 false vm lk b.macs)] := Bh; clear Bh u
   refine e_6 (g_3 (a_7 (a_5 (s1 AC (a_1 rfl AC.e) fun C8 AD => ?_)))); clear AC C7
   refine s1 AD (e_3 rfl AD.e (evc _ _) (by omega) (by omega)) fun C9 AE => ?_; clear AD C8
   refine s1 AE (a_0 rfl AE.e) fun Ea Cn => ?_; clear AE C9
   refine e_6 ?_
   have Cr := Bi.gkp (gpc 1 (gpc 2 (gpc 3 (gpc 4 (gpc 5 (gpc 6 (gpc 7 (gpc 8 (gpc 9 (gpc 10 (gpc 11 (gpc 12 gpn)))))))))))); clear Bi
   exact a_7 ⟨j + 1, ⟨A4, Cn.as _ rfl, (Cr.g_2 (i := 0) rfl (by rw [s_1 (by omega)]) (by rw [s_1 (by omega)])), by omega⟩, by omega⟩
  skip
  rw [decide_eq_false Cl] at T
  refine b_4 T rfl (g_6 (b_2 (b_2 (f_2 (a_7 ?_)))))
  have AF := T.as [(6, (bptr b10_ 0)), (4, (iv (k : Int))), (3, (bptr B 0)), (2, (bptr H 0)), (1, (bptr I 0))] rfl; clear T
  refine a_5 (s1 AF (a_4 rfl w_9 AF.e) fun DA AG => ?_); clear AF ER
  refine s1 AG (a_2 rfl ty_34 AG.e (U.bk 7 rfl) rfl) fun DB AH => ?_; clear AG DA
  refine s1 AH (c_9 rfl k_9 (AH.ev rfl) (U.bk 2 rfl) (l := [(iv ((b.tabs.getD k tab0).frm)), (iv ((b.tabs.getD k tab0).dst)), vr_, (A 6), (iv ((b.tabs.getD k tab0).err))]) rfl rfl) fun DC AI => ?_; clear AH DB
  refine s2 AI (h_0 U rfl (pv1 AI.e) ad_2 k_9 ze_106 (by decide) (cs := [(iv ((b.tabs.getD k tab0).frm)), (iv ((b.tabs.getD k tab0).dst)), vr_, (A 6), (iv ((b.tabs.getD k tab0).err))]) (bs_106_1_0iivvia _ _ _ _ _)) ?_
  rintro DD _ Ei ⟨Dr, rfl, V⟩ Y; clear AI U DC
  refine s2 Y (k_7 V rfl ad_2 el_106 Y.e Y.e (i := 7) rfl (SlAt.of_blk (V.bk 0 rfl) rfl (Nat.le_of_ble_eq_true rfl)) (i_0 rfl (i_0 rfl (i_0 (SlAt.one (SlAt.e_9 (V.f_3 1 rfl))) (i_0 (SlAt.one (SlAt.e_9 (V.f_3 2 rfl))) (i_0 rfl u_9))))) (by simp only [maxLen]; omega) (by omega)) ?_
  intro DE A5 Ej Bj AJ
  have x := Bj.g_2 (i := 7) rfl (n' := ((b.tabs.take k) ++ [(b.tabs.getD k tab0)]).length) (xs' := (n_7 (putV (b.tabs.take k).length lr_ vr_) (putV (b.tabs.take k).length lb_ (A 6)) ((b.tabs.take k) ++ [(b.tabs.getD k tab0)]))) (by simp) (tabs_snoc (b.tabs.getD k tab0) vr_ (A 6)); clear Bj Y V DD
  refine s1 AJ (a_4 rfl w_9 AJ.e) fun DF Z => ?_; clear AJ DE
  refine s7 Z (b_7 x rfl ty_34 Z.e Z.e (i := 8) rfl (vs := [A5]) (q_9 (SlAt.isSl (SlAt.e_9 (x.f_3 7 rfl)))) rfl (i_0 (SlAt.one (SlAt.e_9 (x.f_3 7 rfl))) u_9) (Nat.le_of_ble_eq_true rfl)) ?_
  intro _ Dy Bk BR; clear Z
  have Bl : Sep NoB w Dy [(blk Dr 106 [(iv ((b.tabs.getD k tab0).frm)), (iv ((b.tabs.getD k tab0).dst)), vr_, (A 6), (iv ((b.tabs.getD k tab0).err))]), (row vr_ 107 2 (((b.tabs.getD k tab0).rows.take j).length) (pairs ((b.tabs.getD k tab0).rows.take j))), (row (A 6) 3 1 ((b.tabs.getD k tab0).brk.length) (ints ((b.tabs.getD k tab0).brk))), (blk b10_ 106 [(iv ((b.tabs.getD k tab0).frm)), (iv ((b.tabs.getD k tab0).dst)), vr_, (A 6), (iv ((b.tabs.getD k tab0).err))]), (blk K 46 [(iv ((b.tabs.getD k tab0).frm)), (iv ((b.tabs.getD k tab0).dst)), (lr k), (lb k), (iv ((b.tabs.getD k tab0).err))]), (slsR true ((b.tabs.take k).length) lr_ 2 (m_3 (b.tabs.take k)) (m_2 (b.tabs.take k))), (slsR true ((b.tabs.take k).length) lb_ 1 (brkN (b.tabs.take k)) (brkC (b.tabs.take k))), (row A5 106 5 (((b.tabs.take k) ++ [(b.tabs.getD k tab0)]).length) (n_7 (putV (b.tabs.take k).length lr_ vr_) (putV (b.tabs.take k).length lb_ (A 6)) ((b.tabs.take k) ++ [(b.tabs.getD k tab0)]))), (blk B 37 [(iv b.scales), A5, (Value.slice none 0 0)]), (blk H 37 [(iv 0), (Value.slice none 0 0), (Value.slice none 0 0)]), (blk I 25 [(iv b.scales), vt, vm]), (d_0 false vt lr lb b.tabs), (d_3 false vm lk b.macs)] := Bk; clear Bk x
  refine e_6 (g_3 (a_7 ?_))
  have AK := BR.as [(4, (iv (k : Int))), (3, (bptr B 0)), (2, (bptr H 0)), (1, (bptr I 0))] rfl; clear BR
  refine a_5 (s1 AK (a_1 rfl AK.e) fun DG AL => ?_); clear AK DF
  refine s1 AL (e_3 rfl AL.e (evc _ _) (by omega) (by omega)) fun DH AM => ?_; clear AL DG
  refine s1 AM (a_0 rfl AM.e) fun Eb Co => ?_; clear AM DH
  refine e_6 ?_
  have Bm := Bl.g_2 (i := 1) rfl (n' := (b.tabs.getD k tab0).rows.length) (xs' := pairs (b.tabs.getD k tab0).rows) (by rw [List.take_of_length_le (by omega)]) (by rw [List.take_of_length_le (by omega)]); clear Bl
  have Bn := Bm.gkp (gpc 1 (gpc 5 (gpc 0 (gpc 2 (gpc 3 (gpc 4 (gpc 6 (gpc 7 (gpc 8 (gpc 9 (gpc 10 (gpc 11 (gpc 12 gpn))))))))))))); clear Bm
  have Bo := k_8 (k' := m_3 (b.tabs.take (k + 1))) (c' := m_2 (b.tabs.take (k + 1))) Bn (rowsN_new (by omega)).1 (rowsN_new (by omega)).2.1 (fun i hi => (rowsN_old i hi).1); clear Bn
  have Bp := sep_sls_say (i := 0) (n' := (b.tabs.take (k + 1)).length) (v' := (putV (b.tabs.take k).length lr_ vr_)) (k' := m_3 (b.tabs.take (k + 1))) (c' := m_2 (b.tabs.take (k + 1))) Bo rfl (take_len1 (by omega)) (fun _ _ => ⟨rfl, rfl, rfl⟩); clear Bo
  have Bq := Bp.gkp (gpc 2 (gpc 5 (gpc 0 (gpc 1 (gpc 3 (gpc 4 (gpc 6 (gpc 7 (gpc 8 (gpc 9 (gpc 10 (gpc 11 gpn)))))))))))); clear Bp
  have Br := k_8 (k' := brkN (b.tabs.take (k + 1))) (c' := brkC (b.tabs.take (k + 1))) Bq (rowsN_new (by omega)).2.2.1 (rowsN_new (by omega)).2.2.2 (fun i hi => (rowsN_old i hi).2); clear Bq
  have Bs := sep_sls_say (i := 0) (n' := (b.tabs.take (k + 1)).length) (v' := (putV (b.tabs.take k).length lb_ (A 6))) (k' := brkN (b.tabs.take (k + 1))) (c' := brkC (b.tabs.take (k + 1))) Br rfl (take_len1 (by omega)) (fun _ _ => ⟨rfl, rfl, rfl⟩); clear Br
  have Cs := Bs.gkp (gpc 1 (gpc 0 (gpc 5 (gpc 6 (gpc 7 (gpc 8 (gpc 9 (gpc 10 gpn)))))))); clear Bs
  exact a_7 ⟨k + 1, ⟨A5, (putV (b.tabs.take k).length lr_ vr_), (putV (b.tabs.take k).length lb_ (A 6)), Co.as _ rfl, (Cs.g_2 (i := 2) rfl (by rw [s_1 (by omega)]) (by rw [s_1 (by omega)])), by omega⟩, by omega⟩
 skip
 rw [decide_eq_false Ck] at R
 refine b_4 R rfl (g_6 (b_2 (b_2 (f_2 (a_7 (b_5 (b_5 ?_)))))))
 have BS := R.as [(3, (bptr B 0)), (2, (bptr H 0)), (1, (bptr I 0))] rfl; clear R
 refine a_5 (s1 BS (a_0 rfl (evc _ _)) fun DI BT => ?_); clear BS C1
 refine n1 (c_4 ?_)
 have hkt : k = b.tabs.length := by omega
 have Aw := S.gkp (gpc 2 (gpc 0 (gpc 1 (gpc 3 (gpc 4 (gpc 5 (gpc 6 (gpc 7 gpn)))))))); clear S
 rw [hkt, List.take_length] at Aw
 have Bt := sep_tabs_join Aw; clear Aw
 have Bu := r_1 (Bt.t_0 103 2) (fun _ => Value.slice none 0 0) 3 (blkN (b.macs.take 0)) (blkC (b.macs.take 0)); clear Bt
 have BU := BT.as [(8, (iv 0)), (3, (bptr B 0)), (2, (bptr H 0)), (1, (bptr I 0))] rfl; clear BT
 refine h_3 (G := Nat) (fun (m : Nat) a_ w_ => ∃ vm_ : Value, ∃ lk_ : Nat → Value, Fr 116 [] [(8, (iv (m : Int))), (3, (bptr B 0)), (2, (bptr H 0)), (1, (bptr I 0))] a_ ∧ Sep NoB w w_ [(slsR true ((b.macs.take m).length) lk_ 3 (blkN (b.macs.take m)) (blkC (b.macs.take m))), (row vm_ 103 2 ((b.macs.take m).length) (p_8 lk_ (b.macs.take m))), (d_0 true vt_ lr_ lb_ b.tabs), (blk B 37 [(iv b.scales), vt_, vm_]), (blk H 37 [(iv 0), (Value.slice none 0 0), (Value.slice none 0 0)]), (blk I 25 [(iv b.scales), vt, vm]), (d_0 false vt lr lb b.tabs), (d_3 false vm lk b.macs)] ∧ (m ≤ b.macs.length)) (fun m => b.macs.length - m) 0 ⟨(Value.slice none 0 0), (fun _ => Value.slice none 0 0), BU.as _ rfl, (Bu.g_2 (i := 1) rfl (by rfl) (by rfl)), (Nat.zero_le _)⟩ ?_
 clear BU Bu DI
 rintro m DJ Ek ⟨vm_, lk_, AN, J, hkm⟩
 have hmtk : (b.macs.take m).length = m := by rw [List.length_take]; omega
 refine b_5 (m2 (s1 AN (a_1 rfl AN.e) fun DK AP => ?_)); clear AN DJ
 refine s1 AP (a_4 rfl p_0 AP.e) fun DL AQ => ?_; clear AP DK
 refine s1 AQ (a_2 rfl ac_8 AQ.e (J.bk 5 rfl) rfl) fun DM AR => ?_; clear AQ DL
 refine s1 AR (d_1 rfl ad_1 AR.e (c_5 (J.ok 7 _ rfl)).macs) fun DN c => ?_; clear AR DM
 refine s1 c (f_7 rfl c.e c.e) fun CK N => ?_; clear c DN
 refine n1 ?_
 by_cases CB : (m : Int) < (b.macs.length : Int)
 ·skip
  rw [decide_eq_true CB] at N
  have hmkk := hth.mac m
  refine c_0 N rfl (c_6 (a_7 (b_5 (c_4 (m2 (s1 N (a_4 rfl p_0 N.e) fun DO AS => ?_)))))); clear N CK
  refine s1 AS (a_2 rfl ac_8 AS.e (J.bk 5 rfl) rfl) fun DP AT => ?_; clear AS DO
  refine s1 AT (a_1 rfl AT.e) fun DQ d => ?_; clear AT DP
  refine s1 d (b_0 rfl ad_1 ac_9 d.e (i := m) d.e (c_5 (J.ok 7 _ rfl)).macs (by decide) (by omega)) fun DR AU => ?_; clear d DQ
  refine s1 AU (e_8 rfl ac_9 AU.e (c_5 (J.ok 7 _ rfl)).macs (t_8 (by omega)) rfl (by decide)) fun DS BV => ?_; clear AU DR
  refine s2 BV (d_9 J rfl ze_61 (cs := [(iv 0), (Value.slice none 0 0)]) rfl) ?_
  rintro DT _ El ⟨L, rfl, Ax⟩ f; clear BV J DS
  refine s7 f (b_7 Ax rfl ac_9 f.e f.e (i := 0) rfl (vs := [(iv ((b.macs.getD m mac0).scale)), (lk m)]) rfl rfl (i_0 rfl (i_0 (SlAt.one ((c_5 (Ax.ok 8 _ rfl)).blk (i := m) (by omega))) u_9)) (Nat.le_of_ble_eq_true rfl)) ?_
  intro _ Dz Bv BW; clear f
  have Ay : Sep NoB w Dz [(blk L 61 [(iv ((b.macs.getD m mac0).scale)), (lk m)]), (slsR true ((b.macs.take m).length) lk_ 3 (blkN (b.macs.take m)) (blkC (b.macs.take m))), (row vm_ 103 2 ((b.macs.take m).length) (p_8 lk_ (b.macs.take m))), (d_0 true vt_ lr_ lb_ b.tabs), (blk B 37 [(iv b.scales), vt_, vm_]), (blk H 37 [(iv 0), (Value.slice none 0 0), (Value.slice none 0 0)]), (blk I 25 [(iv b.scales), vt, vm]), (d_0 false vt lr lb b.tabs), (d_3 false vm lk b.macs)] := Bv; clear Bv Ax
  refine n2 ?_
  have AV := BW.as [(9, (bptr L 0)), (8, (iv (m : Int))), (3, (bptr B 0)), (2, (bptr H 0)), (1, (bptr I 0))] rfl; clear BW
  refine a_5 (s1 AV (a_4 rfl fd_61_0 AV.e) fun DU AW => ?_); clear AV DT
  refine s1 AW (a_2 rfl ty_3 AW.e (Ay.bk 0 rfl) rfl) fun DV AX => ?_; clear AW DU
  refine s1 AX (e_7 rfl (pv1 AX.e) (bd_103_0i _)) fun DW BX => ?_; clear AX DV
  refine s2 BX (d_9 Ay rfl ze_103 (cs := [(iv 0), (Value.slice none 0 0)]) rfl) ?_
  rintro DX _ Em ⟨O, rfl, Bw⟩ g; clear BX Ay DW
  refine s7 g (b_7 Bw rfl q_3 g.e g.e (i := 0) rfl (vs := [(iv ((b.macs.getD m mac0).scale)), (Value.slice none 0 0)]) rfl rfl (i_0 rfl (i_0 rfl u_9)) (Nat.le_of_ble_eq_true rfl)) ?_
  intro _ D0 Bx BY; clear g
  have By : Sep NoB w D0 [(blk O 103 [(iv ((b.macs.getD m mac0).scale)), (Value.slice none 0 0)]), (blk L 61 [(iv ((b.macs.getD m mac0).scale)), (lk m)]), (slsR true ((b.macs.take m).length) lk_ 3 (blkN (b.macs.take m)) (blkC (b.macs.take m))), (row vm_ 103 2 ((b.macs.take m).length) (p_8 lk_ (b.macs.take m))), (d_0 true vt_ lr_ lb_ b.tabs), (blk B 37 [(iv b.scales), vt_, vm_]), (blk H 37 [(iv 0), (Value.slice none 0 0), (Value.slice none 0 0)]), (blk I 25 [(iv b.scales), vt, vm]), (d_0 false vt lr lb b.tabs), (d_3 false vm lk b.macs)] := Bx; clear Bx Bw
  refine n2 (m2 (s1 BY (a_0 rfl (evc _ _)) fun DY BZ => ?_)); clear BY DX
  refine n1 (c_4 ?_)
  have Bz := By.t_0 100 3; clear By
  have Ba := BZ.as [(11, (iv 0)), (10, (bptr O 0)), (9, (bptr L 0)), (8, (iv (m : Int))), (3, (bptr B 0)), (2, (bptr H 0)), (1, (bptr I 0))] rfl; clear BZ
  refine h_3 (G := Nat) (fun (q : Nat) a_ w_ => ∃ vk_ : Value, Fr 116 [] [(11, (iv (q : Int))), (10, (bptr O 0)), (9, (bptr L 0)), (8, (iv (m : Int))), (3, (bptr B 0)), (2, (bptr H 0)), (1, (bptr I 0))] a_ ∧ Sep NoB w w_ [(row vk_ 100 3 (((b.macs.getD m mac0).blocks.take q).length) (trips ((b.macs.getD m mac0).blocks.take q))), (blk O 103 [(iv ((b.macs.getD m mac0).scale)), vk_]), (blk L 61 [(iv ((b.macs.getD m mac0).scale)), (lk m)]), (slsR true ((b.macs.take m).length) lk_ 3 (blkN (b.macs.take m)) (blkC (b.macs.take m))), (row vm_ 103 2 ((b.macs.take m).length) (p_8 lk_ (b.macs.take m))), (d_0 true vt_ lr_ lb_ b.tabs), (blk B 37 [(iv b.scales), vt_, vm_]), (blk H 37 [(iv 0), (Value.slice none 0 0), (Value.slice none 0 0)]), (blk I 25 [(iv b.scales), vt, vm]), (d_0 false vt lr lb b.tabs), (d_3 false vm lk b.macs)] ∧ (q ≤ (b.macs.getD m mac0).blocks.length)) (fun q => (b.macs.getD m mac0).blocks.length - q) 0 ⟨(Value.slice none 0 0), Ba.as _ rfl, (Bz.g_2 (i := 0) rfl (by rfl) (by rfl)), (Nat.zero_le _)⟩ ?_
  clear Ba Bz DY
  rintro q DZ En ⟨vk_, AY, Q, hkq⟩
  have hlt_q : ((b.macs.getD m mac0).blocks.take q).length ≤ 12 := by simp only [List.length_take]; omega
  refine b_5 (m2 (s1 AY (a_1 rfl AY.e) fun Da AZ => ?_)); clear AY DZ
  refine s1 AZ (a_4 rfl x_3 AZ.e) fun Db Aa => ?_; clear AZ Da
  refine s1 Aa (a_2 rfl ty_59 Aa.e (Q.bk 2 rfl) rfl) fun Dc Ab => ?_; clear Aa Db
  refine s1 Ab (d_1 rfl un_59 Ab.e ((c_5 (Q.ok 10 _ rfl)).blk (i := m) (by omega))) fun Dd n => ?_; clear Ab Dc
  refine s1 n (f_7 rfl n.e n.e) fun De P => ?_; clear n Dd
  refine n1 ?_
  by_cases CC : (q : Int) < ((b.macs.getD m mac0).blocks.length : Int)
  ·skip
   rw [decide_eq_true CC] at P
   refine c_0 P rfl (c_6 (a_7 (b_5 (c_4 ?_))))
   have Bb := P.as [(11, (iv (q : Int))), (10, (bptr O 0)), (9, (bptr L 0)), (8, (iv (m : Int))), (3, (bptr B 0)), (2, (bptr H 0)), (1, (bptr I 0))] rfl; clear P
   refine ab_4 mixed Bb Q 17 [[], [0], [], [2], [], [3, 4], [5], [6], [7], [], [9], [], [10, 11], [12], [13], [8, 14], [15]] [(yw (bptr O 1)), (yw vk_), (yw (bptr L 1)), (yw (lk m)), (yw (iv (q : Int))), (yw (eptr (lk m) (q * 3))), (yw (eptr (lk m) (q * 3 + 0))), (yw (Value.agg #[(iv ((((b.macs.getD m mac0).blocks).getD q (0, 0, 0)).1)), (iv ((((b.macs.getD m mac0).blocks).getD q (0, 0, 0)).2.1))])), (yw (Value.agg #[(iv ((((b.macs.getD m mac0).blocks).getD q (0, 0, 0)).1)), (iv ((((b.macs.getD m mac0).blocks).getD q (0, 0, 0)).2.1))])), (yw (bptr L 1)), (yw (lk m)), (yw (iv (q : Int))), (yw (eptr (lk m) (q * 3))), (yw (eptr (lk m) (q * 3 + 2))), (yw (iv ((((b.macs.getD m mac0).blocks).getD q (0, 0, 0)).2.2))), (yw (Value.agg #[(iv ((((b.macs.getD m mac0).blocks).getD q (0, 0, 0)).1)), (iv ((((b.macs.getD m mac0).blocks).getD q (0, 0, 0)).2.1)), (iv ((((b.macs.getD m mac0).blocks).getD q (0, 0, 0)).2.2))])), (fun (C : Nat → Value) (v_ : Value) (rs_ : List Res) => True ∧ rs_ = [(row v_ 100 3 1 [(iv ((((b.macs.getD m mac0).blocks).getD q (0, 0, 0)).1)), (iv ((((b.macs.getD m mac0).blocks).getD q (0, 0, 0)).2.1)), (iv ((((b.macs.getD m mac0).blocks).getD q (0, 0, 0)).2.2))])])] (by decide +kernel) (by decide +kernel) rfl rfl ⟨dw, dw, dw, dw, dw, dw, dw, dw, dw, dw, dw, dw, dw, dw, dw, dw, (fun _ _ _ _ _ h_ => h_), trivial⟩ ?_ ?_
   ·skip
    refine ⟨fun a w C hA hS hd => gv1 (a_4 rfl fd_103_1 hA.e), ?_⟩
    refine ⟨fun a w C hA hS hd => gv1 (a_2 rfl ty_101 (gu hd 0) (hS.bk 1 rfl) rfl), ?_⟩
    refine ⟨fun a w C hA hS hd => gv1 (a_4 rfl x_3 hA.e), ?_⟩
    refine ⟨fun a w C hA hS hd => gv1 (a_2 rfl ty_59 (gu hd 2) (hS.bk 2 rfl) rfl), ?_⟩
    refine ⟨fun a w C hA hS hd => gv1 (a_1 rfl hA.e), ?_⟩
    refine ⟨fun a w C hA hS hd => gv1 (b_0 rfl un_59 ty_63 (gu hd 3) (i := q) (gu hd 4) ((c_5 (hS.ok 10 _ rfl)).blk (i := m) (by omega)) (by decide) (by omega)), ?_⟩
    refine ⟨fun a w C hA hS hd => gv1 (e_5 rfl fd_63_0 (gu hd 5) ((c_5 (hS.ok 10 _ rfl)).blk (i := m) (by omega)) (by rw [(((c_5 (hS.ok 10 _ rfl)).blk (i := m) (by omega))).1]; omega)), ?_⟩
    refine ⟨fun a w C hA hS hd => gv1 (e_8 rfl z_9 (gu hd 6) ((c_5 (hS.ok 10 _ rfl)).blk (i := m) (by omega)) (trips_sub0 (by omega)) rfl (by decide)), ?_⟩
    refine ⟨fun a w C hA hS hd => gx1 (b_3 rfl en_20 (ev1 (gu hd 7)) (to_ok _ _ _)), ?_⟩
    refine ⟨fun a w C hA hS hd => gv1 (a_4 rfl x_3 hA.e), ?_⟩
    refine ⟨fun a w C hA hS hd => gv1 (a_2 rfl ty_59 (gu hd 9) (hS.bk 2 rfl) rfl), ?_⟩
    refine ⟨fun a w C hA hS hd => gv1 (a_1 rfl hA.e), ?_⟩
    refine ⟨fun a w C hA hS hd => gv1 (b_0 rfl un_59 ty_63 (gu hd 10) (i := q) (gu hd 11) ((c_5 (hS.ok 10 _ rfl)).blk (i := m) (by omega)) (by decide) (by omega)), ?_⟩
    refine ⟨fun a w C hA hS hd => gv1 (e_5 rfl fd_63_1 (gu hd 12) ((c_5 (hS.ok 10 _ rfl)).blk (i := m) (by omega)) (by rw [(((c_5 (hS.ok 10 _ rfl)).blk (i := m) (by omega))).1]; omega)), ?_⟩
    refine ⟨fun a w C hA hS hd => gv1 (c_1 rfl ty_3 (gu hd 13) ((c_5 (hS.ok 10 _ rfl)).blk (i := m) (by omega)) (trips_at2 (by omega))), ?_⟩
    refine ⟨fun a w C hA hS hd => gv1 (e_7 rfl (pv2 (gu hd 8) (gu hd 14)) (r_4 _ _ _)), ?_⟩
    refine ⟨fun a w C hA hS hd => d_5 rfl (vblt rfl (pv1 (gu hd 15)) ad_8 ad_7 ze_100 (by decide) (cs := [(iv ((((b.macs.getD m mac0).blocks).getD q (0, 0, 0)).1)), (iv ((((b.macs.getD m mac0).blocks).getD q (0, 0, 0)).2.1)), (iv ((((b.macs.getD m mac0).blocks).getD q (0, 0, 0)).2.2))]) (bs_100_1_0iiia _ _ _) rfl (by decide) (fun _ => And.intro trivial rfl)), ?_⟩
    trivial
   intro CL D1 C rsf252 Bc E Az; clear Bb Q
   obtain ⟨CH, C0⟩ := E 16 (by decide)
   obtain ⟨Cx, CF⟩ := C0
   have A0 : Sep NoB w D1 [(row (C 16) 100 3 1 [(iv ((((b.macs.getD m mac0).blocks).getD q (0, 0, 0)).1)), (iv ((((b.macs.getD m mac0).blocks).getD q (0, 0, 0)).2.1)), (iv ((((b.macs.getD m mac0).blocks).getD q (0, 0, 0)).2.2))]), (row vk_ 100 3 (((b.macs.getD m mac0).blocks.take q).length) (trips ((b.macs.getD m mac0).blocks.take q))), (blk O 103 [(iv ((b.macs.getD m mac0).scale)), vk_]), (blk L 61 [(iv ((b.macs.getD m mac0).scale)), (lk m)]), (slsR true ((b.macs.take m).length) lk_ 3 (blkN (b.macs.take m)) (blkC (b.macs.take m))), (row vm_ 103 2 ((b.macs.take m).length) (p_8 lk_ (b.macs.take m))), (d_0 true vt_ lr_ lb_ b.tabs), (blk B 37 [(iv b.scales), vt_, vm_]), (blk H 37 [(iv 0), (Value.slice none 0 0), (Value.slice none 0 0)]), (blk I 25 [(iv b.scales), vt, vm]), (d_0 false vt lr lb b.tabs), (d_3 false vm lk b.macs)] := by rw [show catR rsf252 0 17 = ([(row (C 16) 100 3 1 [(iv ((((b.macs.getD m mac0).blocks).getD q (0, 0, 0)).1)), (iv ((((b.macs.getD m mac0).blocks).getD q (0, 0, 0)).2.1)), (iv ((((b.macs.getD m mac0).blocks).getD q (0, 0, 0)).2.2))])] : List Res) by (try simp only [catR, gr (E 0 (by decide)), gr (E 1 (by decide)), gr (E 2 (by decide)), gr (E 3 (by decide)), gr (E 4 (by decide)), gr (E 5 (by decide)), gr (E 6 (by decide)), gr (E 7 (by decide)), gr (E 8 (by decide)), gr (E 9 (by decide)), gr (E 10 (by decide)), gr (E 11 (by decide)), gr (E 12 (by decide)), gr (E 13 (by decide)), gr (E 14 (by decide)), gr (E 15 (by decide)), CF]); (try rfl)] at Az; exact Az
   have Bd := Bc.add (gs (E 1 (by decide))); clear Bc
   have o : Fr 116 [] [(106, (C 16)), (91, vk_), (11, (iv (q : Int))), (10, (bptr O 0)), (9, (bptr L 0)), (8, (iv (m : Int))), (3, (bptr B 0)), (2, (bptr H 0)), (1, (bptr I 0))] CL := Bd.add (f_6 CH rfl); clear Bd
   clear E Az CH
   clear CF
   clear Cx
   refine s2 o (k_7 A0 rfl ad_8 el_100 o.e o.e (i := 1) rfl (SlAt.e_9 (A0.f_3 0 rfl)) rfl (by simp only [maxLen]; omega) (by omega)) ?_
   intro Df A6 Eo B0 Ac
   have y := B0.g_2 (i := 1) rfl (n' := (((b.macs.getD m mac0).blocks.take q) ++ [(b.macs.getD m mac0).blocks.getD q (0, 0, 0)]).length) (xs' := (trips (((b.macs.getD m mac0).blocks.take q) ++ [(b.macs.getD m mac0).blocks.getD q (0, 0, 0)]))) (by simp) (by simp [trips]); clear B0 o A0 CL
   refine s1 Ac (a_4 rfl fd_103_1 Ac.e) fun Dg p => ?_; clear Ac Df
   refine s7 p (b_7 y rfl ty_101 p.e p.e (i := 2) rfl (vs := [A6]) (q_9 (SlAt.isSl (SlAt.e_9 (y.f_3 1 rfl)))) rfl (i_0 (SlAt.one (SlAt.e_9 (y.f_3 1 rfl))) u_9) (Nat.le_of_ble_eq_true rfl)) ?_
   intro _ D2 B1 Ad; clear p
   have B2 : Sep NoB w D2 [(row (C 16) 100 3 1 [(iv ((((b.macs.getD m mac0).blocks).getD q (0, 0, 0)).1)), (iv ((((b.macs.getD m mac0).blocks).getD q (0, 0, 0)).2.1)), (iv ((((b.macs.getD m mac0).blocks).getD q (0, 0, 0)).2.2))]), (row A6 100 3 ((((b.macs.getD m mac0).blocks.take q) ++ [(b.macs.getD m mac0).blocks.getD q (0, 0, 0)]).length) (trips (((b.macs.getD m mac0).blocks.take q) ++ [(b.macs.getD m mac0).blocks.getD q (0, 0, 0)]))), (blk O 103 [(iv ((b.macs.getD m mac0).scale)), A6]), (blk L 61 [(iv ((b.macs.getD m mac0).scale)), (lk m)]), (slsR true ((b.macs.take m).length) lk_ 3 (blkN (b.macs.take m)) (blkC (b.macs.take m))), (row vm_ 103 2 ((b.macs.take m).length) (p_8 lk_ (b.macs.take m))), (d_0 true vt_ lr_ lb_ b.tabs), (blk B 37 [(iv b.scales), vt_, vm_]), (blk H 37 [(iv 0), (Value.slice none 0 0), (Value.slice none 0 0)]), (blk I 25 [(iv b.scales), vt, vm]), (d_0 false vt lr lb b.tabs), (d_3 false vm lk b.macs)] := B1; clear B1 y
   refine e_6 (g_3 (a_7 (a_5 (s1 Ad (a_1 rfl Ad.e) fun Dh Ae => ?_)))); clear Ad Dg
   refine s1 Ae (e_3 rfl Ae.e (evc _ _) (by omega) (by omega)) fun Di Af => ?_; clear Ae Dh
   refine s1 Af (a_0 rfl Af.e) fun Ec Cp => ?_; clear Af Di
   refine e_6 ?_
   have Ct := B2.gkp (gpc 1 (gpc 2 (gpc 3 (gpc 4 (gpc 5 (gpc 6 (gpc 7 (gpc 8 (gpc 9 (gpc 10 (gpc 11 gpn))))))))))); clear B2
   exact a_7 ⟨q + 1, ⟨A6, Cp.as _ rfl, (Ct.g_2 (i := 0) rfl (by rw [s_1 (by omega)]) (by rw [s_1 (by omega)])), by omega⟩, by omega⟩
  skip
  rw [decide_eq_false CC] at P
  refine b_4 P rfl (g_6 (b_2 (b_2 (f_2 (a_7 ?_)))))
  have Ag := P.as [(10, (bptr O 0)), (8, (iv (m : Int))), (3, (bptr B 0)), (2, (bptr H 0)), (1, (bptr I 0))] rfl; clear P
  refine a_5 (s1 Ag (a_4 rfl v_2 Ag.e) fun Dj Ah => ?_); clear Ag De
  refine s1 Ah (a_2 rfl ae_8 Ah.e (Q.bk 6 rfl) rfl) fun Dk Ai => ?_; clear Ah Dj
  refine s1 Ai (c_9 rfl q_3 (Ai.ev rfl) (Q.bk 1 rfl) (l := [(iv ((b.macs.getD m mac0).scale)), vk_]) rfl rfl) fun Dl Aj => ?_; clear Ai Dk
  refine s2 Aj (h_0 Q rfl (pv1 Aj.e) ae_3 q_3 ze_103 (by decide) (cs := [(iv ((b.macs.getD m mac0).scale)), vk_]) (bs_103_1_0iva _ _)) ?_
  rintro Dm _ Ep ⟨Ds, rfl, z⟩ r; clear Aj Q Dl
  refine s2 r (k_7 z rfl ae_3 el_103 r.e r.e (i := 5) rfl (SlAt.of_blk (z.bk 0 rfl) rfl (Nat.le_of_ble_eq_true rfl)) (i_0 rfl (i_0 (SlAt.one (SlAt.e_9 (z.f_3 1 rfl))) u_9)) (by simp only [maxLen]; omega) (by omega)) ?_
  intro Dn A7 Eq B3 Ak
  have AA := B3.g_2 (i := 5) rfl (n' := ((b.macs.take m) ++ [(b.macs.getD m mac0)]).length) (xs' := (p_8 (putV (b.macs.take m).length lk_ vk_) ((b.macs.take m) ++ [(b.macs.getD m mac0)]))) (by simp) (macs_snoc (b.macs.getD m mac0) vk_); clear B3 r z Dm
  refine s1 Ak (a_4 rfl v_2 Ak.e) fun Do s => ?_; clear Ak Dn
  refine s7 s (b_7 AA rfl ae_8 s.e s.e (i := 7) rfl (vs := [A7]) (q_9 (SlAt.isSl (SlAt.e_9 (AA.f_3 5 rfl)))) rfl (i_0 (SlAt.one (SlAt.e_9 (AA.f_3 5 rfl))) u_9) (Nat.le_of_ble_eq_true rfl)) ?_
  intro _ D3 B4 Be; clear s
  have B5 : Sep NoB w D3 [(blk Ds 103 [(iv ((b.macs.getD m mac0).scale)), vk_]), (row vk_ 100 3 (((b.macs.getD m mac0).blocks.take q).length) (trips ((b.macs.getD m mac0).blocks.take q))), (blk O 103 [(iv ((b.macs.getD m mac0).scale)), vk_]), (blk L 61 [(iv ((b.macs.getD m mac0).scale)), (lk m)]), (slsR true ((b.macs.take m).length) lk_ 3 (blkN (b.macs.take m)) (blkC (b.macs.take m))), (row A7 103 2 (((b.macs.take m) ++ [(b.macs.getD m mac0)]).length) (p_8 (putV (b.macs.take m).length lk_ vk_) ((b.macs.take m) ++ [(b.macs.getD m mac0)]))), (d_0 true vt_ lr_ lb_ b.tabs), (blk B 37 [(iv b.scales), vt_, A7]), (blk H 37 [(iv 0), (Value.slice none 0 0), (Value.slice none 0 0)]), (blk I 25 [(iv b.scales), vt, vm]), (d_0 false vt lr lb b.tabs), (d_3 false vm lk b.macs)] := B4; clear B4 AA
  refine e_6 (g_3 (a_7 ?_))
  have Al := Be.as [(8, (iv (m : Int))), (3, (bptr B 0)), (2, (bptr H 0)), (1, (bptr I 0))] rfl; clear Be
  refine a_5 (s1 Al (a_1 rfl Al.e) fun Dp Am => ?_); clear Al Do
  refine s1 Am (e_3 rfl Am.e (evc _ _) (by omega) (by omega)) fun Dq An => ?_; clear Am Dp
  refine s1 An (a_0 rfl An.e) fun Ed Cq => ?_; clear An Dq
  refine e_6 ?_
  have B6 := B5.g_2 (i := 1) rfl (n' := (b.macs.getD m mac0).blocks.length) (xs' := trips (b.macs.getD m mac0).blocks) (by rw [List.take_of_length_le (by omega)]) (by rw [List.take_of_length_le (by omega)]); clear B5
  have B7 := B6.gkp (gpc 1 (gpc 4 (gpc 0 (gpc 2 (gpc 3 (gpc 5 (gpc 6 (gpc 7 (gpc 8 (gpc 9 (gpc 10 (gpc 11 gpn)))))))))))); clear B6
  have B8 := k_8 (k' := blkN (b.macs.take (m + 1))) (c' := blkC (b.macs.take (m + 1))) B7 (blkN_new (by omega)).1 (blkN_new (by omega)).2 blkN_old; clear B7
  have B9 := sep_sls_say (i := 0) (n' := (b.macs.take (m + 1)).length) (v' := (putV (b.macs.take m).length lk_ vk_)) (k' := blkN (b.macs.take (m + 1))) (c' := blkC (b.macs.take (m + 1))) B8 rfl (take_len1 (by omega)) (fun _ _ => ⟨rfl, rfl, rfl⟩); clear B8
  have Cu := B9.gkp (gpc 0 (gpc 4 (gpc 5 (gpc 6 (gpc 7 (gpc 8 (gpc 9 (gpc 10 gpn)))))))); clear B9
  exact a_7 ⟨m + 1, ⟨A7, (putV (b.macs.take m).length lk_ vk_), Cq.as _ rfl, (Cu.g_2 (i := 1) rfl (by rw [s_1 (by omega)]) (by rw [s_1 (by omega)])), by omega⟩, by omega⟩
 skip
 rw [decide_eq_false CB] at N
 refine b_4 N rfl (g_6 (b_2 (b_2 (f_2 (a_7 (b_5 ?_))))))
 have Ao := N.as [(3, (bptr B 0)), (2, (bptr H 0))] rfl; clear N
 refine a_5 (s1 Ao (c_9 rfl aa_0 (Ao.ev rfl) (J.bk 3 rfl) (l := [(iv b.scales), vt_, vm_]) rfl rfl) fun Ee t => ?_); clear Ao CK
 refine s7 t (b_7 J rfl aa_0 t.e t.e (i := 4) rfl (vs := [(iv b.scales), vt_, vm_]) rfl rfl (i_0 rfl (i_0 ((b_8 (J.ok 2 _ rfl)).tabs.one) (i_0 (SlAt.one (SlAt.e_9 (J.f_3 1 rfl))) u_9))) (Nat.le_of_ble_eq_true rfl)) ?_
 intro _ D4 CA Bf; clear t
 have A1 : Sep NoB w D4 [(slsR true ((b.macs.take m).length) lk_ 3 (blkN (b.macs.take m)) (blkC (b.macs.take m))), (row vm_ 103 2 ((b.macs.take m).length) (p_8 lk_ (b.macs.take m))), (d_0 true vt_ lr_ lb_ b.tabs), (blk B 37 [(iv b.scales), vt_, vm_]), (blk H 37 [(iv b.scales), vt_, vm_]), (blk I 25 [(iv b.scales), vt, vm]), (d_0 false vt lr lb b.tabs), (d_3 false vm lk b.macs)] := CA; clear CA J
 refine n1 (c_2 (a_8 Bf (.inl rfl) (a_3 Bf rfl (.cellA rfl aa_0 (A1.bk 4 rfl) (l := [(iv b.scales), vt_, vm_]) rfl rfl)) ?_))
 have Cv := A1.gkp (gpc 1 (gpc 0 (gpc 2 gpn))); clear A1
 have hmt : m = b.macs.length := by omega
 have hz := Cv
 rw [hmt, List.take_length] at hz
 exact ⟨_, _, _, _, _, rfl, (sep_macs_join hz).keep [1, 0] (by decide) _ rfl rfl⟩
end Go.Proofs.Ytohgladndklciaa

namespace Go.Hard
def e_2 : h_4 := ⟨3, [⟨0, 1, [(100, 200), (200, 300), (300, 500), (400, 600)], [2], 2⟩, ⟨1, 2, [(250, 90), (350, 50)], [], 0⟩], [⟨0, [(150, 154, 160), (240, 246, 249)]⟩, ⟨1, [(300, 300, 299)]⟩]⟩
open Go.RowKit Go.Eng in
theorem kept_tabsC (a b c d : Value) : n_7 (putV 1 (putV 0 (fun _ => Value.slice none 0 0) a) c) (putV 1 (putV 0 (fun _ => Value.slice none 0 0) b) d) e_2.tabs = [.int .i64 0, .int .i64 1, a, b, .int .i64 2, .int .i64 1, .int .i64 2, c, d, .int .i64 0] := rfl
open Go.RowKit Go.Eng in
theorem kept_macsC (a b : Value) : p_8 (putV 1 (putV 0 (fun _ => Value.slice none 0 0) a) b) e_2.macs = [.int .i64 0, a, .int .i64 1, b] := rfl
theorem kept_thin : o_6 e_2 := (thin_iff (n := 0)).1 (by decide) |>.1
theorem kept_read : aa_9 e_2 [(0, 170)] = 0 := by decide
theorem kept_spans : n_3 e_2 [(0, 170)] = some [(161, 164), (259, 266), (83, 87)] := by
  unfold n_3
  rw [if_pos (by decide)]
  show s_4 3 _ (400000 + 1) _ = _
  rw [s_4, if_pos (by decide), if_neg (by decide)]
  show s_4 3 _ (399999 + 1) _ = _
  rw [s_4, if_pos (by decide), if_pos (by decide)]
  decide
end Go.Hard

namespace Go.Proofs.Ytohgladndklciaa
open Go.RowKit Go.Shelf Go.Eng Go.Hard
theorem bs_107_4_0iia_1iia_2iia_3iia (x0_0 : Int) (x0_1 : Int) (x1_0 : Int) (x1_1 : Int) (x2_0 : Int) (x2_1 : Int) (x3_0 : Int) (x3_1 : Int) : Instr.fill (fun i => some (i * 2, 2)) ((Array.range (4 * 2)).map ((Value.agg #[(iv 0), (iv 0)]).cells[· % (Value.agg #[(iv 0), (iv 0)]).cells.size]!)) [(0, .agg #[(.int .i64 x0_0), (.int .i64 x0_1)]), (1, .agg #[(.int .i64 x1_0), (.int .i64 x1_1)]), (2, .agg #[(.int .i64 x2_0), (.int .i64 x2_1)]), (3, .agg #[(.int .i64 x3_0), (.int .i64 x3_1)])] = some (([(.int .i64 x0_0), (.int .i64 x0_1), (.int .i64 x1_0), (.int .i64 x1_1), (.int .i64 x2_0), (.int .i64 x2_1), (.int .i64 x3_0), (.int .i64 x3_1)] : List Value).toArray) := by kernel_rfl
theorem bd_106_0i_1i_2s_3s_4i (x0_0 : Int) (x1_0 : Int) (x2_0 : Value) (hx2_0 : IsSl x2_0) (x3_0 : Value) (hx3_0 : IsSl x3_0) (x4_0 : Int) (w : World) : (Instr.build 106 #[(0, (.int .i64 x0_0)), (1, (.int .i64 x1_0)), (2, x2_0), (3, x3_0), (4, (.int .i64 x4_0))]).run Try.prog w = .ok (.agg #[(.int .i64 x0_0), (.int .i64 x1_0), x2_0, x3_0, (.int .i64 x4_0)]) w := by obtain ⟨Ax2_0, Bx2_0, Cx2_0, rfl⟩ := hx2_0; obtain ⟨Ax3_0, Bx3_0, Cx3_0, rfl⟩ := hx3_0; kernel_rfl
theorem bs_107_2_0iia_1iia (x0_0 : Int) (x0_1 : Int) (x1_0 : Int) (x1_1 : Int) : Instr.fill (fun i => some (i * 2, 2)) ((Array.range (2 * 2)).map ((Value.agg #[(iv 0), (iv 0)]).cells[· % (Value.agg #[(iv 0), (iv 0)]).cells.size]!)) [(0, .agg #[(.int .i64 x0_0), (.int .i64 x0_1)]), (1, .agg #[(.int .i64 x1_0), (.int .i64 x1_1)])] = some (([(.int .i64 x0_0), (.int .i64 x0_1), (.int .i64 x1_0), (.int .i64 x1_1)] : List Value).toArray) := by kernel_rfl
theorem bd_106_0i_1i_2s (x0_0 : Int) (x1_0 : Int) (x2_0 : Value) (hx2_0 : IsSl x2_0) (w : World) : (Instr.build 106 #[(0, (.int .i64 x0_0)), (1, (.int .i64 x1_0)), (2, x2_0)]).run Try.prog w = .ok (.agg #[(.int .i64 x0_0), (.int .i64 x1_0), x2_0, (Value.slice none 0 0), (iv 0)]) w := by obtain ⟨Ax2_0, Bx2_0, Cx2_0, rfl⟩ := hx2_0; kernel_rfl
theorem bs_106_2_0iivvia_1iivvia (x0_0 : Int) (x0_1 : Int) (x0_2 : Value) (x0_3 : Value) (x0_4 : Int) (x1_0 : Int) (x1_1 : Int) (x1_2 : Value) (x1_3 : Value) (x1_4 : Int) : Instr.fill (fun i => some (i * 5, 5)) ((Array.range (2 * 5)).map ((Value.agg #[(iv 0), (iv 0), (Value.slice none 0 0), (Value.slice none 0 0), (iv 0)]).cells[· % (Value.agg #[(iv 0), (iv 0), (Value.slice none 0 0), (Value.slice none 0 0), (iv 0)]).cells.size]!)) [(0, .agg #[(.int .i64 x0_0), (.int .i64 x0_1), x0_2, x0_3, (.int .i64 x0_4)]), (1, .agg #[(.int .i64 x1_0), (.int .i64 x1_1), x1_2, x1_3, (.int .i64 x1_4)])] = some (([(.int .i64 x0_0), (.int .i64 x0_1), x0_2, x0_3, (.int .i64 x0_4), (.int .i64 x1_0), (.int .i64 x1_1), x1_2, x1_3, (.int .i64 x1_4)] : List Value).toArray) := by kernel_rfl
theorem en_31 : ∀ args w, (callFunc 31 args).run Try.prog w = .ok (.enter 31 args) w := enters_of Try.func31 (by kernel_rfl) rfl
theorem bs_100_2_0iiia_1iiia (x0_0 : Int) (x0_1 : Int) (x0_2 : Int) (x1_0 : Int) (x1_1 : Int) (x1_2 : Int) : Instr.fill (fun i => some (i * 3, 3)) ((Array.range (2 * 3)).map ((Value.agg #[(iv 0), (iv 0), (iv 0)]).cells[· % (Value.agg #[(iv 0), (iv 0), (iv 0)]).cells.size]!)) [(0, .agg #[(.int .i64 x0_0), (.int .i64 x0_1), (.int .i64 x0_2)]), (1, .agg #[(.int .i64 x1_0), (.int .i64 x1_1), (.int .i64 x1_2)])] = some (([(.int .i64 x0_0), (.int .i64 x0_1), (.int .i64 x0_2), (.int .i64 x1_0), (.int .i64 x1_1), (.int .i64 x1_2)] : List Value).toArray) := by kernel_rfl
theorem bd_103_0i_1s (x0_0 : Int) (x1_0 : Value) (hx1_0 : IsSl x1_0) (w : World) : (Instr.build 103 #[(0, (.int .i64 x0_0)), (1, x1_0)]).run Try.prog w = .ok (.agg #[(.int .i64 x0_0), x1_0]) w := by obtain ⟨Ax1_0, Bx1_0, Cx1_0, rfl⟩ := hx1_0; kernel_rfl
theorem bs_103_2_0iva_1iva (x0_0 : Int) (x0_1 : Value) (x1_0 : Int) (x1_1 : Value) : Instr.fill (fun i => some (i * 2, 2)) ((Array.range (2 * 2)).map ((Value.agg #[(iv 0), (Value.slice none 0 0)]).cells[· % (Value.agg #[(iv 0), (Value.slice none 0 0)]).cells.size]!)) [(0, .agg #[(.int .i64 x0_0), x0_1]), (1, .agg #[(.int .i64 x1_0), x1_1])] = some (([(.int .i64 x0_0), x0_1, (.int .i64 x1_0), x1_1] : List Value).toArray) := by kernel_rfl
theorem bd_37_0i_1s_2s (x0_0 : Int) (x1_0 : Value) (hx1_0 : IsSl x1_0) (x2_0 : Value) (hx2_0 : IsSl x2_0) (w : World) : (Instr.build 37 #[(0, (.int .i64 x0_0)), (1, x1_0), (2, x2_0)]).run Try.prog w = .ok (.agg #[(.int .i64 x0_0), x1_0, x2_0]) w := by obtain ⟨Ax1_0, Bx1_0, Cx1_0, rfl⟩ := hx1_0; obtain ⟨Ax2_0, Bx2_0, Cx2_0, rfl⟩ := hx2_0; kernel_rfl
set_option maxHeartbeats 1000000 in
theorem kept_ok (w : World) :
  Calls Try.prog 46 #[] w (Ret fun v w' => ∃ vt' vm' lr' lb' lk', v = .agg #[.int .i64 e_2.scales, vt', vm'] ∧ Sep NoB w w' [d_0 true vt' lr' lb' e_2.tabs, d_3 true vm' lk' e_2.macs]) := by
 refine a_9 Try.func46 rfl fun a0 X => ?_
 replace X : Fr 25 [] [] a0 := X
 have AE : Sep NoB w w [] := Sep.start _ _
 refine m2 (s2 X (d_9 AE rfl ze_37 (cs := [(iv 0), (Value.slice none 0 0), (Value.slice none 0 0)]) rfl) ?_)
 rintro a1 _ w3 ⟨b4, rfl, AF⟩ AB; clear X AE a0
 refine n4 (s1 AB (e_7 rfl (pv2 (evc _ _) (evc _ _)) (m_6 _ _)) fun a6 AC => ?_); clear AB a1
 refine s1 AC (e_7 rfl (pv2 (evc _ _) (evc _ _)) (m_6 _ _)) fun a8 AD => ?_; clear AC a6
 refine s1 AD (e_7 rfl (pv2 (evc _ _) (evc _ _)) (m_6 _ _)) fun AW Y => ?_; clear AD a8
 refine s1 Y (e_7 rfl (pv2 (evc _ _) (evc _ _)) (m_6 _ _)) fun AX I => ?_; clear Y AW
 refine s2 I (h_0 AF rfl (pv4 I.e I.e I.e I.e) k_4 i_7 aa_6 (by decide) (cs := [(iv 100), (iv 200), (iv 200), (iv 300), (iv 300), (iv 500), (iv 400), (iv 600)]) (bs_107_4_0iia_1iia_2iia_3iia _ _ _ _ _ _ _ _)) ?_
 rintro AY _ BC ⟨C, rfl, m⟩ Z; clear I AF AX
 refine s2 Z (h_0 m rfl (pv1 (evc _ _)) j_1 ty_3 ze_3 (by decide) (cs := [(iv 2)]) (bs_3_1_0i _)) ?_
 rintro AZ _ BD ⟨D, rfl, o⟩ J; clear Z m AY
 refine s1 J (e_7 rfl (pv5 (evc _ _) (evc _ _) J.e J.e (evc _ _)) (bd_106_0i_1i_2s_3s_4i _ _ _ ⟨_, _, _, rfl⟩ _ ⟨_, _, _, rfl⟩ _)) fun Aa a => ?_; clear J AZ
 refine s1 a (e_7 rfl (pv2 (evc _ _) (evc _ _)) (m_6 _ _)) fun Ab b => ?_; clear a Aa
 refine s1 b (e_7 rfl (pv2 (evc _ _) (evc _ _)) (m_6 _ _)) fun Ac K => ?_; clear b Ab
 refine s2 K (h_0 o rfl (pv2 K.e K.e) k_4 i_7 aa_6 (by decide) (cs := [(iv 250), (iv 90), (iv 350), (iv 50)]) (bs_107_2_0iia_1iia _ _ _ _)) ?_
 rintro Ad _ BE ⟨E, rfl, p⟩ Q; clear K o Ac
 refine s1 Q (e_7 rfl (pv3 (evc _ _) (evc _ _) Q.e) (bd_106_0i_1i_2s _ _ _ ⟨_, _, _, rfl⟩)) fun Ae L => ?_; clear Q Ad
 refine s2 L (h_0 p rfl (pv2 L.e L.e) ad_2 k_9 ze_106 (by decide) (cs := [(iv 0), (iv 1), (Value.slice (some ⟨C, 0, none⟩) 4 4), (Value.slice (some ⟨D, 0, none⟩) 1 1), (iv 2), (iv 1), (iv 2), (Value.slice (some ⟨E, 0, none⟩) 2 2), (Value.slice none 0 0), (iv 0)]) (bs_106_2_0iivvia_1iivvia _ _ _ _ _ _ _ _ _ _)) ?_
 rintro Af _ BF ⟨F, rfl, q⟩ c; clear L p Ae
 refine s2 c (b_3 rfl en_31 (ev2 (evc _ _) (evc _ _)) (n_4 _ _ _)) ?_
 rintro Ag _ BG ⟨rfl, h⟩ R; have r := q.step h; clear h c q Af
 refine s1 R (e_7 rfl (pv2 R.e (evc _ _)) (r_4 _ _ _)) fun Ah d => ?_; clear R Ag
 refine s2 d (b_3 rfl en_31 (ev2 (evc _ _) (evc _ _)) (n_4 _ _ _)) ?_
 rintro Ai _ BH ⟨rfl, j⟩ S; have s := r.step j; clear j d r Ah
 refine s1 S (e_7 rfl (pv2 S.e (evc _ _)) (r_4 _ _ _)) fun Aj M => ?_; clear S Ai
 refine s2 M (h_0 s rfl (pv2 M.e M.e) ad_8 ad_7 ze_100 (by decide) (cs := [(iv 150), (iv 154), (iv 160), (iv 240), (iv 246), (iv 249)]) (bs_100_2_0iiia_1iiia _ _ _ _ _ _)) ?_
 rintro Ak _ BI ⟨A, rfl, t⟩ T; clear M s Aj
 refine s1 T (e_7 rfl (pv2 (evc _ _) T.e) (bd_103_0i_1s _ _ ⟨_, _, _, rfl⟩)) fun Al f => ?_; clear T Ak
 refine s2 f (b_3 rfl en_31 (ev2 (evc _ _) (evc _ _)) (n_4 _ _ _)) ?_
 rintro Am _ BJ ⟨rfl, k⟩ U; have u := t.step k; clear k f t Al
 refine s1 U (e_7 rfl (pv2 U.e (evc _ _)) (r_4 _ _ _)) fun An V => ?_; clear U Am
 refine s2 V (h_0 u rfl (pv1 V.e) ad_8 ad_7 ze_100 (by decide) (cs := [(iv 300), (iv 300), (iv 299)]) (bs_100_1_0iiia _ _ _)) ?_
 rintro Ao _ BK ⟨B, rfl, x⟩ W; clear V u An
 refine s1 W (e_7 rfl (pv2 (evc _ _) W.e) (bd_103_0i_1s _ _ ⟨_, _, _, rfl⟩)) fun Ap N => ?_; clear W Ao
 refine s2 N (h_0 x rfl (pv2 N.e N.e) ae_3 q_3 ze_103 (by decide) (cs := [(iv 0), (Value.slice (some ⟨A, 0, none⟩) 2 2), (iv 1), (Value.slice (some ⟨B, 0, none⟩) 1 1)]) (bs_103_2_0iva_1iva _ _ _ _)) ?_
 rintro Aq _ BL ⟨G, rfl, y⟩ O; clear N x Ap
 refine s1 O (e_7 rfl (pv3 (evc _ _) O.e O.e) (bd_37_0i_1s_2s _ _ ⟨_, _, _, rfl⟩ _ ⟨_, _, _, rfl⟩)) fun BB P => ?_; clear O Aq
 refine s7 P (b_7 y rfl aa_0 P.e P.e (i := 7) rfl (vs := [(iv 3), (Value.slice (some ⟨F, 0, none⟩) 2 2), (Value.slice (some ⟨G, 0, none⟩) 2 2)]) rfl rfl (i_0 rfl (i_0 rfl (i_0 rfl u_9))) (Nat.le_of_ble_eq_true rfl)) ?_
 intro _ H z g; clear P
 have AA : Sep NoB w H [(blk G 103 [(iv 0), (Value.slice (some ⟨A, 0, none⟩) 2 2), (iv 1), (Value.slice (some ⟨B, 0, none⟩) 1 1)]), (blk B 100 [(iv 300), (iv 300), (iv 299)]), (blk A 100 [(iv 150), (iv 154), (iv 160), (iv 240), (iv 246), (iv 249)]), (blk F 106 [(iv 0), (iv 1), (Value.slice (some ⟨C, 0, none⟩) 4 4), (Value.slice (some ⟨D, 0, none⟩) 1 1), (iv 2), (iv 1), (iv 2), (Value.slice (some ⟨E, 0, none⟩) 2 2), (Value.slice none 0 0), (iv 0)]), (blk E 107 [(iv 250), (iv 90), (iv 350), (iv 50)]), (blk D 3 [(iv 2)]), (blk C 107 [(iv 100), (iv 200), (iv 200), (iv 300), (iv 300), (iv 500), (iv 400), (iv 600)]), (blk b4 37 [(iv 3), (Value.slice (some ⟨F, 0, none⟩) 2 2), (Value.slice (some ⟨G, 0, none⟩) 2 2)])] := z; clear z y
 refine n1 (c_2 (a_8 g (.inl rfl) (a_3 g rfl (.cellA rfl aa_0 (AA.bk 7 rfl) (l := [(iv 3), (Value.slice (some ⟨F, 0, none⟩) 2 2), (Value.slice (some ⟨G, 0, none⟩) 2 2)]) rfl rfl)) ?_))
 have Ar := AA.v_0 (i := 6) (sz := 2) (n := 4) rfl rfl (by decide)
 have As := Ar.v_0 (i := 5) (sz := 1) (n := 1) rfl rfl (by decide)
 have At := As.v_0 (i := 4) (sz := 2) (n := 2) rfl rfl (by decide)
 have Au := At.v_0 (i := 3) (sz := 5) (n := 2) rfl rfl (by decide)
 have Av := Au.v_0 (i := 2) (sz := 3) (n := 2) rfl rfl (by decide)
 have Aw := Av.v_0 (i := 1) (sz := 3) (n := 1) rfl rfl (by decide)
 have Ax := Aw.v_0 (i := 0) (sz := 2) (n := 2) rfl rfl (by decide)
 have Ay : Sep NoB w H [(row (Value.slice (some ⟨C, 0, none⟩) 4 4) 107 2 4 [(iv 100), (iv 200), (iv 200), (iv 300), (iv 300), (iv 500), (iv 400), (iv 600)]), (row (Value.slice (some ⟨E, 0, none⟩) 2 2) 107 2 2 [(iv 250), (iv 90), (iv 350), (iv 50)]), (row (Value.slice (some ⟨D, 0, none⟩) 1 1) 3 1 1 [(iv 2)]), (row (Value.slice (some ⟨F, 0, none⟩) 2 2) 106 5 2 [(iv 0), (iv 1), (Value.slice (some ⟨C, 0, none⟩) 4 4), (Value.slice (some ⟨D, 0, none⟩) 1 1), (iv 2), (iv 1), (iv 2), (Value.slice (some ⟨E, 0, none⟩) 2 2), (Value.slice none 0 0), (iv 0)]), (row (Value.slice (some ⟨A, 0, none⟩) 2 2) 100 3 2 [(iv 150), (iv 154), (iv 160), (iv 240), (iv 246), (iv 249)]), (row (Value.slice (some ⟨B, 0, none⟩) 1 1) 100 3 1 [(iv 300), (iv 300), (iv 299)]), (row (Value.slice (some ⟨G, 0, none⟩) 2 2) 103 2 2 [(iv 0), (Value.slice (some ⟨A, 0, none⟩) 2 2), (iv 1), (Value.slice (some ⟨B, 0, none⟩) 1 1)])] := Ax.keep [6, 4, 5, 3, 2, 1, 0] (by decide) _ rfl rfl
 have Az : Sep NoB w H [(slsR true 0 (fun _ => Value.slice none 0 0) 2 (m_3 e_2.tabs) (m_2 e_2.tabs)), (row (Value.slice (some ⟨C, 0, none⟩) 4 4) 107 2 4 [(iv 100), (iv 200), (iv 200), (iv 300), (iv 300), (iv 500), (iv 400), (iv 600)]), (row (Value.slice (some ⟨E, 0, none⟩) 2 2) 107 2 2 [(iv 250), (iv 90), (iv 350), (iv 50)]), (row (Value.slice (some ⟨D, 0, none⟩) 1 1) 3 1 1 [(iv 2)]), (row (Value.slice (some ⟨F, 0, none⟩) 2 2) 106 5 2 [(iv 0), (iv 1), (Value.slice (some ⟨C, 0, none⟩) 4 4), (Value.slice (some ⟨D, 0, none⟩) 1 1), (iv 2), (iv 1), (iv 2), (Value.slice (some ⟨E, 0, none⟩) 2 2), (Value.slice none 0 0), (iv 0)]), (row (Value.slice (some ⟨A, 0, none⟩) 2 2) 100 3 2 [(iv 150), (iv 154), (iv 160), (iv 240), (iv 246), (iv 249)]), (row (Value.slice (some ⟨B, 0, none⟩) 1 1) 100 3 1 [(iv 300), (iv 300), (iv 299)]), (row (Value.slice (some ⟨G, 0, none⟩) 2 2) 103 2 2 [(iv 0), (Value.slice (some ⟨A, 0, none⟩) 2 2), (iv 1), (Value.slice (some ⟨B, 0, none⟩) 1 1)])] := r_1 Ay (fun _ => Value.slice none 0 0) 2 (m_3 e_2.tabs) (m_2 e_2.tabs)
 have A0 : Sep NoB w H [(row (Value.slice (some ⟨C, 0, none⟩) 4 4) 107 2 4 [(iv 100), (iv 200), (iv 200), (iv 300), (iv 300), (iv 500), (iv 400), (iv 600)]), (slsR true 0 (fun _ => Value.slice none 0 0) 2 (m_3 e_2.tabs) (m_2 e_2.tabs)), (row (Value.slice (some ⟨E, 0, none⟩) 2 2) 107 2 2 [(iv 250), (iv 90), (iv 350), (iv 50)]), (row (Value.slice (some ⟨D, 0, none⟩) 1 1) 3 1 1 [(iv 2)]), (row (Value.slice (some ⟨F, 0, none⟩) 2 2) 106 5 2 [(iv 0), (iv 1), (Value.slice (some ⟨C, 0, none⟩) 4 4), (Value.slice (some ⟨D, 0, none⟩) 1 1), (iv 2), (iv 1), (iv 2), (Value.slice (some ⟨E, 0, none⟩) 2 2), (Value.slice none 0 0), (iv 0)]), (row (Value.slice (some ⟨A, 0, none⟩) 2 2) 100 3 2 [(iv 150), (iv 154), (iv 160), (iv 240), (iv 246), (iv 249)]), (row (Value.slice (some ⟨B, 0, none⟩) 1 1) 100 3 1 [(iv 300), (iv 300), (iv 299)]), (row (Value.slice (some ⟨G, 0, none⟩) 2 2) 103 2 2 [(iv 0), (Value.slice (some ⟨A, 0, none⟩) 2 2), (iv 1), (Value.slice (some ⟨B, 0, none⟩) 1 1)])] := Az.keep [1, 0, 2, 3, 4, 5, 6, 7] (by decide) _ rfl rfl
 have A1 : Sep NoB w H [(slsR true 1 (putV 0 (fun _ => Value.slice none 0 0) (Value.slice (some ⟨C, 0, none⟩) 4 4)) 2 (m_3 e_2.tabs) (m_2 e_2.tabs)), (row (Value.slice (some ⟨E, 0, none⟩) 2 2) 107 2 2 [(iv 250), (iv 90), (iv 350), (iv 50)]), (row (Value.slice (some ⟨D, 0, none⟩) 1 1) 3 1 1 [(iv 2)]), (row (Value.slice (some ⟨F, 0, none⟩) 2 2) 106 5 2 [(iv 0), (iv 1), (Value.slice (some ⟨C, 0, none⟩) 4 4), (Value.slice (some ⟨D, 0, none⟩) 1 1), (iv 2), (iv 1), (iv 2), (Value.slice (some ⟨E, 0, none⟩) 2 2), (Value.slice none 0 0), (iv 0)]), (row (Value.slice (some ⟨A, 0, none⟩) 2 2) 100 3 2 [(iv 150), (iv 154), (iv 160), (iv 240), (iv 246), (iv 249)]), (row (Value.slice (some ⟨B, 0, none⟩) 1 1) 100 3 1 [(iv 300), (iv 300), (iv 299)]), (row (Value.slice (some ⟨G, 0, none⟩) 2 2) 103 2 2 [(iv 0), (Value.slice (some ⟨A, 0, none⟩) 2 2), (iv 1), (Value.slice (some ⟨B, 0, none⟩) 1 1)])] := k_8 (k' := m_3 e_2.tabs) (c' := m_2 e_2.tabs) A0 rfl rfl (fun i hi => absurd hi (Nat.not_lt_zero _))
 have A2 : Sep NoB w H [(row (Value.slice (some ⟨E, 0, none⟩) 2 2) 107 2 2 [(iv 250), (iv 90), (iv 350), (iv 50)]), (slsR true 1 (putV 0 (fun _ => Value.slice none 0 0) (Value.slice (some ⟨C, 0, none⟩) 4 4)) 2 (m_3 e_2.tabs) (m_2 e_2.tabs)), (row (Value.slice (some ⟨D, 0, none⟩) 1 1) 3 1 1 [(iv 2)]), (row (Value.slice (some ⟨F, 0, none⟩) 2 2) 106 5 2 [(iv 0), (iv 1), (Value.slice (some ⟨C, 0, none⟩) 4 4), (Value.slice (some ⟨D, 0, none⟩) 1 1), (iv 2), (iv 1), (iv 2), (Value.slice (some ⟨E, 0, none⟩) 2 2), (Value.slice none 0 0), (iv 0)]), (row (Value.slice (some ⟨A, 0, none⟩) 2 2) 100 3 2 [(iv 150), (iv 154), (iv 160), (iv 240), (iv 246), (iv 249)]), (row (Value.slice (some ⟨B, 0, none⟩) 1 1) 100 3 1 [(iv 300), (iv 300), (iv 299)]), (row (Value.slice (some ⟨G, 0, none⟩) 2 2) 103 2 2 [(iv 0), (Value.slice (some ⟨A, 0, none⟩) 2 2), (iv 1), (Value.slice (some ⟨B, 0, none⟩) 1 1)])] := A1.keep [1, 0, 2, 3, 4, 5, 6] (by decide) _ rfl rfl
 have A3 : Sep NoB w H [(slsR true 2 (putV 1 (putV 0 (fun _ => Value.slice none 0 0) (Value.slice (some ⟨C, 0, none⟩) 4 4)) (Value.slice (some ⟨E, 0, none⟩) 2 2)) 2 (m_3 e_2.tabs) (m_2 e_2.tabs)), (row (Value.slice (some ⟨D, 0, none⟩) 1 1) 3 1 1 [(iv 2)]), (row (Value.slice (some ⟨F, 0, none⟩) 2 2) 106 5 2 [(iv 0), (iv 1), (Value.slice (some ⟨C, 0, none⟩) 4 4), (Value.slice (some ⟨D, 0, none⟩) 1 1), (iv 2), (iv 1), (iv 2), (Value.slice (some ⟨E, 0, none⟩) 2 2), (Value.slice none 0 0), (iv 0)]), (row (Value.slice (some ⟨A, 0, none⟩) 2 2) 100 3 2 [(iv 150), (iv 154), (iv 160), (iv 240), (iv 246), (iv 249)]), (row (Value.slice (some ⟨B, 0, none⟩) 1 1) 100 3 1 [(iv 300), (iv 300), (iv 299)]), (row (Value.slice (some ⟨G, 0, none⟩) 2 2) 103 2 2 [(iv 0), (Value.slice (some ⟨A, 0, none⟩) 2 2), (iv 1), (Value.slice (some ⟨B, 0, none⟩) 1 1)])] := k_8 (k' := m_3 e_2.tabs) (c' := m_2 e_2.tabs) A2 rfl rfl (fun _ _ => ⟨rfl, rfl⟩)
 have A4 : Sep NoB w H [(row (Value.slice none 0 0) 3 1 0 []), (slsR true 2 (putV 1 (putV 0 (fun _ => Value.slice none 0 0) (Value.slice (some ⟨C, 0, none⟩) 4 4)) (Value.slice (some ⟨E, 0, none⟩) 2 2)) 2 (m_3 e_2.tabs) (m_2 e_2.tabs)), (row (Value.slice (some ⟨D, 0, none⟩) 1 1) 3 1 1 [(iv 2)]), (row (Value.slice (some ⟨F, 0, none⟩) 2 2) 106 5 2 [(iv 0), (iv 1), (Value.slice (some ⟨C, 0, none⟩) 4 4), (Value.slice (some ⟨D, 0, none⟩) 1 1), (iv 2), (iv 1), (iv 2), (Value.slice (some ⟨E, 0, none⟩) 2 2), (Value.slice none 0 0), (iv 0)]), (row (Value.slice (some ⟨A, 0, none⟩) 2 2) 100 3 2 [(iv 150), (iv 154), (iv 160), (iv 240), (iv 246), (iv 249)]), (row (Value.slice (some ⟨B, 0, none⟩) 1 1) 100 3 1 [(iv 300), (iv 300), (iv 299)]), (row (Value.slice (some ⟨G, 0, none⟩) 2 2) 103 2 2 [(iv 0), (Value.slice (some ⟨A, 0, none⟩) 2 2), (iv 1), (Value.slice (some ⟨B, 0, none⟩) 1 1)])] := A3.t_0 3 1
 have A5 : Sep NoB w H [(slsR true 0 (fun _ => Value.slice none 0 0) 1 (brkN e_2.tabs) (brkC e_2.tabs)), (row (Value.slice none 0 0) 3 1 0 []), (slsR true 2 (putV 1 (putV 0 (fun _ => Value.slice none 0 0) (Value.slice (some ⟨C, 0, none⟩) 4 4)) (Value.slice (some ⟨E, 0, none⟩) 2 2)) 2 (m_3 e_2.tabs) (m_2 e_2.tabs)), (row (Value.slice (some ⟨D, 0, none⟩) 1 1) 3 1 1 [(iv 2)]), (row (Value.slice (some ⟨F, 0, none⟩) 2 2) 106 5 2 [(iv 0), (iv 1), (Value.slice (some ⟨C, 0, none⟩) 4 4), (Value.slice (some ⟨D, 0, none⟩) 1 1), (iv 2), (iv 1), (iv 2), (Value.slice (some ⟨E, 0, none⟩) 2 2), (Value.slice none 0 0), (iv 0)]), (row (Value.slice (some ⟨A, 0, none⟩) 2 2) 100 3 2 [(iv 150), (iv 154), (iv 160), (iv 240), (iv 246), (iv 249)]), (row (Value.slice (some ⟨B, 0, none⟩) 1 1) 100 3 1 [(iv 300), (iv 300), (iv 299)]), (row (Value.slice (some ⟨G, 0, none⟩) 2 2) 103 2 2 [(iv 0), (Value.slice (some ⟨A, 0, none⟩) 2 2), (iv 1), (Value.slice (some ⟨B, 0, none⟩) 1 1)])] := r_1 A4 (fun _ => Value.slice none 0 0) 1 (brkN e_2.tabs) (brkC e_2.tabs)
 have A6 : Sep NoB w H [(row (Value.slice (some ⟨D, 0, none⟩) 1 1) 3 1 1 [(iv 2)]), (slsR true 0 (fun _ => Value.slice none 0 0) 1 (brkN e_2.tabs) (brkC e_2.tabs)), (row (Value.slice none 0 0) 3 1 0 []), (slsR true 2 (putV 1 (putV 0 (fun _ => Value.slice none 0 0) (Value.slice (some ⟨C, 0, none⟩) 4 4)) (Value.slice (some ⟨E, 0, none⟩) 2 2)) 2 (m_3 e_2.tabs) (m_2 e_2.tabs)), (row (Value.slice (some ⟨F, 0, none⟩) 2 2) 106 5 2 [(iv 0), (iv 1), (Value.slice (some ⟨C, 0, none⟩) 4 4), (Value.slice (some ⟨D, 0, none⟩) 1 1), (iv 2), (iv 1), (iv 2), (Value.slice (some ⟨E, 0, none⟩) 2 2), (Value.slice none 0 0), (iv 0)]), (row (Value.slice (some ⟨A, 0, none⟩) 2 2) 100 3 2 [(iv 150), (iv 154), (iv 160), (iv 240), (iv 246), (iv 249)]), (row (Value.slice (some ⟨B, 0, none⟩) 1 1) 100 3 1 [(iv 300), (iv 300), (iv 299)]), (row (Value.slice (some ⟨G, 0, none⟩) 2 2) 103 2 2 [(iv 0), (Value.slice (some ⟨A, 0, none⟩) 2 2), (iv 1), (Value.slice (some ⟨B, 0, none⟩) 1 1)])] := A5.keep [3, 0, 1, 2, 4, 5, 6, 7] (by decide) _ rfl rfl
 have AG : Sep NoB w H [(slsR true 1 (putV 0 (fun _ => Value.slice none 0 0) (Value.slice (some ⟨D, 0, none⟩) 1 1)) 1 (brkN e_2.tabs) (brkC e_2.tabs)), (row (Value.slice none 0 0) 3 1 0 []), (slsR true 2 (putV 1 (putV 0 (fun _ => Value.slice none 0 0) (Value.slice (some ⟨C, 0, none⟩) 4 4)) (Value.slice (some ⟨E, 0, none⟩) 2 2)) 2 (m_3 e_2.tabs) (m_2 e_2.tabs)), (row (Value.slice (some ⟨F, 0, none⟩) 2 2) 106 5 2 [(iv 0), (iv 1), (Value.slice (some ⟨C, 0, none⟩) 4 4), (Value.slice (some ⟨D, 0, none⟩) 1 1), (iv 2), (iv 1), (iv 2), (Value.slice (some ⟨E, 0, none⟩) 2 2), (Value.slice none 0 0), (iv 0)]), (row (Value.slice (some ⟨A, 0, none⟩) 2 2) 100 3 2 [(iv 150), (iv 154), (iv 160), (iv 240), (iv 246), (iv 249)]), (row (Value.slice (some ⟨B, 0, none⟩) 1 1) 100 3 1 [(iv 300), (iv 300), (iv 299)]), (row (Value.slice (some ⟨G, 0, none⟩) 2 2) 103 2 2 [(iv 0), (Value.slice (some ⟨A, 0, none⟩) 2 2), (iv 1), (Value.slice (some ⟨B, 0, none⟩) 1 1)])] := k_8 (k' := brkN e_2.tabs) (c' := brkC e_2.tabs) A6 rfl rfl (fun i hi => absurd hi (Nat.not_lt_zero _))
 have AH : Sep NoB w H [(row (Value.slice none 0 0) 3 1 0 []), (slsR true 1 (putV 0 (fun _ => Value.slice none 0 0) (Value.slice (some ⟨D, 0, none⟩) 1 1)) 1 (brkN e_2.tabs) (brkC e_2.tabs)), (slsR true 2 (putV 1 (putV 0 (fun _ => Value.slice none 0 0) (Value.slice (some ⟨C, 0, none⟩) 4 4)) (Value.slice (some ⟨E, 0, none⟩) 2 2)) 2 (m_3 e_2.tabs) (m_2 e_2.tabs)), (row (Value.slice (some ⟨F, 0, none⟩) 2 2) 106 5 2 [(iv 0), (iv 1), (Value.slice (some ⟨C, 0, none⟩) 4 4), (Value.slice (some ⟨D, 0, none⟩) 1 1), (iv 2), (iv 1), (iv 2), (Value.slice (some ⟨E, 0, none⟩) 2 2), (Value.slice none 0 0), (iv 0)]), (row (Value.slice (some ⟨A, 0, none⟩) 2 2) 100 3 2 [(iv 150), (iv 154), (iv 160), (iv 240), (iv 246), (iv 249)]), (row (Value.slice (some ⟨B, 0, none⟩) 1 1) 100 3 1 [(iv 300), (iv 300), (iv 299)]), (row (Value.slice (some ⟨G, 0, none⟩) 2 2) 103 2 2 [(iv 0), (Value.slice (some ⟨A, 0, none⟩) 2 2), (iv 1), (Value.slice (some ⟨B, 0, none⟩) 1 1)])] := AG.keep [1, 0, 2, 3, 4, 5, 6] (by decide) _ rfl rfl
 have AI : Sep NoB w H [(slsR true 2 (putV 1 (putV 0 (fun _ => Value.slice none 0 0) (Value.slice (some ⟨D, 0, none⟩) 1 1)) (Value.slice none 0 0)) 1 (brkN e_2.tabs) (brkC e_2.tabs)), (slsR true 2 (putV 1 (putV 0 (fun _ => Value.slice none 0 0) (Value.slice (some ⟨C, 0, none⟩) 4 4)) (Value.slice (some ⟨E, 0, none⟩) 2 2)) 2 (m_3 e_2.tabs) (m_2 e_2.tabs)), (row (Value.slice (some ⟨F, 0, none⟩) 2 2) 106 5 2 [(iv 0), (iv 1), (Value.slice (some ⟨C, 0, none⟩) 4 4), (Value.slice (some ⟨D, 0, none⟩) 1 1), (iv 2), (iv 1), (iv 2), (Value.slice (some ⟨E, 0, none⟩) 2 2), (Value.slice none 0 0), (iv 0)]), (row (Value.slice (some ⟨A, 0, none⟩) 2 2) 100 3 2 [(iv 150), (iv 154), (iv 160), (iv 240), (iv 246), (iv 249)]), (row (Value.slice (some ⟨B, 0, none⟩) 1 1) 100 3 1 [(iv 300), (iv 300), (iv 299)]), (row (Value.slice (some ⟨G, 0, none⟩) 2 2) 103 2 2 [(iv 0), (Value.slice (some ⟨A, 0, none⟩) 2 2), (iv 1), (Value.slice (some ⟨B, 0, none⟩) 1 1)])] := k_8 (k' := brkN e_2.tabs) (c' := brkC e_2.tabs) AH rfl rfl (fun _ _ => ⟨rfl, rfl⟩)
 have AJ : Sep NoB w H [(row (Value.slice (some ⟨F, 0, none⟩) 2 2) 106 5 2 [(iv 0), (iv 1), (Value.slice (some ⟨C, 0, none⟩) 4 4), (Value.slice (some ⟨D, 0, none⟩) 1 1), (iv 2), (iv 1), (iv 2), (Value.slice (some ⟨E, 0, none⟩) 2 2), (Value.slice none 0 0), (iv 0)]), (slsR true 2 (putV 1 (putV 0 (fun _ => Value.slice none 0 0) (Value.slice (some ⟨C, 0, none⟩) 4 4)) (Value.slice (some ⟨E, 0, none⟩) 2 2)) 2 (m_3 e_2.tabs) (m_2 e_2.tabs)), (slsR true 2 (putV 1 (putV 0 (fun _ => Value.slice none 0 0) (Value.slice (some ⟨D, 0, none⟩) 1 1)) (Value.slice none 0 0)) 1 (brkN e_2.tabs) (brkC e_2.tabs)), (row (Value.slice (some ⟨A, 0, none⟩) 2 2) 100 3 2 [(iv 150), (iv 154), (iv 160), (iv 240), (iv 246), (iv 249)]), (row (Value.slice (some ⟨B, 0, none⟩) 1 1) 100 3 1 [(iv 300), (iv 300), (iv 299)]), (row (Value.slice (some ⟨G, 0, none⟩) 2 2) 103 2 2 [(iv 0), (Value.slice (some ⟨A, 0, none⟩) 2 2), (iv 1), (Value.slice (some ⟨B, 0, none⟩) 1 1)])] := AI.keep [2, 1, 0, 3, 4, 5] (by decide) _ rfl rfl
 have AK : Sep NoB w H [(row (Value.slice (some ⟨F, 0, none⟩) 2 2) 106 5 e_2.tabs.length (n_7 (putV 1 (putV 0 (fun _ => Value.slice none 0 0) (Value.slice (some ⟨C, 0, none⟩) 4 4)) (Value.slice (some ⟨E, 0, none⟩) 2 2)) (putV 1 (putV 0 (fun _ => Value.slice none 0 0) (Value.slice (some ⟨D, 0, none⟩) 1 1)) (Value.slice none 0 0)) e_2.tabs)), (slsR true 2 (putV 1 (putV 0 (fun _ => Value.slice none 0 0) (Value.slice (some ⟨C, 0, none⟩) 4 4)) (Value.slice (some ⟨E, 0, none⟩) 2 2)) 2 (m_3 e_2.tabs) (m_2 e_2.tabs)), (slsR true 2 (putV 1 (putV 0 (fun _ => Value.slice none 0 0) (Value.slice (some ⟨D, 0, none⟩) 1 1)) (Value.slice none 0 0)) 1 (brkN e_2.tabs) (brkC e_2.tabs)), (row (Value.slice (some ⟨A, 0, none⟩) 2 2) 100 3 2 [(iv 150), (iv 154), (iv 160), (iv 240), (iv 246), (iv 249)]), (row (Value.slice (some ⟨B, 0, none⟩) 1 1) 100 3 1 [(iv 300), (iv 300), (iv 299)]), (row (Value.slice (some ⟨G, 0, none⟩) 2 2) 103 2 2 [(iv 0), (Value.slice (some ⟨A, 0, none⟩) 2 2), (iv 1), (Value.slice (some ⟨B, 0, none⟩) 1 1)])] := AJ.g_2 (i := 0) rfl rfl (kept_tabsC _ _ _ _).symm
 have AL : Sep NoB w H [(d_0 true (Value.slice (some ⟨F, 0, none⟩) 2 2) (putV 1 (putV 0 (fun _ => Value.slice none 0 0) (Value.slice (some ⟨C, 0, none⟩) 4 4)) (Value.slice (some ⟨E, 0, none⟩) 2 2)) (putV 1 (putV 0 (fun _ => Value.slice none 0 0) (Value.slice (some ⟨D, 0, none⟩) 1 1)) (Value.slice none 0 0)) e_2.tabs), (row (Value.slice (some ⟨A, 0, none⟩) 2 2) 100 3 2 [(iv 150), (iv 154), (iv 160), (iv 240), (iv 246), (iv 249)]), (row (Value.slice (some ⟨B, 0, none⟩) 1 1) 100 3 1 [(iv 300), (iv 300), (iv 299)]), (row (Value.slice (some ⟨G, 0, none⟩) 2 2) 103 2 2 [(iv 0), (Value.slice (some ⟨A, 0, none⟩) 2 2), (iv 1), (Value.slice (some ⟨B, 0, none⟩) 1 1)])] := sep_tabs_join AK
 have AM : Sep NoB w H [(slsR true 0 (fun _ => Value.slice none 0 0) 3 (blkN e_2.macs) (blkC e_2.macs)), (d_0 true (Value.slice (some ⟨F, 0, none⟩) 2 2) (putV 1 (putV 0 (fun _ => Value.slice none 0 0) (Value.slice (some ⟨C, 0, none⟩) 4 4)) (Value.slice (some ⟨E, 0, none⟩) 2 2)) (putV 1 (putV 0 (fun _ => Value.slice none 0 0) (Value.slice (some ⟨D, 0, none⟩) 1 1)) (Value.slice none 0 0)) e_2.tabs), (row (Value.slice (some ⟨A, 0, none⟩) 2 2) 100 3 2 [(iv 150), (iv 154), (iv 160), (iv 240), (iv 246), (iv 249)]), (row (Value.slice (some ⟨B, 0, none⟩) 1 1) 100 3 1 [(iv 300), (iv 300), (iv 299)]), (row (Value.slice (some ⟨G, 0, none⟩) 2 2) 103 2 2 [(iv 0), (Value.slice (some ⟨A, 0, none⟩) 2 2), (iv 1), (Value.slice (some ⟨B, 0, none⟩) 1 1)])] := r_1 AL (fun _ => Value.slice none 0 0) 3 (blkN e_2.macs) (blkC e_2.macs)
 have AN : Sep NoB w H [(row (Value.slice (some ⟨A, 0, none⟩) 2 2) 100 3 2 [(iv 150), (iv 154), (iv 160), (iv 240), (iv 246), (iv 249)]), (slsR true 0 (fun _ => Value.slice none 0 0) 3 (blkN e_2.macs) (blkC e_2.macs)), (d_0 true (Value.slice (some ⟨F, 0, none⟩) 2 2) (putV 1 (putV 0 (fun _ => Value.slice none 0 0) (Value.slice (some ⟨C, 0, none⟩) 4 4)) (Value.slice (some ⟨E, 0, none⟩) 2 2)) (putV 1 (putV 0 (fun _ => Value.slice none 0 0) (Value.slice (some ⟨D, 0, none⟩) 1 1)) (Value.slice none 0 0)) e_2.tabs), (row (Value.slice (some ⟨B, 0, none⟩) 1 1) 100 3 1 [(iv 300), (iv 300), (iv 299)]), (row (Value.slice (some ⟨G, 0, none⟩) 2 2) 103 2 2 [(iv 0), (Value.slice (some ⟨A, 0, none⟩) 2 2), (iv 1), (Value.slice (some ⟨B, 0, none⟩) 1 1)])] := AM.keep [2, 0, 1, 3, 4] (by decide) _ rfl rfl
 have AO : Sep NoB w H [(slsR true 1 (putV 0 (fun _ => Value.slice none 0 0) (Value.slice (some ⟨A, 0, none⟩) 2 2)) 3 (blkN e_2.macs) (blkC e_2.macs)), (d_0 true (Value.slice (some ⟨F, 0, none⟩) 2 2) (putV 1 (putV 0 (fun _ => Value.slice none 0 0) (Value.slice (some ⟨C, 0, none⟩) 4 4)) (Value.slice (some ⟨E, 0, none⟩) 2 2)) (putV 1 (putV 0 (fun _ => Value.slice none 0 0) (Value.slice (some ⟨D, 0, none⟩) 1 1)) (Value.slice none 0 0)) e_2.tabs), (row (Value.slice (some ⟨B, 0, none⟩) 1 1) 100 3 1 [(iv 300), (iv 300), (iv 299)]), (row (Value.slice (some ⟨G, 0, none⟩) 2 2) 103 2 2 [(iv 0), (Value.slice (some ⟨A, 0, none⟩) 2 2), (iv 1), (Value.slice (some ⟨B, 0, none⟩) 1 1)])] := k_8 (k' := blkN e_2.macs) (c' := blkC e_2.macs) AN rfl rfl (fun i hi => absurd hi (Nat.not_lt_zero _))
 have AP : Sep NoB w H [(row (Value.slice (some ⟨B, 0, none⟩) 1 1) 100 3 1 [(iv 300), (iv 300), (iv 299)]), (slsR true 1 (putV 0 (fun _ => Value.slice none 0 0) (Value.slice (some ⟨A, 0, none⟩) 2 2)) 3 (blkN e_2.macs) (blkC e_2.macs)), (d_0 true (Value.slice (some ⟨F, 0, none⟩) 2 2) (putV 1 (putV 0 (fun _ => Value.slice none 0 0) (Value.slice (some ⟨C, 0, none⟩) 4 4)) (Value.slice (some ⟨E, 0, none⟩) 2 2)) (putV 1 (putV 0 (fun _ => Value.slice none 0 0) (Value.slice (some ⟨D, 0, none⟩) 1 1)) (Value.slice none 0 0)) e_2.tabs), (row (Value.slice (some ⟨G, 0, none⟩) 2 2) 103 2 2 [(iv 0), (Value.slice (some ⟨A, 0, none⟩) 2 2), (iv 1), (Value.slice (some ⟨B, 0, none⟩) 1 1)])] := AO.keep [2, 0, 1, 3] (by decide) _ rfl rfl
 have AQ : Sep NoB w H [(slsR true 2 (putV 1 (putV 0 (fun _ => Value.slice none 0 0) (Value.slice (some ⟨A, 0, none⟩) 2 2)) (Value.slice (some ⟨B, 0, none⟩) 1 1)) 3 (blkN e_2.macs) (blkC e_2.macs)), (d_0 true (Value.slice (some ⟨F, 0, none⟩) 2 2) (putV 1 (putV 0 (fun _ => Value.slice none 0 0) (Value.slice (some ⟨C, 0, none⟩) 4 4)) (Value.slice (some ⟨E, 0, none⟩) 2 2)) (putV 1 (putV 0 (fun _ => Value.slice none 0 0) (Value.slice (some ⟨D, 0, none⟩) 1 1)) (Value.slice none 0 0)) e_2.tabs), (row (Value.slice (some ⟨G, 0, none⟩) 2 2) 103 2 2 [(iv 0), (Value.slice (some ⟨A, 0, none⟩) 2 2), (iv 1), (Value.slice (some ⟨B, 0, none⟩) 1 1)])] := k_8 (k' := blkN e_2.macs) (c' := blkC e_2.macs) AP rfl rfl (fun _ _ => ⟨rfl, rfl⟩)
 have AR : Sep NoB w H [(row (Value.slice (some ⟨G, 0, none⟩) 2 2) 103 2 2 [(iv 0), (Value.slice (some ⟨A, 0, none⟩) 2 2), (iv 1), (Value.slice (some ⟨B, 0, none⟩) 1 1)]), (slsR true 2 (putV 1 (putV 0 (fun _ => Value.slice none 0 0) (Value.slice (some ⟨A, 0, none⟩) 2 2)) (Value.slice (some ⟨B, 0, none⟩) 1 1)) 3 (blkN e_2.macs) (blkC e_2.macs)), (d_0 true (Value.slice (some ⟨F, 0, none⟩) 2 2) (putV 1 (putV 0 (fun _ => Value.slice none 0 0) (Value.slice (some ⟨C, 0, none⟩) 4 4)) (Value.slice (some ⟨E, 0, none⟩) 2 2)) (putV 1 (putV 0 (fun _ => Value.slice none 0 0) (Value.slice (some ⟨D, 0, none⟩) 1 1)) (Value.slice none 0 0)) e_2.tabs)] := AQ.keep [2, 0, 1] (by decide) _ rfl rfl
 have AS : Sep NoB w H [(row (Value.slice (some ⟨G, 0, none⟩) 2 2) 103 2 e_2.macs.length (p_8 (putV 1 (putV 0 (fun _ => Value.slice none 0 0) (Value.slice (some ⟨A, 0, none⟩) 2 2)) (Value.slice (some ⟨B, 0, none⟩) 1 1)) e_2.macs)), (slsR true 2 (putV 1 (putV 0 (fun _ => Value.slice none 0 0) (Value.slice (some ⟨A, 0, none⟩) 2 2)) (Value.slice (some ⟨B, 0, none⟩) 1 1)) 3 (blkN e_2.macs) (blkC e_2.macs)), (d_0 true (Value.slice (some ⟨F, 0, none⟩) 2 2) (putV 1 (putV 0 (fun _ => Value.slice none 0 0) (Value.slice (some ⟨C, 0, none⟩) 4 4)) (Value.slice (some ⟨E, 0, none⟩) 2 2)) (putV 1 (putV 0 (fun _ => Value.slice none 0 0) (Value.slice (some ⟨D, 0, none⟩) 1 1)) (Value.slice none 0 0)) e_2.tabs)] := AR.g_2 (i := 0) rfl rfl (kept_macsC _ _).symm
 have AT : Sep NoB w H [(d_3 true (Value.slice (some ⟨G, 0, none⟩) 2 2) (putV 1 (putV 0 (fun _ => Value.slice none 0 0) (Value.slice (some ⟨A, 0, none⟩) 2 2)) (Value.slice (some ⟨B, 0, none⟩) 1 1)) e_2.macs), (d_0 true (Value.slice (some ⟨F, 0, none⟩) 2 2) (putV 1 (putV 0 (fun _ => Value.slice none 0 0) (Value.slice (some ⟨C, 0, none⟩) 4 4)) (Value.slice (some ⟨E, 0, none⟩) 2 2)) (putV 1 (putV 0 (fun _ => Value.slice none 0 0) (Value.slice (some ⟨D, 0, none⟩) 1 1)) (Value.slice none 0 0)) e_2.tabs)] := sep_macs_join AS
 have AU : Sep NoB w H [(d_0 true (Value.slice (some ⟨F, 0, none⟩) 2 2) (putV 1 (putV 0 (fun _ => Value.slice none 0 0) (Value.slice (some ⟨C, 0, none⟩) 4 4)) (Value.slice (some ⟨E, 0, none⟩) 2 2)) (putV 1 (putV 0 (fun _ => Value.slice none 0 0) (Value.slice (some ⟨D, 0, none⟩) 1 1)) (Value.slice none 0 0)) e_2.tabs), (d_3 true (Value.slice (some ⟨G, 0, none⟩) 2 2) (putV 1 (putV 0 (fun _ => Value.slice none 0 0) (Value.slice (some ⟨A, 0, none⟩) 2 2)) (Value.slice (some ⟨B, 0, none⟩) 1 1)) e_2.macs)] := AT.keep [1, 0] (by decide) _ rfl rfl
 exact ⟨_, _, _, _, _, rfl, AU⟩
end Go.Proofs.Ytohgladndklciaa

namespace Go.Proofs.Ytohgladndklciaa
open Go.RowKit Go.Shelf Go.Eng Go.Hard
theorem en_46 : ∀ args w, (callFunc 46 args).run Try.prog w = .ok (.enter 46 args) w := enters_of Try.func46 (by kernel_rfl) rfl
theorem en_33 : ∀ args w, (callFunc 33 args).run Try.prog w = .ok (.enter 33 args) w := enters_of Try.func33 (by kernel_rfl) rfl
theorem en_18 : ∀ args w, (callFunc 18 args).run Try.prog w = .ok (.enter 18 args) w := enters_of Try.func18 (by kernel_rfl) rfl
theorem en_25 : ∀ args w, (callFunc 25 args).run Try.prog w = .ok (.enter 25 args) w := enters_of Try.func25 (by kernel_rfl) rfl
theorem awake_ok (w : World) :
  Calls Try.prog 17 #[] w (Ret fun v w' => v = .bool true ∧ Ext NoB w w') := by
 refine a_9 Try.func17 rfl fun a0 Z => ?_
 replace Z : Fr 71 [] [] a0 := Z
 have AT : Sep NoB w w [] := Sep.start _ _
 refine m2 (s1 Z (a_0 rfl (evc _ _)) fun a1 AS => ?_); clear Z a0
 refine n4 (s2 AS (b_3 rfl en_46 ev0 (kept_ok _)) ?_)
 rintro a3 _ w5 ⟨vt6, vm7, lr8, lb9, lk10, rfl, AN⟩ s; have L := AT.w_4 AN rfl; clear AN AS AT a1
 refine s2 s (b_3 rfl en_33 (ev2 s.e (evc _ _)) (Bias_ok e_2 vt6 vm7 lr8 lb9 lk10 _ (b_8 (L.ok 0 _ rfl)) (c_5 (L.ok 1 _ rfl)) kept_thin 0)) ?_
 rintro AZ _ BH ⟨rfl, z⟩ O; have AC := L.step z; clear z s L a3
 refine s1 O (a_1 rfl O.e) fun Aa P => ?_; clear O AZ
 refine s1 P (e_0 rfl P.e rfl) fun Ab Q => ?_; clear P Aa
 refine s1 Q (e_0 rfl Q.e rfl) fun Ac o => ?_; clear Q Ab
 refine s2 o (d_9 AC rfl ab_1 (cs := [(iv 0), (iv 0)]) rfl) ?_
 rintro Ad _ BI ⟨B, rfl, AD⟩ H; clear o AC Ac
 refine s7 H (b_7 AD rfl h_1 H.e H.e (i := 0) rfl (vs := [(iv ((aa_8 e_2 0).1)), (iv ((aa_8 e_2 0).2))]) rfl rfl rfl (Nat.le_of_ble_eq_true rfl)) ?_
 intro _ A4 AE R; clear H
 have AF : Sep NoB w A4 [(blk B 30 [(iv ((aa_8 e_2 0).1)), (iv ((aa_8 e_2 0).2))]), (d_0 true vt6 lr8 lb9 e_2.tabs), (d_3 true vm7 lk10 e_2.macs)] := AE; clear AE AD
 refine s1 R (a_0 rfl R.e) fun Ae p => ?_; clear R Ad
 refine n2 ?_
 have q := p.as [(2, (iv (aa_7 e_2 0))), (1, (bptr B 0))] rfl; clear p
 refine a_5 (s2 q (b_3 rfl en_46 ev0 (kept_ok _)) ?_)
 rintro Af _ BJ ⟨vt39, vm40, lr41, lb42, lk43, rfl, AO⟩ r; have AG := AF.w_4 AO rfl; clear AO q AF Ae
 refine s2 r (b_3 rfl en_31 (ev2 (evc _ _) (evc _ _)) (n_4 _ _ _)) ?_
 rintro Ag _ BK ⟨rfl, AA⟩ I; have M := AG.step AA; clear AA r AG Af
 refine s2 I (b_3 rfl en_18 (ev3 I.e (evc _ _) I.e) (Convert_ok e_2 vt39 vm40 lr41 lb42 lk43 _ (b_8 (M.ok 0 _ rfl)) (c_5 (M.ok 1 _ rfl)) kept_thin 0 150 180)) ?_
 rintro Ah _ BL ⟨rfl, AB⟩ S; have AH := M.step AB; clear AB I M Ag
 refine s1 S (a_1 rfl S.e) fun Ai T => ?_; clear S Ah
 refine s1 T (e_0 rfl T.e rfl) fun Aj U => ?_; clear T Ai
 refine s1 U (e_0 rfl U.e rfl) fun Ak t => ?_; clear U Aj
 refine s2 t (d_9 AH rfl ab_1 (cs := [(iv 0), (iv 0)]) rfl) ?_
 rintro Al _ BM ⟨N, rfl, AI⟩ J; clear t AH Ak
 refine s7 J (b_7 AI rfl h_1 J.e J.e (i := 0) rfl (vs := [(iv ((ac_2 e_2 0 (150, 180)).1)), (iv ((ac_2 e_2 0 (150, 180)).2))]) rfl rfl rfl (Nat.le_of_ble_eq_true rfl)) ?_
 intro _ A5 AJ V; clear J
 have AK : Sep NoB w A5 [(blk N 30 [(iv ((ac_2 e_2 0 (150, 180)).1)), (iv ((ac_2 e_2 0 (150, 180)).2))]), (d_0 true vt39 lr41 lb42 e_2.tabs), (d_3 true vm40 lk43 e_2.macs), (blk B 30 [(iv ((aa_8 e_2 0).1)), (iv ((aa_8 e_2 0).2))]), (d_0 true vt6 lr8 lb9 e_2.tabs), (d_3 true vm7 lk10 e_2.macs)] := AJ; clear AJ AI
 refine s1 V (a_0 rfl V.e) fun Am u => ?_; clear V Al
 refine n2 ?_
 have x := u.as [(4, (iv (ab_5 e_2 0 (150, 180)))), (3, (bptr N 0)), (2, (iv (aa_7 e_2 0))), (1, (bptr B 0))] rfl; clear u
 refine a_5 (s2 x (b_3 rfl en_46 ev0 (kept_ok _)) ?_)
 rintro An _ BN ⟨vt77, vm78, lr79, lb80, lk81, rfl, AP⟩ y; have AL := AK.w_4 AP rfl; clear AP x AK Am
 refine s1 y (e_7 rfl (pv2 (evc _ _) (evc _ _)) (bd_98_0i_1i _ _)) fun Ao W => ?_; clear y An
 refine s2 W (h_0 AL rfl (pv1 W.e) p_4 x_6 ze_98 (by decide) (cs := [(iv 0), (iv 170)]) (s_2 _ _)) ?_
 rintro Ap _ BO ⟨At, rfl, C⟩ K; clear W AL Ao
 refine s2 K (b_3 rfl en_25 (ev2 K.e K.e) (Spans_ok e_2 vt77 vm78 lr79 lb80 lk81 _ (b_8 (C.ok 1 _ rfl)) (c_5 (C.ok 2 _ rfl)) kept_thin ([(0, 170)]) _ (SlAt.of_blk (C.bk 0 rfl) rfl (Nat.le_of_ble_eq_true rfl)) (by decide) ([(161, 164), (259, 266), (83, 87)]) kept_read kept_spans)) ?_
 rintro Aq _ A6 ⟨A, rfl, AQ⟩ X
 have AM : Sep NoB w A6 [(row A 30 2 ([(161, 164), (259, 266), (83, 87)].length) (pairs ([(161, 164), (259, 266), (83, 87)]))), (blk At 98 [(iv 0), (iv 170)]), (d_0 true vt77 lr79 lb80 e_2.tabs), (d_3 true vm78 lk81 e_2.macs), (blk N 30 [(iv ((ac_2 e_2 0 (150, 180)).1)), (iv ((ac_2 e_2 0 (150, 180)).2))]), (d_0 true vt39 lr41 lb42 e_2.tabs), (d_3 true vm40 lk43 e_2.macs), (blk B 30 [(iv ((aa_8 e_2 0).1)), (iv ((aa_8 e_2 0).2))]), (d_0 true vt6 lr8 lb9 e_2.tabs), (d_3 true vm7 lk10 e_2.macs)] := C.w_4 AQ rfl; clear AQ K C Ap
 refine s1 X (a_1 rfl X.e) fun Ar Y => ?_; clear X Aq
 refine s1 Y (e_0 rfl Y.e rfl) fun As D => ?_; clear Y Ar
 refine s1 D (e_0 rfl D.e rfl) fun AU E => ?_; clear D As
 refine s1 E (a_0 rfl E.e) fun AV F => ?_; clear E AU
 refine s1 F (a_0 rfl F.e) fun A8 b => ?_; clear F AV
 refine n2 ?_
 have c := b.as [(6, (iv 0)), (5, A), (4, (iv (ab_5 e_2 0 (150, 180)))), (3, (bptr N 0)), (2, (iv (aa_7 e_2 0))), (1, (bptr B 0))] rfl; clear b
 have d := c.as [(6, (iv 0)), (5, A), (4, (iv (ab_5 e_2 0 (150, 180)))), (3, (bptr N 0)), (2, (iv (aa_7 e_2 0))), (1, (bptr B 0))] rfl; clear c
 refine g_0 mixed d AM 46 [[], [0], [1], [2], [2], [2, 3, 4], [2, 5], [6], [7], [7, 8], [7, 9], [10], [11], [11], [11, 12, 13], [11, 14], [15], [16], [16, 17], [16, 18], [19], [20], [20, 21], [20, 22], [20, 23], [24], [25], [25, 26], [25, 27], [25], [25, 28, 29], [25, 30], [31], [32], [32, 33], [32, 34], [32], [32, 35, 36], [32, 37], [38], [39], [39, 40], [39, 41], [39], [39, 42, 43], [39, 44]] [(Yd.val (iv (aa_7 e_2 0))), (Yd.val (Value.bool true)), (Yd.val (Value.bool true)), (Yd.val (Value.agg #[(iv ((aa_8 e_2 0).1)), (iv ((aa_8 e_2 0).2))])), (Yd.val (Value.agg #[(iv 6), (iv 9)])), (Yd.val (Value.bool true)), (Yd.val (Value.bool true)), (Yd.val (Value.bool true)), (Yd.val (iv (ab_5 e_2 0 (150, 180)))), (Yd.val (Value.bool true)), (Yd.val (Value.bool true)), (Yd.val (Value.bool true)), (Yd.val (Value.agg #[(iv ((ac_2 e_2 0 (150, 180)).1)), (iv ((ac_2 e_2 0 (150, 180)).2))])), (Yd.val (Value.agg #[(iv 248), (iv 282)])), (Yd.val (Value.bool true)), (Yd.val (Value.bool true)), (Yd.val (Value.bool true)), (Yd.val (iv 0)), (Yd.val (Value.bool true)), (Yd.val (Value.bool true)), (Yd.val (Value.bool true)), (Yd.val A), (Yd.val (iv ([(161, 164), (259, 266), (83, 87)].length : Int))), (Yd.val (Value.bool true)), (Yd.val (Value.bool true)), (Yd.val (Value.bool true)), (Yd.val A), (Yd.val (eptr A (0 * 2))), (Yd.val (Value.agg #[(iv ((([(161, 164), (259, 266), (83, 87)]).getD 0 (0, 0)).1)), (iv ((([(161, 164), (259, 266), (83, 87)]).getD 0 (0, 0)).2))])), (Yd.val (Value.agg #[(iv 161), (iv 164)])), (Yd.val (Value.bool true)), (Yd.val (Value.bool true)), (Yd.val (Value.bool true)), (Yd.val A), (Yd.val (eptr A (1 * 2))), (Yd.val (Value.agg #[(iv ((([(161, 164), (259, 266), (83, 87)]).getD 1 (0, 0)).1)), (iv ((([(161, 164), (259, 266), (83, 87)]).getD 1 (0, 0)).2))])), (Yd.val (Value.agg #[(iv 259), (iv 266)])), (Yd.val (Value.bool true)), (Yd.val (Value.bool true)), (Yd.val (Value.bool true)), (Yd.val A), (Yd.val (eptr A (2 * 2))), (Yd.val (Value.agg #[(iv ((([(161, 164), (259, 266), (83, 87)]).getD 2 (0, 0)).1)), (iv ((([(161, 164), (259, 266), (83, 87)]).getD 2 (0, 0)).2))])), (Yd.val (Value.agg #[(iv 83), (iv 87)])), (Yd.val (Value.bool true)), (Yd.val (Value.bool true))] (by decide +kernel) rfl rfl ?_ ?_
 ·skip
  refine dq (fun a w hA hS hd => a_1 rfl hA.e) ?_
  refine ⟨fun a w hA hS hd => by have e0 := hx hd 0; exact d_5 rfl (dv (q_0 rfl (c_3 e0) (evc _ _)) hS (by show Value.bool _ = _; simp only [decide_eq_true (show (aa_7 e_2 0) = 0 from (by decide)), decide_true, decide_false, Bool.not_true, Bool.not_false])), ?_⟩
  refine dq (fun a w hA hS hd => a_1 rfl (hq hd 1)) ?_
  refine dy 2 (fun a w hA hS hd => c_9 rfl h_1 (hA.ev rfl) (hS.bk 7 rfl) (l := [(iv ((aa_8 e_2 0).1)), (iv ((aa_8 e_2 0).2))]) rfl rfl) ?_
  refine ⟨fun a w hA hS hd => by have e2 := hx hd 2; exact f_8 rfl rfl e2 (dx (b_3 rfl en_31 (ev2 (evc _ _) (evc _ _)) (n_4 _ _ _)) hS (fun _ => rfl)), ?_⟩
  refine ⟨fun a w hA hS hd => by have e2 := hx hd 2; have e3 := hx hd 3; have e4 := hx hd 4; exact f_8 rfl rfl e2 (dv (op_eqlP tw_30 rfl (c_3 e3) (c_3 e4)) hS (by show Value.bool _ = _; simp only [(show (decide ((((aa_8 e_2 0).1) : Int) = 6) && decide ((((aa_8 e_2 0).2) : Int) = 9)) = true from (by decide)), decide_true, decide_false, Bool.not_true, Bool.not_false])), ?_⟩
  refine dq (fun a w hA hS hd => b_6 rfl (hq hd 2) (hq hd 5)) ?_
  refine dq (fun a w hA hS hd => a_1 rfl (hq hd 6)) ?_
  refine dy 7 (fun a w hA hS hd => a_1 rfl hA.e) ?_
  refine ⟨fun a w hA hS hd => by have e7 := hx hd 7; have e8 := hx hd 8; exact f_8 rfl rfl e7 (dv (q_0 rfl (c_3 e8) (evc _ _)) hS (by show Value.bool _ = _; simp only [decide_eq_true (show (ab_5 e_2 0 (150, 180)) = 0 from (by decide)), decide_true, decide_false, Bool.not_true, Bool.not_false])), ?_⟩
  refine dq (fun a w hA hS hd => b_6 rfl (hq hd 7) (hq hd 9)) ?_
  refine dq (fun a w hA hS hd => a_1 rfl (hq hd 10)) ?_
  refine dy 11 (fun a w hA hS hd => c_9 rfl h_1 (hA.ev rfl) (hS.bk 4 rfl) (l := [(iv ((ac_2 e_2 0 (150, 180)).1)), (iv ((ac_2 e_2 0 (150, 180)).2))]) rfl rfl) ?_
  refine ⟨fun a w hA hS hd => by have j := hx hd 11; exact f_8 rfl rfl j (dx (b_3 rfl en_31 (ev2 (evc _ _) (evc _ _)) (n_4 _ _ _)) hS (fun _ => rfl)), ?_⟩
  refine ⟨fun a w hA hS hd => by have j := hx hd 11; have Au := hx hd 12; have Av := hx hd 13; exact f_8 rfl rfl j (dv (op_eqlP tw_30 rfl (c_3 Au) (c_3 Av)) hS (by show Value.bool _ = _; simp only [(show (decide ((((ac_2 e_2 0 (150, 180)).1) : Int) = 248) && decide ((((ac_2 e_2 0 (150, 180)).2) : Int) = 282)) = true from (by decide)), decide_true, decide_false, Bool.not_true, Bool.not_false])), ?_⟩
  refine dq (fun a w hA hS hd => b_6 rfl (hq hd 11) (hq hd 14)) ?_
  refine dq (fun a w hA hS hd => a_1 rfl (hq hd 15)) ?_
  refine dy 16 (fun a w hA hS hd => a_1 rfl hA.e) ?_
  refine dy 16 (fun a w hA hS hd => q_0 rfl (hq hd 17) (evc _ _)) ?_
  refine dq (fun a w hA hS hd => b_6 rfl (hq hd 16) (hq hd 18)) ?_
  refine dq (fun a w hA hS hd => a_1 rfl (hq hd 19)) ?_
  refine dy 20 (fun a w hA hS hd => a_1 rfl hA.e) ?_
  refine dy 20 (fun a w hA hS hd => d_1 rfl ae_1 (hq hd 21) (SlAt.e_9 (hS.f_3 0 rfl))) ?_
  refine ⟨fun a w hA hS hd => by have Aw := hx hd 20; have Ax := hx hd 22; exact f_8 rfl rfl Aw (dv (q_0 rfl (c_3 Ax) (evc _ _)) hS (by show Value.bool _ = _; simp only [decide_eq_true (show ([(161, 164), (259, 266), (83, 87)].length : Int) = 3 from (by decide)), decide_true, decide_false, Bool.not_true, Bool.not_false])), ?_⟩
  refine dq (fun a w hA hS hd => b_6 rfl (hq hd 20) (hq hd 23)) ?_
  refine dq (fun a w hA hS hd => a_1 rfl (hq hd 24)) ?_
  refine dy 25 (fun a w hA hS hd => a_1 rfl hA.e) ?_
  refine dy 25 (fun a w hA hS hd => b_0 rfl ae_1 h_1 (hq hd 26) (i := 0) (show _ = Value.int .i64 ((0 : Nat) : Int) from (evc _ _)) (SlAt.e_9 (hS.f_3 0 rfl)) (by decide) (by decide)) ?_
  refine dy 25 (fun a w hA hS hd => e_8 rfl h_1 (hq hd 27) (SlAt.e_9 (hS.f_3 0 rfl)) (h_7 (by decide)) rfl (by decide)) ?_
  refine ⟨fun a w hA hS hd => by have k := hx hd 25; exact f_8 rfl rfl k (dx (b_3 rfl en_31 (ev2 (evc _ _) (evc _ _)) (n_4 _ _ _)) hS (fun _ => rfl)), ?_⟩
  refine ⟨fun a w hA hS hd => by have k := hx hd 25; have Ay := hx hd 28; have Az := hx hd 29; exact f_8 rfl rfl k (dv (op_eqlP tw_30 rfl (c_3 Ay) (c_3 Az)) hS (by show Value.bool _ = _; simp only [(show (decide ((((([(161, 164), (259, 266), (83, 87)]).getD 0 (0, 0)).1) : Int) = 161) && decide ((((([(161, 164), (259, 266), (83, 87)]).getD 0 (0, 0)).2) : Int) = 164)) = true from (by decide)), decide_true, decide_false, Bool.not_true, Bool.not_false])), ?_⟩
  refine dq (fun a w hA hS hd => b_6 rfl (hq hd 25) (hq hd 30)) ?_
  refine dq (fun a w hA hS hd => a_1 rfl (hq hd 31)) ?_
  refine dy 32 (fun a w hA hS hd => a_1 rfl hA.e) ?_
  refine dy 32 (fun a w hA hS hd => b_0 rfl ae_1 h_1 (hq hd 33) (i := 1) (show _ = Value.int .i64 ((1 : Nat) : Int) from (evc _ _)) (SlAt.e_9 (hS.f_3 0 rfl)) (by decide) (by decide)) ?_
  refine dy 32 (fun a w hA hS hd => e_8 rfl h_1 (hq hd 34) (SlAt.e_9 (hS.f_3 0 rfl)) (h_7 (by decide)) rfl (by decide)) ?_
  refine ⟨fun a w hA hS hd => by have m := hx hd 32; exact f_8 rfl rfl m (dx (b_3 rfl en_31 (ev2 (evc _ _) (evc _ _)) (n_4 _ _ _)) hS (fun _ => rfl)), ?_⟩
  refine ⟨fun a w hA hS hd => by have m := hx hd 32; have A0 := hx hd 35; have A1 := hx hd 36; exact f_8 rfl rfl m (dv (op_eqlP tw_30 rfl (c_3 A0) (c_3 A1)) hS (by show Value.bool _ = _; simp only [(show (decide ((((([(161, 164), (259, 266), (83, 87)]).getD 1 (0, 0)).1) : Int) = 259) && decide ((((([(161, 164), (259, 266), (83, 87)]).getD 1 (0, 0)).2) : Int) = 266)) = true from (by decide)), decide_true, decide_false, Bool.not_true, Bool.not_false])), ?_⟩
  refine dq (fun a w hA hS hd => b_6 rfl (hq hd 32) (hq hd 37)) ?_
  refine dq (fun a w hA hS hd => a_1 rfl (hq hd 38)) ?_
  refine dy 39 (fun a w hA hS hd => a_1 rfl hA.e) ?_
  refine dy 39 (fun a w hA hS hd => b_0 rfl ae_1 h_1 (hq hd 40) (i := 2) (show _ = Value.int .i64 ((2 : Nat) : Int) from (evc _ _)) (SlAt.e_9 (hS.f_3 0 rfl)) (by decide) (by decide)) ?_
  refine dy 39 (fun a w hA hS hd => e_8 rfl h_1 (hq hd 41) (SlAt.e_9 (hS.f_3 0 rfl)) (h_7 (by decide)) rfl (by decide)) ?_
  refine ⟨fun a w hA hS hd => by have n := hx hd 39; exact f_8 rfl rfl n (dx (b_3 rfl en_31 (ev2 (evc _ _) (evc _ _)) (n_4 _ _ _)) hS (fun _ => rfl)), ?_⟩
  refine ⟨fun a w hA hS hd => by have n := hx hd 39; have A2 := hx hd 42; have A3 := hx hd 43; exact f_8 rfl rfl n (dv (op_eqlP tw_30 rfl (c_3 A2) (c_3 A3)) hS (by show Value.bool _ = _; simp only [(show (decide ((((([(161, 164), (259, 266), (83, 87)]).getD 2 (0, 0)).1) : Int) = 83) && decide ((((([(161, 164), (259, 266), (83, 87)]).getD 2 (0, 0)).2) : Int) = 87)) = true from (by decide)), decide_true, decide_false, Bool.not_true, Bool.not_false])), ?_⟩
  refine dq (fun a w hA hS hd => b_6 rfl (hq hd 39) (hq hd 44)) ?_
  trivial
 intro AW BG f AR h; clear d AM
 have G := f.add (hz h 45); clear f
 clear h
 refine s1 G (a_0 rfl G.e) fun A9 g => ?_; clear G AW
 exact n1 (c_2 (a_8 g (.inl rfl) (a_3 g rfl (.tmp rfl)) (⟨rfl, AR.ext⟩)))
end Go.Proofs.Ytohgladndklciaa

namespace Go.Proofs.Ytohgladndklciaa
open Go.RowKit Go.Shelf Go.Eng Go.Hard
theorem en_16 : ∀ args w, (callFunc 16 args).run Try.prog w = .ok (.enter 16 args) w := enters_of Try.func16 (by kernel_rfl) rfl
theorem en_17 : ∀ args w, (callFunc 17 args).run Try.prog w = .ok (.enter 17 args) w := enters_of Try.func17 (by kernel_rfl) rfl
theorem en_19 : ∀ args w, (callFunc 19 args).run Try.prog w = .ok (.enter 19 args) w := enters_of Try.func19 (by kernel_rfl) rfl
theorem en_26 : ∀ args w, (callFunc 26 args).run Try.prog w = .ok (.enter 26 args) w := enters_of Try.func26 (by kernel_rfl) rfl
theorem un_5 : Try.prog.underlying 5 = some (.int .u8) := by kernel_rfl
theorem un_3 : Try.prog.underlying 3 = some (.int .i64) := by kernel_rfl
theorem en_71 : ∀ args w, (callFunc 71 args).run Try.prog w = .ok (.enter 71 args) w := enters_of Try.func71 (by kernel_rfl) rfl
theorem en_39 : ∀ args w, (callFunc 39 args).run Try.prog w = .ok (.enter 39 args) w := enters_of Try.func39 (by kernel_rfl) rfl
theorem en_38 : ∀ args w, (callFunc 38 args).run Try.prog w = .ok (.enter 38 args) w := enters_of Try.func38 (by kernel_rfl) rfl
theorem ae_0 : tyK Try.prog 53 = some (false, 1) := by kernel_rfl
theorem en_74 : ∀ args w, (callFunc 74 args).run Try.prog w = .ok (.enter 74 args) w := enters_of Try.func74 (by kernel_rfl) rfl
theorem ty_116 : tyK Try.prog 116 = some (false, 1) := by kernel_rfl
theorem ty_134 : tyK Try.prog 134 = some (false, 1) := by kernel_rfl
theorem en_75 : ∀ args w, (callFunc 75 args).run Try.prog w = .ok (.enter 75 args) w := enters_of Try.func75 (by kernel_rfl) rfl
theorem en_73 : ∀ args w, (callFunc 73 args).run Try.prog w = .ok (.enter 73 args) w := enters_of Try.func73 (by kernel_rfl) rfl
theorem ze_116 : (Try.prog.info? 116).bind (·.zero) = some (Value.pointer none) := by kernel_rfl
theorem ze_44 : (Try.prog.info? 44).bind (·.zero) = some (Value.slice none 0 0) := by kernel_rfl
theorem ze_134 : (Try.prog.info? 134).bind (·.zero) = some Value.nilFunc := by kernel_rfl
theorem ze_67 : (Try.prog.info? 67).bind (·.zero) = some (Value.agg #[(iv 0), (iv 0)]) := by kernel_rfl
theorem bs_67_1_0iia (x0_0 : Int) (x0_1 : Int) : Instr.fill (fun i => some (i * 2, 2)) ((Array.range (1 * 2)).map ((Value.agg #[(iv 0), (iv 0)]).cells[· % (Value.agg #[(iv 0), (iv 0)]).cells.size]!)) [(0, .agg #[(.int .i64 x0_0), (.int .i64 x0_1)])] = some (([(.int .i64 x0_0), (.int .i64 x0_1)] : List Value).toArray) := by kernel_rfl
theorem el_67 : elK Try.prog 67 = some ((Value.agg #[(iv 0), (iv 0)]), 2, 16) := by kernel_rfl
theorem en_41 : ∀ args w, (callFunc 41 args).run Try.prog w = .ok (.enter 41 args) w := enters_of Try.func41 (by kernel_rfl) rfl
theorem un_92 : Try.prog.underlying 92 = some (.slice 69) := by kernel_rfl
theorem ty_69 : tyK Try.prog 69 = some (false, 1) := by kernel_rfl
theorem un_69 : Try.prog.underlying 69 = some (.int .u16) := by kernel_rfl
theorem en_77 : ∀ args w, (callFunc 77 args).run Try.prog w = .ok (.enter 77 args) w := enters_of Try.func77 (by kernel_rfl) rfl
theorem bd_67_0i_1i (x0_0 : Int) (x1_0 : Int) (w : World) : (Instr.build 67 #[(0, (.int .i64 x0_0)), (1, (.int .i64 x1_0))]).run Try.prog w = .ok (.agg #[(.int .i64 x0_0), (.int .i64 x1_0)]) w := by kernel_rfl
theorem un_137 : Try.prog.underlying 137 = some (.slice 4) := by kernel_rfl
theorem el_4 : elK Try.prog 4 = some ((Value.bool false), 1, 1) := by kernel_rfl
theorem en_44 : ∀ args w, (callFunc 44 args).run Try.prog w = .ok (.enter 44 args) w := enters_of Try.func44 (by kernel_rfl) rfl
theorem en_45 : ∀ args w, (callFunc 45 args).run Try.prog w = .ok (.enter 45 args) w := enters_of Try.func45 (by kernel_rfl) rfl
theorem thin0_ok (b : h_4) (vt vm : Value) (lr lb lk : Nat → Value) (w : World) (hT : j_8 w vt lr lb b.tabs) (hM : k_6 w vm lk b.macs) : Calls Try.prog 16 #[.agg #[.int .i64 b.scales, vt, vm], .slice none 0 0] w (Ret fun v w' => v = .bool (ab_0 b 0) ∧ Ext NoB w w') := thin_ok b vt vm lr lb lk w hT hM [] _ (z_7 w 2)
end Go.Proofs.Ytohgladndklciaa

namespace Go.Hard
section
variable {s t : h_9} {e f : Int} {k : Nat}
end
theorem rem_nat {n : Int} {m : Nat} (h0 : 0 ≤ n) (hm : 0 < m) : ∃ b : Nat, n.tmod (m : Int) = (b : Int) ∧ b < m := by
  have h1 := Int.tmod_nonneg (m : Int) h0
  have h2 := Int.tmod_lt_of_pos n (show (0 : Int) < (m : Int) by omega)
  exact ⟨(n.tmod (m : Int)).toNat, by omega, by omega⟩
theorem rem_bd {y d : Int} (h : 0 ≤ y) (hd : 0 < d) : 0 ≤ y.tmod d ∧ y.tmod d < d := ⟨Int.tmod_nonneg d h, Int.tmod_lt_of_pos y hd⟩
section
variable {b : h_4} {l : List (Int × Int)} {k j : Nat}
theorem start_free (hb : k_5 b) (hl : q_4 b l) (hk : k < b.scales.toNat) (h : ∀ i, i < l.length → (b.macs.getD (l.getD i (0, 0)).1.toNat mac0).scale ≠ (k : Int)) : ∀ j, j ≤ l.length → at' (d_2 b l f_0 j) k = rng0
  | 0, _ => by
    have := hb.four
    have : k < 4 := by omega
    match k, this with
    | 0, _ => rfl
    | 1, _ => rfl
    | 2, _ => rfl
    | 3, _ => rfl
  | j + 1, hj => by
    have ih := start_free hb hl hk h j (by omega)
    have hs := w_1 b l f_0 j
    have h4 : f_0.length = 4 := rfl
    have hsc := (hl.macV hb (k := j) (by omega)).scale
    have hne := h j (by omega)
    have hn := hb.four
    have hlt := z_5 hb hl (k := j) (by omega)
    rw [startU_succ, at_set (by omega), if_neg]
    · exact ih
    · unfold n_1; omega
variable {i : Nat}
end
end Go.Hard

namespace Go.Proofs.Ytohgladndklciaa
open Go.RowKit Go.Shelf Go.Eng Go.Hard
end Go.Proofs.Ytohgladndklciaa

namespace Go.Hard
section
variable {b : h_4} {l : List (Int × Int)} {z : List Int} {t : TabD} {k : Nat}
theorem x_9 (h : (i_8 t (z.getD t.frm.toNat 0)).isSome = false) : q_5 z t = true := by
  unfold q_5
  cases hm : i_8 t (z.getD t.frm.toNat 0) with
  | none => rfl
  | some r => rw [hm] at h; cases h
theorem m_9 (h : (i_8 t (z.getD t.frm.toNat 0)).isSome = true) : q_5 z t = inB (z.getD t.dst.toNat 0) ((b_9 t (z.getD t.frm.toNat 0)).1 - t.err) ((b_9 t (z.getD t.frm.toNat 0)).2 + t.err) := by
  unfold q_5 b_9
  cases hm : i_8 t (z.getD t.frm.toNat 0) with
  | none => rw [hm] at h; cases h
  | some r => rfl
theorem fitR_is : x_4 b l z k = inB ((l.getD k (0, 0)).2 - z.getD (b.macs.getD (l.getD k (0, 0)).1.toNat mac0).scale.toNat 0) (d_4 (b.macs.getD (l.getD k (0, 0)).1.toNat mac0)).1 (d_4 (b.macs.getD (l.getD k (0, 0)).1.toNat mac0)).2 := rfl
theorem fits_iff : t_6 b l z = true ↔ (z.length : Int) = b.scales ∧ (∀ i, i < z.length → inB (z.getD i 0) 0 100000 = true) ∧ (∀ i, i < l.length → x_4 b l z i = true) ∧ ∀ i, i < b.tabs.length → q_5 z (b.tabs.getD i tab0) = true := by
  have e1 : z.all valueB = true ↔ ∀ i, i < z.length → inB (z.getD i 0) 0 100000 = true := by
    rw [List.all_eq_true]; exact (u_8 (p := valueB) (d := 0)).symm.trans i_3
  have e2 : b.tabs.all (q_5 z) = true ↔ ∀ i, i < b.tabs.length → q_5 z (b.tabs.getD i tab0) = true := by
    rw [List.all_eq_true]; exact (u_8 (p := q_5 z) (d := tab0)).symm.trans i_3
  unfold t_6
  rw [Bool.and_eq_true, Bool.and_eq_true, Bool.and_eq_true, decide_eq_true_eq, e1, e2, List.all_eq_true]
  simp only [List.mem_range, and_assoc]
theorem fits_not (h : ¬ ((z.length : Int) = b.scales ∧ (∀ i, i < z.length → inB (z.getD i 0) 0 100000 = true) ∧ (∀ i, i < l.length → x_4 b l z i = true) ∧ ∀ i, i < b.tabs.length → q_5 z (b.tabs.getD i tab0) = true)) : t_6 b l z = false := by
  cases hf : t_6 b l z with
  | false => rfl
  | true => exact absurd (fits_iff.1 hf) h
theorem ab_8 (h : ¬ (z.length : Int) = b.scales) : t_6 b l z = false := fits_not fun g => h g.1
theorem fits_n1 (hk : k < z.length) (h : inB (z.getD k 0) 0 100000 = false) : t_6 b l z = false := fits_not fun g => by rw [g.2.1 k hk] at h; cases h
theorem fits_n1' (h : (List.range z.length).all (fun i => inB (z.getD i 0) 0 100000) = false) : t_6 b l z = false := fits_not fun g => by
  rw [List.all_eq_true.2 fun i hi => g.2.1 i (List.mem_range.1 hi)] at h; cases h
theorem ab_9 (hk : k < l.length) (h : inB ((l.getD k (0, 0)).2 - z.getD (b.macs.getD (l.getD k (0, 0)).1.toNat mac0).scale.toNat 0) (d_4 (b.macs.getD (l.getD k (0, 0)).1.toNat mac0)).1 (d_4 (b.macs.getD (l.getD k (0, 0)).1.toNat mac0)).2 = false) : t_6 b l z = false := fits_not fun g => by have := g.2.2.1 k hk; rw [fitR_is, h] at this; cases this
theorem fits_n3 (hk : k < b.tabs.length) (h : q_5 z (b.tabs.getD k tab0) = false) : t_6 b l z = false := fits_not fun g => by rw [g.2.2.2 k hk] at h; cases h
theorem fits_y (h0 : (z.length : Int) = b.scales) (h1 : ∀ i, i < z.length → inB (z.getD i 0) 0 100000 = true) (h2 : ∀ i, i < l.length → x_4 b l z i = true) (h3 : ∀ i, i < b.tabs.length → q_5 z (b.tabs.getD i tab0) = true) : t_6 b l z = true := fits_iff.2 ⟨h0, h1, h2, h3⟩
theorem fits_rest (h0 : (z.length : Int) = b.scales) (h1 : (List.range z.length).all (fun i => inB (z.getD i 0) 0 100000) = true) (h2 : ∀ i, i < l.length → x_4 b l z i = true) : (List.range b.tabs.length).all (fun i => q_5 z (b.tabs.getD i tab0)) = t_6 b l z := by
  cases hf : (List.range b.tabs.length).all (fun i => q_5 z (b.tabs.getD i tab0)) with
  | true => exact (fits_y h0 (fun i hi => List.all_eq_true.1 h1 i (List.mem_range.2 hi)) h2 fun i hi => List.all_eq_true.1 hf i (List.mem_range.2 hi)).symm
  | false =>
    refine (fits_not fun g => ?_).symm
    rw [List.all_eq_true.2 fun i hi => g.2.2.2 i (List.mem_range.1 hi)] at hf; cases hf
end
end Go.Hard

namespace Go.Proofs.Ytohgladndklciaa
open Go.RowKit Go.Shelf Go.Eng Go.Hard
set_option maxHeartbeats 4000000 in
theorem rfits_ok (b : h_4) (vt vm : Value) (lr lb lk : Nat → Value) (w : World) (hT : j_8 w vt lr lb b.tabs) (hM : k_6 w vm lk b.macs) (hth : o_6 b) (hb : k_5 b) (l : List (Int × Int)) (xl : Value) (hxl : SlAt w xl 2 l.length (pairs l)) (hl : q_4 b l) (z : List Int) (xz : Value) (hxz : SlAt w xz 1 z.length (ints z)) (Er : z.length ≤ 1000000) :
  Calls Try.prog 38 #[(Value.agg #[(iv b.scales), vt, vm]), xl, xz] w (Ret fun v w' => v = .bool (t_6 b l z) ∧ Ext NoB w w') := by
 refine a_9 Try.func38 rfl fun a0 A3 => ?_
 replace A3 : Fr 108 [] [(0, (Value.agg #[(iv b.scales), vt, vm])), (1, xl), (2, xz)] a0 := A3
 have hsc := hb.scales; have htl9 := hth.tl; have hml9 := hth.ml; have hll := hl.len
 have DC : Sep NoB w w [(d_0 false vt lr lb b.tabs), (d_3 false vm lk b.macs), (sl xl 2 l.length (pairs l)), (sl xz 1 z.length (ints z))] := f_1 ⟨rfl, hT, rfl, hM, rfl, hxl, rfl, hxz, trivial⟩
 refine m2 (s2 A3 (f_4 DC rfl A3.e (cs := [(iv b.scales), vt, vm]) rfl) ?_)
 rintro a1 _ w3 ⟨D, rfl, A4⟩ DB; clear A3 DC a0
 refine s1 DB (a_0 rfl (evc _ _)) fun a6 Cg => ?_; clear DB a1
 refine n2 (m2 (s1 Cg (a_1 rfl Cg.e) fun a8 Ck => ?_)); clear Cg a6
 refine s1 Ck (d_1 rfl j_1 Ck.e (A4.sk 4 rfl)) fun Dz A6 => ?_; clear Ck a8
 refine s1 A6 (a_4 rfl ab_6 A6.e) fun D0 A7 => ?_; clear A6 Dz
 refine s1 A7 (a_2 rfl ty_3 A7.e (A4.bk 0 rfl) rfl) fun D1 AM => ?_; clear A7 D0
 refine s1 AM (v_7 rfl AM.e AM.e) fun C7 R => ?_; clear AM D1
 refine n1 ?_
 by_cases Cr : (z.length : Int) = b.scales
 ·skip
  rw [decide_eq_true Cr] at R
  refine b_4 R rfl (c_6 (a_7 (b_5 (b_5 ?_))))
  have CZ := R.as [(3, (bptr D 0)), (1, xl), (2, xz)] rfl; clear R
  refine a_5 (s1 CZ (a_0 rfl (evc _ _)) fun D2 Ca => ?_); clear CZ C7
  refine n1 (c_4 ?_)
  have Cb := Ca.as [(7, (iv 0)), (3, (bptr D 0)), (1, xl), (2, xz)] rfl; clear Ca
  refine h_3 (G := Nat) (fun (k : Nat) a_ w_ => Fr 108 [] [(7, (iv (k : Int))), (3, (bptr D 0)), (1, xl), (2, xz)] a_ ∧ Sep NoB w w_ [(blk D 25 [(iv b.scales), vt, vm]), (d_0 false vt lr lb b.tabs), (d_3 false vm lk b.macs), (sl xl 2 l.length (pairs l)), (sl xz 1 z.length (ints z))] ∧ (k ≤ z.length) ∧ ((z.length : Int) = b.scales) ∧ (∀ i, i < k → inB (z.getD i 0) 0 100000 = true)) (fun k => z.length - k) 0 ⟨Cb.as _ rfl, A4, by omega, by omega, (fun _ h => absurd h (Nat.not_lt_zero _))⟩ ?_
  clear Cb A4 D2
  rintro k D3 Es ⟨A8, W, hkk, hzn, Cu⟩
  refine b_5 (m2 (s1 A8 (a_1 rfl A8.e) fun D4 A9 => ?_)); clear A8 D3
  refine s1 A9 (a_1 rfl A9.e) fun D5 BA => ?_; clear A9 D4
  refine s1 BA (d_1 rfl j_1 BA.e (W.sk 4 rfl)) fun D6 Ak => ?_; clear BA D5
  refine s1 Ak (f_7 rfl Ak.e Ak.e) fun C8 P => ?_; clear Ak D6
  refine n1 ?_
  by_cases Cs : (k : Int) < (z.length : Int)
  ·skip
   rw [decide_eq_true Cs] at P
   refine c_0 P rfl (c_6 (a_7 (b_5 (c_4 (m2 (s1 P (a_1 rfl P.e) fun D7 BB => ?_)))))); clear P C8
   refine s1 BB (a_1 rfl BB.e) fun D8 An => ?_; clear BB D7
   refine s1 An (b_0 rfl j_1 ty_3 An.e (i := k) An.e (W.sk 4 rfl) (by decide) (by omega)) fun D9 BC => ?_; clear An D8
   refine s1 BC (c_1 rfl ty_3 BC.e (W.sk 4 rfl) (ints_at (by omega))) fun EA BD => ?_; clear BC D9
   refine s2 BD (b_3 rfl en_53 (ev1 BD.e) (rvalue_ok _ _)) ?_
   rintro EB _ Et ⟨rfl, Cm⟩ BE; have Co := W.step Cm; clear Cm BD W EA
   refine s1 BE (f_5 rfl BE.e) fun C9 S => ?_; clear BE EB
   refine n1 ?_
   rcases Bool.eq_false_or_eq_true ((inB (z.getD k 0) 0 100000)) with BP | BP
   ·skip
    rw [BP] at S
    refine b_4 S rfl (c_6 (g_3 (a_7 ?_)))
    have BF := S.as [(7, (iv (k : Int))), (3, (bptr D 0)), (1, xl), (2, xz)] rfl; clear S
    refine a_5 (s1 BF (a_1 rfl BF.e) fun EC BG => ?_); clear BF C9
    refine s1 BG (e_3 rfl BG.e (evc _ _) (by omega) (by omega)) fun ED BH => ?_; clear BG EC
    refine s1 BH (a_0 rfl BH.e) fun En Dq => ?_; clear BH ED
    refine e_6 ?_
    exact a_7 ⟨k + 1, ⟨Dq.as _ rfl, Co, by omega, hzn, (fun i hi => by rcases Nat.lt_succ_iff_lt_or_eq.1 hi with h | h; exact Cu i h; subst h; assumption)⟩, by omega⟩
   skip
   rw [BP] at S
   refine c_0 S rfl (b_5 ?_)
   have Cc := S.as [] rfl; clear S
   refine a_5 (s1 Cc (a_0 rfl (evc _ _)) fun Eo Cd => ?_); clear Cc C9
   exact n1 (c_2 (c_8 (a_6 (a_6 (c_8 (a_6 (a_8 Cd (.inl rfl) (a_3 Cd rfl (.tmp rfl)) (⟨congrArg Value.bool (Eq.symm (by first | exact ab_8 (by omega) | exact fits_n1 (k := k) (by omega) (by assumption) | exact ab_9 (k := B) (by omega) (by assumption) | exact fits_n3 (k := A) (by omega) ((m_9 (by assumption)).trans (by assumption)))), Co.ext⟩))))))))
  skip
  rw [decide_eq_false Cs] at P
  refine b_4 P rfl (g_6 (b_2 (b_2 (f_2 (a_7 (b_5 (m2 (s1 P (a_0 rfl (evc _ _)) fun EE Ce => ?_)))))))); clear P C8
  refine n1 (c_4 ?_)
  have Cf := Ce.as [(8, (iv 0)), (3, (bptr D 0)), (1, xl), (2, xz)] rfl; clear Ce
  refine h_3 (G := Nat) (fun (B : Nat) a_ w_ => Fr 108 [] [(8, (iv (B : Int))), (3, (bptr D 0)), (1, xl), (2, xz)] a_ ∧ Sep NoB w w_ [(blk D 25 [(iv b.scales), vt, vm]), (d_0 false vt lr lb b.tabs), (d_3 false vm lk b.macs), (sl xl 2 l.length (pairs l)), (sl xz 1 z.length (ints z))] ∧ (B ≤ l.length) ∧ (∀ i, i < B → x_4 b l z i = true)) (fun B => l.length - B) 0 ⟨Cf.as _ rfl, W, by omega, (fun _ h => absurd h (Nat.not_lt_zero _))⟩ ?_
  clear Cf W EE
  rintro B EF Eu ⟨BI, AC, hkk1, DD⟩
  refine b_5 (m2 (s1 BI (a_1 rfl BI.e) fun EG BJ => ?_)); clear BI EF
  refine s1 BJ (a_1 rfl BJ.e) fun EH BK => ?_; clear BJ EG
  refine s1 BK (d_1 rfl un_49 BK.e (AC.sk 3 rfl)) fun EI Ao => ?_; clear BK EH
  refine s1 Ao (f_7 rfl Ao.e Ao.e) fun EJ T => ?_; clear Ao EI
  refine n1 ?_
  by_cases Ct : (B : Int) < (l.length : Int)
  ·skip
   rw [decide_eq_true Ct] at T
   have hmv := hl.macV hb (k := B) (by omega); have hsv := hmv.scale; have hbb := biasF_bd hmv; have hlm := hl.mac B (by omega); have hlr := hl.read B (by omega); have Ep := i_4.1 (Cu (b.macs.getD (l.getD B (0, 0)).1.toNat mac0).scale.toNat (by omega))
   refine c_0 T rfl (c_6 (a_7 (b_5 (c_4 (b_5 ?_)))))
   have Ch := T.as [(8, (iv (B : Int))), (3, (bptr D 0)), (1, xl), (2, xz)] rfl; clear T
   refine ab_4 mixed Ch AC 10 [[], [0], [], [], [2, 3], [4], [5], [1, 6], [7], []] [(yw (bptr D 2)), (yw vm), (yw xl), (yw (iv (B : Int))), (yw (eptr xl (B * 2))), (yw (eptr xl (B * 2 + 0))), (yw (iv ((l.getD B (0, 0)).1))), (yw (eptr vm (((l.getD B (0, 0)).1).toNat * 2))), (yw (Value.agg #[(iv ((b.macs.getD (((l.getD B (0, 0)).1).toNat) mac0).scale)), (lk (((l.getD B (0, 0)).1).toNat))])), (fun (K : Nat → Value) (v_ : Value) (rs_ : List Res) => ∃ (b9_ : Nat), v_ = (bptr b9_ 0) ∧ rs_ = [(blk b9_ 61 [(iv 0), (Value.slice none 0 0)])])] (by decide +kernel) (by decide +kernel) rfl rfl ⟨dw, dw, dw, dw, dw, dw, dw, dw, dw, (fun _ _ _ _ _ h_ => h_), trivial⟩ ?_ ?_
   ·skip
    refine ⟨fun a w K hA hS hd => gv1 (a_4 rfl p_0 hA.e), ?_⟩
    refine ⟨fun a w K hA hS hd => gv1 (a_2 rfl ac_8 (gu hd 0) (hS.bk 0 rfl) rfl), ?_⟩
    refine ⟨fun a w K hA hS hd => gv1 (a_1 rfl hA.e), ?_⟩
    refine ⟨fun a w K hA hS hd => gv1 (a_1 rfl hA.e), ?_⟩
    refine ⟨fun a w K hA hS hd => gv1 (b_0 rfl un_49 ty_67 (gu hd 2) (i := B) (gu hd 3) (hS.sk 3 rfl) (by decide) (by omega)), ?_⟩
    refine ⟨fun a w K hA hS hd => gv1 (e_5 rfl fd_67_0 (gu hd 4) (hS.sk 3 rfl) (by rw [((hS.sk 3 rfl)).1]; omega)), ?_⟩
    refine ⟨fun a w K hA hS hd => gv1 (c_1 rfl ty_3 (gu hd 5) (hS.sk 3 rfl) (i_6 (by omega))), ?_⟩
    refine ⟨fun a w K hA hS hd => gv1 (b_0 rfl ad_1 ac_9 (gu hd 1) (i := ((l.getD B (0, 0)).1).toNat) ((gu hd 6).trans (g_4 (by omega))) (c_5 (hS.ok 2 _ rfl)).macs (by decide) (by omega)), ?_⟩
    refine ⟨fun a w K hA hS hd => gv1 (e_8 rfl ac_9 (gu hd 7) (c_5 (hS.ok 2 _ rfl)).macs (t_8 (by omega)) rfl (by decide)), ?_⟩
    refine ⟨fun a w K hA hS hd => d_5 rfl (valloc rfl ze_61 (cs := [(iv 0), (Value.slice none 0 0)]) rfl (fun b_ => ⟨b_, rfl, rfl⟩)), ?_⟩
    trivial
   intro DA EM K rsf85 Ci I BN; clear Ch AC
   obtain ⟨BQ, Dr⟩ := I 9 (by decide)
   obtain ⟨b9_, Cw, Cv⟩ := Dr
   have BO : Sep NoB w EM [(blk b9_ 61 [(iv 0), (Value.slice none 0 0)]), (blk D 25 [(iv b.scales), vt, vm]), (d_0 false vt lr lb b.tabs), (d_3 false vm lk b.macs), (sl xl 2 l.length (pairs l)), (sl xz 1 z.length (ints z))] := by rw [show catR rsf85 0 10 = ([(blk b9_ 61 [(iv 0), (Value.slice none 0 0)])] : List Res) by (try simp only [catR, gr (I 0 (by decide)), gr (I 1 (by decide)), gr (I 2 (by decide)), gr (I 3 (by decide)), gr (I 4 (by decide)), gr (I 5 (by decide)), gr (I 6 (by decide)), gr (I 7 (by decide)), gr (I 8 (by decide)), Cv]); (try rfl)] at BN; exact BN
   have Cj := Ci.add (gs (I 8 (by decide))); clear Ci
   rw [Cw] at BQ
   have Ap : Fr 108 [] [(9, (bptr b9_ 0)), (46, (Value.agg #[(iv ((b.macs.getD (((l.getD B (0, 0)).1).toNat) mac0).scale)), (lk (((l.getD B (0, 0)).1).toNat))])), (8, (iv (B : Int))), (3, (bptr D 0)), (1, xl), (2, xz)] DA := Cj.add (f_6 BQ rfl); clear Cj
   clear I BN BQ
   clear Cv
   clear Cw
   refine s7 Ap (b_7 BO rfl ac_9 Ap.e Ap.e (i := 0) rfl (vs := [(iv ((b.macs.getD (((l.getD B (0, 0)).1).toNat) mac0).scale)), (lk (((l.getD B (0, 0)).1).toNat))]) rfl rfl (i_0 rfl (i_0 (SlAt.one ((c_5 (BO.ok 3 _ rfl)).blk (i := ((l.getD B (0, 0)).1).toNat) (by omega))) u_9)) (Nat.le_of_ble_eq_true rfl)) ?_
   intro _ EN Cp BL; clear Ap
   have Aw : Sep NoB w EN [(blk b9_ 61 [(iv ((b.macs.getD (((l.getD B (0, 0)).1).toNat) mac0).scale)), (lk (((l.getD B (0, 0)).1).toNat))]), (blk D 25 [(iv b.scales), vt, vm]), (d_0 false vt lr lb b.tabs), (d_3 false vm lk b.macs), (sl xl 2 l.length (pairs l)), (sl xz 1 z.length (ints z))] := Cp; clear Cp BO
   refine n4 (s1 BL (c_9 rfl ac_9 (BL.ev rfl) (Aw.bk 0 rfl) (l := [(iv ((b.macs.getD (((l.getD B (0, 0)).1).toNat) mac0).scale)), (lk (((l.getD B (0, 0)).1).toNat))]) rfl rfl) fun EK BM => ?_); clear BL DA
   refine s2 BM (b_3 rfl en_37 (ev1 BM.e) (rbias_ok _ (b.macs.getD (((l.getD B (0, 0)).1).toNat) mac0) _ _ ((c_5 (Aw.ok 3 _ rfl)).blk (i := ((l.getD B (0, 0)).1).toNat) (by omega)) hmv (hth.kl _))) ?_
   rintro EL _ Ev ⟨rfl, Cn⟩ Cl; have Cq := Aw.step Cn; clear Cn BM Aw EK
   refine s2 Cl (d_9 Cq rfl ze_27 (cs := [(iv 0), (iv 0)]) rfl) ?_
   rintro EP _ Ef ⟨AD, rfl, CI⟩ n; clear Cl Cq EL
   refine s7 n (b_7 CI rfl z_9 n.e n.e (i := 0) rfl (vs := [(iv ((d_4 (b.macs.getD (((l.getD B (0, 0)).1).toNat) mac0)).1)), (iv ((d_4 (b.macs.getD (((l.getD B (0, 0)).1).toNat) mac0)).2))]) rfl rfl rfl (Nat.le_of_ble_eq_true rfl)) ?_
   intro _ Ds CJ BR; clear n
   have CK : Sep NoB w Ds [(blk AD 27 [(iv ((d_4 (b.macs.getD (((l.getD B (0, 0)).1).toNat) mac0)).1)), (iv ((d_4 (b.macs.getD (((l.getD B (0, 0)).1).toNat) mac0)).2))]), (blk b9_ 61 [(iv ((b.macs.getD (((l.getD B (0, 0)).1).toNat) mac0).scale)), (lk (((l.getD B (0, 0)).1).toNat))]), (blk D 25 [(iv b.scales), vt, vm]), (d_0 false vt lr lb b.tabs), (d_3 false vm lk b.macs), (sl xl 2 l.length (pairs l)), (sl xz 1 z.length (ints z))] := CJ; clear CJ CI
   refine n2 ?_
   have BS := BR.as [(10, (bptr AD 0)), (9, (bptr b9_ 0)), (8, (iv (B : Int))), (3, (bptr D 0)), (1, xl), (2, xz)] rfl; clear BR
   refine g_0 mixed BS CK 15 [[], [], [0, 1], [2], [3], [], [], [6], [5, 7], [8], [4, 9], [], [11], [], [13]] [(Yd.val xl), (Yd.val (iv (B : Int))), (Yd.val (eptr xl (B * 2))), (Yd.val (eptr xl (B * 2 + 1))), (Yd.val (iv ((l.getD B (0, 0)).2))), (Yd.val xz), (Yd.val (bptr b9_ 0)), (Yd.val (iv ((b.macs.getD (((l.getD B (0, 0)).1).toNat) mac0).scale))), (Yd.val (eptr xz (((b.macs.getD (((l.getD B (0, 0)).1).toNat) mac0).scale).toNat * 1))), (Yd.val (iv (z.getD (((b.macs.getD (((l.getD B (0, 0)).1).toNat) mac0).scale).toNat) 0))), (Yd.val (iv (((l.getD B (0, 0)).2) - (z.getD (((b.macs.getD (((l.getD B (0, 0)).1).toNat) mac0).scale).toNat) 0)))), (Yd.val (bptr AD 0)), (Yd.val (iv ((d_4 (b.macs.getD (((l.getD B (0, 0)).1).toNat) mac0)).1))), (Yd.val (bptr AD 1)), (Yd.val (iv ((d_4 (b.macs.getD (((l.getD B (0, 0)).1).toNat) mac0)).2)))] (by decide +kernel) rfl rfl ?_ ?_
   ·skip
    refine dq (fun a w hA hS hd => a_1 rfl hA.e) ?_
    refine dq (fun a w hA hS hd => a_1 rfl hA.e) ?_
    refine dq (fun a w hA hS hd => b_0 rfl un_49 ty_67 (hq hd 0) (i := B) (hq hd 1) (hS.sk 5 rfl) (by decide) (by omega)) ?_
    refine dq (fun a w hA hS hd => e_5 rfl fd_67_1 (hq hd 2) (hS.sk 5 rfl) (by rw [((hS.sk 5 rfl)).1]; omega)) ?_
    refine dq (fun a w hA hS hd => c_1 rfl ty_3 (hq hd 3) (hS.sk 5 rfl) (j_0 (by omega))) ?_
    refine dq (fun a w hA hS hd => a_1 rfl hA.e) ?_
    refine dq (fun a w hA hS hd => a_4 rfl fd_61_0 hA.e) ?_
    refine dq (fun a w hA hS hd => a_2 rfl ty_3 (hq hd 6) (hS.bk 1 rfl) rfl) ?_
    refine dq (fun a w hA hS hd => b_0 rfl j_1 ty_3 (hq hd 5) (i := ((b.macs.getD (((l.getD B (0, 0)).1).toNat) mac0).scale).toNat) ((hq hd 7).trans (g_4 (by omega))) (hS.sk 6 rfl) (by decide) (by omega)) ?_
    refine dq (fun a w hA hS hd => c_1 rfl ty_3 (hq hd 8) (hS.sk 6 rfl) (ints_at (by omega))) ?_
    refine dq (fun a w hA hS hd => h_2 rfl (hq hd 4) (hq hd 9) (by omega) (by omega)) ?_
    refine dq (fun a w hA hS hd => a_4 rfl p_1 hA.e) ?_
    refine dq (fun a w hA hS hd => a_2 rfl ty_3 (hq hd 11) (hS.bk 0 rfl) rfl) ?_
    refine dq (fun a w hA hS hd => a_4 rfl s_6 hA.e) ?_
    refine dq (fun a w hA hS hd => a_2 rfl ty_3 (hq hd 13) (hS.bk 0 rfl) rfl) ?_
    trivial
   intro DE Eg BT Aq x; clear BS CK
   have BU := BT.add (hz x 10); clear BT
   have BV := BU.add (hz x 12); clear BU
   have X := BV.add (hz x 14); clear BV
   clear x
   refine s2 X (b_3 rfl ad_5 (ev3 X.e X.e X.e) (ad_3 _ _ _ _)) ?_
   rintro DF _ W_ ⟨rfl, hW_⟩ AE; have hW2_ := hW_.symm; subst hW2_; clear hW_ X DE
   refine s1 AE (f_5 rfl AE.e) fun CT L => ?_; clear AE DF
   refine n1 ?_
   rcases Bool.eq_false_or_eq_true ((inB (((l.getD B (0, 0)).2) - (z.getD (((b.macs.getD (((l.getD B (0, 0)).1).toNat) mac0).scale).toNat) 0)) ((d_4 (b.macs.getD (((l.getD B (0, 0)).1).toNat) mac0)).1) ((d_4 (b.macs.getD (((l.getD B (0, 0)).1).toNat) mac0)).2))) with Ax | Ax
   ·skip
    rw [Ax] at L
    refine b_4 L rfl (c_6 (g_3 (a_7 ?_)))
    have AF := L.as [(8, (iv (B : Int))), (3, (bptr D 0)), (1, xl), (2, xz)] rfl; clear L
    refine a_5 (s1 AF (a_1 rfl AF.e) fun DG AG => ?_); clear AF CT
    refine s1 AG (e_3 rfl AG.e (evc _ _) (by omega) (by omega)) fun DH AH => ?_; clear AG DG
    refine s1 AH (a_0 rfl AH.e) fun EQ Cx => ?_; clear AH DH
    refine e_6 ?_
    have C2 := Aq.gkp (gpc 2 (gpc 3 (gpc 4 (gpc 5 (gpc 6 gpn))))); clear Aq
    exact a_7 ⟨B + 1, ⟨Cx.as _ rfl, C2, by omega, (fun i hi => by rcases Nat.lt_succ_iff_lt_or_eq.1 hi with h | h; exact DD i h; subst h; exact (fitR_is.trans (by assumption)))⟩, by omega⟩
   skip
   rw [Ax] at L
   refine c_0 L rfl (b_5 ?_)
   have BW := L.as [] rfl; clear L
   refine a_5 (s1 BW (a_0 rfl (evc _ _)) fun ER BX => ?_); clear BW CT
   exact n1 (c_2 (c_8 (a_6 (a_6 (c_8 (a_6 (a_8 BX (.inl rfl) (a_3 BX rfl (.tmp rfl)) (⟨congrArg Value.bool (Eq.symm (by first | exact ab_8 (by omega) | exact fits_n1 (k := k) (by omega) (by assumption) | exact ab_9 (k := B) (by omega) (by assumption) | exact fits_n3 (k := A) (by omega) ((m_9 (by assumption)).trans (by assumption)))), Aq.ext⟩))))))))
  skip
  rw [decide_eq_false Ct] at T
  refine b_4 T rfl (g_6 (b_2 (b_2 (f_2 (a_7 (b_5 (b_5 ?_)))))))
  have BY := T.as [(3, (bptr D 0)), (2, xz)] rfl; clear T
  refine a_5 (s1 BY (a_0 rfl (evc _ _)) fun DI BZ => ?_); clear BY EJ
  refine n1 (c_4 ?_)
  have Ba := BZ.as [(11, (iv 0)), (3, (bptr D 0)), (2, xz)] rfl; clear BZ
  refine h_3 (G := Nat) (fun (A : Nat) a_ w_ => Fr 108 [] [(11, (iv (A : Int))), (3, (bptr D 0)), (2, xz)] a_ ∧ Sep NoB w w_ [(blk D 25 [(iv b.scales), vt, vm]), (d_0 false vt lr lb b.tabs), (d_3 false vm lk b.macs), (sl xl 2 l.length (pairs l)), (sl xz 1 z.length (ints z))] ∧ (A ≤ b.tabs.length) ∧ (∀ i, i < A → q_5 z (b.tabs.getD i tab0) = true)) (fun A => b.tabs.length - A) 0 ⟨Ba.as _ rfl, AC, by omega, (fun _ h => absurd h (Nat.not_lt_zero _))⟩ ?_
  clear Ba AC DI
  rintro A DJ Eh ⟨AI, O, hkk2, A5⟩
  refine b_5 (m2 (s1 AI (a_1 rfl AI.e) fun DK AJ => ?_)); clear AI DJ
  refine s1 AJ (a_4 rfl o_9 AJ.e) fun DL AK => ?_; clear AJ DK
  refine s1 AK (a_2 rfl ac_7 AK.e (O.bk 0 rfl) rfl) fun DM AL => ?_; clear AK DL
  refine s1 AL (d_1 rfl ad_0 AL.e (b_8 (O.ok 1 _ rfl)).tabs) fun DN o => ?_; clear AL DM
  refine s1 o (f_7 rfl o.e o.e) fun CU J => ?_; clear o DN
  refine n1 ?_
  by_cases CS : (A : Int) < (b.tabs.length : Int)
  ·skip
   rw [decide_eq_true CS] at J
   have htv := hb.tab (k := A) (by omega); have hfd := htv.frm; have hdd := htv.dst; have hed := htv.err; have hmd := madeV_bd htv (z.getD (b.tabs.getD A tab0).frm.toNat 0)
   refine c_0 J rfl (c_6 (a_7 (b_5 (c_4 (m2 (s1 J (a_4 rfl o_9 J.e) fun DO AN => ?_)))))); clear J CU
   refine s1 AN (a_2 rfl ac_7 AN.e (O.bk 0 rfl) rfl) fun DP AO => ?_; clear AN DO
   refine s1 AO (a_1 rfl AO.e) fun DQ p => ?_; clear AO DP
   refine s1 p (b_0 rfl ad_0 ac_1 p.e (i := A) p.e (b_8 (O.ok 1 _ rfl)).tabs (by decide) (by omega)) fun DR AP => ?_; clear p DQ
   refine s1 AP (e_8 rfl ac_1 AP.e (b_8 (O.ok 1 _ rfl)).tabs (u_3 (by omega)) rfl (by decide)) fun DS Bb => ?_; clear AP DR
   refine s2 Bb (d_9 O rfl ze_46 (cs := [(iv 0), (iv 0), (Value.slice none 0 0), (Value.slice none 0 0), (iv 0)]) rfl) ?_
   rintro ES _ Ei ⟨C, rfl, y⟩ q; clear Bb O DS
   refine s7 q (b_7 y rfl ac_1 q.e q.e (i := 0) rfl (vs := [(iv ((b.tabs.getD A tab0).frm)), (iv ((b.tabs.getD A tab0).dst)), (lr A), (lb A), (iv ((b.tabs.getD A tab0).err))]) rfl rfl (i_0 rfl (i_0 rfl (i_0 (SlAt.one ((b_8 (y.ok 2 _ rfl)).row (i := A) (by omega))) (i_0 (SlAt.one ((b_8 (y.ok 2 _ rfl)).brk (i := A) (by omega))) (i_0 rfl u_9))))) (Nat.le_of_ble_eq_true rfl)) ?_
   intro _ Dt CL Bc; clear q
   have Ar : Sep NoB w Dt [(blk C 46 [(iv ((b.tabs.getD A tab0).frm)), (iv ((b.tabs.getD A tab0).dst)), (lr A), (lb A), (iv ((b.tabs.getD A tab0).err))]), (blk D 25 [(iv b.scales), vt, vm]), (d_0 false vt lr lb b.tabs), (d_3 false vm lk b.macs), (sl xl 2 l.length (pairs l)), (sl xz 1 z.length (ints z))] := CL; clear CL y
   refine n2 ?_
   have Bd := Bc.as [(12, (bptr C 0)), (11, (iv (A : Int))), (3, (bptr D 0)), (2, xz)] rfl; clear Bc
   have AQ := Bd.as [(12, (bptr C 0)), (11, (iv (A : Int))), (3, (bptr D 0)), (2, xz)] rfl; clear Bd
   refine c_drawF mixed AQ Ar 11 9 rfl rfl [[], [], [], [2], [1, 3], [4], [0, 5], [6], [7], [7], []] [(yw (Value.agg #[(iv ((b.tabs.getD A tab0).frm)), (iv ((b.tabs.getD A tab0).dst)), (lr A), (lb A), (iv ((b.tabs.getD A tab0).err))])), (yw xz), (yw (bptr C 0)), (yw (iv ((b.tabs.getD A tab0).frm))), (yw (eptr xz (((b.tabs.getD A tab0).frm).toNat * 1))), (yw (iv (z.getD (((b.tabs.getD A tab0).frm).toNat) 0))), (yw (Value.tuple #[(Value.agg #[(iv ((b_9 (b.tabs.getD A tab0) (z.getD (((b.tabs.getD A tab0).frm).toNat) 0)).1)), (iv ((b_9 (b.tabs.getD A tab0) (z.getD (((b.tabs.getD A tab0).frm).toNat) 0)).2))]), (Value.bool ((i_8 (b.tabs.getD A tab0) (z.getD (((b.tabs.getD A tab0).frm).toNat) 0)).isSome))])), (yw (Value.tuple #[(Value.agg #[(iv ((b_9 (b.tabs.getD A tab0) (z.getD (((b.tabs.getD A tab0).frm).toNat) 0)).1)), (iv ((b_9 (b.tabs.getD A tab0) (z.getD (((b.tabs.getD A tab0).frm).toNat) 0)).2))]), (Value.bool ((i_8 (b.tabs.getD A tab0) (z.getD (((b.tabs.getD A tab0).frm).toNat) 0)).isSome))])), (yw (Value.agg #[(iv ((b_9 (b.tabs.getD A tab0) (z.getD (((b.tabs.getD A tab0).frm).toNat) 0)).1)), (iv ((b_9 (b.tabs.getD A tab0) (z.getD (((b.tabs.getD A tab0).frm).toNat) 0)).2))])), (yw (Value.bool ((i_8 (b.tabs.getD A tab0) (z.getD (((b.tabs.getD A tab0).frm).toNat) 0)).isSome))), (fun (H : Nat → Value) (v_ : Value) (rs_ : List Res) => ∃ (b10_ : Nat), v_ = (bptr b10_ 0) ∧ rs_ = [(blk b10_ 27 [(iv 0), (iv 0)])])] (by decide +kernel) (by decide +kernel) (by decide +kernel) rfl rfl ⟨dw, dw, dw, dw, dw, dw, dw, dw, dw, dw, (fun _ _ _ _ _ h_ => h_), trivial⟩ ?_ ?_ ?_
   ·skip
    refine ⟨fun a w H hA hS hd => gv1 (c_9 rfl ac_1 (hA.ev rfl) (hS.bk 0 rfl) (l := [(iv ((b.tabs.getD A tab0).frm)), (iv ((b.tabs.getD A tab0).dst)), (lr A), (lb A), (iv ((b.tabs.getD A tab0).err))]) rfl rfl), ?_⟩
    refine ⟨fun a w H hA hS hd => gv1 (a_1 rfl hA.e), ?_⟩
    refine ⟨fun a w H hA hS hd => gv1 (a_4 rfl fd_46_0 hA.e), ?_⟩
    refine ⟨fun a w H hA hS hd => gv1 (a_2 rfl ty_3 (gu hd 2) (hS.bk 0 rfl) rfl), ?_⟩
    refine ⟨fun a w H hA hS hd => gv1 (b_0 rfl j_1 ty_3 (gu hd 1) (i := ((b.tabs.getD A tab0).frm).toNat) ((gu hd 3).trans (g_4 (by omega))) (hS.sk 5 rfl) (by decide) (by omega)), ?_⟩
    refine ⟨fun a w H hA hS hd => gv1 (c_1 rfl ty_3 (gu hd 4) (hS.sk 5 rfl) (ints_at (by omega))), ?_⟩
    refine ⟨fun a w H hA hS hd => gx1 (b_3 rfl en_55 (ev2 (gu hd 0) (gu hd 5)) (rmade_ok (b.tabs.getD A tab0) _ _ _ ((b_8 (hS.ok 2 _ rfl)).row (i := A) (by omega)) ((b_8 (hS.ok 2 _ rfl)).brk (i := A) (by omega)) (hth.rl _) (hth.bl _) _ htv (z.getD (((b.tabs.getD A tab0).frm).toNat) 0))), ?_⟩
    refine ⟨fun a w H hA hS hd => gv1 (a_1 rfl (gu hd 6)), ?_⟩
    refine ⟨fun a w H hA hS hd => gv1 (e_0 rfl (gu hd 7) rfl), ?_⟩
    refine ⟨fun a w H hA hS hd => gv1 (e_0 rfl (gu hd 7) rfl), ?_⟩
    refine ⟨fun a w H hA hS hd => d_5 rfl (valloc rfl ze_27 (cs := [(iv 0), (iv 0)]) rfl (fun b_ => ⟨b_, rfl, rfl⟩)), ?_⟩
    trivial
   ·skip
    intro CV Du H rsf182 Be E As; clear AQ Ar
    obtain ⟨Q, A2⟩ := E 10 (by decide)
    obtain ⟨b10_, m, j⟩ := A2
    have CM : Sep NoB w Du [(blk b10_ 27 [(iv 0), (iv 0)]), (blk C 46 [(iv ((b.tabs.getD A tab0).frm)), (iv ((b.tabs.getD A tab0).dst)), (lr A), (lb A), (iv ((b.tabs.getD A tab0).err))]), (blk D 25 [(iv b.scales), vt, vm]), (d_0 false vt lr lb b.tabs), (d_3 false vm lk b.macs), (sl xl 2 l.length (pairs l)), (sl xz 1 z.length (ints z))] := by rw [show catR rsf182 0 11 = ([(blk b10_ 27 [(iv 0), (iv 0)])] : List Res) by (try simp only [catR, gr (E 0 (by decide)), gr (E 1 (by decide)), gr (E 2 (by decide)), gr (E 3 (by decide)), gr (E 4 (by decide)), gr (E 5 (by decide)), gr (E 6 (by decide)), gr (E 7 (by decide)), gr (E 8 (by decide)), gr (E 9 (by decide)), j]); (try rfl)] at As; exact As
    have Bf := Be.add (gs (E 8 (by decide))); clear Be
    have Bg := Bf.add (gs (E 9 (by decide))); clear Bf
    rw [m] at Q
    have r : Fr 108 [] [(13, (bptr b10_ 0)), (87, (Value.bool ((i_8 (b.tabs.getD A tab0) (z.getD (((b.tabs.getD A tab0).frm).toNat) 0)).isSome))), (86, (Value.agg #[(iv ((b_9 (b.tabs.getD A tab0) (z.getD (((b.tabs.getD A tab0).frm).toNat) 0)).1)), (iv ((b_9 (b.tabs.getD A tab0) (z.getD (((b.tabs.getD A tab0).frm).toNat) 0)).2))])), (12, (bptr C 0)), (11, (iv (A : Int))), (3, (bptr D 0)), (2, xz)] CV := Bg.add (f_6 Q rfl); clear Bg
    clear E As Q
    clear j
    clear m
    refine s7 r (b_7 CM rfl z_9 r.e r.e (i := 0) rfl (vs := [(iv ((b_9 (b.tabs.getD A tab0) (z.getD (((b.tabs.getD A tab0).frm).toNat) 0)).1)), (iv ((b_9 (b.tabs.getD A tab0) (z.getD (((b.tabs.getD A tab0).frm).toNat) 0)).2))]) rfl rfl rfl (Nat.le_of_ble_eq_true rfl)) ?_
    intro _ Dv CN AR; clear r
    have AA : Sep NoB w Dv [(blk b10_ 27 [(iv ((b_9 (b.tabs.getD A tab0) (z.getD (((b.tabs.getD A tab0).frm).toNat) 0)).1)), (iv ((b_9 (b.tabs.getD A tab0) (z.getD (((b.tabs.getD A tab0).frm).toNat) 0)).2))]), (blk C 46 [(iv ((b.tabs.getD A tab0).frm)), (iv ((b.tabs.getD A tab0).dst)), (lr A), (lb A), (iv ((b.tabs.getD A tab0).err))]), (blk D 25 [(iv b.scales), vt, vm]), (d_0 false vt lr lb b.tabs), (d_3 false vm lk b.macs), (sl xl 2 l.length (pairs l)), (sl xz 1 z.length (ints z))] := CN; clear CN CM
    refine s1 AR (a_0 rfl AR.e) fun ET Bh => ?_; clear AR CV
    refine n2 ?_
    have U := Bh.as [(14, (Value.bool ((i_8 (b.tabs.getD A tab0) (z.getD (((b.tabs.getD A tab0).frm).toNat) 0)).isSome))), (13, (bptr b10_ 0)), (12, (bptr C 0)), (11, (iv (A : Int))), (3, (bptr D 0)), (2, xz)] rfl; clear Bh
    rcases Bool.eq_false_or_eq_true (((i_8 (b.tabs.getD A tab0) (z.getD (((b.tabs.getD A tab0).frm).toNat) 0)).isSome)) with Ay | Ay
    ·skip
     rw [Ay] at U
     have Bi := U.as [(14, (Value.bool true)), (13, (bptr b10_ 0)), (12, (bptr C 0)), (11, (iv (A : Int))), (3, (bptr D 0)), (2, xz)] rfl; clear U
     refine g_0 mixed Bi AA 17 [[], [0], [1], [1], [1, 3], [1, 2, 4], [1, 5], [1], [1, 7], [1], [1, 9], [1, 8, 10], [1], [1, 12], [1], [1, 14], [1, 13, 15]] [(Yd.val (Value.bool true)), (Yd.val (Value.bool true)), (Yd.val xz), (Yd.val (bptr C 1)), (Yd.val (iv ((b.tabs.getD A tab0).dst))), (Yd.val (eptr xz (((b.tabs.getD A tab0).dst).toNat * 1))), (Yd.val (iv (z.getD (((b.tabs.getD A tab0).dst).toNat) 0))), (Yd.val (bptr b10_ 0)), (Yd.val (iv ((b_9 (b.tabs.getD A tab0) (z.getD (((b.tabs.getD A tab0).frm).toNat) 0)).1))), (Yd.val (bptr C 4)), (Yd.val (iv ((b.tabs.getD A tab0).err))), (Yd.val (iv (((b_9 (b.tabs.getD A tab0) (z.getD (((b.tabs.getD A tab0).frm).toNat) 0)).1) - ((b.tabs.getD A tab0).err)))), (Yd.val (bptr b10_ 1)), (Yd.val (iv ((b_9 (b.tabs.getD A tab0) (z.getD (((b.tabs.getD A tab0).frm).toNat) 0)).2))), (Yd.val (bptr C 4)), (Yd.val (iv ((b.tabs.getD A tab0).err))), (Yd.val (iv (((b_9 (b.tabs.getD A tab0) (z.getD (((b.tabs.getD A tab0).frm).toNat) 0)).2) + ((b.tabs.getD A tab0).err))))] (by decide +kernel) rfl rfl ?_ ?_
     ·skip
      refine dq (fun a w hA hS hd => a_1 rfl hA.e) ?_
      refine dq (fun a w hA hS hd => a_1 rfl (hq hd 0)) ?_
      refine dy 1 (fun a w hA hS hd => a_1 rfl hA.e) ?_
      refine dy 1 (fun a w hA hS hd => a_4 rfl s_7 hA.e) ?_
      refine dy 1 (fun a w hA hS hd => a_2 rfl ty_3 (hq hd 3) (hS.bk 1 rfl) rfl) ?_
      refine dy 1 (fun a w hA hS hd => b_0 rfl j_1 ty_3 (hq hd 2) (i := ((b.tabs.getD A tab0).dst).toNat) ((hq hd 4).trans (g_4 (by omega))) (hS.sk 6 rfl) (by decide) (by omega)) ?_
      refine dy 1 (fun a w hA hS hd => c_1 rfl ty_3 (hq hd 5) (hS.sk 6 rfl) (ints_at (by omega))) ?_
      refine dy 1 (fun a w hA hS hd => a_4 rfl p_1 hA.e) ?_
      refine dy 1 (fun a w hA hS hd => a_2 rfl ty_3 (hq hd 7) (hS.bk 0 rfl) rfl) ?_
      refine dy 1 (fun a w hA hS hd => a_4 rfl x_2 hA.e) ?_
      refine dy 1 (fun a w hA hS hd => a_2 rfl ty_3 (hq hd 9) (hS.bk 1 rfl) rfl) ?_
      refine dy 1 (fun a w hA hS hd => h_2 rfl (hq hd 8) (hq hd 10) (by omega) (by omega)) ?_
      refine dy 1 (fun a w hA hS hd => a_4 rfl s_6 hA.e) ?_
      refine dy 1 (fun a w hA hS hd => a_2 rfl ty_3 (hq hd 12) (hS.bk 0 rfl) rfl) ?_
      refine dy 1 (fun a w hA hS hd => a_4 rfl x_2 hA.e) ?_
      refine dy 1 (fun a w hA hS hd => a_2 rfl ty_3 (hq hd 14) (hS.bk 1 rfl) rfl) ?_
      refine dy 1 (fun a w hA hS hd => e_3 rfl (hq hd 13) (hq hd 15) (by omega) (by omega)) ?_
      trivial
     intro DT Ej Bj At c; clear Bi AA
     have Bk := Bj.add (hz c 1); clear Bj
     have Bl := Bk.add (hz c 6); clear Bk
     have Bm := Bl.add (hz c 11); clear Bl
     have Y := Bm.add (hz c 16); clear Bm
     clear c
     refine s6 Y (b_3 rfl ad_5 (ev3 Y.e Y.e Y.e) (ad_3 _ _ _ _)) ?_
     rintro DU _ W_ ⟨rfl, hW_⟩ AS; have hW2_ := hW_.symm; subst hW2_; clear hW_ Y DT
     refine s5 AS (f_5 rfl AS.e) fun DV s => ?_; clear AS DU
     refine s1 s (b_6 rfl s.e s.e) fun CW M => ?_; clear s DV
     refine n1 ?_
     rcases Bool.eq_false_or_eq_true ((inB (z.getD (((b.tabs.getD A tab0).dst).toNat) 0) (((b_9 (b.tabs.getD A tab0) (z.getD (((b.tabs.getD A tab0).frm).toNat) 0)).1) - ((b.tabs.getD A tab0).err)) (((b_9 (b.tabs.getD A tab0) (z.getD (((b.tabs.getD A tab0).frm).toNat) 0)).2) + ((b.tabs.getD A tab0).err)))) with Az | Az
     ·skip
      rw [Az] at M
      refine b_4 M rfl (c_6 (g_3 (a_7 ?_)))
      have AT := M.as [(11, (iv (A : Int))), (3, (bptr D 0)), (2, xz)] rfl; clear M
      refine a_5 (s1 AT (a_1 rfl AT.e) fun DW AU => ?_); clear AT CW
      refine s1 AU (e_3 rfl AU.e (evc _ _) (by omega) (by omega)) fun DX AV => ?_; clear AU DW
      refine s1 AV (a_0 rfl AV.e) fun EU Cy => ?_; clear AV DX
      refine e_6 ?_
      have C3 := At.gkp (gpc 2 (gpc 3 (gpc 4 (gpc 5 (gpc 6 gpn))))); clear At
      exact a_7 ⟨A + 1, ⟨Cy.as _ rfl, C3, by omega, (fun i hi => by rcases Nat.lt_succ_iff_lt_or_eq.1 hi with h | h; exact A5 i h; subst h; first | exact x_9 (by assumption) | exact ((m_9 (by assumption)).trans (by assumption)))⟩, by omega⟩
     skip
     rw [Az] at M
     refine c_0 M rfl (b_5 ?_)
     have Bn := M.as [] rfl; clear M
     refine a_5 (s1 Bn (a_0 rfl (evc _ _)) fun EV Bo => ?_); clear Bn CW
     exact n1 (c_2 (c_8 (a_6 (a_6 (c_8 (a_6 (a_8 Bo (.inl rfl) (a_3 Bo rfl (.tmp rfl)) (⟨congrArg Value.bool (Eq.symm (by first | exact ab_8 (by omega) | exact fits_n1 (k := k) (by omega) (by assumption) | exact ab_9 (k := B) (by omega) (by assumption) | exact fits_n3 (k := A) (by omega) ((m_9 (by assumption)).trans (by assumption)))), At.ext⟩))))))))
    skip
    rw [Ay] at U
    have Bp := U.as [(14, (Value.bool false)), (13, (bptr b10_ 0)), (12, (bptr C 0)), (11, (iv (A : Int))), (3, (bptr D 0)), (2, xz)] rfl; clear U
    refine g_0 mixed Bp AA 17 [[], [0], [1], [1], [1, 3], [1, 2, 4], [1, 5], [1], [1, 7], [1], [1, 9], [1, 8, 10], [1], [1, 12], [1], [1, 14], [1, 13, 15]] [(Yd.val (Value.bool false)), (Yd.val (Value.bool false)), (Yd.val undef), (Yd.val undef), (Yd.val undef), (Yd.val undef), (Yd.val undef), (Yd.val undef), (Yd.val undef), (Yd.val undef), (Yd.val undef), (Yd.val undef), (Yd.val undef), (Yd.val undef), (Yd.val undef), (Yd.val undef), (Yd.val undef)] (by decide +kernel) rfl rfl ?_ ?_
    ·skip
     refine dq (fun a w hA hS hd => a_1 rfl hA.e) ?_
     refine dq (fun a w hA hS hd => a_1 rfl (hq hd 0)) ?_
     refine dn 1 (dn 1 (dn 1 (dn 1 (dn 1 (dn 1 (dn 1 (dn 1 (dn 1 (dn 1 (dn 1 (dn 1 (dn 1 ?_))))))))))))
     refine dn 1 (dn 1 ?_)
     trivial
    intro DY Ek Bq CO d; clear Bp AA
    have Br := Bq.add (hz d 1); clear Bq
    have Bs := Br.add (hz d 6); clear Br
    have Bt := Bs.add (hz d 11); clear Bs
    have Bu := Bt.add (hz d 16); clear Bt
    clear d
    refine s3 Bu fun DZ Bv => ?_; clear Bu DY
    refine s3 Bv fun Da AW => ?_; clear Bv DZ
    refine s1 AW (c_7 rfl AW.e (evc _ _)) fun Db AX => ?_; clear AW Da
    refine n1 (b_4 AX rfl (c_6 (g_3 (a_7 ?_))))
    have AY := AX.as [(11, (iv (A : Int))), (3, (bptr D 0)), (2, xz)] rfl; clear AX
    refine a_5 (s1 AY (a_1 rfl AY.e) fun Dc AZ => ?_); clear AY Db
    refine s1 AZ (e_3 rfl AZ.e (evc _ _) (by omega) (by omega)) fun Dd Aa => ?_; clear AZ Dc
    refine s1 Aa (a_0 rfl Aa.e) fun EW Cz => ?_; clear Aa Dd
    refine e_6 ?_
    have C4 := CO.gkp (gpc 2 (gpc 3 (gpc 4 (gpc 5 (gpc 6 gpn))))); clear CO
    exact a_7 ⟨A + 1, ⟨Cz.as _ rfl, C4, by omega, (fun i hi => by rcases Nat.lt_succ_iff_lt_or_eq.1 hi with h | h; exact A5 i h; subst h; first | exact x_9 (by assumption) | exact ((m_9 (by assumption)).trans (by assumption)))⟩, by omega⟩
   skip
   intro CX Dw H rsf256 Bw F hrq Au; clear AQ Ar
   obtain ⟨Q, A2⟩ := F 10 (by decide) (by decide)
   obtain ⟨b10_, m, j⟩ := A2
   have CP : Sep NoB w Dw [(blk b10_ 27 [(iv 0), (iv 0)]), (blk C 46 [(iv ((b.tabs.getD A tab0).frm)), (iv ((b.tabs.getD A tab0).dst)), (lr A), (lb A), (iv ((b.tabs.getD A tab0).err))]), (blk D 25 [(iv b.scales), vt, vm]), (d_0 false vt lr lb b.tabs), (d_3 false vm lk b.macs), (sl xl 2 l.length (pairs l)), (sl xz 1 z.length (ints z))] := by rw [show catR rsf256 0 11 = ([(blk b10_ 27 [(iv 0), (iv 0)])] : List Res) by (try simp only [catR, gr (F 0 (by decide) (by decide)), gr (F 1 (by decide) (by decide)), gr (F 2 (by decide) (by decide)), gr (F 3 (by decide) (by decide)), gr (F 4 (by decide) (by decide)), gr (F 5 (by decide) (by decide)), gr (F 6 (by decide) (by decide)), gr (F 7 (by decide) (by decide)), gr (F 8 (by decide) (by decide)), j, hrq]); (try rfl)] at Au; exact Au
   have Bx := Bw.add (gs (F 7 (by decide) (by decide))); clear Bw
   have By := Bx.add (gs (F 8 (by decide) (by decide))); clear Bx
   rw [m] at Q
   have t : Fr 108 [] [(13, (bptr b10_ 0)), (86, (Value.agg #[(iv ((b_9 (b.tabs.getD A tab0) (z.getD (((b.tabs.getD A tab0).frm).toNat) 0)).1)), (iv ((b_9 (b.tabs.getD A tab0) (z.getD (((b.tabs.getD A tab0).frm).toNat) 0)).2))])), (78, (Value.tuple #[(Value.agg #[(iv ((b_9 (b.tabs.getD A tab0) (z.getD (((b.tabs.getD A tab0).frm).toNat) 0)).1)), (iv ((b_9 (b.tabs.getD A tab0) (z.getD (((b.tabs.getD A tab0).frm).toNat) 0)).2))]), (Value.bool ((i_8 (b.tabs.getD A tab0) (z.getD (((b.tabs.getD A tab0).frm).toNat) 0)).isSome))])), (12, (bptr C 0)), (11, (iv (A : Int))), (3, (bptr D 0)), (2, xz)] CX := By.add (f_6 Q rfl); clear By
   clear F Au Q hrq
   clear j
   clear m
   refine s7 t (b_7 CP rfl z_9 t.e t.e (i := 0) rfl (vs := [(iv ((b_9 (b.tabs.getD A tab0) (z.getD (((b.tabs.getD A tab0).frm).toNat) 0)).1)), (iv ((b_9 (b.tabs.getD A tab0) (z.getD (((b.tabs.getD A tab0).frm).toNat) 0)).2))]) rfl rfl rfl (Nat.le_of_ble_eq_true rfl)) ?_
   intro _ Dx CQ Ab; clear t
   have AB : Sep NoB w Dx [(blk b10_ 27 [(iv ((b_9 (b.tabs.getD A tab0) (z.getD (((b.tabs.getD A tab0).frm).toNat) 0)).1)), (iv ((b_9 (b.tabs.getD A tab0) (z.getD (((b.tabs.getD A tab0).frm).toNat) 0)).2))]), (blk C 46 [(iv ((b.tabs.getD A tab0).frm)), (iv ((b.tabs.getD A tab0).dst)), (lr A), (lb A), (iv ((b.tabs.getD A tab0).err))]), (blk D 25 [(iv b.scales), vt, vm]), (d_0 false vt lr lb b.tabs), (d_3 false vm lk b.macs), (sl xl 2 l.length (pairs l)), (sl xz 1 z.length (ints z))] := CQ; clear CQ CP
   refine s1 Ab (e_0 rfl Ab.e rfl) fun De Ac => ?_; clear Ab CX
   refine s1 Ac (a_0 rfl Ac.e) fun EX Bz => ?_; clear Ac De
   refine n2 ?_
   have V := Bz.as [(14, (Value.bool ((i_8 (b.tabs.getD A tab0) (z.getD (((b.tabs.getD A tab0).frm).toNat) 0)).isSome))), (13, (bptr b10_ 0)), (12, (bptr C 0)), (11, (iv (A : Int))), (3, (bptr D 0)), (2, xz)] rfl; clear Bz
   rcases Bool.eq_false_or_eq_true (((i_8 (b.tabs.getD A tab0) (z.getD (((b.tabs.getD A tab0).frm).toNat) 0)).isSome)) with A0 | A0
   ·skip
    rw [A0] at V
    have B0 := V.as [(14, (Value.bool true)), (13, (bptr b10_ 0)), (12, (bptr C 0)), (11, (iv (A : Int))), (3, (bptr D 0)), (2, xz)] rfl; clear V
    refine g_0 mixed B0 AB 17 [[], [0], [1], [1], [1, 3], [1, 2, 4], [1, 5], [1], [1, 7], [1], [1, 9], [1, 8, 10], [1], [1, 12], [1], [1, 14], [1, 13, 15]] [(Yd.val (Value.bool true)), (Yd.val (Value.bool true)), (Yd.val xz), (Yd.val (bptr C 1)), (Yd.val (iv ((b.tabs.getD A tab0).dst))), (Yd.val (eptr xz (((b.tabs.getD A tab0).dst).toNat * 1))), (Yd.val (iv (z.getD (((b.tabs.getD A tab0).dst).toNat) 0))), (Yd.val (bptr b10_ 0)), (Yd.val (iv ((b_9 (b.tabs.getD A tab0) (z.getD (((b.tabs.getD A tab0).frm).toNat) 0)).1))), (Yd.val (bptr C 4)), (Yd.val (iv ((b.tabs.getD A tab0).err))), (Yd.val (iv (((b_9 (b.tabs.getD A tab0) (z.getD (((b.tabs.getD A tab0).frm).toNat) 0)).1) - ((b.tabs.getD A tab0).err)))), (Yd.val (bptr b10_ 1)), (Yd.val (iv ((b_9 (b.tabs.getD A tab0) (z.getD (((b.tabs.getD A tab0).frm).toNat) 0)).2))), (Yd.val (bptr C 4)), (Yd.val (iv ((b.tabs.getD A tab0).err))), (Yd.val (iv (((b_9 (b.tabs.getD A tab0) (z.getD (((b.tabs.getD A tab0).frm).toNat) 0)).2) + ((b.tabs.getD A tab0).err))))] (by decide +kernel) rfl rfl ?_ ?_
    ·skip
     refine dq (fun a w hA hS hd => a_1 rfl hA.e) ?_
     refine dq (fun a w hA hS hd => a_1 rfl (hq hd 0)) ?_
     refine dy 1 (fun a w hA hS hd => a_1 rfl hA.e) ?_
     refine dy 1 (fun a w hA hS hd => a_4 rfl s_7 hA.e) ?_
     refine dy 1 (fun a w hA hS hd => a_2 rfl ty_3 (hq hd 3) (hS.bk 1 rfl) rfl) ?_
     refine dy 1 (fun a w hA hS hd => b_0 rfl j_1 ty_3 (hq hd 2) (i := ((b.tabs.getD A tab0).dst).toNat) ((hq hd 4).trans (g_4 (by omega))) (hS.sk 6 rfl) (by decide) (by omega)) ?_
     refine dy 1 (fun a w hA hS hd => c_1 rfl ty_3 (hq hd 5) (hS.sk 6 rfl) (ints_at (by omega))) ?_
     refine dy 1 (fun a w hA hS hd => a_4 rfl p_1 hA.e) ?_
     refine dy 1 (fun a w hA hS hd => a_2 rfl ty_3 (hq hd 7) (hS.bk 0 rfl) rfl) ?_
     refine dy 1 (fun a w hA hS hd => a_4 rfl x_2 hA.e) ?_
     refine dy 1 (fun a w hA hS hd => a_2 rfl ty_3 (hq hd 9) (hS.bk 1 rfl) rfl) ?_
     refine dy 1 (fun a w hA hS hd => h_2 rfl (hq hd 8) (hq hd 10) (by omega) (by omega)) ?_
     refine dy 1 (fun a w hA hS hd => a_4 rfl s_6 hA.e) ?_
     refine dy 1 (fun a w hA hS hd => a_2 rfl ty_3 (hq hd 12) (hS.bk 0 rfl) rfl) ?_
     refine dy 1 (fun a w hA hS hd => a_4 rfl x_2 hA.e) ?_
     refine dy 1 (fun a w hA hS hd => a_2 rfl ty_3 (hq hd 14) (hS.bk 1 rfl) rfl) ?_
     refine dy 1 (fun a w hA hS hd => e_3 rfl (hq hd 13) (hq hd 15) (by omega) (by omega)) ?_
     trivial
    intro Df El B1 Av f; clear B0 AB
    have B2 := B1.add (hz f 1); clear B1
    have B3 := B2.add (hz f 6); clear B2
    have B4 := B3.add (hz f 11); clear B3
    have Z := B4.add (hz f 16); clear B4
    clear f
    refine s6 Z (b_3 rfl ad_5 (ev3 Z.e Z.e Z.e) (ad_3 _ _ _ _)) ?_
    rintro Dg _ W_ ⟨rfl, hW_⟩ Ad; have hW2_ := hW_.symm; subst hW2_; clear hW_ Z Df
    refine s5 Ad (f_5 rfl Ad.e) fun Dh u => ?_; clear Ad Dg
    refine s1 u (b_6 rfl u.e u.e) fun CY N => ?_; clear u Dh
    refine n1 ?_
    rcases Bool.eq_false_or_eq_true ((inB (z.getD (((b.tabs.getD A tab0).dst).toNat) 0) (((b_9 (b.tabs.getD A tab0) (z.getD (((b.tabs.getD A tab0).frm).toNat) 0)).1) - ((b.tabs.getD A tab0).err)) (((b_9 (b.tabs.getD A tab0) (z.getD (((b.tabs.getD A tab0).frm).toNat) 0)).2) + ((b.tabs.getD A tab0).err)))) with A1 | A1
    ·skip
     rw [A1] at N
     refine b_4 N rfl (c_6 (g_3 (a_7 ?_)))
     have Ae := N.as [(11, (iv (A : Int))), (3, (bptr D 0)), (2, xz)] rfl; clear N
     refine a_5 (s1 Ae (a_1 rfl Ae.e) fun Di Af => ?_); clear Ae CY
     refine s1 Af (e_3 rfl Af.e (evc _ _) (by omega) (by omega)) fun Dj Ag => ?_; clear Af Di
     refine s1 Ag (a_0 rfl Ag.e) fun EY C0 => ?_; clear Ag Dj
     refine e_6 ?_
     have C5 := Av.gkp (gpc 2 (gpc 3 (gpc 4 (gpc 5 (gpc 6 gpn))))); clear Av
     exact a_7 ⟨A + 1, ⟨C0.as _ rfl, C5, by omega, (fun i hi => by rcases Nat.lt_succ_iff_lt_or_eq.1 hi with h | h; exact A5 i h; subst h; first | exact x_9 (by assumption) | exact ((m_9 (by assumption)).trans (by assumption)))⟩, by omega⟩
    skip
    rw [A1] at N
    refine c_0 N rfl (b_5 ?_)
    have B5 := N.as [] rfl; clear N
    refine a_5 (s1 B5 (a_0 rfl (evc _ _)) fun EZ B6 => ?_); clear B5 CY
    exact n1 (c_2 (c_8 (a_6 (a_6 (c_8 (a_6 (a_8 B6 (.inl rfl) (a_3 B6 rfl (.tmp rfl)) (⟨congrArg Value.bool (Eq.symm (by first | exact ab_8 (by omega) | exact fits_n1 (k := k) (by omega) (by assumption) | exact ab_9 (k := B) (by omega) (by assumption) | exact fits_n3 (k := A) (by omega) ((m_9 (by assumption)).trans (by assumption)))), Av.ext⟩))))))))
   skip
   rw [A0] at V
   have B7 := V.as [(14, (Value.bool false)), (13, (bptr b10_ 0)), (12, (bptr C 0)), (11, (iv (A : Int))), (3, (bptr D 0)), (2, xz)] rfl; clear V
   refine g_0 mixed B7 AB 17 [[], [0], [1], [1], [1, 3], [1, 2, 4], [1, 5], [1], [1, 7], [1], [1, 9], [1, 8, 10], [1], [1, 12], [1], [1, 14], [1, 13, 15]] [(Yd.val (Value.bool false)), (Yd.val (Value.bool false)), (Yd.val undef), (Yd.val undef), (Yd.val undef), (Yd.val undef), (Yd.val undef), (Yd.val undef), (Yd.val undef), (Yd.val undef), (Yd.val undef), (Yd.val undef), (Yd.val undef), (Yd.val undef), (Yd.val undef), (Yd.val undef), (Yd.val undef)] (by decide +kernel) rfl rfl ?_ ?_
   ·skip
    refine dq (fun a w hA hS hd => a_1 rfl hA.e) ?_
    refine dq (fun a w hA hS hd => a_1 rfl (hq hd 0)) ?_
    refine dn 1 (dn 1 (dn 1 (dn 1 (dn 1 (dn 1 (dn 1 (dn 1 (dn 1 (dn 1 (dn 1 (dn 1 (dn 1 ?_))))))))))))
    refine dn 1 (dn 1 ?_)
    trivial
   intro Dk Em B8 CR g; clear B7 AB
   have B9 := B8.add (hz g 1); clear B8
   have CA := B9.add (hz g 6); clear B9
   have CB := CA.add (hz g 11); clear CA
   have CC := CB.add (hz g 16); clear CB
   clear g
   refine s3 CC fun Dl CD => ?_; clear CC Dk
   refine s3 CD fun Dm Ah => ?_; clear CD Dl
   refine s1 Ah (c_7 rfl Ah.e (evc _ _)) fun Dn Ai => ?_; clear Ah Dm
   refine n1 (b_4 Ai rfl (c_6 (g_3 (a_7 ?_))))
   have Aj := Ai.as [(11, (iv (A : Int))), (3, (bptr D 0)), (2, xz)] rfl; clear Ai
   refine a_5 (s1 Aj (a_1 rfl Aj.e) fun Do Al => ?_); clear Aj Dn
   refine s1 Al (e_3 rfl Al.e (evc _ _) (by omega) (by omega)) fun Dp Am => ?_; clear Al Do
   refine s1 Am (a_0 rfl Am.e) fun Ea C1 => ?_; clear Am Dp
   refine e_6 ?_
   have C6 := CR.gkp (gpc 2 (gpc 3 (gpc 4 (gpc 5 (gpc 6 gpn))))); clear CR
   exact a_7 ⟨A + 1, ⟨C1.as _ rfl, C6, by omega, (fun i hi => by rcases Nat.lt_succ_iff_lt_or_eq.1 hi with h | h; exact A5 i h; subst h; first | exact x_9 (by assumption) | exact ((m_9 (by assumption)).trans (by assumption)))⟩, by omega⟩
  skip
  rw [decide_eq_false CS] at J
  refine b_4 J rfl (g_6 (b_2 (b_2 (f_2 (a_7 (b_5 ?_))))))
  have CE := J.as [] rfl; clear J
  refine a_5 (s1 CE (a_0 rfl (evc _ _)) fun Eb CF => ?_); clear CE CU
  exact n1 (c_2 (a_8 CF (.inl rfl) (a_3 CF rfl (.tmp rfl)) (⟨congrArg Value.bool (Eq.symm (fits_y (by omega) (fun i hi => Cu i (by omega)) (fun i hi => DD i (by omega)) (fun i hi => A5 i (by omega)))), O.ext⟩)))
 skip
 rw [decide_eq_false Cr] at R
 refine c_0 R rfl (b_5 ?_)
 have CG := R.as [] rfl; clear R
 refine a_5 (s1 CG (a_0 rfl (evc _ _)) fun Ec CH => ?_); clear CG C7
 exact n1 (c_2 (a_6 (a_8 CH (.inl rfl) (a_3 CH rfl (.tmp rfl)) (⟨congrArg Value.bool (Eq.symm (by first | exact ab_8 (by omega) | exact fits_n1 (k := k) (by omega) (by assumption) | exact ab_9 (k := B) (by omega) (by assumption) | exact fits_n3 (k := A) (by omega) ((m_9 (by assumption)).trans (by assumption)))), A4.ext⟩))))
theorem fitclo_ok (t : TabD) (vr vb : Value) (w : World) (hr : SlAt w vr 2 t.rows.length (pairs t.rows)) (hb : SlAt w vb 1 t.brk.length (ints t.brk)) (hrl : t.rows.length ≤ 1000000) (hbl : t.brk.length ≤ 1000000) (n : Int) (hV : TabV n t) (bz : Nat) (z : List Int) (xz : Value) (gz : (blk bz 44 [xz]).p w) (hxz : SlAt w xz 1 z.length (ints z)) (hzn : (z.length : Int) = n) :
  Calls Try.prog 71 #[(Value.agg #[(iv t.frm), (iv t.dst), vr, vb, (iv t.err)]), (bptr bz 0)] w (Ret fun v w' => v = .bool (q_5 z t) ∧ Ext NoB w w') := by
 refine a_9 Try.func71 rfl fun a0 Z => ?_
 replace Z : Fr 36 [] [(0, (Value.agg #[(iv t.frm), (iv t.dst), vr, vb, (iv t.err)])), (1, (bptr bz 0))] a0 := Z
 have hfd := hV.frm; have hdd := hV.dst; have hed := hV.err; have hmd := madeV_bd hV (z.getD t.frm.toNat 0)
 have An : Sep NoB w w [(rob bz 44 [xz]), (sl vr 2 t.rows.length (pairs t.rows)), (sl vb 1 t.brk.length (ints t.brk)), (sl xz 1 z.length (ints z))] := f_1 ⟨rfl, gz, rfl, hr, rfl, hb, rfl, hxz, trivial⟩
 refine m2 (s2 Z (f_4 An rfl Z.e (cs := [(iv t.frm), (iv t.dst), vr, vb, (iv t.err)]) rfl) ?_)
 rintro a1 _ w3 ⟨C, rfl, Af⟩ Al; clear Z An a0
 refine s1 Al (a_0 rfl (evc _ _)) fun a6 Am => ?_; clear Al a1
 refine n2 ?_
 have AW := Am.as [(2, (bptr C 0)), (1, (bptr bz 0))] rfl; clear Am
 refine c_drawF mixed AW Af 11 9 rfl rfl [[], [], [], [2], [1, 3], [4], [0, 5], [6], [7], [7], []] [(yw (Value.agg #[(iv t.frm), (iv t.dst), vr, vb, (iv t.err)])), (yw xz), (yw (bptr C 0)), (yw (iv t.frm)), (yw (eptr xz (t.frm.toNat * 1))), (yw (iv (z.getD t.frm.toNat 0))), (yw (Value.tuple #[(Value.agg #[(iv ((b_9 t (z.getD t.frm.toNat 0)).1)), (iv ((b_9 t (z.getD t.frm.toNat 0)).2))]), (Value.bool ((i_8 t (z.getD t.frm.toNat 0)).isSome))])), (yw (Value.tuple #[(Value.agg #[(iv ((b_9 t (z.getD t.frm.toNat 0)).1)), (iv ((b_9 t (z.getD t.frm.toNat 0)).2))]), (Value.bool ((i_8 t (z.getD t.frm.toNat 0)).isSome))])), (yw (Value.agg #[(iv ((b_9 t (z.getD t.frm.toNat 0)).1)), (iv ((b_9 t (z.getD t.frm.toNat 0)).2))])), (yw (Value.bool ((i_8 t (z.getD t.frm.toNat 0)).isSome))), (fun (D : Nat → Value) (v_ : Value) (rs_ : List Res) => ∃ (b10_ : Nat), v_ = (bptr b10_ 0) ∧ rs_ = [(blk b10_ 30 [(iv 0), (iv 0)])])] (by decide +kernel) (by decide +kernel) (by decide +kernel) rfl rfl ⟨dw, dw, dw, dw, dw, dw, dw, dw, dw, dw, (fun _ _ _ _ _ h_ => h_), trivial⟩ ?_ ?_ ?_
 ·skip
  refine ⟨fun a w D hA hS hd => gv1 (c_9 rfl k_9 (hA.ev rfl) (hS.bk 0 rfl) (l := [(iv t.frm), (iv t.dst), vr, vb, (iv t.err)]) rfl rfl), ?_⟩
  refine ⟨fun a w D hA hS hd => gv1 (a_2 rfl w_2 hA.e (hS.rk 1 rfl) rfl), ?_⟩
  refine ⟨fun a w D hA hS hd => gv1 (a_4 rfl fd_106_0 hA.e), ?_⟩
  refine ⟨fun a w D hA hS hd => gv1 (a_2 rfl ty_3 (gu hd 2) (hS.bk 0 rfl) rfl), ?_⟩
  refine ⟨fun a w D hA hS hd => gv1 (b_0 rfl j_1 ty_3 (gu hd 1) (i := t.frm.toNat) ((gu hd 3).trans (g_4 (by omega))) (hS.sk 4 rfl) (by decide) (by omega)), ?_⟩
  refine ⟨fun a w D hA hS hd => gv1 (c_1 rfl ty_3 (gu hd 4) (hS.sk 4 rfl) (ints_at (by omega))), ?_⟩
  refine ⟨fun a w D hA hS hd => gx1 (b_3 rfl en_72 (ev2 (gu hd 0) (gu hd 5)) (around_ok t _ _ _ (hS.sk 2 rfl) (hS.sk 3 rfl) (by omega) (by omega) _ hV (z.getD t.frm.toNat 0))), ?_⟩
  refine ⟨fun a w D hA hS hd => gv1 (a_1 rfl (gu hd 6)), ?_⟩
  refine ⟨fun a w D hA hS hd => gv1 (e_0 rfl (gu hd 7) rfl), ?_⟩
  refine ⟨fun a w D hA hS hd => gv1 (e_0 rfl (gu hd 7) rfl), ?_⟩
  refine ⟨fun a w D hA hS hd => d_5 rfl (valloc rfl ab_1 (cs := [(iv 0), (iv 0)]) rfl (fun b_ => ⟨b_, rfl, rfl⟩)), ?_⟩
  trivial
 ·skip
  intro Aj A5 D rsf15 AC A j; clear AW Af
  obtain ⟨E, Y⟩ := A 10 (by decide)
  obtain ⟨b10_, H, G⟩ := Y
  have Ad : Sep NoB w A5 [(blk b10_ 30 [(iv 0), (iv 0)]), (blk C 106 [(iv t.frm), (iv t.dst), vr, vb, (iv t.err)]), (rob bz 44 [xz]), (sl vr 2 t.rows.length (pairs t.rows)), (sl vb 1 t.brk.length (ints t.brk)), (sl xz 1 z.length (ints z))] := by rw [show catR rsf15 0 11 = ([(blk b10_ 30 [(iv 0), (iv 0)])] : List Res) by (try simp only [catR, gr (A 0 (by decide)), gr (A 1 (by decide)), gr (A 2 (by decide)), gr (A 3 (by decide)), gr (A 4 (by decide)), gr (A 5 (by decide)), gr (A 6 (by decide)), gr (A 7 (by decide)), gr (A 8 (by decide)), gr (A 9 (by decide)), G]); (try rfl)] at j; exact j
  have AD := AC.add (gs (A 8 (by decide))); clear AC
  have AE := AD.add (gs (A 9 (by decide))); clear AD
  rw [H] at E
  have S : Fr 36 [] [(4, (bptr b10_ 0)), (15, (Value.bool ((i_8 t (z.getD t.frm.toNat 0)).isSome))), (14, (Value.agg #[(iv ((b_9 t (z.getD t.frm.toNat 0)).1)), (iv ((b_9 t (z.getD t.frm.toNat 0)).2))])), (2, (bptr C 0)), (1, (bptr bz 0))] Aj := AE.add (f_6 E rfl); clear AE
  clear A j E
  clear G
  clear H
  refine s7 S (b_7 Ad rfl h_1 S.e S.e (i := 0) rfl (vs := [(iv ((b_9 t (z.getD t.frm.toNat 0)).1)), (iv ((b_9 t (z.getD t.frm.toNat 0)).2))]) rfl rfl rfl (Nat.le_of_ble_eq_true rfl)) ?_
  intro _ A6 Ae b; clear S
  have W : Sep NoB w A6 [(blk b10_ 30 [(iv ((b_9 t (z.getD t.frm.toNat 0)).1)), (iv ((b_9 t (z.getD t.frm.toNat 0)).2))]), (blk C 106 [(iv t.frm), (iv t.dst), vr, vb, (iv t.err)]), (rob bz 44 [xz]), (sl vr 2 t.rows.length (pairs t.rows)), (sl vb 1 t.brk.length (ints t.brk)), (sl xz 1 z.length (ints z))] := Ae; clear Ae Ad
  refine s1 b (a_0 rfl b.e) fun BD AF => ?_; clear b Aj
  refine n2 ?_
  have I := AF.as [(5, (Value.bool ((i_8 t (z.getD t.frm.toNat 0)).isSome))), (4, (bptr b10_ 0)), (2, (bptr C 0)), (1, (bptr bz 0))] rfl; clear AF
  rcases Bool.eq_false_or_eq_true (((i_8 t (z.getD t.frm.toNat 0)).isSome)) with m | m
  ·skip
   rw [m] at I
   have AG := I.as [(5, (Value.bool true)), (4, (bptr b10_ 0)), (2, (bptr C 0)), (1, (bptr bz 0))] rfl; clear I
   refine g_0 mixed AG W 18 [[], [0], [1], [2], [2], [2, 4], [2, 3, 5], [2, 6], [2], [2, 8], [2], [2, 10], [2, 9, 11], [2], [2, 13], [2], [2, 15], [2, 14, 16]] [(Yd.val (Value.bool true)), (Yd.val (Value.bool (!true))), (Yd.val (Value.bool (!true))), (Yd.val xz), (Yd.val (bptr C 1)), (Yd.val (iv t.dst)), (Yd.val (eptr xz (t.dst.toNat * 1))), (Yd.val (iv (z.getD t.dst.toNat 0))), (Yd.val (bptr b10_ 0)), (Yd.val (iv ((b_9 t (z.getD t.frm.toNat 0)).1))), (Yd.val (bptr C 4)), (Yd.val (iv t.err)), (Yd.val (iv (((b_9 t (z.getD t.frm.toNat 0)).1) - t.err))), (Yd.val (bptr b10_ 1)), (Yd.val (iv ((b_9 t (z.getD t.frm.toNat 0)).2))), (Yd.val (bptr C 4)), (Yd.val (iv t.err)), (Yd.val (iv (((b_9 t (z.getD t.frm.toNat 0)).2) + t.err)))] (by decide +kernel) rfl rfl ?_ ?_
   ·skip
    refine dq (fun a w hA hS hd => a_1 rfl hA.e) ?_
    refine dq (fun a w hA hS hd => f_5 rfl (hq hd 0)) ?_
    refine dq (fun a w hA hS hd => a_1 rfl (hq hd 1)) ?_
    refine dy 2 (fun a w hA hS hd => a_2 rfl w_2 hA.e (hS.rk 2 rfl) rfl) ?_
    refine dy 2 (fun a w hA hS hd => a_4 rfl fd_106_1 hA.e) ?_
    refine dy 2 (fun a w hA hS hd => a_2 rfl ty_3 (hq hd 4) (hS.bk 1 rfl) rfl) ?_
    refine dy 2 (fun a w hA hS hd => b_0 rfl j_1 ty_3 (hq hd 3) (i := t.dst.toNat) ((hq hd 5).trans (g_4 (by omega))) (hS.sk 5 rfl) (by decide) (by omega)) ?_
    refine dy 2 (fun a w hA hS hd => c_1 rfl ty_3 (hq hd 6) (hS.sk 5 rfl) (ints_at (by omega))) ?_
    refine dy 2 (fun a w hA hS hd => a_4 rfl m_7 hA.e) ?_
    refine dy 2 (fun a w hA hS hd => a_2 rfl ty_3 (hq hd 8) (hS.bk 0 rfl) rfl) ?_
    refine dy 2 (fun a w hA hS hd => a_4 rfl z_1 hA.e) ?_
    refine dy 2 (fun a w hA hS hd => a_2 rfl ty_3 (hq hd 10) (hS.bk 1 rfl) rfl) ?_
    refine dy 2 (fun a w hA hS hd => h_2 rfl (hq hd 9) (hq hd 11) (by omega) (by omega)) ?_
    refine dy 2 (fun a w hA hS hd => a_4 rfl m_8 hA.e) ?_
    refine dy 2 (fun a w hA hS hd => a_2 rfl ty_3 (hq hd 13) (hS.bk 0 rfl) rfl) ?_
    refine dy 2 (fun a w hA hS hd => a_4 rfl z_1 hA.e) ?_
    refine dy 2 (fun a w hA hS hd => a_2 rfl ty_3 (hq hd 15) (hS.bk 1 rfl) rfl) ?_
    refine dy 2 (fun a w hA hS hd => e_3 rfl (hq hd 14) (hq hd 16) (by omega) (by omega)) ?_
    trivial
   intro Av BH AH Ar M; clear AG W
   have AI := AH.add (hz M 2); clear AH
   have AJ := AI.add (hz M 7); clear AI
   have AK := AJ.add (hz M 12); clear AJ
   have K := AK.add (hz M 17); clear AK
   clear M
   refine s6 K (b_3 rfl ad_9 (ev3 K.e K.e K.e) (l_6 _ _ _ _)) ?_
   rintro Aw _ W_ ⟨rfl, hW_⟩ T; have hW2_ := hW_.symm; subst hW2_; clear hW_ K Av
   refine s1 T (c_7 rfl T.e T.e) fun Ax c => ?_; clear T Aw
   refine s1 c (a_0 rfl c.e) fun BE AL => ?_; clear c Ax
   exact n1 (c_2 (a_8 AL (.inl rfl) (a_3 AL rfl (.tmp rfl)) (⟨congrArg Value.bool (Eq.symm (m_9 (by assumption))), Ar.ext⟩)))
  skip
  rw [m] at I
  have AM := I.as [(5, (Value.bool false)), (4, (bptr b10_ 0)), (2, (bptr C 0)), (1, (bptr bz 0))] rfl; clear I
  refine g_0 mixed AM W 18 [[], [0], [1], [2], [2], [2, 4], [2, 3, 5], [2, 6], [2], [2, 8], [2], [2, 10], [2, 9, 11], [2], [2, 13], [2], [2, 15], [2, 14, 16]] [(Yd.val (Value.bool false)), (Yd.val (Value.bool (!false))), (Yd.val (Value.bool (!false))), (Yd.val undef), (Yd.val undef), (Yd.val undef), (Yd.val undef), (Yd.val undef), (Yd.val undef), (Yd.val undef), (Yd.val undef), (Yd.val undef), (Yd.val undef), (Yd.val undef), (Yd.val undef), (Yd.val undef), (Yd.val undef), (Yd.val undef)] (by decide +kernel) rfl rfl ?_ ?_
  ·skip
   refine dq (fun a w hA hS hd => a_1 rfl hA.e) ?_
   refine dq (fun a w hA hS hd => f_5 rfl (hq hd 0)) ?_
   refine dq (fun a w hA hS hd => a_1 rfl (hq hd 1)) ?_
   refine dn 2 (dn 2 (dn 2 (dn 2 (dn 2 (dn 2 (dn 2 (dn 2 (dn 2 (dn 2 (dn 2 (dn 2 (dn 2 ?_))))))))))))
   refine dn 2 (dn 2 ?_)
   trivial
  intro Ay BI AN As N; clear AM W
  have AO := AN.add (hz N 2); clear AN
  have AP := AO.add (hz N 7); clear AO
  have AQ := AP.add (hz N 12); clear AP
  have AR := AQ.add (hz N 17); clear AQ
  clear N
  refine s3 AR fun Az d => ?_; clear AR Ay
  refine s1 d (b_6 rfl d.e (evc _ _)) fun A0 f => ?_; clear d Az
  refine s1 f (a_0 rfl f.e) fun BF AS => ?_; clear f A0
  exact n1 (c_2 (a_8 AS (.inl rfl) (a_3 AS rfl (.tmp rfl)) (⟨congrArg Value.bool (Eq.symm (x_9 (by assumption))), As.ext⟩)))
 skip
 intro Ak A7 D rsf69 AT B hrq k; clear AW Af
 obtain ⟨E, Y⟩ := B 10 (by decide) (by decide)
 obtain ⟨b10_, H, G⟩ := Y
 have Ag : Sep NoB w A7 [(blk b10_ 30 [(iv 0), (iv 0)]), (blk C 106 [(iv t.frm), (iv t.dst), vr, vb, (iv t.err)]), (rob bz 44 [xz]), (sl vr 2 t.rows.length (pairs t.rows)), (sl vb 1 t.brk.length (ints t.brk)), (sl xz 1 z.length (ints z))] := by rw [show catR rsf69 0 11 = ([(blk b10_ 30 [(iv 0), (iv 0)])] : List Res) by (try simp only [catR, gr (B 0 (by decide) (by decide)), gr (B 1 (by decide) (by decide)), gr (B 2 (by decide) (by decide)), gr (B 3 (by decide) (by decide)), gr (B 4 (by decide) (by decide)), gr (B 5 (by decide) (by decide)), gr (B 6 (by decide) (by decide)), gr (B 7 (by decide) (by decide)), gr (B 8 (by decide) (by decide)), G, hrq]); (try rfl)] at k; exact k
 have AU := AT.add (gs (B 7 (by decide) (by decide))); clear AT
 have AV := AU.add (gs (B 8 (by decide) (by decide))); clear AU
 rw [H] at E
 have U : Fr 36 [] [(4, (bptr b10_ 0)), (14, (Value.agg #[(iv ((b_9 t (z.getD t.frm.toNat 0)).1)), (iv ((b_9 t (z.getD t.frm.toNat 0)).2))])), (6, (Value.tuple #[(Value.agg #[(iv ((b_9 t (z.getD t.frm.toNat 0)).1)), (iv ((b_9 t (z.getD t.frm.toNat 0)).2))]), (Value.bool ((i_8 t (z.getD t.frm.toNat 0)).isSome))])), (2, (bptr C 0)), (1, (bptr bz 0))] Ak := AV.add (f_6 E rfl); clear AV
 clear B k E hrq
 clear G
 clear H
 refine s7 U (b_7 Ag rfl h_1 U.e U.e (i := 0) rfl (vs := [(iv ((b_9 t (z.getD t.frm.toNat 0)).1)), (iv ((b_9 t (z.getD t.frm.toNat 0)).2))]) rfl rfl rfl (Nat.le_of_ble_eq_true rfl)) ?_
 intro _ A8 Ah g; clear U
 have X : Sep NoB w A8 [(blk b10_ 30 [(iv ((b_9 t (z.getD t.frm.toNat 0)).1)), (iv ((b_9 t (z.getD t.frm.toNat 0)).2))]), (blk C 106 [(iv t.frm), (iv t.dst), vr, vb, (iv t.err)]), (rob bz 44 [xz]), (sl vr 2 t.rows.length (pairs t.rows)), (sl vb 1 t.brk.length (ints t.brk)), (sl xz 1 z.length (ints z))] := Ah; clear Ah Ag
 refine s1 g (e_0 rfl g.e rfl) fun A1 h => ?_; clear g Ak
 refine s1 h (a_0 rfl h.e) fun BG AX => ?_; clear h A1
 refine n2 ?_
 have J := AX.as [(5, (Value.bool ((i_8 t (z.getD t.frm.toNat 0)).isSome))), (4, (bptr b10_ 0)), (2, (bptr C 0)), (1, (bptr bz 0))] rfl; clear AX
 rcases Bool.eq_false_or_eq_true (((i_8 t (z.getD t.frm.toNat 0)).isSome)) with o | o
 ·skip
  rw [o] at J
  have AY := J.as [(5, (Value.bool true)), (4, (bptr b10_ 0)), (2, (bptr C 0)), (1, (bptr bz 0))] rfl; clear J
  refine g_0 mixed AY X 18 [[], [0], [1], [2], [2], [2, 4], [2, 3, 5], [2, 6], [2], [2, 8], [2], [2, 10], [2, 9, 11], [2], [2, 13], [2], [2, 15], [2, 14, 16]] [(Yd.val (Value.bool true)), (Yd.val (Value.bool (!true))), (Yd.val (Value.bool (!true))), (Yd.val xz), (Yd.val (bptr C 1)), (Yd.val (iv t.dst)), (Yd.val (eptr xz (t.dst.toNat * 1))), (Yd.val (iv (z.getD t.dst.toNat 0))), (Yd.val (bptr b10_ 0)), (Yd.val (iv ((b_9 t (z.getD t.frm.toNat 0)).1))), (Yd.val (bptr C 4)), (Yd.val (iv t.err)), (Yd.val (iv (((b_9 t (z.getD t.frm.toNat 0)).1) - t.err))), (Yd.val (bptr b10_ 1)), (Yd.val (iv ((b_9 t (z.getD t.frm.toNat 0)).2))), (Yd.val (bptr C 4)), (Yd.val (iv t.err)), (Yd.val (iv (((b_9 t (z.getD t.frm.toNat 0)).2) + t.err)))] (by decide +kernel) rfl rfl ?_ ?_
  ·skip
   refine dq (fun a w hA hS hd => a_1 rfl hA.e) ?_
   refine dq (fun a w hA hS hd => f_5 rfl (hq hd 0)) ?_
   refine dq (fun a w hA hS hd => a_1 rfl (hq hd 1)) ?_
   refine dy 2 (fun a w hA hS hd => a_2 rfl w_2 hA.e (hS.rk 2 rfl) rfl) ?_
   refine dy 2 (fun a w hA hS hd => a_4 rfl fd_106_1 hA.e) ?_
   refine dy 2 (fun a w hA hS hd => a_2 rfl ty_3 (hq hd 4) (hS.bk 1 rfl) rfl) ?_
   refine dy 2 (fun a w hA hS hd => b_0 rfl j_1 ty_3 (hq hd 3) (i := t.dst.toNat) ((hq hd 5).trans (g_4 (by omega))) (hS.sk 5 rfl) (by decide) (by omega)) ?_
   refine dy 2 (fun a w hA hS hd => c_1 rfl ty_3 (hq hd 6) (hS.sk 5 rfl) (ints_at (by omega))) ?_
   refine dy 2 (fun a w hA hS hd => a_4 rfl m_7 hA.e) ?_
   refine dy 2 (fun a w hA hS hd => a_2 rfl ty_3 (hq hd 8) (hS.bk 0 rfl) rfl) ?_
   refine dy 2 (fun a w hA hS hd => a_4 rfl z_1 hA.e) ?_
   refine dy 2 (fun a w hA hS hd => a_2 rfl ty_3 (hq hd 10) (hS.bk 1 rfl) rfl) ?_
   refine dy 2 (fun a w hA hS hd => h_2 rfl (hq hd 9) (hq hd 11) (by omega) (by omega)) ?_
   refine dy 2 (fun a w hA hS hd => a_4 rfl m_8 hA.e) ?_
   refine dy 2 (fun a w hA hS hd => a_2 rfl ty_3 (hq hd 13) (hS.bk 0 rfl) rfl) ?_
   refine dy 2 (fun a w hA hS hd => a_4 rfl z_1 hA.e) ?_
   refine dy 2 (fun a w hA hS hd => a_2 rfl ty_3 (hq hd 15) (hS.bk 1 rfl) rfl) ?_
   refine dy 2 (fun a w hA hS hd => e_3 rfl (hq hd 14) (hq hd 16) (by omega) (by omega)) ?_
   trivial
  intro A2 BJ AZ At O; clear AY X
  have Aa := AZ.add (hz O 2); clear AZ
  have Ab := Aa.add (hz O 7); clear Aa
  have Ac := Ab.add (hz O 12); clear Ab
  have L := Ac.add (hz O 17); clear Ac
  clear O
  refine s6 L (b_3 rfl ad_9 (ev3 L.e L.e L.e) (l_6 _ _ _ _)) ?_
  rintro A3 _ W_ ⟨rfl, hW_⟩ V; have hW2_ := hW_.symm; subst hW2_; clear hW_ L A2
  refine s1 V (c_7 rfl V.e V.e) fun A4 P => ?_; clear V A3
  refine s1 P (a_0 rfl P.e) fun BA q => ?_; clear P A4
  exact n1 (c_2 (a_8 q (.inl rfl) (a_3 q rfl (.tmp rfl)) (⟨congrArg Value.bool (Eq.symm (m_9 (by assumption))), At.ext⟩)))
 skip
 rw [o] at J
 have r := J.as [(5, (Value.bool false)), (4, (bptr b10_ 0)), (2, (bptr C 0)), (1, (bptr bz 0))] rfl; clear J
 refine g_0 mixed r X 18 [[], [0], [1], [2], [2], [2, 4], [2, 3, 5], [2, 6], [2], [2, 8], [2], [2, 10], [2, 9, 11], [2], [2, 13], [2], [2, 15], [2, 14, 16]] [(Yd.val (Value.bool false)), (Yd.val (Value.bool (!false))), (Yd.val (Value.bool (!false))), (Yd.val undef), (Yd.val undef), (Yd.val undef), (Yd.val undef), (Yd.val undef), (Yd.val undef), (Yd.val undef), (Yd.val undef), (Yd.val undef), (Yd.val undef), (Yd.val undef), (Yd.val undef), (Yd.val undef), (Yd.val undef), (Yd.val undef)] (by decide +kernel) rfl rfl ?_ ?_
 ·skip
  refine dq (fun a w hA hS hd => a_1 rfl hA.e) ?_
  refine dq (fun a w hA hS hd => f_5 rfl (hq hd 0)) ?_
  refine dq (fun a w hA hS hd => a_1 rfl (hq hd 1)) ?_
  refine dn 2 (dn 2 (dn 2 (dn 2 (dn 2 (dn 2 (dn 2 (dn 2 (dn 2 (dn 2 (dn 2 (dn 2 (dn 2 ?_))))))))))))
  refine dn 2 (dn 2 ?_)
  trivial
 intro Ao BC s Ai F; clear r X
 have u := s.add (hz F 2); clear s
 have x := u.add (hz F 7); clear u
 have y := x.add (hz F 12); clear x
 have AA := y.add (hz F 17); clear y
 clear F
 refine s3 AA fun Ap Q => ?_; clear AA Ao
 refine s1 Q (b_6 rfl Q.e (evc _ _)) fun Aq R => ?_; clear Q Ap
 refine s1 R (a_0 rfl R.e) fun BB AB => ?_; clear R Aq
 exact n1 (c_2 (a_8 AB (.inl rfl) (a_3 AB rfl (.tmp rfl)) (⟨congrArg Value.bool (Eq.symm (x_9 (by assumption))), Ai.ext⟩)))
set_option maxHeartbeats 4000000 in
theorem Prove_ok (b : h_4) (vt vm : Value) (lr lb lk : Nat → Value) (w : World) (hT : j_8 w vt lr lb b.tabs) (hM : k_6 w vm lk b.macs) (hth : o_6 b) (l : List (Int × Int)) (xl : Value) (hxl : SlAt w xl 2 l.length (pairs l)) (hlb : l.length ≤ 1000000) (z : List Int) (xz : Value) (hxz : SlAt w xz 1 z.length (ints z)) (CQ : z.length ≤ 1000000) (hr : aa_9 b l = 0) :
  Calls Try.prog 39 #[(Value.agg #[(iv b.scales), vt, vm]), xl, xz] w (Ret fun v w' => v = .bool (t_6 b l z) ∧ Ext NoB w w') := by
 refine a_9 Try.func39 rfl fun a0 AF => ?_
 replace AF : Fr 66 [] [(0, (Value.agg #[(iv b.scales), vt, vm])), (1, xl), (2, xz)] a0 := AF
 have hc : g_7 b = 0 := read_check hr; have hbl := read_ok hr; have hb := hbl.1; have hl := hbl.2; have hll := hl.len; have hsc := hb.scales; have hml9 := hth.ml
 have BK : Sep NoB w w [(d_0 false vt lr lb b.tabs), (d_3 false vm lk b.macs), (sl xl 2 l.length (pairs l)), (sl xz 1 z.length (ints z))] := f_1 ⟨rfl, hT, rfl, hM, rfl, hxl, rfl, hxz, trivial⟩
 refine m2 (s2 AF (f_4 BK rfl AF.e (cs := [(iv b.scales), vt, vm]) rfl) ?_)
 rintro a1 _ w3 ⟨S, rfl, A7⟩ A0; clear AF BK a0
 refine s2 A0 (f_4 A7 rfl A0.e (cs := [xz]) (q_9 (SlAt.isSl (A7.sk 4 rfl)))) ?_
 rintro a6 _ w8 ⟨K, rfl, I⟩ BJ; clear A0 A7 a1
 refine s1 BJ (a_0 rfl (evc _ _)) fun Bi AG => ?_; clear BJ a6
 refine n2 (m2 (s1 AG (c_9 rfl aa_0 (AG.ev rfl) (I.bk 1 rfl) (l := [(iv b.scales), vt, vm]) rfl rfl) fun Bj AH => ?_)); clear AG Bi
 refine s1 AH (a_1 rfl AH.e) fun Bk m => ?_; clear AH Bj
 refine s2 m (b_3 rfl en_56 (ev2 m.e m.e) (read_yes b vt vm lr lb lk _ (b_8 (I.ok 2 _ rfl)) (c_5 (I.ok 3 _ rfl)) hth l _ (I.sk 4 rfl) (by omega) hc hr)) ?_
 rintro Bl _ CR ⟨bx22, bm23, es24, ck25, rfl, hMO26, BA⟩ AI; have E := I.w_4 BA rfl; clear BA m I Bk
 refine s1 AI (a_1 rfl AI.e) fun Bm AJ => ?_; clear AI Bl
 refine s1 AJ (e_0 rfl AJ.e rfl) fun Bn AK => ?_; clear AJ Bm
 refine s1 AK (e_0 rfl AK.e rfl) fun Bo AL => ?_; clear AK Bn
 refine s1 AL (a_0 rfl AL.e) fun Bp AM => ?_; clear AL Bo
 refine s1 AM (a_0 rfl AM.e) fun Bq A1 => ?_; clear AM Bp
 refine n2 ?_
 have AN := A1.as [(8, (iv 0)), (5, (bptr K 0)), (3, (bptr S 0)), (1, xl)] rfl; clear A1
 refine a_5 (s1 AN (a_1 rfl AN.e) fun Br AO => ?_); clear AN Bq
 refine s1 AO (v_7 rfl AO.e (evc _ _)) fun Bs AP => ?_; clear AO Br
 refine s1 AP (a_1 rfl AP.e) fun Bt AQ => ?_; clear AP Bs
 refine s5 AQ (a_2 rfl w_2 AQ.e (E.bk 2 rfl) rfl) fun Bu AR => ?_; clear AQ Bt
 refine s5 AR (d_1 rfl j_1 AR.e (E.sk 7 rfl)) fun Bv AS => ?_; clear AR Bu
 refine s5 AS (a_4 rfl ab_7 AS.e) fun Bw AT => ?_; clear AS Bv
 refine s5 AT (a_2 rfl ty_3 AT.e (E.bk 3 rfl) rfl) fun Bx s => ?_; clear AT Bw
 refine s5 s (v_7 rfl s.e s.e) fun By t => ?_; clear s Bx
 refine s1 t (c_7 rfl t.e t.e) fun Bz AU => ?_; clear t By
 refine s1 AU (a_1 rfl AU.e) fun BG F => ?_; clear AU Bz
 by_cases BB : (z.length : Int) = b.scales
 ·skip
  rw [decide_eq_true BB] at F
  refine s5 F (a_2 rfl w_2 F.e (E.bk 2 rfl) rfl) fun B0 AV => ?_; clear F BG
  refine s6 AV (b_3 rfl en_69 (ev2 AV.e (evf _ _)) (all_int z _ 70 #[] #[] (fun i => inB (z.getD i 0) 0 100000) _ (E.sk 7 rfl) (by omega) ⟨en_70, fun i hi W hW => value_ok _ W⟩)) ?_
  rintro B1 _ CS ⟨rfl, A6⟩ AW; have AC := E.step A6; clear A6 AV E B0
  refine s5 AW (f_5 rfl AW.e) fun B2 u => ?_; clear AW B1
  refine s1 u (c_7 rfl u.e u.e) fun BH D => ?_; clear u B2
  refine n1 ?_
  rcases Bool.eq_false_or_eq_true (((List.range z.length).all (fun i => inB (z.getD i 0) 0 100000))) with AE | AE
  ·skip
   rw [AE] at D
   have hzv := List.all_eq_true.1 AE
   refine b_4 D rfl (c_6 (a_7 (b_5 (b_5 ?_))))
   have AX := D.as [(5, (bptr K 0)), (3, (bptr S 0)), (1, xl)] rfl; clear D
   refine a_5 (s1 AX (a_1 rfl AX.e) fun B3 AY => ?_); clear AX BH
   refine s1 AY (d_1 rfl p_4 AY.e (AC.sk 6 rfl)) fun B4 A2 => ?_; clear AY B3
   refine s1 A2 (a_1 rfl (evc _ _)) fun B5 A3 => ?_; clear A2 B4
   refine n1 (c_4 ?_)
   have A4 := A3.as [(35, (iv 0)), (34, (iv (l.length : Int))), (33, xl), (5, (bptr K 0)), (3, (bptr S 0))] rfl; clear A3
   refine h_3 (G := Nat) (fun (k : Nat) a_ w_ => Fr 66 [] [(35, (iv (k : Int))), (34, (iv (l.length : Int))), (33, xl), (5, (bptr K 0)), (3, (bptr S 0))] a_ ∧ Sep NoB w w_ [(blk bx22 146 [(iv b.scales), vt, vm, (Value.map (some bm23))]), (mapX true bm23 es24 ck25 es24.size 106 5 (bN b.tabs b.tabs.length) (bC lr lb b.tabs b.tabs.length)), (blk K 44 [xz]), (blk S 37 [(iv b.scales), vt, vm]), (d_0 false vt lr lb b.tabs), (d_3 false vm lk b.macs), (sl xl 2 l.length (pairs l)), (sl xz 1 z.length (ints z))] ∧ (k ≤ l.length) ∧ (∀ i, i < k → x_4 b l z i = true)) (fun k => l.length - k) 0 ⟨A4.as _ rfl, AC, by omega, (fun _ h => absurd h (Nat.not_lt_zero _))⟩ ?_
   clear A4 AC B5
   rintro k B6 CT ⟨x, A, hkk, BL⟩
   refine m2 (s1 x (f_7 rfl x.e x.e) fun BI B => ?_); clear x B6
   refine n2 ?_
   by_cases BC : (k : Int) < (l.length : Int)
   ·skip
    rw [decide_eq_true BC] at B
    have hmv := hl.macV hb (k := k) (by omega); have hsv := hmv.scale; have hbb := biasF_bd hmv; have hlm := hl.mac k (by omega); have hlr := hl.read k (by omega); have CP := i_4.1 (hzv (b.macs.getD (l.getD k (0, 0)).1.toNat mac0).scale.toNat (List.mem_range.2 (by omega)))
    refine c_0 B rfl (c_6 (a_7 (b_5 (c_4 (m2 (s1 B (b_0 rfl p_4 x_6 B.e (i := k) B.e (A.sk 6 rfl) (by decide) (by omega)) fun B7 AZ => ?_)))))); clear B BI
    refine s1 AZ (e_8 rfl x_6 AZ.e (A.sk 6 rfl) (h_7 (by omega)) rfl (by decide)) fun B8 A5 => ?_; clear AZ B7
    refine s2 A5 (d_9 A rfl ze_98 (cs := [(iv 0), (iv 0)]) rfl) ?_
    rintro B9 _ CU ⟨T, rfl, A8⟩ y; clear A5 A B8
    refine s7 y (b_7 A8 rfl x_6 y.e y.e (i := 0) rfl (vs := [(iv ((l.getD k (0, 0)).1)), (iv ((l.getD k (0, 0)).2))]) rfl rfl rfl (Nat.le_of_ble_eq_true rfl)) ?_
    intro _ CB A9 Aa; clear y
    have J : Sep NoB w CB [(blk T 98 [(iv ((l.getD k (0, 0)).1)), (iv ((l.getD k (0, 0)).2))]), (blk bx22 146 [(iv b.scales), vt, vm, (Value.map (some bm23))]), (mapX true bm23 es24 ck25 es24.size 106 5 (bN b.tabs b.tabs.length) (bC lr lb b.tabs b.tabs.length)), (blk K 44 [xz]), (blk S 37 [(iv b.scales), vt, vm]), (d_0 false vt lr lb b.tabs), (d_3 false vm lk b.macs), (sl xl 2 l.length (pairs l)), (sl xz 1 z.length (ints z))] := A9; clear A9 A8
    refine n4 (s1 Aa (a_4 rfl v_2 Aa.e) fun CA V => ?_); clear Aa B9
    refine s1 V (a_2 rfl ae_8 V.e (J.bk 4 rfl) rfl) fun BM X => ?_; clear V CA
    refine s1 X (a_4 rfl fd_98_0 X.e) fun BN Y => ?_; clear X BM
    refine s1 Y (a_2 rfl ty_3 Y.e (J.bk 0 rfl) rfl) fun BO L => ?_; clear Y BN
    refine s1 L (b_0 rfl ae_3 q_3 L.e (i := ((l.getD k (0, 0)).1).toNat) (L.e.trans (g_4 (by omega))) (c_5 (J.ok 6 _ rfl)).macs (by decide) (by omega)) fun BP Z => ?_; clear L BO
    refine s1 Z (e_8 rfl q_3 Z.e (c_5 (J.ok 6 _ rfl)).macs (t_8 (by omega)) rfl (by decide)) fun BQ Ab => ?_; clear Z BP
    refine s2 Ab (d_9 J rfl ze_103 (cs := [(iv 0), (Value.slice none 0 0)]) rfl) ?_
    rintro BR _ CK ⟨R, rfl, AA⟩ M; clear Ab J BQ
    refine s7 M (b_7 AA rfl q_3 M.e M.e (i := 0) rfl (vs := [(iv ((b.macs.getD (((l.getD k (0, 0)).1).toNat) mac0).scale)), (lk (((l.getD k (0, 0)).1).toNat))]) rfl rfl (i_0 rfl (i_0 (SlAt.one ((c_5 (AA.ok 7 _ rfl)).blk (i := ((l.getD k (0, 0)).1).toNat) (by omega))) u_9)) (Nat.le_of_ble_eq_true rfl)) ?_
    intro _ Bf Au Ac; clear M
    have Q : Sep NoB w Bf [(blk R 103 [(iv ((b.macs.getD (((l.getD k (0, 0)).1).toNat) mac0).scale)), (lk (((l.getD k (0, 0)).1).toNat))]), (blk T 98 [(iv ((l.getD k (0, 0)).1)), (iv ((l.getD k (0, 0)).2))]), (blk bx22 146 [(iv b.scales), vt, vm, (Value.map (some bm23))]), (mapX true bm23 es24 ck25 es24.size 106 5 (bN b.tabs b.tabs.length) (bC lr lb b.tabs b.tabs.length)), (blk K 44 [xz]), (blk S 37 [(iv b.scales), vt, vm]), (d_0 false vt lr lb b.tabs), (d_3 false vm lk b.macs), (sl xl 2 l.length (pairs l)), (sl xz 1 z.length (ints z))] := Au; clear Au AA
    refine n2 ?_
    have c := Ac.as [(11, (bptr R 0)), (10, (bptr T 0)), (35, (iv (k : Int))), (34, (iv (l.length : Int))), (33, xl), (5, (bptr K 0)), (3, (bptr S 0))] rfl; clear Ac
    refine a_5 (s1 c (c_9 rfl q_3 (c.ev rfl) (Q.bk 0 rfl) (l := [(iv ((b.macs.getD (((l.getD k (0, 0)).1).toNat) mac0).scale)), (lk (((l.getD k (0, 0)).1).toNat))]) rfl rfl) fun BS d => ?_); clear c BR
    refine s2 d (b_3 rfl en_67 (ev1 d.e) (bias_ok _ (b.macs.getD (((l.getD k (0, 0)).1).toNat) mac0) _ _ ((c_5 (Q.ok 7 _ rfl)).blk (i := ((l.getD k (0, 0)).1).toNat) (by omega)) hmv (hth.kl _))) ?_
    rintro BT _ CL ⟨rfl, As⟩ Ad; have Av := Q.step As; clear As d Q BS
    refine s2 Ad (d_9 Av rfl ab_1 (cs := [(iv 0), (iv 0)]) rfl) ?_
    rintro CD _ CM ⟨U, rfl, Aw⟩ N; clear Ad Av BT
    refine s7 N (b_7 Aw rfl h_1 N.e N.e (i := 0) rfl (vs := [(iv ((d_4 (b.macs.getD (((l.getD k (0, 0)).1).toNat) mac0)).1)), (iv ((d_4 (b.macs.getD (((l.getD k (0, 0)).1).toNat) mac0)).2))]) rfl rfl rfl (Nat.le_of_ble_eq_true rfl)) ?_
    intro _ Bg Ax Ae; clear N
    have Ay : Sep NoB w Bg [(blk U 30 [(iv ((d_4 (b.macs.getD (((l.getD k (0, 0)).1).toNat) mac0)).1)), (iv ((d_4 (b.macs.getD (((l.getD k (0, 0)).1).toNat) mac0)).2))]), (blk R 103 [(iv ((b.macs.getD (((l.getD k (0, 0)).1).toNat) mac0).scale)), (lk (((l.getD k (0, 0)).1).toNat))]), (blk T 98 [(iv ((l.getD k (0, 0)).1)), (iv ((l.getD k (0, 0)).2))]), (blk bx22 146 [(iv b.scales), vt, vm, (Value.map (some bm23))]), (mapX true bm23 es24 ck25 es24.size 106 5 (bN b.tabs b.tabs.length) (bC lr lb b.tabs b.tabs.length)), (blk K 44 [xz]), (blk S 37 [(iv b.scales), vt, vm]), (d_0 false vt lr lb b.tabs), (d_3 false vm lk b.macs), (sl xl 2 l.length (pairs l)), (sl xz 1 z.length (ints z))] := Ax; clear Ax Aw
    refine n2 ?_
    have Af := Ae.as [(12, (bptr U 0)), (11, (bptr R 0)), (10, (bptr T 0)), (35, (iv (k : Int))), (34, (iv (l.length : Int))), (33, xl), (5, (bptr K 0)), (3, (bptr S 0))] rfl; clear Ae
    refine g_0 mixed Af Ay 12 [[], [0], [], [], [3], [2, 4], [5], [1, 6], [], [8], [], [10]] [(Yd.val (bptr T 1)), (Yd.val (iv ((l.getD k (0, 0)).2))), (Yd.val xz), (Yd.val (bptr R 0)), (Yd.val (iv ((b.macs.getD (((l.getD k (0, 0)).1).toNat) mac0).scale))), (Yd.val (eptr xz (((b.macs.getD (((l.getD k (0, 0)).1).toNat) mac0).scale).toNat * 1))), (Yd.val (iv (z.getD (((b.macs.getD (((l.getD k (0, 0)).1).toNat) mac0).scale).toNat) 0))), (Yd.val (iv (((l.getD k (0, 0)).2) - (z.getD (((b.macs.getD (((l.getD k (0, 0)).1).toNat) mac0).scale).toNat) 0)))), (Yd.val (bptr U 0)), (Yd.val (iv ((d_4 (b.macs.getD (((l.getD k (0, 0)).1).toNat) mac0)).1))), (Yd.val (bptr U 1)), (Yd.val (iv ((d_4 (b.macs.getD (((l.getD k (0, 0)).1).toNat) mac0)).2)))] (by decide +kernel) rfl rfl ?_ ?_
    ·skip
     refine dq (fun a w hA hS hd => a_4 rfl fd_98_1 hA.e) ?_
     refine dq (fun a w hA hS hd => a_2 rfl ty_3 (hq hd 0) (hS.bk 2 rfl) rfl) ?_
     refine dq (fun a w hA hS hd => a_2 rfl w_2 hA.e (hS.bk 5 rfl) rfl) ?_
     refine dq (fun a w hA hS hd => a_4 rfl fd_103_0 hA.e) ?_
     refine dq (fun a w hA hS hd => a_2 rfl ty_3 (hq hd 3) (hS.bk 1 rfl) rfl) ?_
     refine dq (fun a w hA hS hd => b_0 rfl j_1 ty_3 (hq hd 2) (i := ((b.macs.getD (((l.getD k (0, 0)).1).toNat) mac0).scale).toNat) ((hq hd 4).trans (g_4 (by omega))) (hS.sk 10 rfl) (by decide) (by omega)) ?_
     refine dq (fun a w hA hS hd => c_1 rfl ty_3 (hq hd 5) (hS.sk 10 rfl) (ints_at (by omega))) ?_
     refine dq (fun a w hA hS hd => h_2 rfl (hq hd 1) (hq hd 6) (by omega) (by omega)) ?_
     refine dq (fun a w hA hS hd => a_4 rfl m_7 hA.e) ?_
     refine dq (fun a w hA hS hd => a_2 rfl ty_3 (hq hd 8) (hS.bk 0 rfl) rfl) ?_
     refine dq (fun a w hA hS hd => a_4 rfl m_8 hA.e) ?_
     refine dq (fun a w hA hS hd => a_2 rfl ty_3 (hq hd 10) (hS.bk 0 rfl) rfl) ?_
     trivial
    intro BU CN Ag AB P; clear Af Ay
    have Ah := Ag.add (hz P 7); clear Ag
    have Ai := Ah.add (hz P 9); clear Ah
    have H := Ai.add (hz P 11); clear Ai
    clear P
    refine s2 H (b_3 rfl ad_9 (ev3 H.e H.e H.e) (l_6 _ _ _ _)) ?_
    rintro BV _ W_ ⟨rfl, hW_⟩ f; have hW2_ := hW_.symm; subst hW2_; clear hW_ H BU
    refine s1 f (f_5 rfl f.e) fun Az C => ?_; clear f BV
    refine n1 ?_
    rcases Bool.eq_false_or_eq_true ((inB (((l.getD k (0, 0)).2) - (z.getD (((b.macs.getD (((l.getD k (0, 0)).1).toNat) mac0).scale).toNat) 0)) ((d_4 (b.macs.getD (((l.getD k (0, 0)).1).toNat) mac0)).1) ((d_4 (b.macs.getD (((l.getD k (0, 0)).1).toNat) mac0)).2))) with AD | AD
    ·skip
     rw [AD] at C
     refine b_4 C rfl (c_6 (g_3 (a_7 ?_)))
     have g := C.as [(35, (iv (k : Int))), (34, (iv (l.length : Int))), (33, xl), (5, (bptr K 0)), (3, (bptr S 0))] rfl; clear C
     refine a_5 (s1 g (e_3 rfl g.e (evc _ _) (by omega) (by omega)) fun BW j => ?_); clear g Az
     refine s1 j (a_1 rfl j.e) fun CE BD => ?_; clear j BW
     refine e_6 ?_
     have BE := AB.gkp (gpc 3 (gpc 4 (gpc 5 (gpc 6 (gpc 7 (gpc 8 (gpc 9 (gpc 10 gpn)))))))); clear AB
     exact a_7 ⟨k + 1, ⟨BD.as _ rfl, BE, by omega, (fun i hi => by rcases Nat.lt_succ_iff_lt_or_eq.1 hi with h | h; exact BL i h; subst h; exact (fitR_is.trans (by assumption)))⟩, by omega⟩
    skip
    rw [AD] at C
    refine c_0 C rfl (b_5 ?_)
    have Aj := C.as [] rfl; clear C
    refine a_5 (s1 Aj (a_0 rfl (evc _ _)) fun CF Ak => ?_); clear Aj Az
    exact n1 (c_2 (c_8 (a_6 (a_6 (c_8 (a_6 (a_8 Ak (.inl rfl) (a_3 Ak rfl (.tmp rfl)) (⟨congrArg Value.bool (by first | exact (ab_8 (by omega)).symm | exact (fits_n1' (by assumption)).symm | exact (ab_9 (k := k) (by omega) (by assumption)).symm), AB.ext⟩))))))))
   skip
   rw [decide_eq_false BC] at B
   refine b_4 B rfl (g_6 (b_2 (b_2 (f_2 (a_7 (m2 (s1 B (a_4 rfl w_9 B.e) fun BX n => ?_))))))); clear B BI
   refine s1 n (a_2 rfl ty_34 n.e (A.bk 3 rfl) rfl) fun BY o => ?_; clear n BX
   refine s1 o (h_6 rfl ev0 (ev1 o.e)) fun BZ O => ?_; clear o BY
   refine s2 O (b_3 rfl en_61 (ev2 O.e O.e) (all_tab b.tabs lr lb _ 71 #[] #[(bptr K 0)] (fun i => q_5 z (b.tabs.getD i tab0)) _ (b_8 (A.ok 4 _ rfl)).tabs (by have := hth.tl; omega) ⟨en_71, fun i hi W hW => fitclo_ok (b.tabs.getD i tab0) _ _ W ((b_8 ((A.step hW).ok 4 _ rfl)).row hi) ((b_8 ((A.step hW).ok 4 _ rfl)).brk hi) (hth.rl i) (hth.bl i) _ (hb.tab hi) _ z xz ((A.step hW).bk 2 rfl) ((A.step hW).sk 7 rfl) (by omega)⟩ (fun i hi => ⟨((b_8 (A.ok 4 _ rfl)).row hi).one, ((b_8 (A.ok 4 _ rfl)).brk hi).one⟩))) ?_
   rintro Ba _ CO ⟨rfl, At⟩ p; have BF := A.step At; clear At O A BZ
   refine s1 p (a_0 rfl p.e) fun CG Al => ?_; clear p Ba
   exact n1 (c_2 (a_8 Al (.inl rfl) (a_3 Al rfl (.tmp rfl)) (⟨congrArg Value.bool (fits_rest (by omega) (by assumption) (fun i hi => BL i (by omega))), BF.ext⟩)))
  skip
  rw [AE] at D
  refine c_0 D rfl (b_5 ?_)
  have Am := D.as [] rfl; clear D
  refine a_5 (s1 Am (a_0 rfl (evc _ _)) fun CH An => ?_); clear Am BH
  exact n1 (c_2 (a_6 (a_8 An (.inl rfl) (a_3 An rfl (.tmp rfl)) (⟨congrArg Value.bool (by first | exact (ab_8 (by omega)).symm | exact (fits_n1' (by assumption)).symm | exact (ab_9 (k := k) (by omega) (by assumption)).symm), AC.ext⟩))))
 skip
 rw [decide_eq_false BB] at F
 refine s3 F fun Bb Ao => ?_; clear F BG
 refine s3 Ao fun Bc Ap => ?_; clear Ao Bb
 refine s3 Ap fun Bd q => ?_; clear Ap Bc
 refine s1 q (b_6 rfl q.e (evc _ _)) fun Be r => ?_; clear q Bd
 refine n1 (c_0 r rfl (b_5 ?_))
 have Aq := r.as [] rfl; clear r
 refine a_5 (s1 Aq (a_0 rfl (evc _ _)) fun CI Ar => ?_); clear Aq Be
 exact n1 (c_2 (a_6 (a_8 Ar (.inl rfl) (a_3 Ar rfl (.tmp rfl)) (⟨congrArg Value.bool (by first | exact (ab_8 (by omega)).symm | exact (fits_n1' (by assumption)).symm | exact (ab_9 (k := k) (by omega) (by assumption)).symm), E.ext⟩))))
end Go.Proofs.Ytohgladndklciaa

namespace Go.Hard
def n_2 (nb : Nat) : Nat → List Int → Nat → List (List Int)
  | 0, l, _ => [l]
  | m + 1, l, next => (List.range' next (nb - next)).flatMap fun (k : Nat) => n_2 nb m (l ++ [(k : Int)]) (k + 1)
theorem setsF_each (nb : Nat) : ∀ (m : Nat) (l : List Int) (next : Nat) (z : List Int), z ∈ n_2 nb m l next → ∃ ys, z = l ++ ys ∧ ys.length = m ∧ (∀ y ∈ ys, (next : Int) ≤ y ∧ y ≤ (nb : Int) - 1) ∧ ys.Pairwise (· < ·)
  | 0, l, next, z, h => by
    rw [n_2, List.mem_singleton] at h
    exact ⟨[], by rw [h, List.append_nil], rfl, by simp, List.Pairwise.nil⟩
  | m + 1, l, next, z, h => by
    rw [n_2, List.mem_flatMap] at h
    obtain ⟨k, hk, hz⟩ := h
    rw [List.mem_range'_1] at hk
    obtain ⟨ys, e, hl, hb, hp⟩ := setsF_each nb m (l ++ [(k : Int)]) (k + 1) z hz
    refine ⟨(k : Int) :: ys, by rw [e, List.append_assoc]; rfl, by simp [hl], fun y hy => ?_, List.pairwise_cons.2 ⟨fun y hy => by have := hb y hy; omega, hp⟩⟩
    rcases List.mem_cons.1 hy with rfl | hy
    · omega
    · have := hb y hy; omega
theorem setsF_mem (nb : Nat) : ∀ (ys l : List Int) (next : Nat), (∀ y ∈ ys, (next : Int) ≤ y ∧ y ≤ (nb : Int) - 1) → ys.Pairwise (· < ·) → l ++ ys ∈ n_2 nb ys.length l next
  | [], l, next, _, _ => by simp [n_2]
  | y :: ys, l, next, hb, hp => by
    have hy := hb y (List.mem_cons_self ..)
    rw [List.length_cons, n_2, List.mem_flatMap]
    refine ⟨y.toNat, List.mem_range'_1.2 ⟨by omega, by omega⟩, ?_⟩
    have e : ((y.toNat : Nat) : Int) = y := by omega
    rw [e]
    have := setsF_mem nb ys (l ++ [y]) (y.toNat + 1) (fun z hz => by
      have h1 := (List.pairwise_cons.1 hp).1 z hz
      have h2 := hb z (List.mem_cons_of_mem _ hz)
      omega) (List.pairwise_cons.1 hp).2
    rwa [List.append_assoc] at this
def hasB (l : List Int) (k : Int) : Bool := (List.range l.length).any fun i => decide (k = l.getD i 0)
theorem hasB_iff {l : List Int} {k : Int} : hasB l k = true ↔ k ∈ l := by
  unfold hasB
  rw [List.any_eq_true]
  constructor
  · rintro ⟨i, hi, h⟩
    rw [List.mem_range] at hi
    rw [of_decide_eq_true h]
    simp only [List.getD, List.getElem?_eq_getElem hi, Option.getD_some]
    exact List.getElem_mem hi
  · intro h
    obtain ⟨i, hi, e⟩ := List.getElem_of_mem h
    exact ⟨i, List.mem_range.2 hi, decide_eq_true (by simp [List.getD, hi, e])⟩
theorem find_app {p : List Int → Bool} : ∀ {x y : List (List Int)}, x.any p = false → (x ++ y).find? p = y.find? p
  | [], _, _ => rfl
  | a :: x, y, h => by
    simp only [List.any_cons, Bool.or_eq_false_iff] at h
    rw [List.cons_append, List.find?_cons, h.1]
    exact find_app h.2
theorem find_app2 {p : List Int → Bool} {z : List Int} : ∀ {x y : List (List Int)}, x.find? p = some z → (x ++ y).find? p = some z
  | [], _, h => by cases h
  | a :: x, y, h => by
    rw [List.cons_append, List.find?_cons]
    rw [List.find?_cons] at h
    split <;> rename_i hp
    · rw [hp] at h; exact h
    · rw [hp] at h; exact find_app2 h
def o_7 (nb k : Nat) : List (List Int) := (List.range k).flatMap fun m => n_2 nb m [] 0
theorem w_5 (nb k : Nat) : o_7 nb (k + 1) = o_7 nb k ++ n_2 nb k [] 0 := by
  unfold o_7; rw [List.range_succ, List.flatMap_append]; simp
theorem allUpto_pre (nb k : Nat) : ∀ n, ∃ rest, o_7 nb (k + n) = o_7 nb k ++ rest
  | 0 => ⟨[], by simp⟩
  | n + 1 => by
    obtain ⟨rest, e⟩ := allUpto_pre nb k n
    exact ⟨rest ++ n_2 nb (k + n) [] 0, by rw [← Nat.add_assoc, w_5, e, List.append_assoc]⟩
def numsF (n : Nat) : List Int := (List.range n).map fun (i : Nat) => (i : Int)
theorem nums_sets (n : Nat) : numsF n ∈ n_2 n n [] 0 := by
  have h := setsF_mem n (numsF n) [] 0 (fun y hy => by
    obtain ⟨i, hi, rfl⟩ := List.mem_map.1 hy
    rw [List.mem_range] at hi; omega) (by
    unfold numsF; rw [List.pairwise_map]
    exact List.pairwise_lt_range.imp (fun h => by omega))
  have e : (numsF n).length = n := by simp [numsF]
  rwa [e, List.nil_append] at h
def woSel (l : List Int) (k : Nat) : List Nat := (List.range k).filter fun (i : Nat) => !hasB l (i : Int)
theorem woSel_lt {l : List Int} {k i : Nat} (h : i ∈ woSel l k) : i < k := List.mem_range.1 (List.mem_filter.1 h).1
theorem woSel_len (l : List Int) (k : Nat) : (woSel l k).length ≤ k := by unfold woSel; exact Nat.le_trans (List.length_filter_le ..) (by simp)
theorem getD_memN {sel : List Nat} {i : Nat} (h : i < sel.length) : sel.getD i 0 ∈ sel := by
  simp only [List.getD, List.getElem?_eq_getElem h, Option.getD_some]; exact List.getElem_mem h
def e_1 (l : List (Int × Int)) (s : List Int) (k : Nat) : List (Int × Int) := (woSel s k).map fun i => l.getD i (0, 0)
def woF (l : List (Int × Int)) (s : List Int) : List (Int × Int) := e_1 l s l.length
def okS (b : h_4) (l : List (Int × Int)) (s : List Int) : Bool := (n_3 b (woF l s)).isSome
def i_2 (n : Nat) (p : List Int → Bool) (m : Nat) (s : List Int) (next : Nat) : Bool := (n_2 n m s next).any p
def l_2 (b : h_4) (l : List (Int × Int)) : List Int := ((o_7 l.length (l.length + 1)).find? (okS b l)).getD []
section
variable {n m next k : Nat} {p : List Int → Bool} {s : List Int} {l : List (Int × Int)} {b : h_4}
theorem sets_step (n m : Nat) (s : List Int) (next : Nat) (h : next < n) : n_2 n (m + 1) s next = n_2 n m (s ++ [(next : Int)]) (next + 1) ++ n_2 n (m + 1) s (next + 1) := by
  rw [n_2, n_2, show n - next = (n - (next + 1)) + 1 by omega, List.range'_succ, List.flatMap_cons]
theorem sets_none : ∀ (m : Nat) (s : List Int) (next : Nat), n < next + (m + 1) → n_2 n (m + 1) s next = []
  | 0, s, next, h => by rw [n_2, show n - next = 0 by omega]; rfl
  | m + 1, s, next, h => by
    rw [n_2, List.flatMap_eq_nil_iff]
    intro k hk
    rw [List.mem_range'_1] at hk
    exact sets_none m _ _ (by omega)
theorem lv_0 : i_2 n p 0 s next = p s := by simp [i_2, n_2]
theorem lv_f0 (h : p s = true) : (n_2 n 0 s next).find? p = some s := by simp [n_2, h]
theorem lv_hit {z : List Int} (h : next < n) (hy : i_2 n p m (s ++ [(next : Int)]) (next + 1) = true) (hf : (n_2 n m (s ++ [(next : Int)]) (next + 1)).find? p = some z) : i_2 n p (m + 1) s next = true ∧ (n_2 n (m + 1) s next).find? p = some z := by
  unfold i_2 at hy ⊢
  rw [sets_step n m s next h]
  exact ⟨by rw [List.any_append, hy]; rfl, find_app2 hf⟩
theorem lv_go (h : next < n) (hn : i_2 n p m (s ++ [(next : Int)]) (next + 1) = false) : i_2 n p (m + 1) s next = i_2 n p (m + 1) s (next + 1) := by
  unfold i_2 at hn ⊢
  rw [sets_step n m s next h, List.any_append, hn, Bool.false_or]
theorem lv_gof {z : List Int} (h : next < n) (hn : i_2 n p m (s ++ [(next : Int)]) (next + 1) = false) (hf : (n_2 n (m + 1) s (next + 1)).find? p = some z) : (n_2 n (m + 1) s next).find? p = some z := by
  rw [sets_step n m s next h, find_app hn]; exact hf
theorem lv_no (h : next < n) (hn : i_2 n p m (s ++ [(next : Int)]) (next + 1) = false) (hm : n ≤ next + (m + 1)) : i_2 n p (m + 1) s next = false := by
  rw [lv_go h hn]; unfold i_2; rw [sets_none _ _ _ (by omega)]; rfl
theorem all_go (hn : (o_7 n k).any p = false) (hy : i_2 n p k [] 0 = false) : (o_7 n (k + 1)).any p = false := by
  rw [w_5, List.any_append, hn]
  unfold i_2 at hy; rw [hy]; rfl
theorem kep_len (l : List (Int × Int)) (s : List Int) (k : Nat) : (e_1 l s k).length ≤ k := by unfold e_1; rw [List.length_map]; exact woSel_len ..
theorem kep_at {i : Nat} (hi : i < (e_1 l s k).length) : ∃ j, j < k ∧ (e_1 l s k).getD i (0, 0) = l.getD j (0, 0) := by
  unfold e_1 at hi ⊢
  rw [List.length_map] at hi
  exact ⟨_, woSel_lt (getD_memN hi), by simp [List.getD, hi]⟩
theorem kep_read (hl : q_4 b l) (hk : k ≤ l.length) : q_4 b (e_1 l s k) := by
  have hlen := hl.len
  have := kep_len l s k
  refine ⟨by omega, fun i hi => ?_, fun i hi => ?_, fun i hi => ?_⟩ <;> obtain ⟨j, hj, e⟩ := kep_at hi <;> rw [e]
  · exact hl.mac j (by omega)
  · exact hl.read j (by omega)
  · exact hl.off j (by omega)
theorem read_V (hc : g_7 b = 0) (hl : q_4 b l) : aa_9 b l = 0 := by
  have hlen := hl.len
  refine read_0 hc (by omega) (fun i hi => readB_y (i_4.2 ?_) (i_4.2 (hl.read i hi))) hl.off
  have := hl.mac i hi
  omega
def t_2 (s : List Int) (k : Nat) : Prop := ∀ y ∈ s, (0 : Int) ≤ y ∧ y < (k : Int)
theorem t_2.nil : t_2 [] k := fun _ h => by cases h
theorem t_2.more (h : t_2 s k) : t_2 s (k + 1) := fun y hy => by have := h y hy; omega
theorem t_2.snoc (h : t_2 s k) : t_2 (s ++ [(k : Int)]) (k + 1) := fun y hy => by
  rcases List.mem_append.1 hy with hy | hy
  · have := h y hy; omega
  · rw [List.mem_singleton] at hy; omega
theorem kep_out (h : t_2 s k) : e_1 l (s ++ [(k : Int)]) (k + 1) = e_1 l s k := by
  unfold e_1 woSel
  congr 1
  rw [List.range_succ, List.filter_append, List.filter_cons, if_neg (by rw [hasB_iff.2 (List.mem_append_right _ (List.mem_singleton.2 rfl))]; decide)]
  rw [List.filter_nil, List.append_nil]
  refine List.filter_congr fun i hi => ?_
  rw [List.mem_range] at hi
  congr 1
  rw [Bool.eq_iff_iff, hasB_iff, hasB_iff, List.mem_append, List.mem_singleton]
  exact ⟨fun h => h.resolve_right (by omega), .inl⟩
theorem kep_in (h : t_2 s k) : e_1 l s (k + 1) = e_1 l s k ++ [l.getD k (0, 0)] := by
  unfold e_1 woSel
  rw [List.range_succ, List.filter_append, List.filter_cons, if_pos, List.filter_nil, List.map_append]; rfl
  cases hb : hasB s (k : Int) with
  | false => rfl
  | true => have := h _ (hasB_iff.1 hb); omega
theorem spans_free (hb : k_5 b) : (n_3 b []).isSome = true := by
  have hl : q_4 b [] := ⟨Nat.zero_le _, fun _ h => absurd h (Nat.not_lt_zero _), fun _ h => absurd h (Nat.not_lt_zero _), fun _ h => absurd h (Nat.not_lt_zero _)⟩
  have hw := spans_is hb hl
  have hn := hb.four
  have hat : ∀ i, i < b.scales.toNat → at' (q_6 b []) i = rng0 := fun i hi => start_free hb hl hi (fun _ h => absurd h (Nat.not_lt_zero _)) 0 (Nat.zero_le _)
  cases hs : n_3 b [] with
  | some t => rfl
  | none =>
    rw [hs] at hw
    refine absurd ⟨Sub.refl _ _, fun i hi => ?_, fun t ht => ?_⟩ (hw (q_6 b []))
    · rw [hat i hi]; decide
    · have hv := hb.natV t ht
      have h1 := hv.frm
      have h3 := hv.len
      intro hc
      rw [hat _ (by omega)] at hc
      have h4 := (x_8.1 hc).1
      have := (hv.bnd 0 (by omega)).1.1
      have h5 : (1 : Int) ≤ (rng0).1 := by omega
      exact absurd h5 (by decide)
theorem wo_nil (l : List (Int × Int)) : woF l [] = l := by
  have e : woSel [] l.length = List.range l.length := List.filter_eq_self.2 (fun _ _ => rfl)
  unfold woF e_1
  rw [e]
  apply List.ext_getElem (by simp)
  intro i h1 h2
  simp [List.getD, h2]
theorem ok_all (hb : k_5 b) : okS b l (numsF l.length) = true := by
  have e : woF l (numsF l.length) = [] := by
    unfold woF e_1
    rw [List.map_eq_nil_iff]
    unfold woSel
    rw [List.filter_eq_nil_iff]
    intro i hi
    rw [List.mem_range] at hi
    rw [show hasB (numsF l.length) (i : Int) = true from hasB_iff.2 (List.mem_map.2 ⟨i, List.mem_range.2 hi, rfl⟩)]; decide
  unfold okS; rw [e]; exact spans_free hb
theorem lv_all (hb : k_5 b) : i_2 l.length (okS b l) l.length [] 0 = true := List.any_eq_true.2 ⟨_, nums_sets _, ok_all hb⟩
theorem doubt_found {z : List Int} (hk : k ≤ l.length) (hn : (o_7 l.length k).any (okS b l) = false) (hf : (n_2 l.length k [] 0).find? (okS b l) = some z) : l_2 b l = z := by
  unfold l_2
  obtain ⟨rest, e⟩ := allUpto_pre l.length (k + 1) (l.length - k)
  rw [show l.length + 1 = k + 1 + (l.length - k) by omega, e, w_5, List.append_assoc, find_app hn, find_app2 hf]; rfl
theorem all_not (hb : k_5 b) (hk : l.length < k) (hn : (o_7 l.length k).any (okS b l) = false) : False := by
  obtain ⟨rest, e⟩ := allUpto_pre l.length (l.length + 1) (k - (l.length + 1))
  rw [show l.length + 1 + (k - (l.length + 1)) = k by omega] at e
  rw [e, w_5] at hn
  simp only [List.any_append, Bool.or_eq_false_iff] at hn
  have := lv_all (l := l) hb
  unfold i_2 at this
  rw [hn.1.2] at this; cases this
theorem doubt_is (hb : k_5 b) (l : List (Int × Int)) : okS b l (l_2 b l) = true ∧ (∀ y ∈ l_2 b l, (0 : Int) ≤ y ∧ y ≤ (l.length : Int) - 1) ∧ (l_2 b l).Pairwise (· < ·) ∧ (l_2 b l).length ≤ l.length ∧
    (∀ z : List Int, (∀ y ∈ z, (0 : Int) ≤ y ∧ y ≤ (l.length : Int) - 1) → z.Pairwise (· < ·) → z.length < (l_2 b l).length → okS b l z = false) := by
  have hex : ∃ k, k ≤ l.length ∧ i_2 l.length (okS b l) k [] 0 = true ∧ (o_7 l.length k).any (okS b l) = false := by
    have key : ∀ k, (o_7 l.length k).any (okS b l) = false ∨ ∃ j, j < k ∧ i_2 l.length (okS b l) j [] 0 = true ∧ (o_7 l.length j).any (okS b l) = false := by
      intro k
      induction k with
      | zero => exact .inl rfl
      | succ k ih =>
        rcases ih with h | ⟨j, hj, h⟩
        · cases hc : i_2 l.length (okS b l) k [] 0 with
          | true => exact .inr ⟨k, by omega, hc, h⟩
          | false => exact .inl (all_go h hc)
        · exact .inr ⟨j, by omega, h⟩
    rcases key (l.length + 1) with h | ⟨j, hj, h⟩
    · exact (all_not hb (Nat.lt_succ_self _) h).elim
    · exact ⟨j, by omega, h⟩
  obtain ⟨k, hk, hy, hn⟩ := hex
  unfold i_2 at hy
  obtain ⟨z0, hz0⟩ : ∃ z, (n_2 l.length k [] 0).find? (okS b l) = some z := by
    exact Option.isSome_iff_exists.1 (by rw [List.find?_isSome]; obtain ⟨x, h1, h2⟩ := List.any_eq_true.1 hy; exact ⟨x, h1, h2⟩)
  have e := doubt_found hk hn hz0
  have h1 := List.find?_some hz0
  obtain ⟨ys, e2, hl, hbd, hp⟩ := setsF_each _ _ _ _ _ (List.mem_of_find?_eq_some hz0)
  rw [List.nil_append] at e2
  subst e2
  rw [e]
  refine ⟨h1, fun y hy => by have := hbd y hy; omega, hp, by omega, fun z hzb hzp hzl => ?_⟩
  have hm := setsF_mem l.length z [] 0 (fun y hy => by have := hzb y hy; omega) hzp
  rw [List.nil_append] at hm
  cases hc : okS b l z with
  | false => rfl
  | true =>
    have : (o_7 l.length k).any (okS b l) = true := List.any_eq_true.2 ⟨z, List.mem_flatMap.2 ⟨z.length, List.mem_range.2 (by omega), hm⟩, hc⟩
    rw [hn] at this; cases this
theorem doubt_zero (hb : k_5 b) : (n_3 b l).isSome = true ↔ (l_2 b l).length = 0 := by
  obtain ⟨h1, h2, h3, h4, h5⟩ := doubt_is hb l
  have e0 : okS b l [] = (n_3 b l).isSome := by unfold okS; rw [wo_nil]
  rw [← e0]
  constructor
  · intro h
    rcases Nat.eq_zero_or_pos (l_2 b l).length with h0 | h0
    · exact h0
    · have := h5 [] (by simp) List.Pairwise.nil (by simpa using h0)
      rw [h] at this; cases this
  · intro h
    have e : l_2 b l = [] := List.eq_nil_of_length_eq_zero h
    rw [e] at h1; exact h1
theorem doubt_bd (hb : k_5 b) (l : List (Int × Int)) : (l_2 b l).length ≤ l.length ∧ (∀ i, i < (l_2 b l).length → 0 ≤ (l_2 b l).getD i 0 ∧ (l_2 b l).getD i 0 ≤ (l.length : Int) - 1) ∧ (∀ i, 0 < i → i < (l_2 b l).length → (l_2 b l).getD (i - 1) 0 < (l_2 b l).getD i 0) := by
  obtain ⟨h1, h2, h3, h4, h5⟩ := doubt_is hb l
  refine ⟨h4, fun i hi => h2 _ (v_4 hi), fun i h0 hi => ?_⟩
  have := List.pairwise_iff_getElem.1 h3 (i - 1) i (by omega) hi (by omega)
  simpa [List.getD, hi, show i - 1 < (l_2 b l).length by omega] using this
theorem doubt_nil (hb : k_5 b) {t : h_9} (h : n_3 b l = some t) : (l_2 b l).length = 0 := (doubt_zero hb).1 (by rw [h]; rfl)
end
end Go.Hard

namespace Go.Hard
open Go.RowKit Go.Eng
def t_1 (ws : List Int) (n : Int) : Int := if ws.length = 0 then 0 else ws.getD (n.tmod (ws.length : Int)).toNat 0
theorem words_at1 {ws : List Int} {i : Nat} (h : i < ws.length) : (ws.map (Value.int .u16))[i * 1]? = some (.int .u16 (ws.getD i 0)) := by
  simp [List.getD, h]
def ad_4 (ws : List Int) : Prop := ∀ x ∈ ws, 0 ≤ x ∧ x ≤ 65535
theorem words_bd {ws : List Int} (h : ad_4 ws) (i : Nat) : 0 ≤ ws.getD i 0 ∧ ws.getD i 0 ≤ 65535 := by
  by_cases hi : i < ws.length
  · exact h _ (v_4 hi)
  · rw [getD_out (by omega)]; decide
theorem word_bd {ws : List Int} (h : ad_4 ws) (n : Int) : 0 ≤ t_1 ws n ∧ t_1 ws n ≤ 65535 := by
  unfold t_1; split
  · decide
  · exact words_bd h _
def p_7 (l : List Bool) : List Value := l.map Value.bool
theorem boolC_at {l : List Bool} {i : Nat} (h : i < l.length) : (p_7 l)[i * 1]? = some (.bool (l.getD i false)) := by
  simp [p_7, List.getD, h]
theorem mk_one (v : Value) (n : Nat) : (madeCells #[v] (n * 1)).toList = List.replicate n v := by
  unfold madeCells
  apply List.ext_getElem (by simp)
  intro i h1 h2
  simp [Nat.mod_one]
theorem mk_int (n : Nat) : (madeCells (Value.int .i64 0).cells (n * 1)).toList = ints (List.replicate n 0) := by
  rw [show (Value.int .i64 0).cells = #[Value.int .i64 0] from rfl, mk_one]; simp [ints]
theorem mk_bool (n : Nat) : (madeCells (Value.bool false).cells (n * 1)).toList = p_7 (List.replicate n false) := by
  rw [show (Value.bool false).cells = #[Value.bool false] from rfl, mk_one]; simp [p_7]
def unk : List Bool → Nat
  | [] => 0
  | b :: l => unk l + (!b).toNat
theorem unk_set : ∀ {l : List Bool} {i : Nat}, i < l.length → l.getD i false = false → unk (l.set i true) + 1 = unk l
  | [], _, h, _ => absurd h (Nat.not_lt_zero _)
  | b :: l, 0, _, h => by
    have : b = false := by simpa using h
    subst this; rfl
  | b :: l, i + 1, h, hk => by
    have := unk_set (l := l) (i := i) (by simpa using h) (by simpa using hk)
    simp only [List.set_cons_succ, unk]; omega
def measT (kb : List Bool) (c : Bool) : Nat := 2 * unk kb + c.toNat
theorem meas_t {ka kb : List Bool} {c : Bool} (h : unk kb + c.toNat ≤ unk ka) : measT kb c < measT ka true := by
  unfold measT
  have : (true).toNat = 1 := rfl
  omega
theorem unk_go {ka kb : List Bool} {c : Bool} {i : Nat} (h : unk kb + c.toNat ≤ unk ka) (hi : i < kb.length) (hk : kb.getD i false = false) : unk (kb.set i true) + (true).toNat ≤ unk ka := by
  have := unk_set hi hk
  have : (true).toNat = 1 := rfl
  omega
theorem madeV_le {n : Int} {t : TabD} (hV : TabV n t) (v : Int) : (b_9 t v).1 ≤ (b_9 t v).2 := by
  unfold b_9
  cases h : i_8 t v with
  | none => exact Int.le_refl _
  | some r => exact hV.rows.le (made_is h)
structure ae_2 (b : h_4) (z : List Int) (l : List (Int × Int)) : Prop where
  mac : ∀ i, i < l.length → 0 ≤ (l.getD i (0, 0)).1 ∧ (l.getD i (0, 0)).1 < b.macs.length
  read : ∀ i, i < l.length → 0 ≤ (l.getD i (0, 0)).2 ∧ (l.getD i (0, 0)).2 ≤ 100000
  off : ∀ i, i < l.length → offB (b.macs.getD (l.getD i (0, 0)).1.toNat mac0) = false
  fit : ∀ i, i < l.length → x_4 b l z i = true
section
variable {b : h_4} {z : List Int} {l : List (Int × Int)}
theorem ae_2.nil : ae_2 b z [] := ⟨fun _ h => absurd h (Nat.not_lt_zero _), fun _ h => absurd h (Nat.not_lt_zero _), fun _ h => absurd h (Nat.not_lt_zero _), fun _ h => absurd h (Nat.not_lt_zero _)⟩
theorem ae_2.snoc {m : Nat} {r : Int} (h : ae_2 b z l) (hm : m < b.macs.length) (h0 : 0 ≤ r) (h1 : r ≤ 100000) (ho : ¬ (d_4 (b.macs.getD m mac0)).2 < (d_4 (b.macs.getD m mac0)).1)
    (h2 : z.getD (b.macs.getD m mac0).scale.toNat 0 + (d_4 (b.macs.getD m mac0)).1 ≤ r) (h3 : r ≤ z.getD (b.macs.getD m mac0).scale.toNat 0 + (d_4 (b.macs.getD m mac0)).2) : ae_2 b z (l ++ [((m : Int), r)]) := by
  have hold : ∀ i, i < l.length → (l ++ [((m : Int), r)]).getD i (0, 0) = l.getD i (0, 0) := fun i hi => getD_old hi
  have key : ∀ i, i < (l ++ [((m : Int), r)]).length → i < l.length ∨ i = l.length := fun i hi => by
    rw [List.length_append, List.length_singleton] at hi; omega
  refine ⟨fun i hi => ?_, fun i hi => ?_, fun i hi => ?_, fun i hi => ?_⟩ <;> rcases key i hi with hi | rfl
  · rw [hold i hi]; exact h.mac i hi
  · rw [z_2]; dsimp only; omega
  · rw [hold i hi]; exact h.read i hi
  · rw [z_2]; exact ⟨h0, h1⟩
  · rw [hold i hi]; exact h.off i hi
  · rw [z_2]; exact off_f (by simpa using ho)
  · have := h.fit i hi
    rw [fitR_is] at this ⊢
    rw [hold i hi]; exact this
  · rw [fitR_is, z_2, i_4]; dsimp only; rw [Int.toNat_natCast]; omega
theorem ae_2.reads (h : ae_2 b z l) (hl : l.length ≤ 8) : q_4 b l := ⟨hl, h.mac, h.read, h.off⟩
theorem seen_fits (h : ae_2 b z l) (hf : t_6 b [] z = true) : t_6 b l z = true := by
  have := fits_iff.1 hf
  exact fits_y this.1 this.2.1 h.fit this.2.2.2
theorem fits_vals (hf : t_6 b l z = true) (i : Nat) (hi : i < z.length) : 0 ≤ z.getD i 0 ∧ z.getD i 0 ≤ 100000 := i_4.1 ((fits_iff.1 hf).2.1 i hi)
theorem truth_spans (hb : k_5 b) (hl : q_4 b l) (hf : t_6 b l z = true) : ∃ t, n_3 b l = some t ∧ t.length = z.length ∧ t.length ≤ 4 ∧ ∀ i, i < t.length → (t.getD i (0, 0)).1 ≤ z.getD i 0 ∧ z.getD i 0 ≤ (t.getD i (0, 0)).2 := by
  obtain ⟨t, h1, h2, h3⟩ := (spans_is hb hl).has (fits_sol hb hl hf)
  have hz := (fits_iff.1 hf).1
  have h4 := hb.four
  refine ⟨t, h1, by omega, by omega, fun i hi => ?_⟩
  have := h3 i (by omega)
  rw [at_point (by omega)] at this
  exact this
theorem truth_doubt (hb : k_5 b) {t : h_9} (h : n_3 b l = some t) : (l_2 b l).length = 0 := doubt_nil hb h
end
end Go.Hard
