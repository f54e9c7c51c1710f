/-
  How the program finds the spans: the first ranges reading by reading, then pass by pass.
  Books built in memory: slices of slices, one more; tables and machines as one thing.
  The chapter's book and what it shows; decided by the kernel.
-/
import Derived.Test.YtohgladndklciaaBd
import Derived.Test.YtohgladndklciaaEnga
set_option linter.unusedSimpArgs false
set_option linter.unusedVariables false
namespace Go.Proofs.Ytohgladndklciaa
open Go.RowKit Go.Shelf Go.Eng Go.Hard
theorem ze_120 : (Try.prog.info? 120).bind (·.zero) = some (Value.agg #[(Value.int .i64 0), (Value.int .i64 0), (Value.int .i64 0), (Value.int .i64 0), (Value.int .i64 0), (Value.int .i64 0), (Value.int .i64 0), (Value.int .i64 0)]) := by kernel_rfl
theorem fd_146_0 : fldK Try.prog 146 0 = some 0 := by kernel_rfl
theorem un_120 : Try.prog.underlying 120 = some (.array 4 30) := by kernel_rfl
theorem ty_120 : tyK Try.prog 120 = some (true, 8) := by kernel_rfl
theorem en_108 : ∀ args w, (callFunc 108 args).run Try.prog w = .ok (.enter 108 args) w := enters_of Try.func108 (by kernel_rfl) rfl
set_option maxHeartbeats 4000000 in
theorem cutb_ok (b : BookD) (vt vm : Value) (lr lb lk : Nat → Value) (w : World) (hT : TabsAt w vt lr lb b.tabs) (hM : MacsAt w vm lk b.macs) (hth : ThinB b) (bx bm : Nat) (es : Array MapEntry) (ck : Nat) (hMO : MapOk bm es ck (bN b.tabs b.tabs.length)) (hbx : (blk bx 146 [.int .i64 b.scales, vt, vm, .map (some bm)]).p w) (hmx : (mapX false bm es ck es.size 106 5 (bN b.tabs b.tabs.length) (bC lr lb b.tabs b.tabs.length)).p w) (hb : BookV b) (s : List (Int × Int)) (hs : s.length = 4) :
  Calls Try.prog 88 #[(bptr bx 0), (Value.agg (pairs s).toArray)] w (Ret fun v w' => v = .tuple #[.agg (pairs (passF (orderF b.scales.toNat b.tabs) s).1).toArray, .bool (fullB b.scales.toNat (passF (orderF b.scales.toNat b.tabs) s).1)] ∧ Ext NoB w w') := by
 refine calls_enter Try.func88 rfl fun a0 hA0 => ?_
 replace hA0 : Fr 71 [] [(0, (bptr bx 0)), (1, (Value.agg (pairs s).toArray))] a0 := hA0
 have hsc := hb.scales; have htl9 := hth.tl
 have hS0 : Sep NoB w w [(rob bx 146 [(Value.int .i64 b.scales), vt, vm, (Value.map (some bm))]), (mapX false bm es ck es.size 106 5 (bN b.tabs b.tabs.length) (bC lr lb b.tabs b.tabs.length)), (tabsR false vt lr lb b.tabs), (macsR false vm lk b.macs)] := sep_ro ⟨rfl, hbx, rfl, hmx, rfl, hT, rfl, hM, trivial⟩
 refine c_seq ?_
 refine c_region ?_
 refine stw hA0 (op_box hS0 rfl (hA0.ev rfl) (cs := (pairs s)) rfl) rfl rfl (by decide) ?_
 rintro a1 _ w3 ⟨b4, rfl, hS5⟩ hA2; clear hA0 hS0 a0
 refine stw hA2 (op_alloc hS5 rfl ze_120 (cs := (pairs ([(0, 0), (0, 0), (0, 0), (0, 0)]))) rfl) rfl rfl (by decide) ?_
 rintro a6 _ w8 ⟨b9, rfl, hS10⟩ hA7; clear hA2 hS5 a1
 refine st hA7 (op_assign rfl (evc _ _)) rfl rfl (by decide) fun a11 hA12 => ?_; clear hA7 a6
 refine wl_nil ?_
 refine then_n ?_
 refine c_scope ?_
 refine c_seq ?_
 refine c_label ?_
 refine then_n ?_
 refine c_seq ?_
 refine c_seq ?_
 refine c_region ?_
 refine st hA12 (op_move rfl (hA12.ev rfl)) rfl rfl (by decide) fun a13 hA14 => ?_; clear hA12 a11
 refine st hA14 (op_nilCheck rfl (hA14.ev rfl)) rfl rfl (by decide) fun a15 hA16 => ?_; clear hA14 a13
 refine st hA16 (op_field rfl fd_146_0 (hA16.ev rfl)) rfl rfl (by decide) fun a17 hA18 => ?_; clear hA16 a15
 refine st hA18 (op_field rfl fd_37_0 (hA18.ev rfl)) rfl rfl (by decide) fun a19 hA20 => ?_; clear hA18 a17
 refine st hA20 (op_load1 rfl ty_3 (hA20.ev rfl) (hS10.rk 2 rfl) rfl) rfl rfl (by decide) fun a21 hA22 => ?_; clear hA20 a19
 refine st hA22 (op_move rfl (evc _ _)) rfl rfl (by decide) fun a23 hA24 => ?_; clear hA22 a21
 refine wl_nil ?_
 refine then_n ?_
 refine c_block ?_
 have hA25 := hA24.as [(15, (Value.int .i64 0)), (14, (Value.int .i64 b.scales)), (4, (bptr b9 0)), (3, (bptr b4 0)), (0, (bptr bx 0))] rfl; clear hA24
 refine c_loop (G := Nat) (fun (k : Nat) a_ w_ => ∃ x0 : List (Int × Int), Fr 71 [] [(15, (Value.int .i64 (k : Int))), (14, (Value.int .i64 b.scales)), (4, (bptr b9 0)), (3, (bptr b4 0)), (0, (bptr bx 0))] a_ ∧ Sep NoB w w_ [(blk b9 120 (pairs ([(0, 0), (0, 0), (0, 0), (0, 0)]))), (blk b4 120 (pairs x0)), (rob bx 146 [(Value.int .i64 b.scales), vt, vm, (Value.map (some bm))]), (mapX false bm es ck es.size 106 5 (bN b.tabs b.tabs.length) (bC lr lb b.tabs b.tabs.length)), (tabsR false vt lr lb b.tabs), (macsR false vm lk b.macs)] ∧ (k ≤ b.scales.toNat) ∧ (x0.length = 4) ∧ (Cut0 b.scales.toNat b.tabs s k x0)) (fun k => b.scales.toNat - k) 0 ⟨s, hA25.as _ rfl, hS10, by omega, hs, cut_00⟩ ?_
 clear hA25 hS10 a23
 rintro k a26 w28 ⟨x0, hA27, hS29, hk, hl0, hc0⟩
 refine c_seq ?_
 refine c_region ?_
 refine st hA27 (op_lss rfl (hA27.ev rfl) (hA27.ev rfl)) rfl rfl (by decide) fun a30 hA31 => ?_; clear hA27 a26
 refine wl_nil ?_
 refine then_n ?_
 refine c_seq ?_
 by_cases hb32 : (k : Int) < b.scales
 ·skip
  rw [decide_eq_true hb32] at hA31
  refine c_true hA31 rfl ?_
  refine c_skip ?_
  refine then_n ?_
  refine c_seq ?_
  refine c_block ?_
  refine c_seq ?_
  refine c_region ?_
  refine st hA31 (op_move rfl (hA31.ev rfl)) rfl rfl (by decide) fun a33 hA34 => ?_; clear hA31 a30
  refine st hA34 (op_assign rfl (hA34.ev rfl)) rfl rfl (by decide) fun a35 hA36 => ?_; clear hA34 a33
  refine wl_nil ?_
  refine then_n ?_
  refine c_seq ?_
  refine c_region ?_
  refine st hA36 (op_move rfl (hA36.ev rfl)) rfl rfl (by decide) fun a37 hA38 => ?_; clear hA36 a35
  refine st hA38 (op_nilCheck rfl (hA38.ev rfl)) rfl rfl (by decide) fun a39 hA40 => ?_; clear hA38 a37
  refine st hA40 (op_field rfl fd_146_0 (hA40.ev rfl)) rfl rfl (by decide) fun a41 hA42 => ?_; clear hA40 a39
  refine st hA42 (op_field rfl fd_37_0 (hA42.ev rfl)) rfl rfl (by decide) fun a43 hA44 => ?_; clear hA42 a41
  refine st hA44 (op_load1 rfl ty_3 (hA44.ev rfl) (hS29.rk 2 rfl) rfl) rfl rfl (by decide) fun a45 hA46 => ?_; clear hA44 a43
  refine st hA46 (op_move rfl (evc _ _)) rfl rfl (by decide) fun a47 hA48 => ?_; clear hA46 a45
  refine wl_nil ?_
  refine then_n ?_
  refine c_block ?_
  have hA49 := hA48.as [(23, (Value.int .i64 0)), (22, (Value.int .i64 b.scales)), (6, (Value.int .i64 (k : Int))), (15, (Value.int .i64 (k : Int))), (14, (Value.int .i64 b.scales)), (4, (bptr b9 0)), (3, (bptr b4 0)), (0, (bptr bx 0))] rfl; clear hA48
  refine c_loop (G := Nat) (fun (k2 : Nat) a_ w_ => ∃ x1 : List (Int × Int), Fr 71 [] [(23, (Value.int .i64 (k2 : Int))), (22, (Value.int .i64 b.scales)), (6, (Value.int .i64 (k : Int))), (15, (Value.int .i64 (k : Int))), (14, (Value.int .i64 b.scales)), (4, (bptr b9 0)), (3, (bptr b4 0)), (0, (bptr bx 0))] a_ ∧ Sep NoB w w_ [(blk b9 120 (pairs ([(0, 0), (0, 0), (0, 0), (0, 0)]))), (blk b4 120 (pairs x1)), (rob bx 146 [(Value.int .i64 b.scales), vt, vm, (Value.map (some bm))]), (mapX false bm es ck es.size 106 5 (bN b.tabs b.tabs.length) (bC lr lb b.tabs b.tabs.length)), (tabsR false vt lr lb b.tabs), (macsR false vm lk b.macs)] ∧ (k2 ≤ b.scales.toNat) ∧ (x1.length = 4) ∧ (Cut1 b.scales.toNat b.tabs s k k2 x1)) (fun k2 => b.scales.toNat - k2) 0 ⟨x0, hA49.as _ rfl, hS29, by omega, hl0, (cut_01 (by omega) hc0)⟩ ?_
  clear hA49 hS29 a47
  rintro k2 a50 w52 ⟨x1, hA51, hS53, hk2, hl1, hc1⟩
  refine c_seq ?_
  refine c_region ?_
  refine st hA51 (op_lss rfl (hA51.ev rfl) (hA51.ev rfl)) rfl rfl (by decide) fun a54 hA55 => ?_; clear hA51 a50
  refine wl_nil ?_
  refine then_n ?_
  refine c_seq ?_
  by_cases hb56 : (k2 : Int) < b.scales
  ·skip
   rw [decide_eq_true hb56] at hA55
   refine c_true hA55 rfl ?_
   refine c_skip ?_
   refine then_n ?_
   refine c_seq ?_
   refine c_block ?_
   refine c_seq ?_
   refine c_region ?_
   refine st hA55 (op_move rfl (hA55.ev rfl)) rfl rfl (by decide) fun a57 hA58 => ?_; clear hA55 a54
   refine st hA58 (op_assign rfl (hA58.ev rfl)) rfl rfl (by decide) fun a59 hA60 => ?_; clear hA58 a57
   refine wl_nil ?_
   refine then_n ?_
   refine c_seq ?_
   refine c_region ?_
   refine st hA60 (op_move rfl (hA60.ev rfl)) rfl rfl (by decide) fun a61 hA62 => ?_; clear hA60 a59
   refine st hA62 (op_nilCheck rfl (hA62.ev rfl)) rfl rfl (by decide) fun a63 hA64 => ?_; clear hA62 a61
   refine st hA64 (op_field rfl fd_146_1 (hA64.ev rfl)) rfl rfl (by decide) fun a65 hA66 => ?_; clear hA64 a63
   refine st hA66 (op_load1 rfl ty_144 (hA66.ev rfl) (hS53.rk 2 rfl) rfl) rfl rfl (by decide) fun a67 hA68 => ?_; clear hA66 a65
   refine st hA68 (op_move rfl (hA68.ev rfl)) rfl rfl (by decide) fun a69 hA70 => ?_; clear hA68 a67
   refine st hA70 (op_move rfl (hA70.ev rfl)) rfl rfl (by decide) fun a71 hA72 => ?_; clear hA70 a69
   refine st hA72 (op_build rfl (pv2 (hA72.ev rfl) (hA72.ev rfl)) (bd_162_0i_1i _ _)) rfl rfl (by decide) fun a73 hA74 => ?_; clear hA72 a71
   refine stw hA74 (op_lookupF hS53 rfl un_144 pair_162 zs_34 (hA74.ev rfl) (hA74.ev rfl) (ix := 3) rfl hMO (fun _ _ => bC_zero)) rfl rfl (by decide) ?_
   rintro a75 u W_ ⟨hW_, hu⟩ hA76; have hW2_ := hW_.symm; subst hW2_; clear hW_ hA74 a73
   have hsl : (selT b.tabs (selU b.tabs b.tabs.length (k2 : Int) (k : Int))).length = bN b.tabs b.tabs.length (k2 : Int) (k : Int) := selT_len _ _; have hbn := bN_le b.tabs b.tabs.length (k2 : Int) (k : Int)
   refine st hA76 (op_lenS rfl un_34 (hA76.ev rfl) (tabs_sel (tabs_at (hS53.ok 4 _ rfl)) (fun q_ h_ => selU_lt h_) (hu _ (hS53.ok 3 _ rfl))).tabs) rfl rfl (by decide) fun a77 hA78 => ?_; clear hA76 a75
   refine st hA78 (op_move rfl (evc _ _)) rfl rfl (by decide) fun a79 hA80 => ?_; clear hA78 a77
   refine wl_nil ?_
   refine then_n ?_
   refine c_block ?_
   have hA81 := hA80.as [(35, (Value.int .i64 0)), (34, (Value.int .i64 ((selT b.tabs (selU b.tabs b.tabs.length (k2 : Int) (k : Int))).length : Int))), (33, u), (7, (Value.int .i64 (k2 : Int))), (23, (Value.int .i64 (k2 : Int))), (22, (Value.int .i64 b.scales)), (6, (Value.int .i64 (k : Int))), (15, (Value.int .i64 (k : Int))), (14, (Value.int .i64 b.scales)), (4, (bptr b9 0)), (3, (bptr b4 0)), (0, (bptr bx 0))] rfl; clear hA80
   refine c_loop (G := Nat) (fun (k3 : Nat) a_ w_ => ∃ x2 : List (Int × Int), Fr 71 [] [(35, (Value.int .i64 (k3 : Int))), (34, (Value.int .i64 ((selT b.tabs (selU b.tabs b.tabs.length (k2 : Int) (k : Int))).length : Int))), (33, u), (7, (Value.int .i64 (k2 : Int))), (23, (Value.int .i64 (k2 : Int))), (22, (Value.int .i64 b.scales)), (6, (Value.int .i64 (k : Int))), (15, (Value.int .i64 (k : Int))), (14, (Value.int .i64 b.scales)), (4, (bptr b9 0)), (3, (bptr b4 0)), (0, (bptr bx 0))] a_ ∧ Sep NoB w w_ [(blk b9 120 (pairs ([(0, 0), (0, 0), (0, 0), (0, 0)]))), (blk b4 120 (pairs x2)), (rob bx 146 [(Value.int .i64 b.scales), vt, vm, (Value.map (some bm))]), (mapX false bm es ck es.size 106 5 (bN b.tabs b.tabs.length) (bC lr lb b.tabs b.tabs.length)), (tabsR false vt lr lb b.tabs), (macsR false vm lk b.macs)] ∧ (k3 ≤ (selT b.tabs (selU b.tabs b.tabs.length (k2 : Int) (k : Int))).length) ∧ (x2.length = 4) ∧ (Cut2 b.scales.toNat b.tabs s k k2 k3 x2)) (fun k3 => (selT b.tabs (selU b.tabs b.tabs.length (k2 : Int) (k : Int))).length - k3) 0 ⟨x1, hA81.as _ rfl, hS53, by omega, hl1, (cut_12 (by omega) hc1)⟩ ?_
   clear hA81 hS53 a79
   rintro k3 a82 w84 ⟨x2, hA83, hS85, hk3, hl2, hc2⟩
   refine c_seq ?_
   refine c_region ?_
   refine st hA83 (op_lss rfl (hA83.ev rfl) (hA83.ev rfl)) rfl rfl (by decide) fun a86 hA87 => ?_; clear hA83 a82
   refine wl_nil ?_
   refine then_n ?_
   refine c_seq ?_
   by_cases hb88 : (k3 : Int) < ((selT b.tabs (selU b.tabs b.tabs.length (k2 : Int) (k : Int))).length : Int)
   ·skip
    rw [decide_eq_true hb88] at hA87
    refine c_true hA87 rfl ?_
    refine c_skip ?_
    refine then_n ?_
    refine c_seq ?_
    refine c_block ?_
    refine c_seq ?_
    refine c_region ?_
    refine st hA87 (op_indexS rfl un_34 ty_106 (hA87.ev rfl) (i := k3) (hA87.ev rfl) (tabs_sel (tabs_at (hS85.ok 4 _ rfl)) (fun q_ h_ => selU_lt h_) (hu _ (hS85.ok 3 _ rfl))).tabs (by decide) (by omega)) rfl rfl (by decide) fun a89 hA90 => ?_; clear hA87 a86
    refine st hA90 (op_loadAE rfl ty_106 (hA90.ev rfl) (tabs_sel (tabs_at (hS85.ok 4 _ rfl)) (fun q_ h_ => selU_lt h_) (hu _ (hS85.ok 3 _ rfl))).tabs (tabs_all (by omega)) rfl (by decide)) rfl rfl (by decide) fun a91 hA92 => ?_; clear hA90 a89
    refine stw hA92 (op_alloc hS85 rfl ze_106 (cs := [(Value.int .i64 0), (Value.int .i64 0), (Value.slice none 0 0), (Value.slice none 0 0), (Value.int .i64 0)]) rfl) rfl rfl (by decide) ?_
    rintro a93 _ w95 ⟨b96, rfl, hS97⟩ hA94; clear hA92 hS85 a91
    refine sts hA94 (op_store hS97 rfl ty_106 (hA94.ev rfl) (hA94.ev rfl) (i := 0) rfl (vs := [(Value.int .i64 (((selT b.tabs (selU b.tabs b.tabs.length (k2 : Int) (k : Int))).getD k3 tab0).frm)), (Value.int .i64 (((selT b.tabs (selU b.tabs b.tabs.length (k2 : Int) (k : Int))).getD k3 tab0).dst)), ((selV lr (selU b.tabs b.tabs.length (k2 : Int) (k : Int))) k3), ((selV lb (selU b.tabs b.tabs.length (k2 : Int) (k : Int))) k3), (Value.int .i64 (((selT b.tabs (selU b.tabs b.tabs.length (k2 : Int) (k : Int))).getD k3 tab0).err))]) rfl rfl (all_c rfl (all_c rfl (all_c (SlAt.one ((tabs_sel (tabs_at (hS97.ok 5 _ rfl)) (fun q_ h_ => selU_lt h_) (hu _ (hS97.ok 4 _ rfl))).row (i := k3) (by omega))) (all_c (SlAt.one ((tabs_sel (tabs_at (hS97.ok 5 _ rfl)) (fun q_ h_ => selU_lt h_) (hu _ (hS97.ok 4 _ rfl))).brk (i := k3) (by omega))) (all_c rfl all_n))))) (Nat.le_of_ble_eq_true rfl)) rfl rfl ?_
    intro _ w98 hS99 hA100; clear hA94
    have hS101 : Sep NoB w w98 [(blk b96 106 [(Value.int .i64 (((selT b.tabs (selU b.tabs b.tabs.length (k2 : Int) (k : Int))).getD k3 tab0).frm)), (Value.int .i64 (((selT b.tabs (selU b.tabs b.tabs.length (k2 : Int) (k : Int))).getD k3 tab0).dst)), ((selV lr (selU b.tabs b.tabs.length (k2 : Int) (k : Int))) k3), ((selV lb (selU b.tabs b.tabs.length (k2 : Int) (k : Int))) k3), (Value.int .i64 (((selT b.tabs (selU b.tabs b.tabs.length (k2 : Int) (k : Int))).getD k3 tab0).err))]), (blk b9 120 (pairs ([(0, 0), (0, 0), (0, 0), (0, 0)]))), (blk b4 120 (pairs x2)), (rob bx 146 [(Value.int .i64 b.scales), vt, vm, (Value.map (some bm))]), (mapX false bm es ck es.size 106 5 (bN b.tabs b.tabs.length) (bC lr lb b.tabs b.tabs.length)), (tabsR false vt lr lb b.tabs), (macsR false vm lk b.macs)] := hS99; clear hS99 hS97
    refine wl_nil ?_
    refine then_n ?_
    refine c_seq ?_
    refine c_seq ?_
    refine c_region ?_
    refine st hA100 (op_move rfl (hA100.ev rfl)) rfl rfl (by decide) fun a102 hA103 => ?_; clear hA100 a93
    refine st hA103 (op_indexA rfl un_120 ty_30 (hA103.ev rfl) (i := k) (hA103.ev rfl) (by omega)) rfl rfl (by decide) fun a104 hA105 => ?_; clear hA103 a102
    refine st hA105 (op_loadA rfl ty_30 (hA105.ev rfl) (hS101.bk 2 rfl) (l := [(Value.int .i64 ((x2.getD k (0, 0)).1)), (Value.int .i64 ((x2.getD k (0, 0)).2))]) (pairs_all0 (xs := x2) (i := k) (by omega)) rfl) rfl rfl (by decide) fun a106 hA107 => ?_; clear hA105 a104
    refine stw hA107 (op_call rfl en_68 (ev1 (hA107.ev rfl)) (empty_ok _ _ _)) rfl rfl (by decide) ?_
    rintro a108 _ w110 ⟨rfl, hE111⟩ hA109; have hS112 := hS101.step hE111; clear hE111 hA107 hS101 a106
    refine wl_nil ?_
    refine then_n ?_
    by_cases hb113 : ((x2.getD k (0, 0)).2) < ((x2.getD k (0, 0)).1)
    ·skip
     rw [decide_eq_true hb113] at hA109
     refine c_true hA109 rfl ?_
     refine c_exit ?_
     refine then_exit ?_
     refine blk_miss (by decide) ?_
     refine then_exit ?_
     refine then_exit ?_
     refine blk_miss (by decide) ?_
     refine blk_miss (by decide) ?_
     refine then_exit ?_
     refine then_exit ?_
     refine blk_miss (by decide) ?_
     refine blk_miss (by decide) ?_
     refine then_exit ?_
     refine then_exit ?_
     refine blk_hit ?_
     refine then_n ?_
     refine c_seq ?_
     have hA114 := hA109.as [(4, (bptr b9 0)), (3, (bptr b4 0)), (0, (bptr bx 0))] rfl; clear hA109
     have hA115 := hA114.as [(4, (bptr b9 0)), (3, (bptr b4 0)), (0, (bptr bx 0))] rfl; clear hA114
     refine c_drawF mixed hA115 hS112 9 8 rfl rfl [[], [], [1], [2], [3], [4], [5], [6], [7]] [(fun (vs116 : Nat → Value) (v_ : Value) (rs_ : List Res) => v_ = (Value.agg (pairs x2).toArray) ∧ rs_ = []), (fun (vs116 : Nat → Value) (v_ : Value) (rs_ : List Res) => v_ = (bptr bx 0) ∧ rs_ = []), (fun (vs116 : Nat → Value) (v_ : Value) (rs_ : List Res) => v_ = (bptr bx 0) ∧ rs_ = []), (fun (vs116 : Nat → Value) (v_ : Value) (rs_ : List Res) => v_ = (bptr bx 0) ∧ rs_ = []), (fun (vs116 : Nat → Value) (v_ : Value) (rs_ : List Res) => v_ = (bptr bx 0) ∧ rs_ = []), (fun (vs116 : Nat → Value) (v_ : Value) (rs_ : List Res) => v_ = (Value.int .i64 b.scales) ∧ rs_ = []), (fun (vs116 : Nat → Value) (v_ : Value) (rs_ : List Res) => v_ = (Value.slice (some ⟨b4, 0, none⟩) b.scales.toNat 4) ∧ rs_ = []), (fun (vs116 : Nat → Value) (v_ : Value) (rs_ : List Res) => v_ = (Value.bool ((List.range (x2.take b.scales.toNat).length).any fun i => decide (((x2.take b.scales.toNat).getD i (0, 0)).2 < ((x2.take b.scales.toNat).getD i (0, 0)).1))) ∧ rs_ = []), (fun (vs116 : Nat → Value) (v_ : Value) (rs_ : List Res) => v_ = (Value.bool (!((List.range (x2.take b.scales.toNat).length).any fun i => decide (((x2.take b.scales.toNat).getD i (0, 0)).2 < ((x2.take b.scales.toNat).getD i (0, 0)).1)))) ∧ rs_ = [])] (by decide +kernel) (by decide +kernel) (by decide +kernel) rfl rfl ⟨(fun _ _ _ _ _ h_ => h_), (fun _ _ _ _ _ h_ => h_), (fun _ _ _ _ _ h_ => h_), (fun _ _ _ _ _ h_ => h_), (fun _ _ _ _ _ h_ => h_), (fun _ _ _ _ _ h_ => h_), (fun _ _ _ _ _ h_ => h_), (fun _ _ _ _ _ h_ => h_), (fun _ _ _ _ _ h_ => h_), trivial⟩ ?_ ?_ ?_
     ·skip
      refine ⟨fun a w vs116 hA hS hd => ?_, ?_⟩
      ·skip
       exact opG_of rfl (vv (op_loadA rfl ty_120 (hA.ev rfl) (hS.bk 2 rfl) (l := (pairs x2)) (drop_take_all _ _ (show (pairs x2).length = 8 from by simp only [pairs_length, List.length_set]; omega)) (show (pairs x2).length = 8 from by simp only [pairs_length, List.length_set]; omega)) (And.intro rfl rfl))
      refine ⟨fun a w vs116 hA hS hd => ?_, ?_⟩
      ·skip
       exact opG_of rfl (vv (op_move rfl (hA.ev rfl)) (And.intro rfl rfl))
      refine ⟨fun a w vs116 hA hS hd => ?_, ?_⟩
      ·skip
       obtain ⟨e1, rs1, hy1, hp1⟩ := hd 1 (by decide)
       obtain ⟨hv1, hr1⟩ := hy1; subst hr1
       rw [hv1] at e1
       exact opG_of rfl (vv (op_nilCheck rfl (tmp_ev (slot_ev e1 rfl))) (And.intro rfl rfl))
      refine ⟨fun a w vs116 hA hS hd => ?_, ?_⟩
      ·skip
       obtain ⟨e2, rs2, hy2, hp2⟩ := hd 2 (by decide)
       obtain ⟨hv2, hr2⟩ := hy2; subst hr2
       rw [hv2] at e2
       exact opG_of rfl (vv (op_field rfl fd_146_0 (tmp_ev (slot_ev e2 rfl))) (And.intro rfl rfl))
      refine ⟨fun a w vs116 hA hS hd => ?_, ?_⟩
      ·skip
       obtain ⟨e3, rs3, hy3, hp3⟩ := hd 3 (by decide)
       obtain ⟨hv3, hr3⟩ := hy3; subst hr3
       rw [hv3] at e3
       exact opG_of rfl (vv (op_field rfl fd_37_0 (tmp_ev (slot_ev e3 rfl))) (And.intro rfl rfl))
      refine ⟨fun a w vs116 hA hS hd => ?_, ?_⟩
      ·skip
       obtain ⟨e4, rs4, hy4, hp4⟩ := hd 4 (by decide)
       obtain ⟨hv4, hr4⟩ := hy4; subst hr4
       rw [hv4] at e4
       exact opG_of rfl (vv (op_load1 rfl ty_3 (tmp_ev (slot_ev e4 rfl)) (hS.rk 3 rfl) rfl) (And.intro rfl rfl))
      refine ⟨fun a w vs116 hA hS hd => ?_, ?_⟩
      ·skip
       obtain ⟨e5, rs5, hy5, hp5⟩ := hd 5 (by decide)
       obtain ⟨hv5, hr5⟩ := hy5; subst hr5
       rw [hv5] at e5
       exact opG_of rfl (vv (op_sliceArr rfl un_120 ty_30 (hA.ev rfl) (h := b.scales.toNat) ((tmp_ev (slot_ev e5 rfl)).trans (int_nat (by omega))) (by omega)) (And.intro rfl rfl))
      refine ⟨fun a w vs116 hA hS hd => ?_, ?_⟩
      ·skip
       obtain ⟨e6, rs6, hy6, hp6⟩ := hd 6 (by decide)
       obtain ⟨hv6, hr6⟩ := hy6; subst hr6
       rw [hv6] at e6
       exact opG_of rfl (vx (op_call rfl en_108 (ev2 (tmp_ev (slot_ev e6 rfl)) (evf _ _)) (contf_rng (x2.take b.scales.toNat) _ 68 #[] #[] (fun i => decide (((x2.take b.scales.toNat).getD i (0, 0)).2 < ((x2.take b.scales.toNat).getD i (0, 0)).1)) _ ((SlAt.of_blkCut (hS.bk 2 rfl) (by rw [pairs_length]; omega) (by omega) (by decide)).say (by rw [List.length_take]; omega) (pairs_takeH _ _)) (by rw [List.length_take]; omega) ⟨en_68, fun i hi W hW => empty_ok _ _ W⟩)) (And.intro rfl rfl))
      refine ⟨fun a w vs116 hA hS hd => ?_, ?_⟩
      ·skip
       obtain ⟨e7, rs7, hy7, hp7⟩ := hd 7 (by decide)
       obtain ⟨hv7, hr7⟩ := hy7; subst hr7
       rw [hv7] at e7
       exact opG_of rfl (vv (op_not rfl (tmp_ev (slot_ev e7 rfl))) (And.intro rfl rfl))
      trivial
     ·skip
      intro a117 w118 vs116 rsf122 hA119 hH121 hS120; clear hA115 hS112
      obtain ⟨hs_0, hy_0⟩ := hH121 0 (by decide)
      obtain ⟨hv_0, hr_0⟩ := hy_0
      obtain ⟨hs_1, hy_1⟩ := hH121 1 (by decide)
      obtain ⟨hv_1, hr_1⟩ := hy_1
      obtain ⟨hs_2, hy_2⟩ := hH121 2 (by decide)
      obtain ⟨hv_2, hr_2⟩ := hy_2
      obtain ⟨hs_3, hy_3⟩ := hH121 3 (by decide)
      obtain ⟨hv_3, hr_3⟩ := hy_3
      obtain ⟨hs_4, hy_4⟩ := hH121 4 (by decide)
      obtain ⟨hv_4, hr_4⟩ := hy_4
      obtain ⟨hs_5, hy_5⟩ := hH121 5 (by decide)
      obtain ⟨hv_5, hr_5⟩ := hy_5
      obtain ⟨hs_6, hy_6⟩ := hH121 6 (by decide)
      obtain ⟨hv_6, hr_6⟩ := hy_6
      obtain ⟨hs_7, hy_7⟩ := hH121 7 (by decide)
      obtain ⟨hv_7, hr_7⟩ := hy_7
      obtain ⟨hs_8, hy_8⟩ := hH121 8 (by decide)
      obtain ⟨hv_8, hr_8⟩ := hy_8
      have hS123 : Sep NoB w w118 [(blk b96 106 [(Value.int .i64 (((selT b.tabs (selU b.tabs b.tabs.length (k2 : Int) (k : Int))).getD k3 tab0).frm)), (Value.int .i64 (((selT b.tabs (selU b.tabs b.tabs.length (k2 : Int) (k : Int))).getD k3 tab0).dst)), ((selV lr (selU b.tabs b.tabs.length (k2 : Int) (k : Int))) k3), ((selV lb (selU b.tabs b.tabs.length (k2 : Int) (k : Int))) k3), (Value.int .i64 (((selT b.tabs (selU b.tabs b.tabs.length (k2 : Int) (k : Int))).getD k3 tab0).err))]), (blk b9 120 (pairs ([(0, 0), (0, 0), (0, 0), (0, 0)]))), (blk b4 120 (pairs x2)), (rob bx 146 [(Value.int .i64 b.scales), vt, vm, (Value.map (some bm))]), (mapX false bm es ck es.size 106 5 (bN b.tabs b.tabs.length) (bC lr lb b.tabs b.tabs.length)), (tabsR false vt lr lb b.tabs), (macsR false vm lk b.macs)] := by rw [show catR rsf122 0 9 = ([] : List Res) by (try simp only [catR, hr_0, hr_1, hr_2, hr_3, hr_4, hr_5, hr_6, hr_7, hr_8]); (try rfl)] at hS120; exact hS120
      rw [hv_0] at hs_0
      have hA124 : Fr 71 [] [(62, (Value.agg (pairs x2).toArray)), (4, (bptr b9 0)), (3, (bptr b4 0)), (0, (bptr bx 0))] a117 := hA119.add (slot_ev hs_0 rfl); clear hA119
      rw [hv_8] at hs_8
      have hA125 : Fr 71 [] [(70, (Value.bool (!((List.range (x2.take b.scales.toNat).length).any fun i => decide (((x2.take b.scales.toNat).getD i (0, 0)).2 < ((x2.take b.scales.toNat).getD i (0, 0)).1))))), (62, (Value.agg (pairs x2).toArray)), (4, (bptr b9 0)), (3, (bptr b4 0)), (0, (bptr bx 0))] a117 := hA124.add (slot_ev hs_8 rfl); clear hA124
      clear hH121 hS120 hs_0 hs_1 hs_2 hs_3 hs_4 hs_5 hs_6 hs_7 hs_8
      clear hr_0
      clear hv_0
      clear hr_1
      clear hv_1
      clear hr_2
      clear hv_2
      clear hr_3
      clear hv_3
      clear hr_4
      clear hv_4
      clear hr_5
      clear hv_5
      clear hr_6
      clear hv_6
      clear hr_7
      clear hv_7
      clear hr_8
      clear hv_8
      refine sts hA125 (op_store hS123 rfl ty_120 (hA125.ev rfl) (hA125.ev rfl) (i := 1) rfl (vs := (pairs x2)) rfl (show (pairs x2).length = 8 from by simp only [pairs_length, List.length_set]; omega) (pairs_one _) (by simp only [pairs_length, List.length_set, List.length_cons, List.length_nil]; omega)) rfl rfl ?_
      intro _ w126 hS127 hA129; have hS128 := hS127.blk_say (i := 1) rfl (cs' := (pairs x2)) (setFrom_all _ _ (by first | (simp only [pairs_length, List.length_set, List.length_cons, List.length_nil]; done) | (simp only [pairs_length, List.length_set, List.length_cons, List.length_nil]; omega))); clear hS127 hA125 hS123
      refine st hA129 (op_assign rfl (hA129.ev rfl)) rfl rfl (by decide) fun a130 hA131 => ?_; clear hA129 a117
      refine wl_nil ?_
      refine then_n ?_
      refine c_ret ?_
      refine ng_ret ?_
      refine fin_run hA131 (.inl rfl) (run_results2 hA131 rfl (.cellA rfl ty_120 (hS128.bk 1 rfl) (l := (pairs x2)) (drop_take_all _ _ (show (pairs x2).length = 8 from by simp only [pairs_length, List.length_set]; omega)) (show (pairs x2).length = 8 from by simp only [pairs_length, List.length_set]; omega)) (.tmp rfl)) ?_
      have hz : passF (orderF b.scales.toNat b.tabs) s = (x2, true) := cut_brk (by omega) hc2 (by assumption)
      exact ⟨by rw [hz, ← full_any (s := x2) (by omega)], hS128.ext⟩
     ·skip
      intro a132 w133 vs116 rsf137 hA134 hH136 hrq hS135; clear hA115 hS112
      obtain ⟨hs_0, hy_0⟩ := hH136 0 (by decide) (by decide)
      obtain ⟨hv_0, hr_0⟩ := hy_0
      obtain ⟨hs_1, hy_1⟩ := hH136 1 (by decide) (by decide)
      obtain ⟨hv_1, hr_1⟩ := hy_1
      obtain ⟨hs_2, hy_2⟩ := hH136 2 (by decide) (by decide)
      obtain ⟨hv_2, hr_2⟩ := hy_2
      obtain ⟨hs_3, hy_3⟩ := hH136 3 (by decide) (by decide)
      obtain ⟨hv_3, hr_3⟩ := hy_3
      obtain ⟨hs_4, hy_4⟩ := hH136 4 (by decide) (by decide)
      obtain ⟨hv_4, hr_4⟩ := hy_4
      obtain ⟨hs_5, hy_5⟩ := hH136 5 (by decide) (by decide)
      obtain ⟨hv_5, hr_5⟩ := hy_5
      obtain ⟨hs_6, hy_6⟩ := hH136 6 (by decide) (by decide)
      obtain ⟨hv_6, hr_6⟩ := hy_6
      obtain ⟨hs_7, hy_7⟩ := hH136 7 (by decide) (by decide)
      obtain ⟨hv_7, hr_7⟩ := hy_7
      have hS138 : Sep NoB w w133 [(blk b96 106 [(Value.int .i64 (((selT b.tabs (selU b.tabs b.tabs.length (k2 : Int) (k : Int))).getD k3 tab0).frm)), (Value.int .i64 (((selT b.tabs (selU b.tabs b.tabs.length (k2 : Int) (k : Int))).getD k3 tab0).dst)), ((selV lr (selU b.tabs b.tabs.length (k2 : Int) (k : Int))) k3), ((selV lb (selU b.tabs b.tabs.length (k2 : Int) (k : Int))) k3), (Value.int .i64 (((selT b.tabs (selU b.tabs b.tabs.length (k2 : Int) (k : Int))).getD k3 tab0).err))]), (blk b9 120 (pairs ([(0, 0), (0, 0), (0, 0), (0, 0)]))), (blk b4 120 (pairs x2)), (rob bx 146 [(Value.int .i64 b.scales), vt, vm, (Value.map (some bm))]), (mapX false bm es ck es.size 106 5 (bN b.tabs b.tabs.length) (bC lr lb b.tabs b.tabs.length)), (tabsR false vt lr lb b.tabs), (macsR false vm lk b.macs)] := by rw [show catR rsf137 0 9 = ([] : List Res) by (try simp only [catR, hr_0, hr_1, hr_2, hr_3, hr_4, hr_5, hr_6, hr_7, hrq]); (try rfl)] at hS135; exact hS135
      rw [hv_0] at hs_0
      have hA139 : Fr 71 [] [(62, (Value.agg (pairs x2).toArray)), (4, (bptr b9 0)), (3, (bptr b4 0)), (0, (bptr bx 0))] a132 := hA134.add (slot_ev hs_0 rfl); clear hA134
      rw [hv_7] at hs_7
      have hA140 : Fr 71 [] [(69, (Value.bool ((List.range (x2.take b.scales.toNat).length).any fun i => decide (((x2.take b.scales.toNat).getD i (0, 0)).2 < ((x2.take b.scales.toNat).getD i (0, 0)).1)))), (62, (Value.agg (pairs x2).toArray)), (4, (bptr b9 0)), (3, (bptr b4 0)), (0, (bptr bx 0))] a132 := hA139.add (slot_ev hs_7 rfl); clear hA139
      clear hH136 hS135 hs_0 hs_1 hs_2 hs_3 hs_4 hs_5 hs_6 hs_7 hrq
      clear hr_0
      clear hv_0
      clear hr_1
      clear hv_1
      clear hr_2
      clear hv_2
      clear hr_3
      clear hv_3
      clear hr_4
      clear hv_4
      clear hr_5
      clear hv_5
      clear hr_6
      clear hv_6
      clear hr_7
      clear hv_7
      refine sts hA140 (op_store hS138 rfl ty_120 (hA140.ev rfl) (hA140.ev rfl) (i := 1) rfl (vs := (pairs x2)) rfl (show (pairs x2).length = 8 from by simp only [pairs_length, List.length_set]; omega) (pairs_one _) (by simp only [pairs_length, List.length_set, List.length_cons, List.length_nil]; omega)) rfl rfl ?_
      intro _ w141 hS142 hA144; have hS143 := hS142.blk_say (i := 1) rfl (cs' := (pairs x2)) (setFrom_all _ _ (by first | (simp only [pairs_length, List.length_set, List.length_cons, List.length_nil]; done) | (simp only [pairs_length, List.length_set, List.length_cons, List.length_nil]; omega))); clear hS142 hA140 hS138
      refine st hA144 (op_not rfl (hA144.ev rfl)) rfl rfl (by decide) fun a145 hA146 => ?_; clear hA144 a132
      refine st hA146 (op_assign rfl (hA146.ev rfl)) rfl rfl (by decide) fun a147 hA148 => ?_; clear hA146 a145
      refine wl_nil ?_
      refine then_n ?_
      refine c_ret ?_
      refine ng_ret ?_
      refine fin_run hA148 (.inl rfl) (run_results2 hA148 rfl (.cellA rfl ty_120 (hS143.bk 1 rfl) (l := (pairs x2)) (drop_take_all _ _ (show (pairs x2).length = 8 from by simp only [pairs_length, List.length_set]; omega)) (show (pairs x2).length = 8 from by simp only [pairs_length, List.length_set]; omega)) (.tmp rfl)) ?_
      have hz : passF (orderF b.scales.toNat b.tabs) s = (x2, true) := cut_brk (by omega) hc2 (by assumption)
      exact ⟨by rw [hz, ← full_any (s := x2) (by omega)], hS143.ext⟩
    ·skip
     rw [decide_eq_false hb113] at hA109
     refine c_false hA109 rfl ?_
     refine c_skip ?_
     refine then_n ?_
     refine c_seq ?_
     have hA149 := hA109.as [(9, (bptr b96 0)), (35, (Value.int .i64 (k3 : Int))), (34, (Value.int .i64 ((selT b.tabs (selU b.tabs b.tabs.length (k2 : Int) (k : Int))).length : Int))), (33, u), (7, (Value.int .i64 (k2 : Int))), (23, (Value.int .i64 (k2 : Int))), (22, (Value.int .i64 b.scales)), (6, (Value.int .i64 (k : Int))), (15, (Value.int .i64 (k : Int))), (14, (Value.int .i64 b.scales)), (4, (bptr b9 0)), (3, (bptr b4 0)), (0, (bptr bx 0))] rfl; clear hA109
     have hA150 := hA149.as [(9, (bptr b96 0)), (35, (Value.int .i64 (k3 : Int))), (34, (Value.int .i64 ((selT b.tabs (selU b.tabs b.tabs.length (k2 : Int) (k : Int))).length : Int))), (33, u), (7, (Value.int .i64 (k2 : Int))), (23, (Value.int .i64 (k2 : Int))), (22, (Value.int .i64 b.scales)), (6, (Value.int .i64 (k : Int))), (15, (Value.int .i64 (k : Int))), (14, (Value.int .i64 b.scales)), (4, (bptr b9 0)), (3, (bptr b4 0)), (0, (bptr bx 0))] rfl; clear hA149
     refine c_drawn mixed hA150 hS112 4 [[], [], [1], [2]] [(Yd.val (Value.agg #[(Value.int .i64 (((selT b.tabs (selU b.tabs b.tabs.length (k2 : Int) (k : Int))).getD k3 tab0).frm)), (Value.int .i64 (((selT b.tabs (selU b.tabs b.tabs.length (k2 : Int) (k : Int))).getD k3 tab0).dst)), ((selV lr (selU b.tabs b.tabs.length (k2 : Int) (k : Int))) k3), ((selV lb (selU b.tabs b.tabs.length (k2 : Int) (k : Int))) k3), (Value.int .i64 (((selT b.tabs (selU b.tabs b.tabs.length (k2 : Int) (k : Int))).getD k3 tab0).err))])), (Yd.val (Value.int .i64 (k2 : Int))), (Yd.val (bptr b4 (0 + k2 * 2))), (Yd.val (Value.agg #[(Value.int .i64 ((x2.getD k2 (0, 0)).1)), (Value.int .i64 ((x2.getD k2 (0, 0)).2))]))] (by decide +kernel) rfl rfl ?_ ?_
     ·skip
      refine ⟨fun a w hA hS hd => by exact opG_of rfl (dv (op_loadA rfl ty_106 (hA.ev rfl) (hS.bk 0 rfl) (l := [(Value.int .i64 (((selT b.tabs (selU b.tabs b.tabs.length (k2 : Int) (k : Int))).getD k3 tab0).frm)), (Value.int .i64 (((selT b.tabs (selU b.tabs b.tabs.length (k2 : Int) (k : Int))).getD k3 tab0).dst)), ((selV lr (selU b.tabs b.tabs.length (k2 : Int) (k : Int))) k3), ((selV lb (selU b.tabs b.tabs.length (k2 : Int) (k : Int))) k3), (Value.int .i64 (((selT b.tabs (selU b.tabs b.tabs.length (k2 : Int) (k : Int))).getD k3 tab0).err))]) rfl rfl) hS rfl), ?_⟩
      refine ⟨fun a w hA hS hd => by exact opG_of rfl (dv (op_move rfl (hA.ev rfl)) hS rfl), ?_⟩
      refine ⟨fun a w hA hS hd => by have e1 := has_ev (hd 1 (by decide)) rfl (fun _ h => h); exact opG_of rfl (dv (op_indexA rfl un_120 ty_30 (hA.ev rfl) (i := k2) (tmp_ev e1) (by omega)) hS rfl), ?_⟩
      refine ⟨fun a w hA hS hd => by have e2 := has_ev (hd 2 (by decide)) rfl (fun _ h => h); exact opG_of rfl (dv (op_loadA rfl ty_30 (tmp_ev e2) (hS.bk 2 rfl) (l := [(Value.int .i64 ((x2.getD k2 (0, 0)).1)), (Value.int .i64 ((x2.getD k2 (0, 0)).2))]) (pairs_all0 (xs := x2) (i := k2) (by omega)) rfl) hS rfl), ?_⟩
      trivial
     intro a152 w153 hA154 hS155 hH156; clear hA150 hS112
     have hA157 := hA154.add (has_ev (hH156 0 (by decide)) rfl (fun _ h => h)); clear hA154
     have hA158 := hA157.add (has_ev (hH156 3 (by decide)) rfl (fun _ h => h)); clear hA157
     clear hH156
     refine stw hA158 (op_call rfl en_49 (ev2 (hA158.ev rfl) (hA158.ev rfl)) (converts_ok ((x2.getD k2 (0, 0)).1) ((x2.getD k2 (0, 0)).2) ((selT b.tabs (selU b.tabs b.tabs.length (k2 : Int) (k : Int))).getD k3 tab0) _ _ _ ((tabs_sel (tabs_at (hS155.ok 5 _ rfl)) (fun q_ h_ => selU_lt h_) (hu _ (hS155.ok 4 _ rfl))).row (i := k3) (by omega)) ((tabs_sel (tabs_at (hS155.ok 5 _ rfl)) (fun q_ h_ => selU_lt h_) (hu _ (hS155.ok 4 _ rfl))).brk (i := k3) (by omega)) (sel_rl hth _ _).1 (sel_rl hth _ _).2 _ (hb.tabs _ (sel_scales (by omega)).2.2))) rfl rfl (by decide) ?_
     rintro a159 _ w161 ⟨rfl, hE162⟩ hA160; have hS163 := hS155.step hE162; clear hE162 hA158 hS155 a152
     refine wl_nil ?_
     refine then_n ?_
     rcases Bool.eq_false_or_eq_true ((convB ((selT b.tabs (selU b.tabs b.tabs.length (k2 : Int) (k : Int))).getD k3 tab0) ((x2.getD k2 (0, 0)).1, (x2.getD k2 (0, 0)).2))) with hb164 | hb164
     ·skip
      rw [hb164] at hA160
      refine c_true hA160 rfl ?_
      have hA165 := hA160.as [(9, (bptr b96 0)), (35, (Value.int .i64 (k3 : Int))), (34, (Value.int .i64 ((selT b.tabs (selU b.tabs b.tabs.length (k2 : Int) (k : Int))).length : Int))), (33, u), (7, (Value.int .i64 (k2 : Int))), (23, (Value.int .i64 (k2 : Int))), (22, (Value.int .i64 b.scales)), (6, (Value.int .i64 (k : Int))), (15, (Value.int .i64 (k : Int))), (14, (Value.int .i64 b.scales)), (4, (bptr b9 0)), (3, (bptr b4 0)), (0, (bptr bx 0))] rfl; clear hA160
      refine c_drawn mixed hA165 hS163 10 [[], [], [1], [2], [], [], [5], [6], [4, 7], [3, 8]] [(Yd.val (Value.int .i64 (k : Int))), (Yd.val (Value.int .i64 (k : Int))), (Yd.val (bptr b4 (0 + k * 2))), (Yd.val (Value.agg #[(Value.int .i64 ((x2.getD k (0, 0)).1)), (Value.int .i64 ((x2.getD k (0, 0)).2))])), (Yd.val (Value.agg #[(Value.int .i64 (((selT b.tabs (selU b.tabs b.tabs.length (k2 : Int) (k : Int))).getD k3 tab0).frm)), (Value.int .i64 (((selT b.tabs (selU b.tabs b.tabs.length (k2 : Int) (k : Int))).getD k3 tab0).dst)), ((selV lr (selU b.tabs b.tabs.length (k2 : Int) (k : Int))) k3), ((selV lb (selU b.tabs b.tabs.length (k2 : Int) (k : Int))) k3), (Value.int .i64 (((selT b.tabs (selU b.tabs b.tabs.length (k2 : Int) (k : Int))).getD k3 tab0).err))])), (Yd.val (Value.int .i64 (k2 : Int))), (Yd.val (bptr b4 (0 + k2 * 2))), (Yd.val (Value.agg #[(Value.int .i64 ((x2.getD k2 (0, 0)).1)), (Value.int .i64 ((x2.getD k2 (0, 0)).2))])), (Yd.val (Value.agg #[(Value.int .i64 ((convF ((selT b.tabs (selU b.tabs b.tabs.length (k2 : Int) (k : Int))).getD k3 tab0) ((x2.getD k2 (0, 0)).1, (x2.getD k2 (0, 0)).2)).1)), (Value.int .i64 ((convF ((selT b.tabs (selU b.tabs b.tabs.length (k2 : Int) (k : Int))).getD k3 tab0) ((x2.getD k2 (0, 0)).1, (x2.getD k2 (0, 0)).2)).2))])), (Yd.val (Value.agg #[(Value.int .i64 ((cutR ((x2.getD k (0, 0)).1, (x2.getD k (0, 0)).2) ((convF ((selT b.tabs (selU b.tabs b.tabs.length (k2 : Int) (k : Int))).getD k3 tab0) ((x2.getD k2 (0, 0)).1, (x2.getD k2 (0, 0)).2)).1, (convF ((selT b.tabs (selU b.tabs b.tabs.length (k2 : Int) (k : Int))).getD k3 tab0) ((x2.getD k2 (0, 0)).1, (x2.getD k2 (0, 0)).2)).2)).1)), (Value.int .i64 ((cutR ((x2.getD k (0, 0)).1, (x2.getD k (0, 0)).2) ((convF ((selT b.tabs (selU b.tabs b.tabs.length (k2 : Int) (k : Int))).getD k3 tab0) ((x2.getD k2 (0, 0)).1, (x2.getD k2 (0, 0)).2)).1, (convF ((selT b.tabs (selU b.tabs b.tabs.length (k2 : Int) (k : Int))).getD k3 tab0) ((x2.getD k2 (0, 0)).1, (x2.getD k2 (0, 0)).2)).2)).2))]))] (by decide +kernel) rfl rfl ?_ ?_
      ·skip
       refine ⟨fun a w hA hS hd => by exact opG_of rfl (dv (op_move rfl (hA.ev rfl)) hS rfl), ?_⟩
       refine ⟨fun a w hA hS hd => by exact opG_of rfl (dv (op_move rfl (hA.ev rfl)) hS rfl), ?_⟩
       refine ⟨fun a w hA hS hd => by have e1 := has_ev (hd 1 (by decide)) rfl (fun _ h => h); exact opG_of rfl (dv (op_indexA rfl un_120 ty_30 (hA.ev rfl) (i := k) (tmp_ev e1) (by omega)) hS rfl), ?_⟩
       refine ⟨fun a w hA hS hd => by have e2 := has_ev (hd 2 (by decide)) rfl (fun _ h => h); exact opG_of rfl (dv (op_loadA rfl ty_30 (tmp_ev e2) (hS.bk 2 rfl) (l := [(Value.int .i64 ((x2.getD k (0, 0)).1)), (Value.int .i64 ((x2.getD k (0, 0)).2))]) (pairs_all0 (xs := x2) (i := k) (by omega)) rfl) hS rfl), ?_⟩
       refine ⟨fun a w hA hS hd => by exact opG_of rfl (dv (op_loadA rfl ty_106 (hA.ev rfl) (hS.bk 0 rfl) (l := [(Value.int .i64 (((selT b.tabs (selU b.tabs b.tabs.length (k2 : Int) (k : Int))).getD k3 tab0).frm)), (Value.int .i64 (((selT b.tabs (selU b.tabs b.tabs.length (k2 : Int) (k : Int))).getD k3 tab0).dst)), ((selV lr (selU b.tabs b.tabs.length (k2 : Int) (k : Int))) k3), ((selV lb (selU b.tabs b.tabs.length (k2 : Int) (k : Int))) k3), (Value.int .i64 (((selT b.tabs (selU b.tabs b.tabs.length (k2 : Int) (k : Int))).getD k3 tab0).err))]) rfl rfl) hS rfl), ?_⟩
       refine ⟨fun a w hA hS hd => by exact opG_of rfl (dv (op_move rfl (hA.ev rfl)) hS rfl), ?_⟩
       refine ⟨fun a w hA hS hd => by have e5 := has_ev (hd 5 (by decide)) rfl (fun _ h => h); exact opG_of rfl (dv (op_indexA rfl un_120 ty_30 (hA.ev rfl) (i := k2) (tmp_ev e5) (by omega)) hS rfl), ?_⟩
       refine ⟨fun a w hA hS hd => by have e6 := has_ev (hd 6 (by decide)) rfl (fun _ h => h); exact opG_of rfl (dv (op_loadA rfl ty_30 (tmp_ev e6) (hS.bk 2 rfl) (l := [(Value.int .i64 ((x2.getD k2 (0, 0)).1)), (Value.int .i64 ((x2.getD k2 (0, 0)).2))]) (pairs_all0 (xs := x2) (i := k2) (by omega)) rfl) hS rfl), ?_⟩
       refine ⟨fun a w hA hS hd => by have e4 := has_ev (hd 4 (by decide)) rfl (fun _ h => h); have e7 := has_ev (hd 7 (by decide)) rfl (fun _ h => h); exact opG_of rfl (dx (op_call rfl en_50 (ev2 (tmp_ev e4) (tmp_ev e7)) (convert_ok ((x2.getD k2 (0, 0)).1) ((x2.getD k2 (0, 0)).2) ((selT b.tabs (selU b.tabs b.tabs.length (k2 : Int) (k : Int))).getD k3 tab0) _ _ _ ((tabs_sel (tabs_at (hS.ok 5 _ rfl)) (fun q_ h_ => selU_lt h_) (hu _ (hS.ok 4 _ rfl))).row (i := k3) (by omega)) ((tabs_sel (tabs_at (hS.ok 5 _ rfl)) (fun q_ h_ => selU_lt h_) (hu _ (hS.ok 4 _ rfl))).brk (i := k3) (by omega)) (sel_rl hth _ _).1 (sel_rl hth _ _).2 _ (hb.tabs _ (sel_scales (by omega)).2.2))) hS (fun _ => rfl)), ?_⟩
       refine ⟨fun a w hA hS hd => by have e3 := has_ev (hd 3 (by decide)) rfl (fun _ h => h); have e8 := has_ev (hd 8 (by decide)) rfl (fun _ h => h); exact opG_of rfl (dx (op_call rfl en_87 (ev2 (tmp_ev e3) (tmp_ev e8)) (cut_ok _ _ _ _ _)) hS (fun _ => rfl)), ?_⟩
       trivial
      intro a167 w168 hA169 hS170 hH171; clear hA165 hS163
      have hA172 := hA169.add (has_ev (hH171 0 (by decide)) rfl (fun _ h => h)); clear hA169
      have hA173 := hA172.add (has_ev (hH171 9 (by decide)) rfl (fun _ h => h)); clear hA172
      clear hH171
      refine st hA173 (op_indexA rfl un_120 ty_30 (hA173.ev rfl) (i := k) (hA173.ev rfl) (by omega)) rfl rfl (by decide) fun a174 hA175 => ?_; clear hA173 a167
      refine sts hA175 (op_store hS170 rfl ty_30 (hA175.ev rfl) (hA175.ev rfl) (i := 2) rfl (vs := [(Value.int .i64 ((cutR ((x2.getD k (0, 0)).1, (x2.getD k (0, 0)).2) ((convF ((selT b.tabs (selU b.tabs b.tabs.length (k2 : Int) (k : Int))).getD k3 tab0) ((x2.getD k2 (0, 0)).1, (x2.getD k2 (0, 0)).2)).1, (convF ((selT b.tabs (selU b.tabs b.tabs.length (k2 : Int) (k : Int))).getD k3 tab0) ((x2.getD k2 (0, 0)).1, (x2.getD k2 (0, 0)).2)).2)).1)), (Value.int .i64 ((cutR ((x2.getD k (0, 0)).1, (x2.getD k (0, 0)).2) ((convF ((selT b.tabs (selU b.tabs b.tabs.length (k2 : Int) (k : Int))).getD k3 tab0) ((x2.getD k2 (0, 0)).1, (x2.getD k2 (0, 0)).2)).1, (convF ((selT b.tabs (selU b.tabs b.tabs.length (k2 : Int) (k : Int))).getD k3 tab0) ((x2.getD k2 (0, 0)).1, (x2.getD k2 (0, 0)).2)).2)).2))]) rfl rfl rfl (by simp only [pairs_length, List.length_set, List.length_cons, List.length_nil]; omega)) rfl rfl ?_
      intro _ w176 hS177 hA179; have hS178 := hS177.blk_say (i := 2) rfl (cs' := (pairs (x2.set k ((cutR ((x2.getD k (0, 0)).1, (x2.getD k (0, 0)).2) ((convF ((selT b.tabs (selU b.tabs b.tabs.length (k2 : Int) (k : Int))).getD k3 tab0) ((x2.getD k2 (0, 0)).1, (x2.getD k2 (0, 0)).2)).1, (convF ((selT b.tabs (selU b.tabs b.tabs.length (k2 : Int) (k : Int))).getD k3 tab0) ((x2.getD k2 (0, 0)).1, (x2.getD k2 (0, 0)).2)).2)).1, (cutR ((x2.getD k (0, 0)).1, (x2.getD k (0, 0)).2) ((convF ((selT b.tabs (selU b.tabs b.tabs.length (k2 : Int) (k : Int))).getD k3 tab0) ((x2.getD k2 (0, 0)).1, (x2.getD k2 (0, 0)).2)).1, (convF ((selT b.tabs (selU b.tabs b.tabs.length (k2 : Int) (k : Int))).getD k3 tab0) ((x2.getD k2 (0, 0)).1, (x2.getD k2 (0, 0)).2)).2)).2)))) (pairs_setZ _ _ _ _); clear hS177 hA175 hS170
      refine wl_nil ?_
      refine blk_n ?_
      refine then_n ?_
      refine c_region ?_
      refine st hA179 (op_add rfl (hA179.ev rfl) (evc _ _) (by omega) (by omega)) rfl rfl (by decide) fun a180 hA181 => ?_; clear hA179 a174
      refine st hA181 (op_move rfl (hA181.ev rfl)) rfl rfl (by decide) fun a182 hA183 => ?_; clear hA181 a180
      refine wl_nil ?_
      have hS184 : Sep NoB w w176 [(blk b9 120 (pairs ([(0, 0), (0, 0), (0, 0), (0, 0)]))), (blk b4 120 (pairs (x2.set k ((cutR ((x2.getD k (0, 0)).1, (x2.getD k (0, 0)).2) ((convF ((selT b.tabs (selU b.tabs b.tabs.length (k2 : Int) (k : Int))).getD k3 tab0) ((x2.getD k2 (0, 0)).1, (x2.getD k2 (0, 0)).2)).1, (convF ((selT b.tabs (selU b.tabs b.tabs.length (k2 : Int) (k : Int))).getD k3 tab0) ((x2.getD k2 (0, 0)).1, (x2.getD k2 (0, 0)).2)).2)).1, (cutR ((x2.getD k (0, 0)).1, (x2.getD k (0, 0)).2) ((convF ((selT b.tabs (selU b.tabs b.tabs.length (k2 : Int) (k : Int))).getD k3 tab0) ((x2.getD k2 (0, 0)).1, (x2.getD k2 (0, 0)).2)).1, (convF ((selT b.tabs (selU b.tabs b.tabs.length (k2 : Int) (k : Int))).getD k3 tab0) ((x2.getD k2 (0, 0)).1, (x2.getD k2 (0, 0)).2)).2)).2)))), (rob bx 146 [(Value.int .i64 b.scales), vt, vm, (Value.map (some bm))]), (mapX false bm es ck es.size 106 5 (bN b.tabs b.tabs.length) (bC lr lb b.tabs b.tabs.length)), (tabsR false vt lr lb b.tabs), (macsR false vm lk b.macs)] := hS178.keep [1, 2, 3, 4, 5, 6] (by decide) _ rfl rfl; clear hS178
      exact then_n ⟨k3 + 1, ⟨(x2.set k ((cutR ((x2.getD k (0, 0)).1, (x2.getD k (0, 0)).2) ((convF ((selT b.tabs (selU b.tabs b.tabs.length (k2 : Int) (k : Int))).getD k3 tab0) ((x2.getD k2 (0, 0)).1, (x2.getD k2 (0, 0)).2)).1, (convF ((selT b.tabs (selU b.tabs b.tabs.length (k2 : Int) (k : Int))).getD k3 tab0) ((x2.getD k2 (0, 0)).1, (x2.getD k2 (0, 0)).2)).2)).1, (cutR ((x2.getD k (0, 0)).1, (x2.getD k (0, 0)).2) ((convF ((selT b.tabs (selU b.tabs b.tabs.length (k2 : Int) (k : Int))).getD k3 tab0) ((x2.getD k2 (0, 0)).1, (x2.getD k2 (0, 0)).2)).1, (convF ((selT b.tabs (selU b.tabs b.tabs.length (k2 : Int) (k : Int))).getD k3 tab0) ((x2.getD k2 (0, 0)).1, (x2.getD k2 (0, 0)).2)).2)).2)), hA183.as _ rfl, hS184, by omega, (by first | exact hl2 | (rw [List.length_set]; exact hl2)), (by first | exact cut_n (by omega) hc2 (by assumption) (by assumption) | exact cut_y (by omega) hc2 (by assumption) (by assumption))⟩, by omega⟩
     ·skip
      rw [hb164] at hA160
      refine c_false hA160 rfl ?_
      refine c_skip ?_
      refine blk_n ?_
      refine then_n ?_
      refine c_region ?_
      refine st hA160 (op_add rfl (hA160.ev rfl) (evc _ _) (by omega) (by omega)) rfl rfl (by decide) fun a185 hA186 => ?_; clear hA160 a159
      refine st hA186 (op_move rfl (hA186.ev rfl)) rfl rfl (by decide) fun a187 hA188 => ?_; clear hA186 a185
      refine wl_nil ?_
      have hS189 : Sep NoB w w161 [(blk b9 120 (pairs ([(0, 0), (0, 0), (0, 0), (0, 0)]))), (blk b4 120 (pairs x2)), (rob bx 146 [(Value.int .i64 b.scales), vt, vm, (Value.map (some bm))]), (mapX false bm es ck es.size 106 5 (bN b.tabs b.tabs.length) (bC lr lb b.tabs b.tabs.length)), (tabsR false vt lr lb b.tabs), (macsR false vm lk b.macs)] := hS163.keep [1, 2, 3, 4, 5, 6] (by decide) _ rfl rfl; clear hS163
      exact then_n ⟨k3 + 1, ⟨x2, hA188.as _ rfl, hS189, by omega, (by first | exact hl2 | (rw [List.length_set]; exact hl2)), (by first | exact cut_n (by omega) hc2 (by assumption) (by assumption) | exact cut_y (by omega) hc2 (by assumption) (by assumption))⟩, by omega⟩
   ·skip
    rw [decide_eq_false hb88] at hA87
    refine c_false hA87 rfl ?_
    refine c_exit ?_
    refine then_exit ?_
    refine then_exit ?_
    refine blk_hit ?_
    refine blk_n ?_
    refine then_n ?_
    refine c_region ?_
    refine st hA87 (op_add rfl (hA87.ev rfl) (evc _ _) (by omega) (by omega)) rfl rfl (by decide) fun a190 hA191 => ?_; clear hA87 a86
    refine st hA191 (op_move rfl (hA191.ev rfl)) rfl rfl (by decide) fun a192 hA193 => ?_; clear hA191 a190
    refine wl_nil ?_
    exact then_n ⟨k2 + 1, ⟨x2, hA193.as _ rfl, hS85, by omega, hl2, (cut_21 (by omega) hc2)⟩, by omega⟩
  ·skip
   rw [decide_eq_false hb56] at hA55
   refine c_false hA55 rfl ?_
   refine c_exit ?_
   refine then_exit ?_
   refine then_exit ?_
   refine blk_hit ?_
   refine blk_n ?_
   refine then_n ?_
   refine c_region ?_
   refine st hA55 (op_add rfl (hA55.ev rfl) (evc _ _) (by omega) (by omega)) rfl rfl (by decide) fun a194 hA195 => ?_; clear hA55 a54
   refine st hA195 (op_move rfl (hA195.ev rfl)) rfl rfl (by decide) fun a196 hA197 => ?_; clear hA195 a194
   refine wl_nil ?_
   exact then_n ⟨k + 1, ⟨x1, hA197.as _ rfl, hS53, by omega, hl1, (cut_10 (by omega) hc1)⟩, by omega⟩
 ·skip
  rw [decide_eq_false hb32] at hA31
  refine c_false hA31 rfl ?_
  refine c_exit ?_
  refine then_exit ?_
  refine then_exit ?_
  refine blk_hit ?_
  refine then_n ?_
  refine c_seq ?_
  have hA198 := hA31.as [(4, (bptr b9 0)), (3, (bptr b4 0)), (0, (bptr bx 0))] rfl; clear hA31
  refine c_drawF mixed hA198 hS29 9 8 rfl rfl [[], [], [1], [2], [3], [4], [5], [6], [7]] [(fun (vs199 : Nat → Value) (v_ : Value) (rs_ : List Res) => v_ = (Value.agg (pairs x0).toArray) ∧ rs_ = []), (fun (vs199 : Nat → Value) (v_ : Value) (rs_ : List Res) => v_ = (bptr bx 0) ∧ rs_ = []), (fun (vs199 : Nat → Value) (v_ : Value) (rs_ : List Res) => v_ = (bptr bx 0) ∧ rs_ = []), (fun (vs199 : Nat → Value) (v_ : Value) (rs_ : List Res) => v_ = (bptr bx 0) ∧ rs_ = []), (fun (vs199 : Nat → Value) (v_ : Value) (rs_ : List Res) => v_ = (bptr bx 0) ∧ rs_ = []), (fun (vs199 : Nat → Value) (v_ : Value) (rs_ : List Res) => v_ = (Value.int .i64 b.scales) ∧ rs_ = []), (fun (vs199 : Nat → Value) (v_ : Value) (rs_ : List Res) => v_ = (Value.slice (some ⟨b4, 0, none⟩) b.scales.toNat 4) ∧ rs_ = []), (fun (vs199 : Nat → Value) (v_ : Value) (rs_ : List Res) => v_ = (Value.bool ((List.range (x0.take b.scales.toNat).length).any fun i => decide (((x0.take b.scales.toNat).getD i (0, 0)).2 < ((x0.take b.scales.toNat).getD i (0, 0)).1))) ∧ rs_ = []), (fun (vs199 : Nat → Value) (v_ : Value) (rs_ : List Res) => v_ = (Value.bool (!((List.range (x0.take b.scales.toNat).length).any fun i => decide (((x0.take b.scales.toNat).getD i (0, 0)).2 < ((x0.take b.scales.toNat).getD i (0, 0)).1)))) ∧ rs_ = [])] (by decide +kernel) (by decide +kernel) (by decide +kernel) rfl rfl ⟨(fun _ _ _ _ _ h_ => h_), (fun _ _ _ _ _ h_ => h_), (fun _ _ _ _ _ h_ => h_), (fun _ _ _ _ _ h_ => h_), (fun _ _ _ _ _ h_ => h_), (fun _ _ _ _ _ h_ => h_), (fun _ _ _ _ _ h_ => h_), (fun _ _ _ _ _ h_ => h_), (fun _ _ _ _ _ h_ => h_), trivial⟩ ?_ ?_ ?_
  ·skip
   refine ⟨fun a w vs199 hA hS hd => ?_, ?_⟩
   ·skip
    exact opG_of rfl (vv (op_loadA rfl ty_120 (hA.ev rfl) (hS.bk 1 rfl) (l := (pairs x0)) (drop_take_all _ _ (show (pairs x0).length = 8 from by simp only [pairs_length, List.length_set]; omega)) (show (pairs x0).length = 8 from by simp only [pairs_length, List.length_set]; omega)) (And.intro rfl rfl))
   refine ⟨fun a w vs199 hA hS hd => ?_, ?_⟩
   ·skip
    exact opG_of rfl (vv (op_move rfl (hA.ev rfl)) (And.intro rfl rfl))
   refine ⟨fun a w vs199 hA hS hd => ?_, ?_⟩
   ·skip
    obtain ⟨e1, rs1, hy1, hp1⟩ := hd 1 (by decide)
    obtain ⟨hv1, hr1⟩ := hy1; subst hr1
    rw [hv1] at e1
    exact opG_of rfl (vv (op_nilCheck rfl (tmp_ev (slot_ev e1 rfl))) (And.intro rfl rfl))
   refine ⟨fun a w vs199 hA hS hd => ?_, ?_⟩
   ·skip
    obtain ⟨e2, rs2, hy2, hp2⟩ := hd 2 (by decide)
    obtain ⟨hv2, hr2⟩ := hy2; subst hr2
    rw [hv2] at e2
    exact opG_of rfl (vv (op_field rfl fd_146_0 (tmp_ev (slot_ev e2 rfl))) (And.intro rfl rfl))
   refine ⟨fun a w vs199 hA hS hd => ?_, ?_⟩
   ·skip
    obtain ⟨e3, rs3, hy3, hp3⟩ := hd 3 (by decide)
    obtain ⟨hv3, hr3⟩ := hy3; subst hr3
    rw [hv3] at e3
    exact opG_of rfl (vv (op_field rfl fd_37_0 (tmp_ev (slot_ev e3 rfl))) (And.intro rfl rfl))
   refine ⟨fun a w vs199 hA hS hd => ?_, ?_⟩
   ·skip
    obtain ⟨e4, rs4, hy4, hp4⟩ := hd 4 (by decide)
    obtain ⟨hv4, hr4⟩ := hy4; subst hr4
    rw [hv4] at e4
    exact opG_of rfl (vv (op_load1 rfl ty_3 (tmp_ev (slot_ev e4 rfl)) (hS.rk 2 rfl) rfl) (And.intro rfl rfl))
   refine ⟨fun a w vs199 hA hS hd => ?_, ?_⟩
   ·skip
    obtain ⟨e5, rs5, hy5, hp5⟩ := hd 5 (by decide)
    obtain ⟨hv5, hr5⟩ := hy5; subst hr5
    rw [hv5] at e5
    exact opG_of rfl (vv (op_sliceArr rfl un_120 ty_30 (hA.ev rfl) (h := b.scales.toNat) ((tmp_ev (slot_ev e5 rfl)).trans (int_nat (by omega))) (by omega)) (And.intro rfl rfl))
   refine ⟨fun a w vs199 hA hS hd => ?_, ?_⟩
   ·skip
    obtain ⟨e6, rs6, hy6, hp6⟩ := hd 6 (by decide)
    obtain ⟨hv6, hr6⟩ := hy6; subst hr6
    rw [hv6] at e6
    exact opG_of rfl (vx (op_call rfl en_108 (ev2 (tmp_ev (slot_ev e6 rfl)) (evf _ _)) (contf_rng (x0.take b.scales.toNat) _ 68 #[] #[] (fun i => decide (((x0.take b.scales.toNat).getD i (0, 0)).2 < ((x0.take b.scales.toNat).getD i (0, 0)).1)) _ ((SlAt.of_blkCut (hS.bk 1 rfl) (by rw [pairs_length]; omega) (by omega) (by decide)).say (by rw [List.length_take]; omega) (pairs_takeH _ _)) (by rw [List.length_take]; omega) ⟨en_68, fun i hi W hW => empty_ok _ _ W⟩)) (And.intro rfl rfl))
   refine ⟨fun a w vs199 hA hS hd => ?_, ?_⟩
   ·skip
    obtain ⟨e7, rs7, hy7, hp7⟩ := hd 7 (by decide)
    obtain ⟨hv7, hr7⟩ := hy7; subst hr7
    rw [hv7] at e7
    exact opG_of rfl (vv (op_not rfl (tmp_ev (slot_ev e7 rfl))) (And.intro rfl rfl))
   trivial
  ·skip
   intro a200 w201 vs199 rsf205 hA202 hH204 hS203; clear hA198 hS29
   obtain ⟨hs_0, hy_0⟩ := hH204 0 (by decide)
   obtain ⟨hv_0, hr_0⟩ := hy_0
   obtain ⟨hs_1, hy_1⟩ := hH204 1 (by decide)
   obtain ⟨hv_1, hr_1⟩ := hy_1
   obtain ⟨hs_2, hy_2⟩ := hH204 2 (by decide)
   obtain ⟨hv_2, hr_2⟩ := hy_2
   obtain ⟨hs_3, hy_3⟩ := hH204 3 (by decide)
   obtain ⟨hv_3, hr_3⟩ := hy_3
   obtain ⟨hs_4, hy_4⟩ := hH204 4 (by decide)
   obtain ⟨hv_4, hr_4⟩ := hy_4
   obtain ⟨hs_5, hy_5⟩ := hH204 5 (by decide)
   obtain ⟨hv_5, hr_5⟩ := hy_5
   obtain ⟨hs_6, hy_6⟩ := hH204 6 (by decide)
   obtain ⟨hv_6, hr_6⟩ := hy_6
   obtain ⟨hs_7, hy_7⟩ := hH204 7 (by decide)
   obtain ⟨hv_7, hr_7⟩ := hy_7
   obtain ⟨hs_8, hy_8⟩ := hH204 8 (by decide)
   obtain ⟨hv_8, hr_8⟩ := hy_8
   have hS206 : Sep NoB w w201 [(blk b9 120 (pairs ([(0, 0), (0, 0), (0, 0), (0, 0)]))), (blk b4 120 (pairs x0)), (rob bx 146 [(Value.int .i64 b.scales), vt, vm, (Value.map (some bm))]), (mapX false bm es ck es.size 106 5 (bN b.tabs b.tabs.length) (bC lr lb b.tabs b.tabs.length)), (tabsR false vt lr lb b.tabs), (macsR false vm lk b.macs)] := by rw [show catR rsf205 0 9 = ([] : List Res) by (try simp only [catR, hr_0, hr_1, hr_2, hr_3, hr_4, hr_5, hr_6, hr_7, hr_8]); (try rfl)] at hS203; exact hS203
   rw [hv_0] at hs_0
   have hA207 : Fr 71 [] [(62, (Value.agg (pairs x0).toArray)), (4, (bptr b9 0)), (3, (bptr b4 0)), (0, (bptr bx 0))] a200 := hA202.add (slot_ev hs_0 rfl); clear hA202
   rw [hv_8] at hs_8
   have hA208 : Fr 71 [] [(70, (Value.bool (!((List.range (x0.take b.scales.toNat).length).any fun i => decide (((x0.take b.scales.toNat).getD i (0, 0)).2 < ((x0.take b.scales.toNat).getD i (0, 0)).1))))), (62, (Value.agg (pairs x0).toArray)), (4, (bptr b9 0)), (3, (bptr b4 0)), (0, (bptr bx 0))] a200 := hA207.add (slot_ev hs_8 rfl); clear hA207
   clear hH204 hS203 hs_0 hs_1 hs_2 hs_3 hs_4 hs_5 hs_6 hs_7 hs_8
   clear hr_0
   clear hv_0
   clear hr_1
   clear hv_1
   clear hr_2
   clear hv_2
   clear hr_3
   clear hv_3
   clear hr_4
   clear hv_4
   clear hr_5
   clear hv_5
   clear hr_6
   clear hv_6
   clear hr_7
   clear hv_7
   clear hr_8
   clear hv_8
   refine sts hA208 (op_store hS206 rfl ty_120 (hA208.ev rfl) (hA208.ev rfl) (i := 0) rfl (vs := (pairs x0)) rfl (show (pairs x0).length = 8 from by simp only [pairs_length, List.length_set]; omega) (pairs_one _) (by simp only [pairs_length, List.length_set, List.length_cons, List.length_nil]; omega)) rfl rfl ?_
   intro _ w209 hS210 hA212; have hS211 := hS210.blk_say (i := 0) rfl (cs' := (pairs x0)) (setFrom_all _ _ (by first | (simp only [pairs_length, List.length_set, List.length_cons, List.length_nil]; done) | (simp only [pairs_length, List.length_set, List.length_cons, List.length_nil]; omega))); clear hS210 hA208 hS206
   refine st hA212 (op_assign rfl (hA212.ev rfl)) rfl rfl (by decide) fun a213 hA214 => ?_; clear hA212 a200
   refine wl_nil ?_
   refine then_n ?_
   refine c_ret ?_
   refine ng_ret ?_
   refine fin_run hA214 (.inl rfl) (run_results2 hA214 rfl (.cellA rfl ty_120 (hS211.bk 0 rfl) (l := (pairs x0)) (drop_take_all _ _ (show (pairs x0).length = 8 from by simp only [pairs_length, List.length_set]; omega)) (show (pairs x0).length = 8 from by simp only [pairs_length, List.length_set]; omega)) (.tmp rfl)) ?_
   have hz : passF (orderF b.scales.toNat b.tabs) s = (x0, false) := cut_end (by omega) hc0
   exact ⟨by rw [hz, ← full_any (s := x0) (by omega)], hS211.ext⟩
  ·skip
   intro a215 w216 vs199 rsf220 hA217 hH219 hrq hS218; clear hA198 hS29
   obtain ⟨hs_0, hy_0⟩ := hH219 0 (by decide) (by decide)
   obtain ⟨hv_0, hr_0⟩ := hy_0
   obtain ⟨hs_1, hy_1⟩ := hH219 1 (by decide) (by decide)
   obtain ⟨hv_1, hr_1⟩ := hy_1
   obtain ⟨hs_2, hy_2⟩ := hH219 2 (by decide) (by decide)
   obtain ⟨hv_2, hr_2⟩ := hy_2
   obtain ⟨hs_3, hy_3⟩ := hH219 3 (by decide) (by decide)
   obtain ⟨hv_3, hr_3⟩ := hy_3
   obtain ⟨hs_4, hy_4⟩ := hH219 4 (by decide) (by decide)
   obtain ⟨hv_4, hr_4⟩ := hy_4
   obtain ⟨hs_5, hy_5⟩ := hH219 5 (by decide) (by decide)
   obtain ⟨hv_5, hr_5⟩ := hy_5
   obtain ⟨hs_6, hy_6⟩ := hH219 6 (by decide) (by decide)
   obtain ⟨hv_6, hr_6⟩ := hy_6
   obtain ⟨hs_7, hy_7⟩ := hH219 7 (by decide) (by decide)
   obtain ⟨hv_7, hr_7⟩ := hy_7
   have hS221 : Sep NoB w w216 [(blk b9 120 (pairs ([(0, 0), (0, 0), (0, 0), (0, 0)]))), (blk b4 120 (pairs x0)), (rob bx 146 [(Value.int .i64 b.scales), vt, vm, (Value.map (some bm))]), (mapX false bm es ck es.size 106 5 (bN b.tabs b.tabs.length) (bC lr lb b.tabs b.tabs.length)), (tabsR false vt lr lb b.tabs), (macsR false vm lk b.macs)] := by rw [show catR rsf220 0 9 = ([] : List Res) by (try simp only [catR, hr_0, hr_1, hr_2, hr_3, hr_4, hr_5, hr_6, hr_7, hrq]); (try rfl)] at hS218; exact hS218
   rw [hv_0] at hs_0
   have hA222 : Fr 71 [] [(62, (Value.agg (pairs x0).toArray)), (4, (bptr b9 0)), (3, (bptr b4 0)), (0, (bptr bx 0))] a215 := hA217.add (slot_ev hs_0 rfl); clear hA217
   rw [hv_7] at hs_7
   have hA223 : Fr 71 [] [(69, (Value.bool ((List.range (x0.take b.scales.toNat).length).any fun i => decide (((x0.take b.scales.toNat).getD i (0, 0)).2 < ((x0.take b.scales.toNat).getD i (0, 0)).1)))), (62, (Value.agg (pairs x0).toArray)), (4, (bptr b9 0)), (3, (bptr b4 0)), (0, (bptr bx 0))] a215 := hA222.add (slot_ev hs_7 rfl); clear hA222
   clear hH219 hS218 hs_0 hs_1 hs_2 hs_3 hs_4 hs_5 hs_6 hs_7 hrq
   clear hr_0
   clear hv_0
   clear hr_1
   clear hv_1
   clear hr_2
   clear hv_2
   clear hr_3
   clear hv_3
   clear hr_4
   clear hv_4
   clear hr_5
   clear hv_5
   clear hr_6
   clear hv_6
   clear hr_7
   clear hv_7
   refine sts hA223 (op_store hS221 rfl ty_120 (hA223.ev rfl) (hA223.ev rfl) (i := 0) rfl (vs := (pairs x0)) rfl (show (pairs x0).length = 8 from by simp only [pairs_length, List.length_set]; omega) (pairs_one _) (by simp only [pairs_length, List.length_set, List.length_cons, List.length_nil]; omega)) rfl rfl ?_
   intro _ w224 hS225 hA227; have hS226 := hS225.blk_say (i := 0) rfl (cs' := (pairs x0)) (setFrom_all _ _ (by first | (simp only [pairs_length, List.length_set, List.length_cons, List.length_nil]; done) | (simp only [pairs_length, List.length_set, List.length_cons, List.length_nil]; omega))); clear hS225 hA223 hS221
   refine st hA227 (op_not rfl (hA227.ev rfl)) rfl rfl (by decide) fun a228 hA229 => ?_; clear hA227 a215
   refine st hA229 (op_assign rfl (hA229.ev rfl)) rfl rfl (by decide) fun a230 hA231 => ?_; clear hA229 a228
   refine wl_nil ?_
   refine then_n ?_
   refine c_ret ?_
   refine ng_ret ?_
   refine fin_run hA231 (.inl rfl) (run_results2 hA231 rfl (.cellA rfl ty_120 (hS226.bk 0 rfl) (l := (pairs x0)) (drop_take_all _ _ (show (pairs x0).length = 8 from by simp only [pairs_length, List.length_set]; omega)) (show (pairs x0).length = 8 from by simp only [pairs_length, List.length_set]; omega)) (.tmp rfl)) ?_
   have hz : passF (orderF b.scales.toNat b.tabs) s = (x0, false) := cut_end (by omega) hc0
   exact ⟨by rw [hz, ← full_any (s := x0) (by omega)], hS226.ext⟩
end Go.Proofs.Ytohgladndklciaa

namespace Go.Hard
open Go.RowKit Go.Eng
theorem biasU_bd {n : Int} {m : MacD} (h : MacV n m) : ∀ k, k ≤ m.blocks.length → (-100000 ≤ (biasU m.blocks k).1 ∧ (biasU m.blocks k).1 ≤ 100000) ∧ -100000 ≤ (biasU m.blocks k).2 ∧ (biasU m.blocks k).2 ≤ 100000
  | 0, _ => by unfold biasU; exact ⟨⟨by decide, by decide⟩, by decide, by decide⟩
  | k + 1, hk => by
    have ih := biasU_bd h k (by omega)
    have hb := h.blocks k (by omega)
    rw [biasU]; dsimp only [cutR]; omega
theorem biasF_bd {n : Int} {m : MacD} (h : MacV n m) : (-100000 ≤ (biasF m).1 ∧ (biasF m).1 ≤ 100000) ∧ -100000 ≤ (biasF m).2 ∧ (biasF m).2 ≤ 100000 := biasU_bd h _ (Nat.le_refl _)
def zero4 : Spans := [(0, 0), (0, 0), (0, 0), (0, 0)]
def fillU : Nat → Spans
  | 0 => zero4
  | k + 1 => (fillU k).set k rng0
theorem fillU_len : ∀ k, (fillU k).length = 4
  | 0 => rfl
  | k + 1 => by rw [fillU, List.length_set]; exact fillU_len k
theorem fill4 : fillU 4 = free4 := by decide
theorem full_free {n : Nat} (hn : n ≤ 4) : Full n free4 := fun i hi => by
  match i, hi with
  | 0, _ => decide
  | 1, _ => decide
  | 2, _ => decide
  | 3, _ => decide
  | i + 4, hi => omega
section
variable {b : BookD} {l : List (Int × Int)} {k : Nat}
theorem start_mono (hb : BookV b) (hl : ReadV b l) {s : Spans} (hs : b.scales.toNat ≤ s.length) {k m : Nat} (h : k ≤ m) (hm : m ≤ l.length) : Sub b.scales.toNat (startU b l s m) (startU b l s k) := by
  have h1 := (start_iff hb hl rfl hs (s' := startU b l s m) m hm).1 (Sub.refl _ _)
  exact (start_iff hb hl rfl hs (s' := startU b l s m) k (by omega)).2 ⟨h1.1, fun j hj => h1.2 j (by omega)⟩
theorem spans_none (h : ¬ Full b.scales.toNat (startF b l)) : spansF b l = none := by
  unfold spansF; rw [if_neg]; rw [full_iff]; exact h
theorem spans_go (h : Full b.scales.toNat (startF b l)) : spansF b l = spansK b.scales.toNat (orderF b.scales.toNat b.tabs) 400001 (startF b l) := by
  unfold spansF; rw [if_pos (full_iff.2 h)]
theorem start_empty (hb : BookV b) (hl : ReadV b l) (hk : k < l.length) (he : (at' (startU b l free4 (k + 1)) (scaleOf b l k)).2 < (at' (startU b l free4 (k + 1)) (scaleOf b l k)).1) : spansF b l = none := by
  refine spans_none fun hf => ?_
  have hsc := scale_lt hb hl hk
  have h1 := start_mono hb hl (s := free4) hb.four (show k + 1 ≤ l.length by omega) (Nat.le_refl _) _ hsc
  have h2 := hf _ hsc
  unfold startF at h2
  omega
theorem start_next (hb : BookV b) (hl : ReadV b l) (hk : k < l.length) (hf : Full b.scales.toNat (startU b l free4 k)) (he : ¬ (at' (startU b l free4 (k + 1)) (scaleOf b l k)).2 < (at' (startU b l free4 (k + 1)) (scaleOf b l k)).1) : Full b.scales.toNat (startU b l free4 (k + 1)) := fun i hi => by
  have hsc := scale_lt hb hl hk
  have hlen := start_len b l free4 k
  have h4 : free4.length = 4 := rfl
  have hn := hb.four
  by_cases e : scaleOf b l k = i
  · subst e; omega
  · rw [startU_succ, at_set (by omega), if_neg e]; exact hf i hi
variable {n : Nat} {ts : List TabD} {s : Spans} {g : Nat}
theorem k_fail (h : fullB n (passF ts s).1 = false) : spansK n ts g s = none := by
  cases g with
  | zero => rfl
  | succ g => rw [spansK, if_neg (by rw [h]; decide)]
theorem k_done (hg : 0 < g) (h : fullB n (passF ts s).1 = true) (he : (passF ts s).1 = s) : spansK n ts g s = some (s.take n) := by
  obtain ⟨g, rfl⟩ : ∃ g', g = g' + 1 := ⟨g - 1, by omega⟩
  rw [spansK, if_pos h, if_pos he]
theorem k_next (hg : 0 < g) (h : fullB n (passF ts s).1 = true) (he : ¬ (passF ts s).1 = s) : spansK n ts g s = spansK n ts (g - 1) (passF ts s).1 := by
  obtain ⟨g, rfl⟩ : ∃ g', g = g' + 1 := ⟨g - 1, by omega⟩
  rw [spansK, if_pos h, if_neg he]; rfl
end
end Go.Hard

namespace Go.Proofs.Ytohgladndklciaa
open Go.RowKit Go.Shelf Go.Eng Go.Hard
theorem ze_98 : (Try.prog.info? 98).bind (·.zero) = some (Value.agg #[(Value.int .i64 0), (Value.int .i64 0)]) := by kernel_rfl
theorem en_88 : ∀ args w, (callFunc 88 args).run Try.prog w = .ok (.enter 88 args) w := enters_of Try.func88 (by kernel_rfl) rfl
theorem ar_120 : Try.prog.underlying 120 = some (.array 4 30) := by kernel_rfl
theorem tw_30 : twoInts Try.prog 30 = true := by kernel_rfl
theorem gt_120 : Try.prog.eqGuardType Try.prog.depth 120 = false := by kernel_rfl
set_option maxHeartbeats 4000000 in
theorem spansb_ok (b : BookD) (vt vm : Value) (lr lb lk : Nat → Value) (w : World) (hT : TabsAt w vt lr lb b.tabs) (hM : MacsAt w vm lk b.macs) (hth : ThinB b) (bx bm : Nat) (es : Array MapEntry) (ck : Nat) (hMO : MapOk bm es ck (bN b.tabs b.tabs.length)) (hbx : (blk bx 146 [.int .i64 b.scales, vt, vm, .map (some bm)]).p w) (hmx : (mapX false bm es ck es.size 106 5 (bN b.tabs b.tabs.length) (bC lr lb b.tabs b.tabs.length)).p w) (hb : BookV b) (l : List (Int × Int)) (xl : Value) (hxl : SlAt w xl 2 l.length (pairs l)) (hl : ReadV b l) :
  Calls Try.prog 57 #[(bptr bx 0), xl] w (Ret fun v w' => ∃ x, x.length = 4 ∧ v = .tuple #[.agg (pairs x).toArray, .bool (spansF b l).isSome] ∧ (∀ t, spansF b l = some t → x.take b.scales.toNat = t) ∧ Ext NoB w w') := by
 refine calls_enter Try.func57 rfl fun a0 hA0 => ?_
 replace hA0 : Fr 79 [] [(0, (bptr bx 0)), (1, xl)] a0 := hA0
 have hsc := hb.scales; have htl9 := hth.tl; have hml9 := hth.ml; have hll := hl.len
 have hS0 : Sep NoB w w [(rob bx 146 [(Value.int .i64 b.scales), vt, vm, (Value.map (some bm))]), (mapX false bm es ck es.size 106 5 (bN b.tabs b.tabs.length) (bC lr lb b.tabs b.tabs.length)), (tabsR false vt lr lb b.tabs), (macsR false vm lk b.macs), (sl xl 2 l.length (pairs l))] := sep_ro ⟨rfl, hbx, rfl, hmx, rfl, hT, rfl, hM, rfl, hxl, trivial⟩
 refine c_seq ?_
 refine c_region ?_
 refine stw hA0 (op_alloc hS0 rfl ze_120 (cs := (pairs zero4)) rfl) rfl rfl (by decide) ?_
 rintro a1 _ w3 ⟨b4, rfl, hS5⟩ hA2; clear hA0 hS0 a0
 refine st hA2 (op_assign rfl (evc _ _)) rfl rfl (by decide) fun a6 hA7 => ?_; clear hA2 a1
 refine wl_nil ?_
 refine then_n ?_
 refine c_seq ?_
 refine c_seq ?_
 refine c_region ?_
 refine st hA7 (op_move rfl (evc _ _)) rfl rfl (by decide) fun a8 hA9 => ?_; clear hA7 a6
 refine wl_nil ?_
 refine then_n ?_
 refine c_block ?_
 have hA10 := hA9.as [(13, (Value.int .i64 0)), (4, (bptr b4 0)), (0, (bptr bx 0)), (1, xl)] rfl; clear hA9
 refine c_loop (G := Nat) (fun (k : Nat) a_ w_ => Fr 79 [] [(13, (Value.int .i64 (k : Int))), (4, (bptr b4 0)), (0, (bptr bx 0)), (1, xl)] a_ ∧ Sep NoB w w_ [(blk b4 120 (pairs (fillU k))), (rob bx 146 [(Value.int .i64 b.scales), vt, vm, (Value.map (some bm))]), (mapX false bm es ck es.size 106 5 (bN b.tabs b.tabs.length) (bC lr lb b.tabs b.tabs.length)), (tabsR false vt lr lb b.tabs), (macsR false vm lk b.macs), (sl xl 2 l.length (pairs l))] ∧ (k ≤ 4)) (fun k => 4 - k) 0 ⟨hA10.as _ rfl, hS5, by omega⟩ ?_
 clear hA10 hS5 a8
 rintro k a11 w13 ⟨hA12, hS14, hk⟩
 have hfl := fillU_len k
 refine c_seq ?_
 refine c_region ?_
 refine st hA12 (op_lss rfl (hA12.ev rfl) (evc _ _)) rfl rfl (by decide) fun a15 hA16 => ?_; clear hA12 a11
 refine wl_nil ?_
 refine then_n ?_
 refine c_seq ?_
 by_cases hb17 : (k : Int) < 4
 ·skip
  rw [decide_eq_true hb17] at hA16
  refine c_true hA16 rfl ?_
  refine c_skip ?_
  refine then_n ?_
  refine c_seq ?_
  refine c_block ?_
  refine c_seq ?_
  refine c_region ?_
  refine st hA16 (op_move rfl (hA16.ev rfl)) rfl rfl (by decide) fun a18 hA19 => ?_; clear hA16 a15
  refine st hA19 (op_assign rfl (hA19.ev rfl)) rfl rfl (by decide) fun a20 hA21 => ?_; clear hA19 a18
  refine wl_nil ?_
  refine then_n ?_
  refine c_region ?_
  refine st hA21 (op_move rfl (hA21.ev rfl)) rfl rfl (by decide) fun a22 hA23 => ?_; clear hA21 a20
  refine st hA23 (op_build rfl (pv2 (evc _ _) (evc _ _)) (bd_30_0i_1i _ _)) rfl rfl (by decide) fun a24 hA25 => ?_; clear hA23 a22
  refine st hA25 (op_indexA rfl un_120 ty_30 (hA25.ev rfl) (i := k) (hA25.ev rfl) (by omega)) rfl rfl (by decide) fun a26 hA27 => ?_; clear hA25 a24
  refine sts hA27 (op_store hS14 rfl ty_30 (hA27.ev rfl) (hA27.ev rfl) (i := 0) rfl (vs := [(Value.int .i64 0), (Value.int .i64 100000)]) rfl rfl rfl (by simp only [pairs_length, List.length_set, List.length_cons, List.length_nil]; omega)) rfl rfl ?_
  intro _ w28 hS29 hA31; have hS30 := hS29.blk_say (i := 0) rfl (cs' := (pairs ((fillU k).set k (0, 100000)))) (pairs_setZ _ _ _ _); clear hS29 hA27 hS14
  refine wl_nil ?_
  refine blk_n ?_
  refine then_n ?_
  have hA32 := hA31.as [(13, (Value.int .i64 (k : Int))), (4, (bptr b4 0)), (0, (bptr bx 0)), (1, xl)] rfl; clear hA31
  refine c_region ?_
  refine st hA32 (op_add rfl (hA32.ev rfl) (evc _ _) (by omega) (by omega)) rfl rfl (by decide) fun a33 hA34 => ?_; clear hA32 a26
  refine st hA34 (op_move rfl (hA34.ev rfl)) rfl rfl (by decide) fun a35 hA36 => ?_; clear hA34 a33
  refine wl_nil ?_
  exact then_n ⟨k + 1, ⟨hA36.as _ rfl, hS30, by omega⟩, by omega⟩
 ·skip
  rw [decide_eq_false hb17] at hA16
  refine c_false hA16 rfl ?_
  refine c_exit ?_
  refine then_exit ?_
  refine then_exit ?_
  refine blk_hit ?_
  refine then_n ?_
  refine c_seq ?_
  refine c_seq ?_
  refine c_region ?_
  refine st hA16 (op_move rfl (hA16.ev rfl)) rfl rfl (by decide) fun a37 hA38 => ?_; clear hA16 a15
  refine st hA38 (op_lenS rfl un_53 (hA38.ev rfl) (hS14.sk 5 rfl)) rfl rfl (by decide) fun a39 hA40 => ?_; clear hA38 a37
  refine st hA40 (op_move rfl (evc _ _)) rfl rfl (by decide) fun a41 hA42 => ?_; clear hA40 a39
  refine wl_nil ?_
  refine then_n ?_
  refine c_block ?_
  have hA43 := hA42.as [(22, (Value.int .i64 0)), (21, (Value.int .i64 (l.length : Int))), (20, xl), (4, (bptr b4 0)), (0, (bptr bx 0))] rfl; clear hA42
  refine c_loop (G := Nat) (fun (k : Nat) a_ w_ => Fr 79 [] [(22, (Value.int .i64 (k : Int))), (21, (Value.int .i64 (l.length : Int))), (20, xl), (4, (bptr b4 0)), (0, (bptr bx 0))] a_ ∧ Sep NoB w w_ [(blk b4 120 (pairs (startU b l free4 k))), (rob bx 146 [(Value.int .i64 b.scales), vt, vm, (Value.map (some bm))]), (mapX false bm es ck es.size 106 5 (bN b.tabs b.tabs.length) (bC lr lb b.tabs b.tabs.length)), (tabsR false vt lr lb b.tabs), (macsR false vm lk b.macs), (sl xl 2 l.length (pairs l))] ∧ (k ≤ l.length) ∧ (Full b.scales.toNat (startU b l free4 k))) (fun k => l.length - k) 0 ⟨hA43.as _ rfl, (hS14.blk_say (i := 0) rfl (by rw [show k = 4 by omega, fill4]; rfl)), Nat.zero_le _, full_free hb.four⟩ ?_
  clear hA43 hS14 a41
  rintro k a44 w46 ⟨hA45, hS47, hk, hfu⟩
  have hsl := start_len b l free4 k; have hf4 : free4.length = 4 := rfl
  refine c_seq ?_
  refine c_region ?_
  refine st hA45 (op_lss rfl (hA45.ev rfl) (hA45.ev rfl)) rfl rfl (by decide) fun a48 hA49 => ?_; clear hA45 a44
  refine wl_nil ?_
  refine then_n ?_
  refine c_seq ?_
  by_cases hb50 : (k : Int) < (l.length : Int)
  ·skip
   rw [decide_eq_true hb50] at hA49
   have hscl := scale_lt hb hl (k := k) (by omega); unfold scaleOf at hscl; have hmv := hl.macV hb (k := k) (by omega); have hsv := hmv.scale; have hbb := biasF_bd hmv; have hlm := hl.mac k (by omega); have hlr := hl.read k (by omega); have hsl1 := start_len b l free4 (k + 1); have hb4_ := hb.four
   refine c_true hA49 rfl ?_
   refine c_skip ?_
   refine then_n ?_
   refine c_seq ?_
   refine c_block ?_
   refine c_seq ?_
   refine c_region ?_
   refine st hA49 (op_indexS rfl un_53 ty_98 (hA49.ev rfl) (i := k) (hA49.ev rfl) (hS47.sk 5 rfl) (by decide) (by omega)) rfl rfl (by decide) fun a51 hA52 => ?_; clear hA49 a48
   refine st hA52 (op_loadAE rfl ty_98 (hA52.ev rfl) (hS47.sk 5 rfl) (pairs_all (by omega)) rfl (by decide)) rfl rfl (by decide) fun a53 hA54 => ?_; clear hA52 a51
   refine stw hA54 (op_alloc hS47 rfl ze_98 (cs := [(Value.int .i64 0), (Value.int .i64 0)]) rfl) rfl rfl (by decide) ?_
   rintro a55 _ w57 ⟨b58, rfl, hS59⟩ hA56; clear hA54 hS47 a53
   refine sts hA56 (op_store hS59 rfl ty_98 (hA56.ev rfl) (hA56.ev rfl) (i := 0) rfl (vs := [(Value.int .i64 ((l.getD k (0, 0)).1)), (Value.int .i64 ((l.getD k (0, 0)).2))]) rfl rfl rfl (Nat.le_of_ble_eq_true rfl)) rfl rfl ?_
   intro _ w60 hS61 hA62; clear hA56
   have hS63 : Sep NoB w w60 [(blk b58 98 [(Value.int .i64 ((l.getD k (0, 0)).1)), (Value.int .i64 ((l.getD k (0, 0)).2))]), (blk b4 120 (pairs (startU b l free4 k))), (rob bx 146 [(Value.int .i64 b.scales), vt, vm, (Value.map (some bm))]), (mapX false bm es ck es.size 106 5 (bN b.tabs b.tabs.length) (bC lr lb b.tabs b.tabs.length)), (tabsR false vt lr lb b.tabs), (macsR false vm lk b.macs), (sl xl 2 l.length (pairs l))] := hS61; clear hS61 hS59
   refine wl_nil ?_
   refine then_n ?_
   refine c_seq ?_
   have hA64 := hA62.as [(8, (bptr b58 0)), (22, (Value.int .i64 (k : Int))), (21, (Value.int .i64 (l.length : Int))), (20, xl), (4, (bptr b4 0)), (0, (bptr bx 0))] rfl; clear hA62
   refine c_drawV mixed hA64 hS63 10 [[], [0], [1], [2], [3], [], [5], [4, 6], [7], []] [(fun (vs65 : Nat → Value) (v_ : Value) (rs_ : List Res) => v_ = (bptr bx 0) ∧ rs_ = []), (fun (vs65 : Nat → Value) (v_ : Value) (rs_ : List Res) => v_ = (bptr bx 0) ∧ rs_ = []), (fun (vs65 : Nat → Value) (v_ : Value) (rs_ : List Res) => v_ = (bptr bx 0) ∧ rs_ = []), (fun (vs65 : Nat → Value) (v_ : Value) (rs_ : List Res) => v_ = (bptr bx 2) ∧ rs_ = []), (fun (vs65 : Nat → Value) (v_ : Value) (rs_ : List Res) => v_ = vm ∧ rs_ = []), (fun (vs65 : Nat → Value) (v_ : Value) (rs_ : List Res) => v_ = (bptr b58 0) ∧ rs_ = []), (fun (vs65 : Nat → Value) (v_ : Value) (rs_ : List Res) => v_ = (Value.int .i64 ((l.getD k (0, 0)).1)) ∧ rs_ = []), (fun (vs65 : Nat → Value) (v_ : Value) (rs_ : List Res) => v_ = (eptr vm (((l.getD k (0, 0)).1).toNat * 2)) ∧ rs_ = []), (fun (vs65 : Nat → Value) (v_ : Value) (rs_ : List Res) => v_ = (Value.agg #[(Value.int .i64 ((b.macs.getD (((l.getD k (0, 0)).1).toNat) mac0).scale)), (lk (((l.getD k (0, 0)).1).toNat))]) ∧ rs_ = []), (fun (vs65 : Nat → Value) (v_ : Value) (rs_ : List Res) => ∃ (b9_ : Nat), v_ = (bptr b9_ 0) ∧ rs_ = [(blk b9_ 103 [(Value.int .i64 0), (Value.slice none 0 0)])])] (by decide +kernel) (by decide +kernel) rfl rfl ⟨(fun _ _ _ _ _ h_ => h_), (fun _ _ _ _ _ h_ => h_), (fun _ _ _ _ _ h_ => h_), (fun _ _ _ _ _ h_ => h_), (fun _ _ _ _ _ h_ => h_), (fun _ _ _ _ _ h_ => h_), (fun _ _ _ _ _ h_ => h_), (fun _ _ _ _ _ h_ => h_), (fun _ _ _ _ _ h_ => h_), (fun _ _ _ _ _ h_ => h_), trivial⟩ ?_ ?_
   ·skip
    refine ⟨fun a w vs65 hA hS hd => ?_, ?_⟩
    ·skip
     exact opG_of rfl (vv (op_move rfl (hA.ev rfl)) (And.intro rfl rfl))
    refine ⟨fun a w vs65 hA hS hd => ?_, ?_⟩
    ·skip
     obtain ⟨e0, rs0, hy0, hp0⟩ := hd 0 (by decide)
     obtain ⟨hv0, hr0⟩ := hy0; subst hr0
     rw [hv0] at e0
     exact opG_of rfl (vv (op_nilCheck rfl (tmp_ev (slot_ev e0 rfl))) (And.intro rfl rfl))
    refine ⟨fun a w vs65 hA hS hd => ?_, ?_⟩
    ·skip
     obtain ⟨e1, rs1, hy1, hp1⟩ := hd 1 (by decide)
     obtain ⟨hv1, hr1⟩ := hy1; subst hr1
     rw [hv1] at e1
     exact opG_of rfl (vv (op_field rfl fd_146_0 (tmp_ev (slot_ev e1 rfl))) (And.intro rfl rfl))
    refine ⟨fun a w vs65 hA hS hd => ?_, ?_⟩
    ·skip
     obtain ⟨e2, rs2, hy2, hp2⟩ := hd 2 (by decide)
     obtain ⟨hv2, hr2⟩ := hy2; subst hr2
     rw [hv2] at e2
     exact opG_of rfl (vv (op_field rfl fd_37_2 (tmp_ev (slot_ev e2 rfl))) (And.intro rfl rfl))
    refine ⟨fun a w vs65 hA hS hd => ?_, ?_⟩
    ·skip
     obtain ⟨e3, rs3, hy3, hp3⟩ := hd 3 (by decide)
     obtain ⟨hv3, hr3⟩ := hy3; subst hr3
     rw [hv3] at e3
     exact opG_of rfl (vv (op_load1 rfl ty_35 (tmp_ev (slot_ev e3 rfl)) (hS.rk 2 rfl) rfl) (And.intro rfl rfl))
    refine ⟨fun a w vs65 hA hS hd => ?_, ?_⟩
    ·skip
     exact opG_of rfl (vv (op_field rfl fd_98_0 (hA.ev rfl)) (And.intro rfl rfl))
    refine ⟨fun a w vs65 hA hS hd => ?_, ?_⟩
    ·skip
     obtain ⟨e5, rs5, hy5, hp5⟩ := hd 5 (by decide)
     obtain ⟨hv5, hr5⟩ := hy5; subst hr5
     rw [hv5] at e5
     exact opG_of rfl (vv (op_load1 rfl ty_3 (tmp_ev (slot_ev e5 rfl)) (hS.bk 0 rfl) rfl) (And.intro rfl rfl))
    refine ⟨fun a w vs65 hA hS hd => ?_, ?_⟩
    ·skip
     obtain ⟨e4, rs4, hy4, hp4⟩ := hd 4 (by decide)
     obtain ⟨hv4, hr4⟩ := hy4; subst hr4
     rw [hv4] at e4
     obtain ⟨e6, rs6, hy6, hp6⟩ := hd 6 (by decide)
     obtain ⟨hv6, hr6⟩ := hy6; subst hr6
     rw [hv6] at e6
     exact opG_of rfl (vv (op_indexS rfl un_35 ty_103 (tmp_ev (slot_ev e4 rfl)) (i := ((l.getD k (0, 0)).1).toNat) ((tmp_ev (slot_ev e6 rfl)).trans (int_nat (by omega))) (macs_at (hS.ok 5 _ rfl)).macs (by decide) (by omega)) (And.intro rfl rfl))
    refine ⟨fun a w vs65 hA hS hd => ?_, ?_⟩
    ·skip
     obtain ⟨e7, rs7, hy7, hp7⟩ := hd 7 (by decide)
     obtain ⟨hv7, hr7⟩ := hy7; subst hr7
     rw [hv7] at e7
     exact opG_of rfl (vv (op_loadAE rfl ty_103 (tmp_ev (slot_ev e7 rfl)) (macs_at (hS.ok 5 _ rfl)).macs (macs_all (by omega)) rfl (by decide)) (And.intro rfl rfl))
    refine ⟨fun a w vs65 hA hS hd => ?_, ?_⟩
    ·skip
     exact opG_of rfl (valloc rfl ze_103 (cs := [(Value.int .i64 0), (Value.slice none 0 0)]) rfl (fun b_ => ⟨b_, rfl, rfl⟩))
    trivial
   intro a66 w67 vs65 rsf71 hA68 hH70 hS69; clear hA64 hS63
   obtain ⟨hs_0, hy_0⟩ := hH70 0 (by decide)
   obtain ⟨hv_0, hr_0⟩ := hy_0
   obtain ⟨hs_1, hy_1⟩ := hH70 1 (by decide)
   obtain ⟨hv_1, hr_1⟩ := hy_1
   obtain ⟨hs_2, hy_2⟩ := hH70 2 (by decide)
   obtain ⟨hv_2, hr_2⟩ := hy_2
   obtain ⟨hs_3, hy_3⟩ := hH70 3 (by decide)
   obtain ⟨hv_3, hr_3⟩ := hy_3
   obtain ⟨hs_4, hy_4⟩ := hH70 4 (by decide)
   obtain ⟨hv_4, hr_4⟩ := hy_4
   obtain ⟨hs_5, hy_5⟩ := hH70 5 (by decide)
   obtain ⟨hv_5, hr_5⟩ := hy_5
   obtain ⟨hs_6, hy_6⟩ := hH70 6 (by decide)
   obtain ⟨hv_6, hr_6⟩ := hy_6
   obtain ⟨hs_7, hy_7⟩ := hH70 7 (by decide)
   obtain ⟨hv_7, hr_7⟩ := hy_7
   obtain ⟨hs_8, hy_8⟩ := hH70 8 (by decide)
   obtain ⟨hv_8, hr_8⟩ := hy_8
   obtain ⟨hs_9, hy_9⟩ := hH70 9 (by decide)
   obtain ⟨b9_, hv_9, hr_9⟩ := hy_9
   have hS72 : Sep NoB w w67 [(blk b9_ 103 [(Value.int .i64 0), (Value.slice none 0 0)]), (blk b58 98 [(Value.int .i64 ((l.getD k (0, 0)).1)), (Value.int .i64 ((l.getD k (0, 0)).2))]), (blk b4 120 (pairs (startU b l free4 k))), (rob bx 146 [(Value.int .i64 b.scales), vt, vm, (Value.map (some bm))]), (mapX false bm es ck es.size 106 5 (bN b.tabs b.tabs.length) (bC lr lb b.tabs b.tabs.length)), (tabsR false vt lr lb b.tabs), (macsR false vm lk b.macs), (sl xl 2 l.length (pairs l))] := by rw [show catR rsf71 0 10 = ([(blk b9_ 103 [(Value.int .i64 0), (Value.slice none 0 0)])] : List Res) by (try simp only [catR, hr_0, hr_1, hr_2, hr_3, hr_4, hr_5, hr_6, hr_7, hr_8, hr_9]); (try rfl)] at hS69; exact hS69
   rw [hv_8] at hs_8
   have hA73 : Fr 79 [] [(34, (Value.agg #[(Value.int .i64 ((b.macs.getD (((l.getD k (0, 0)).1).toNat) mac0).scale)), (lk (((l.getD k (0, 0)).1).toNat))])), (8, (bptr b58 0)), (22, (Value.int .i64 (k : Int))), (21, (Value.int .i64 (l.length : Int))), (20, xl), (4, (bptr b4 0)), (0, (bptr bx 0))] a66 := hA68.add (slot_ev hs_8 rfl); clear hA68
   rw [hv_9] at hs_9
   have hA74 : Fr 79 [] [(9, (bptr b9_ 0)), (34, (Value.agg #[(Value.int .i64 ((b.macs.getD (((l.getD k (0, 0)).1).toNat) mac0).scale)), (lk (((l.getD k (0, 0)).1).toNat))])), (8, (bptr b58 0)), (22, (Value.int .i64 (k : Int))), (21, (Value.int .i64 (l.length : Int))), (20, xl), (4, (bptr b4 0)), (0, (bptr bx 0))] a66 := hA73.add (slot_ev hs_9 rfl); clear hA73
   clear hH70 hS69 hs_0 hs_1 hs_2 hs_3 hs_4 hs_5 hs_6 hs_7 hs_8 hs_9
   clear hr_0
   clear hv_0
   clear hr_1
   clear hv_1
   clear hr_2
   clear hv_2
   clear hr_3
   clear hv_3
   clear hr_4
   clear hv_4
   clear hr_5
   clear hv_5
   clear hr_6
   clear hv_6
   clear hr_7
   clear hv_7
   clear hr_8
   clear hv_8
   clear hr_9
   clear hv_9
   refine sts hA74 (op_store hS72 rfl ty_103 (hA74.ev rfl) (hA74.ev rfl) (i := 0) rfl (vs := [(Value.int .i64 ((b.macs.getD (((l.getD k (0, 0)).1).toNat) mac0).scale)), (lk (((l.getD k (0, 0)).1).toNat))]) rfl rfl (all_c rfl (all_c (SlAt.one ((macs_at (hS72.ok 6 _ rfl)).blk (i := ((l.getD k (0, 0)).1).toNat) (by omega))) all_n)) (Nat.le_of_ble_eq_true rfl)) rfl rfl ?_
   intro _ w75 hS76 hA77; clear hA74
   have hS78 : Sep NoB w w75 [(blk b9_ 103 [(Value.int .i64 ((b.macs.getD (((l.getD k (0, 0)).1).toNat) mac0).scale)), (lk (((l.getD k (0, 0)).1).toNat))]), (blk b58 98 [(Value.int .i64 ((l.getD k (0, 0)).1)), (Value.int .i64 ((l.getD k (0, 0)).2))]), (blk b4 120 (pairs (startU b l free4 k))), (rob bx 146 [(Value.int .i64 b.scales), vt, vm, (Value.map (some bm))]), (mapX false bm es ck es.size 106 5 (bN b.tabs b.tabs.length) (bC lr lb b.tabs b.tabs.length)), (tabsR false vt lr lb b.tabs), (macsR false vm lk b.macs), (sl xl 2 l.length (pairs l))] := hS76; clear hS76 hS72
   refine wl_nil ?_
   refine then_n ?_
   refine c_seq ?_
   refine c_region ?_
   refine st hA77 (op_loadA rfl ty_103 (hA77.ev rfl) (hS78.bk 0 rfl) (l := [(Value.int .i64 ((b.macs.getD (((l.getD k (0, 0)).1).toNat) mac0).scale)), (lk (((l.getD k (0, 0)).1).toNat))]) rfl rfl) rfl rfl (by decide) fun a79 hA80 => ?_; clear hA77 a66
   refine stw hA80 (op_call rfl en_67 (ev1 (hA80.ev rfl)) (bias_ok _ (b.macs.getD (((l.getD k (0, 0)).1).toNat) mac0) _ _ ((macs_at (hS78.ok 6 _ rfl)).blk (i := ((l.getD k (0, 0)).1).toNat) (by omega)) (hl.macV hb (by omega)) (hth.kl _))) rfl rfl (by decide) ?_
   rintro a81 _ w83 ⟨rfl, hE84⟩ hA82; have hS85 := hS78.step hE84; clear hE84 hA80 hS78 a79
   refine stw hA82 (op_alloc hS85 rfl ze_30 (cs := [(Value.int .i64 0), (Value.int .i64 0)]) rfl) rfl rfl (by decide) ?_
   rintro a86 _ w88 ⟨b89, rfl, hS90⟩ hA87; clear hA82 hS85 a81
   refine sts hA87 (op_store hS90 rfl ty_30 (hA87.ev rfl) (hA87.ev rfl) (i := 0) rfl (vs := [(Value.int .i64 ((biasF (b.macs.getD (((l.getD k (0, 0)).1).toNat) mac0)).1)), (Value.int .i64 ((biasF (b.macs.getD (((l.getD k (0, 0)).1).toNat) mac0)).2))]) rfl rfl rfl (Nat.le_of_ble_eq_true rfl)) rfl rfl ?_
   intro _ w91 hS92 hA93; clear hA87
   have hS94 : Sep NoB w w91 [(blk b89 30 [(Value.int .i64 ((biasF (b.macs.getD (((l.getD k (0, 0)).1).toNat) mac0)).1)), (Value.int .i64 ((biasF (b.macs.getD (((l.getD k (0, 0)).1).toNat) mac0)).2))]), (blk b9_ 103 [(Value.int .i64 ((b.macs.getD (((l.getD k (0, 0)).1).toNat) mac0).scale)), (lk (((l.getD k (0, 0)).1).toNat))]), (blk b58 98 [(Value.int .i64 ((l.getD k (0, 0)).1)), (Value.int .i64 ((l.getD k (0, 0)).2))]), (blk b4 120 (pairs (startU b l free4 k))), (rob bx 146 [(Value.int .i64 b.scales), vt, vm, (Value.map (some bm))]), (mapX false bm es ck es.size 106 5 (bN b.tabs b.tabs.length) (bC lr lb b.tabs b.tabs.length)), (tabsR false vt lr lb b.tabs), (macsR false vm lk b.macs), (sl xl 2 l.length (pairs l))] := hS92; clear hS92 hS90
   refine wl_nil ?_
   refine then_n ?_
   refine c_seq ?_
   have hA95 := hA93.as [(10, (bptr b89 0)), (9, (bptr b9_ 0)), (8, (bptr b58 0)), (22, (Value.int .i64 (k : Int))), (21, (Value.int .i64 (l.length : Int))), (20, xl), (4, (bptr b4 0)), (0, (bptr bx 0))] rfl; clear hA93
   refine c_drawn mixed hA95 hS94 18 [[], [0], [], [2], [3], [4], [], [6], [], [8], [7, 9], [], [11], [], [13], [12, 14], [10, 15], [5, 16]] [(Yd.val (bptr b9_ 0)), (Yd.val (Value.int .i64 ((b.macs.getD (((l.getD k (0, 0)).1).toNat) mac0).scale))), (Yd.val (bptr b9_ 0)), (Yd.val (Value.int .i64 ((b.macs.getD (((l.getD k (0, 0)).1).toNat) mac0).scale))), (Yd.val (bptr b4 (0 + ((b.macs.getD (((l.getD k (0, 0)).1).toNat) mac0).scale).toNat * 2))), (Yd.val (Value.agg #[(Value.int .i64 (((startU b l free4 k).getD (((b.macs.getD (((l.getD k (0, 0)).1).toNat) mac0).scale).toNat) (0, 0)).1)), (Value.int .i64 (((startU b l free4 k).getD (((b.macs.getD (((l.getD k (0, 0)).1).toNat) mac0).scale).toNat) (0, 0)).2))])), (Yd.val (bptr b58 1)), (Yd.val (Value.int .i64 ((l.getD k (0, 0)).2))), (Yd.val (bptr b89 1)), (Yd.val (Value.int .i64 ((biasF (b.macs.getD (((l.getD k (0, 0)).1).toNat) mac0)).2))), (Yd.val (Value.int .i64 (((l.getD k (0, 0)).2) - ((biasF (b.macs.getD (((l.getD k (0, 0)).1).toNat) mac0)).2)))), (Yd.val (bptr b58 1)), (Yd.val (Value.int .i64 ((l.getD k (0, 0)).2))), (Yd.val (bptr b89 0)), (Yd.val (Value.int .i64 ((biasF (b.macs.getD (((l.getD k (0, 0)).1).toNat) mac0)).1))), (Yd.val (Value.int .i64 (((l.getD k (0, 0)).2) - ((biasF (b.macs.getD (((l.getD k (0, 0)).1).toNat) mac0)).1)))), (Yd.val (Value.agg #[(Value.int .i64 (((l.getD k (0, 0)).2) - ((biasF (b.macs.getD (((l.getD k (0, 0)).1).toNat) mac0)).2))), (Value.int .i64 (((l.getD k (0, 0)).2) - ((biasF (b.macs.getD (((l.getD k (0, 0)).1).toNat) mac0)).1)))])), (Yd.val (Value.agg #[(Value.int .i64 ((cutR (((startU b l free4 k).getD (((b.macs.getD (((l.getD k (0, 0)).1).toNat) mac0).scale).toNat) (0, 0)).1, ((startU b l free4 k).getD (((b.macs.getD (((l.getD k (0, 0)).1).toNat) mac0).scale).toNat) (0, 0)).2) (((l.getD k (0, 0)).2) - ((biasF (b.macs.getD (((l.getD k (0, 0)).1).toNat) mac0)).2), ((l.getD k (0, 0)).2) - ((biasF (b.macs.getD (((l.getD k (0, 0)).1).toNat) mac0)).1))).1)), (Value.int .i64 ((cutR (((startU b l free4 k).getD (((b.macs.getD (((l.getD k (0, 0)).1).toNat) mac0).scale).toNat) (0, 0)).1, ((startU b l free4 k).getD (((b.macs.getD (((l.getD k (0, 0)).1).toNat) mac0).scale).toNat) (0, 0)).2) (((l.getD k (0, 0)).2) - ((biasF (b.macs.getD (((l.getD k (0, 0)).1).toNat) mac0)).2), ((l.getD k (0, 0)).2) - ((biasF (b.macs.getD (((l.getD k (0, 0)).1).toNat) mac0)).1))).2))]))] (by decide +kernel) rfl rfl ?_ ?_
   ·skip
    refine ⟨fun a w hA hS hd => by exact opG_of rfl (dv (op_field rfl fd_103_0 (hA.ev rfl)) hS rfl), ?_⟩
    refine ⟨fun a w hA hS hd => by have e0 := has_ev (hd 0 (by decide)) rfl (fun _ h => h); exact opG_of rfl (dv (op_load1 rfl ty_3 (tmp_ev e0) (hS.bk 1 rfl) rfl) hS rfl), ?_⟩
    refine ⟨fun a w hA hS hd => by exact opG_of rfl (dv (op_field rfl fd_103_0 (hA.ev rfl)) hS rfl), ?_⟩
    refine ⟨fun a w hA hS hd => by have e2 := has_ev (hd 2 (by decide)) rfl (fun _ h => h); exact opG_of rfl (dv (op_load1 rfl ty_3 (tmp_ev e2) (hS.bk 1 rfl) rfl) hS rfl), ?_⟩
    refine ⟨fun a w hA hS hd => by have e3 := has_ev (hd 3 (by decide)) rfl (fun _ h => h); exact opG_of rfl (dv (op_indexA rfl un_120 ty_30 (hA.ev rfl) (i := ((b.macs.getD (((l.getD k (0, 0)).1).toNat) mac0).scale).toNat) ((tmp_ev e3).trans (int_nat (by omega))) (by omega)) hS rfl), ?_⟩
    refine ⟨fun a w hA hS hd => by have e4 := has_ev (hd 4 (by decide)) rfl (fun _ h => h); exact opG_of rfl (dv (op_loadA rfl ty_30 (tmp_ev e4) (hS.bk 3 rfl) (l := [(Value.int .i64 (((startU b l free4 k).getD (((b.macs.getD (((l.getD k (0, 0)).1).toNat) mac0).scale).toNat) (0, 0)).1)), (Value.int .i64 (((startU b l free4 k).getD (((b.macs.getD (((l.getD k (0, 0)).1).toNat) mac0).scale).toNat) (0, 0)).2))]) (pairs_all0 (xs := (startU b l free4 k)) (i := ((b.macs.getD (((l.getD k (0, 0)).1).toNat) mac0).scale).toNat) (by omega)) rfl) hS rfl), ?_⟩
    refine ⟨fun a w hA hS hd => by exact opG_of rfl (dv (op_field rfl fd_98_1 (hA.ev rfl)) hS rfl), ?_⟩
    refine ⟨fun a w hA hS hd => by have e6 := has_ev (hd 6 (by decide)) rfl (fun _ h => h); exact opG_of rfl (dv (op_load1 rfl ty_3 (tmp_ev e6) (hS.bk 2 rfl) rfl) hS rfl), ?_⟩
    refine ⟨fun a w hA hS hd => by exact opG_of rfl (dv (op_field rfl fd_30_1 (hA.ev rfl)) hS rfl), ?_⟩
    refine ⟨fun a w hA hS hd => by have e8 := has_ev (hd 8 (by decide)) rfl (fun _ h => h); exact opG_of rfl (dv (op_load1 rfl ty_3 (tmp_ev e8) (hS.bk 0 rfl) rfl) hS rfl), ?_⟩
    refine ⟨fun a w hA hS hd => by have e7 := has_ev (hd 7 (by decide)) rfl (fun _ h => h); have e9 := has_ev (hd 9 (by decide)) rfl (fun _ h => h); exact opG_of rfl (dv (op_sub rfl (tmp_ev e7) (tmp_ev e9) (by omega) (by omega)) hS rfl), ?_⟩
    refine ⟨fun a w hA hS hd => by exact opG_of rfl (dv (op_field rfl fd_98_1 (hA.ev rfl)) hS rfl), ?_⟩
    refine ⟨fun a w hA hS hd => by have e11 := has_ev (hd 11 (by decide)) rfl (fun _ h => h); exact opG_of rfl (dv (op_load1 rfl ty_3 (tmp_ev e11) (hS.bk 2 rfl) rfl) hS rfl), ?_⟩
    refine ⟨fun a w hA hS hd => by exact opG_of rfl (dv (op_field rfl fd_30_0 (hA.ev rfl)) hS rfl), ?_⟩
    refine ⟨fun a w hA hS hd => by have e13 := has_ev (hd 13 (by decide)) rfl (fun _ h => h); exact opG_of rfl (dv (op_load1 rfl ty_3 (tmp_ev e13) (hS.bk 0 rfl) rfl) hS rfl), ?_⟩
    refine ⟨fun a w hA hS hd => by have e12 := has_ev (hd 12 (by decide)) rfl (fun _ h => h); have e14 := has_ev (hd 14 (by decide)) rfl (fun _ h => h); exact opG_of rfl (dv (op_sub rfl (tmp_ev e12) (tmp_ev e14) (by omega) (by omega)) hS rfl), ?_⟩
    refine ⟨fun a w hA hS hd => by have e10 := has_ev (hd 10 (by decide)) rfl (fun _ h => h); have e15 := has_ev (hd 15 (by decide)) rfl (fun _ h => h); exact opG_of rfl (dv (op_build rfl (pv2 (tmp_ev e10) (tmp_ev e15)) (bd_30_0i_1i _ _)) hS rfl), ?_⟩
    refine ⟨fun a w hA hS hd => by have e5 := has_ev (hd 5 (by decide)) rfl (fun _ h => h); have e16 := has_ev (hd 16 (by decide)) rfl (fun _ h => h); exact opG_of rfl (dx (op_call rfl en_87 (ev2 (tmp_ev e5) (tmp_ev e16)) (cut_ok _ _ _ _ _)) hS (fun _ => rfl)), ?_⟩
    trivial
   intro a97 w98 hA99 hS100 hH101; clear hA95 hS94
   have hA102 := hA99.add (has_ev (hH101 1 (by decide)) rfl (fun _ h => h)); clear hA99
   have hA103 := hA102.add (has_ev (hH101 17 (by decide)) rfl (fun _ h => h)); clear hA102
   clear hH101
   refine st hA103 (op_indexA rfl un_120 ty_30 (hA103.ev rfl) (i := ((b.macs.getD (((l.getD k (0, 0)).1).toNat) mac0).scale).toNat) ((hA103.ev rfl).trans (int_nat (by omega))) (by omega)) rfl rfl (by decide) fun a104 hA105 => ?_; clear hA103 a97
   refine sts hA105 (op_store hS100 rfl ty_30 (hA105.ev rfl) (hA105.ev rfl) (i := 3) rfl (vs := [(Value.int .i64 ((cutR (((startU b l free4 k).getD (((b.macs.getD (((l.getD k (0, 0)).1).toNat) mac0).scale).toNat) (0, 0)).1, ((startU b l free4 k).getD (((b.macs.getD (((l.getD k (0, 0)).1).toNat) mac0).scale).toNat) (0, 0)).2) (((l.getD k (0, 0)).2) - ((biasF (b.macs.getD (((l.getD k (0, 0)).1).toNat) mac0)).2), ((l.getD k (0, 0)).2) - ((biasF (b.macs.getD (((l.getD k (0, 0)).1).toNat) mac0)).1))).1)), (Value.int .i64 ((cutR (((startU b l free4 k).getD (((b.macs.getD (((l.getD k (0, 0)).1).toNat) mac0).scale).toNat) (0, 0)).1, ((startU b l free4 k).getD (((b.macs.getD (((l.getD k (0, 0)).1).toNat) mac0).scale).toNat) (0, 0)).2) (((l.getD k (0, 0)).2) - ((biasF (b.macs.getD (((l.getD k (0, 0)).1).toNat) mac0)).2), ((l.getD k (0, 0)).2) - ((biasF (b.macs.getD (((l.getD k (0, 0)).1).toNat) mac0)).1))).2))]) rfl rfl rfl (by simp only [pairs_length, List.length_set, List.length_cons, List.length_nil]; omega)) rfl rfl ?_
   intro _ w106 hS107 hA109; have hS108 := hS107.blk_say (i := 3) rfl (cs' := (pairs ((startU b l free4 k).set (((b.macs.getD (((l.getD k (0, 0)).1).toNat) mac0).scale).toNat) ((cutR (((startU b l free4 k).getD (((b.macs.getD (((l.getD k (0, 0)).1).toNat) mac0).scale).toNat) (0, 0)).1, ((startU b l free4 k).getD (((b.macs.getD (((l.getD k (0, 0)).1).toNat) mac0).scale).toNat) (0, 0)).2) (((l.getD k (0, 0)).2) - ((biasF (b.macs.getD (((l.getD k (0, 0)).1).toNat) mac0)).2), ((l.getD k (0, 0)).2) - ((biasF (b.macs.getD (((l.getD k (0, 0)).1).toNat) mac0)).1))).1, (cutR (((startU b l free4 k).getD (((b.macs.getD (((l.getD k (0, 0)).1).toNat) mac0).scale).toNat) (0, 0)).1, ((startU b l free4 k).getD (((b.macs.getD (((l.getD k (0, 0)).1).toNat) mac0).scale).toNat) (0, 0)).2) (((l.getD k (0, 0)).2) - ((biasF (b.macs.getD (((l.getD k (0, 0)).1).toNat) mac0)).2), ((l.getD k (0, 0)).2) - ((biasF (b.macs.getD (((l.getD k (0, 0)).1).toNat) mac0)).1))).2)))) (pairs_setZ _ _ _ _); clear hS107 hA105 hS100
   refine wl_nil ?_
   refine then_n ?_
   refine c_seq ?_
   refine c_region ?_
   refine st hA109 (op_field rfl fd_103_0 (hA109.ev rfl)) rfl rfl (by decide) fun a110 hA111 => ?_; clear hA109 a104
   refine st hA111 (op_load1 rfl ty_3 (hA111.ev rfl) (hS108.bk 1 rfl) rfl) rfl rfl (by decide) fun a112 hA113 => ?_; clear hA111 a110
   refine st hA113 (op_indexA rfl un_120 ty_30 (hA113.ev rfl) (i := ((b.macs.getD (((l.getD k (0, 0)).1).toNat) mac0).scale).toNat) ((hA113.ev rfl).trans (int_nat (by omega))) (by omega)) rfl rfl (by decide) fun a114 hA115 => ?_; clear hA113 a112
   refine st hA115 (op_loadA rfl ty_30 (hA115.ev rfl) (hS108.bk 3 rfl) (l := [(Value.int .i64 ((((startU b l free4 k).set (((b.macs.getD (((l.getD k (0, 0)).1).toNat) mac0).scale).toNat) ((cutR (((startU b l free4 k).getD (((b.macs.getD (((l.getD k (0, 0)).1).toNat) mac0).scale).toNat) (0, 0)).1, ((startU b l free4 k).getD (((b.macs.getD (((l.getD k (0, 0)).1).toNat) mac0).scale).toNat) (0, 0)).2) (((l.getD k (0, 0)).2) - ((biasF (b.macs.getD (((l.getD k (0, 0)).1).toNat) mac0)).2), ((l.getD k (0, 0)).2) - ((biasF (b.macs.getD (((l.getD k (0, 0)).1).toNat) mac0)).1))).1, (cutR (((startU b l free4 k).getD (((b.macs.getD (((l.getD k (0, 0)).1).toNat) mac0).scale).toNat) (0, 0)).1, ((startU b l free4 k).getD (((b.macs.getD (((l.getD k (0, 0)).1).toNat) mac0).scale).toNat) (0, 0)).2) (((l.getD k (0, 0)).2) - ((biasF (b.macs.getD (((l.getD k (0, 0)).1).toNat) mac0)).2), ((l.getD k (0, 0)).2) - ((biasF (b.macs.getD (((l.getD k (0, 0)).1).toNat) mac0)).1))).2)).getD (((b.macs.getD (((l.getD k (0, 0)).1).toNat) mac0).scale).toNat) (0, 0)).1)), (Value.int .i64 ((((startU b l free4 k).set (((b.macs.getD (((l.getD k (0, 0)).1).toNat) mac0).scale).toNat) ((cutR (((startU b l free4 k).getD (((b.macs.getD (((l.getD k (0, 0)).1).toNat) mac0).scale).toNat) (0, 0)).1, ((startU b l free4 k).getD (((b.macs.getD (((l.getD k (0, 0)).1).toNat) mac0).scale).toNat) (0, 0)).2) (((l.getD k (0, 0)).2) - ((biasF (b.macs.getD (((l.getD k (0, 0)).1).toNat) mac0)).2), ((l.getD k (0, 0)).2) - ((biasF (b.macs.getD (((l.getD k (0, 0)).1).toNat) mac0)).1))).1, (cutR (((startU b l free4 k).getD (((b.macs.getD (((l.getD k (0, 0)).1).toNat) mac0).scale).toNat) (0, 0)).1, ((startU b l free4 k).getD (((b.macs.getD (((l.getD k (0, 0)).1).toNat) mac0).scale).toNat) (0, 0)).2) (((l.getD k (0, 0)).2) - ((biasF (b.macs.getD (((l.getD k (0, 0)).1).toNat) mac0)).2), ((l.getD k (0, 0)).2) - ((biasF (b.macs.getD (((l.getD k (0, 0)).1).toNat) mac0)).1))).2)).getD (((b.macs.getD (((l.getD k (0, 0)).1).toNat) mac0).scale).toNat) (0, 0)).2))]) (pairs_all0 (xs := ((startU b l free4 k).set (((b.macs.getD (((l.getD k (0, 0)).1).toNat) mac0).scale).toNat) ((cutR (((startU b l free4 k).getD (((b.macs.getD (((l.getD k (0, 0)).1).toNat) mac0).scale).toNat) (0, 0)).1, ((startU b l free4 k).getD (((b.macs.getD (((l.getD k (0, 0)).1).toNat) mac0).scale).toNat) (0, 0)).2) (((l.getD k (0, 0)).2) - ((biasF (b.macs.getD (((l.getD k (0, 0)).1).toNat) mac0)).2), ((l.getD k (0, 0)).2) - ((biasF (b.macs.getD (((l.getD k (0, 0)).1).toNat) mac0)).1))).1, (cutR (((startU b l free4 k).getD (((b.macs.getD (((l.getD k (0, 0)).1).toNat) mac0).scale).toNat) (0, 0)).1, ((startU b l free4 k).getD (((b.macs.getD (((l.getD k (0, 0)).1).toNat) mac0).scale).toNat) (0, 0)).2) (((l.getD k (0, 0)).2) - ((biasF (b.macs.getD (((l.getD k (0, 0)).1).toNat) mac0)).2), ((l.getD k (0, 0)).2) - ((biasF (b.macs.getD (((l.getD k (0, 0)).1).toNat) mac0)).1))).2))) (i := ((b.macs.getD (((l.getD k (0, 0)).1).toNat) mac0).scale).toNat) (by simp only [List.length_set]; omega)) rfl) rfl rfl (by decide) fun a116 hA117 => ?_; clear hA115 a114
   refine stw hA117 (op_call rfl en_68 (ev1 (hA117.ev rfl)) (empty_ok _ _ _)) rfl rfl (by decide) ?_
   rintro a118 _ w120 ⟨rfl, hE121⟩ hA119; have hS122 := hS108.step hE121; clear hE121 hA117 hS108 a116
   refine wl_nil ?_
   refine then_n ?_
   by_cases hb123 : ((((startU b l free4 k).set (((b.macs.getD (((l.getD k (0, 0)).1).toNat) mac0).scale).toNat) ((cutR (((startU b l free4 k).getD (((b.macs.getD (((l.getD k (0, 0)).1).toNat) mac0).scale).toNat) (0, 0)).1, ((startU b l free4 k).getD (((b.macs.getD (((l.getD k (0, 0)).1).toNat) mac0).scale).toNat) (0, 0)).2) (((l.getD k (0, 0)).2) - ((biasF (b.macs.getD (((l.getD k (0, 0)).1).toNat) mac0)).2), ((l.getD k (0, 0)).2) - ((biasF (b.macs.getD (((l.getD k (0, 0)).1).toNat) mac0)).1))).1, (cutR (((startU b l free4 k).getD (((b.macs.getD (((l.getD k (0, 0)).1).toNat) mac0).scale).toNat) (0, 0)).1, ((startU b l free4 k).getD (((b.macs.getD (((l.getD k (0, 0)).1).toNat) mac0).scale).toNat) (0, 0)).2) (((l.getD k (0, 0)).2) - ((biasF (b.macs.getD (((l.getD k (0, 0)).1).toNat) mac0)).2), ((l.getD k (0, 0)).2) - ((biasF (b.macs.getD (((l.getD k (0, 0)).1).toNat) mac0)).1))).2)).getD (((b.macs.getD (((l.getD k (0, 0)).1).toNat) mac0).scale).toNat) (0, 0)).2) < ((((startU b l free4 k).set (((b.macs.getD (((l.getD k (0, 0)).1).toNat) mac0).scale).toNat) ((cutR (((startU b l free4 k).getD (((b.macs.getD (((l.getD k (0, 0)).1).toNat) mac0).scale).toNat) (0, 0)).1, ((startU b l free4 k).getD (((b.macs.getD (((l.getD k (0, 0)).1).toNat) mac0).scale).toNat) (0, 0)).2) (((l.getD k (0, 0)).2) - ((biasF (b.macs.getD (((l.getD k (0, 0)).1).toNat) mac0)).2), ((l.getD k (0, 0)).2) - ((biasF (b.macs.getD (((l.getD k (0, 0)).1).toNat) mac0)).1))).1, (cutR (((startU b l free4 k).getD (((b.macs.getD (((l.getD k (0, 0)).1).toNat) mac0).scale).toNat) (0, 0)).1, ((startU b l free4 k).getD (((b.macs.getD (((l.getD k (0, 0)).1).toNat) mac0).scale).toNat) (0, 0)).2) (((l.getD k (0, 0)).2) - ((biasF (b.macs.getD (((l.getD k (0, 0)).1).toNat) mac0)).2), ((l.getD k (0, 0)).2) - ((biasF (b.macs.getD (((l.getD k (0, 0)).1).toNat) mac0)).1))).2)).getD (((b.macs.getD (((l.getD k (0, 0)).1).toNat) mac0).scale).toNat) (0, 0)).1)
   ·skip
    rw [decide_eq_true hb123] at hA119
    refine c_true hA119 rfl ?_
    refine c_seq ?_
    have hA124 := hA119.as [(4, (bptr b4 0))] rfl; clear hA119
    refine c_region ?_
    refine st hA124 (op_loadA rfl ty_120 (hA124.ev rfl) (hS122.bk 3 rfl) (l := (pairs ((startU b l free4 k).set (((b.macs.getD (((l.getD k (0, 0)).1).toNat) mac0).scale).toNat) ((cutR (((startU b l free4 k).getD (((b.macs.getD (((l.getD k (0, 0)).1).toNat) mac0).scale).toNat) (0, 0)).1, ((startU b l free4 k).getD (((b.macs.getD (((l.getD k (0, 0)).1).toNat) mac0).scale).toNat) (0, 0)).2) (((l.getD k (0, 0)).2) - ((biasF (b.macs.getD (((l.getD k (0, 0)).1).toNat) mac0)).2), ((l.getD k (0, 0)).2) - ((biasF (b.macs.getD (((l.getD k (0, 0)).1).toNat) mac0)).1))).1, (cutR (((startU b l free4 k).getD (((b.macs.getD (((l.getD k (0, 0)).1).toNat) mac0).scale).toNat) (0, 0)).1, ((startU b l free4 k).getD (((b.macs.getD (((l.getD k (0, 0)).1).toNat) mac0).scale).toNat) (0, 0)).2) (((l.getD k (0, 0)).2) - ((biasF (b.macs.getD (((l.getD k (0, 0)).1).toNat) mac0)).2), ((l.getD k (0, 0)).2) - ((biasF (b.macs.getD (((l.getD k (0, 0)).1).toNat) mac0)).1))).2)))) (drop_take_all _ _ (show (pairs ((startU b l free4 k).set (((b.macs.getD (((l.getD k (0, 0)).1).toNat) mac0).scale).toNat) ((cutR (((startU b l free4 k).getD (((b.macs.getD (((l.getD k (0, 0)).1).toNat) mac0).scale).toNat) (0, 0)).1, ((startU b l free4 k).getD (((b.macs.getD (((l.getD k (0, 0)).1).toNat) mac0).scale).toNat) (0, 0)).2) (((l.getD k (0, 0)).2) - ((biasF (b.macs.getD (((l.getD k (0, 0)).1).toNat) mac0)).2), ((l.getD k (0, 0)).2) - ((biasF (b.macs.getD (((l.getD k (0, 0)).1).toNat) mac0)).1))).1, (cutR (((startU b l free4 k).getD (((b.macs.getD (((l.getD k (0, 0)).1).toNat) mac0).scale).toNat) (0, 0)).1, ((startU b l free4 k).getD (((b.macs.getD (((l.getD k (0, 0)).1).toNat) mac0).scale).toNat) (0, 0)).2) (((l.getD k (0, 0)).2) - ((biasF (b.macs.getD (((l.getD k (0, 0)).1).toNat) mac0)).2), ((l.getD k (0, 0)).2) - ((biasF (b.macs.getD (((l.getD k (0, 0)).1).toNat) mac0)).1))).2))).length = 8 from by simp only [pairs_length, List.length_set]; omega)) (show (pairs ((startU b l free4 k).set (((b.macs.getD (((l.getD k (0, 0)).1).toNat) mac0).scale).toNat) ((cutR (((startU b l free4 k).getD (((b.macs.getD (((l.getD k (0, 0)).1).toNat) mac0).scale).toNat) (0, 0)).1, ((startU b l free4 k).getD (((b.macs.getD (((l.getD k (0, 0)).1).toNat) mac0).scale).toNat) (0, 0)).2) (((l.getD k (0, 0)).2) - ((biasF (b.macs.getD (((l.getD k (0, 0)).1).toNat) mac0)).2), ((l.getD k (0, 0)).2) - ((biasF (b.macs.getD (((l.getD k (0, 0)).1).toNat) mac0)).1))).1, (cutR (((startU b l free4 k).getD (((b.macs.getD (((l.getD k (0, 0)).1).toNat) mac0).scale).toNat) (0, 0)).1, ((startU b l free4 k).getD (((b.macs.getD (((l.getD k (0, 0)).1).toNat) mac0).scale).toNat) (0, 0)).2) (((l.getD k (0, 0)).2) - ((biasF (b.macs.getD (((l.getD k (0, 0)).1).toNat) mac0)).2), ((l.getD k (0, 0)).2) - ((biasF (b.macs.getD (((l.getD k (0, 0)).1).toNat) mac0)).1))).2))).length = 8 from by simp only [pairs_length, List.length_set]; omega)) rfl rfl (by decide) fun a125 hA126 => ?_; clear hA124 a118
    refine sts hA126 (op_store hS122 rfl ty_120 (hA126.ev rfl) (hA126.ev rfl) (i := 3) rfl (vs := (pairs ((startU b l free4 k).set (((b.macs.getD (((l.getD k (0, 0)).1).toNat) mac0).scale).toNat) ((cutR (((startU b l free4 k).getD (((b.macs.getD (((l.getD k (0, 0)).1).toNat) mac0).scale).toNat) (0, 0)).1, ((startU b l free4 k).getD (((b.macs.getD (((l.getD k (0, 0)).1).toNat) mac0).scale).toNat) (0, 0)).2) (((l.getD k (0, 0)).2) - ((biasF (b.macs.getD (((l.getD k (0, 0)).1).toNat) mac0)).2), ((l.getD k (0, 0)).2) - ((biasF (b.macs.getD (((l.getD k (0, 0)).1).toNat) mac0)).1))).1, (cutR (((startU b l free4 k).getD (((b.macs.getD (((l.getD k (0, 0)).1).toNat) mac0).scale).toNat) (0, 0)).1, ((startU b l free4 k).getD (((b.macs.getD (((l.getD k (0, 0)).1).toNat) mac0).scale).toNat) (0, 0)).2) (((l.getD k (0, 0)).2) - ((biasF (b.macs.getD (((l.getD k (0, 0)).1).toNat) mac0)).2), ((l.getD k (0, 0)).2) - ((biasF (b.macs.getD (((l.getD k (0, 0)).1).toNat) mac0)).1))).2)))) rfl (show (pairs ((startU b l free4 k).set (((b.macs.getD (((l.getD k (0, 0)).1).toNat) mac0).scale).toNat) ((cutR (((startU b l free4 k).getD (((b.macs.getD (((l.getD k (0, 0)).1).toNat) mac0).scale).toNat) (0, 0)).1, ((startU b l free4 k).getD (((b.macs.getD (((l.getD k (0, 0)).1).toNat) mac0).scale).toNat) (0, 0)).2) (((l.getD k (0, 0)).2) - ((biasF (b.macs.getD (((l.getD k (0, 0)).1).toNat) mac0)).2), ((l.getD k (0, 0)).2) - ((biasF (b.macs.getD (((l.getD k (0, 0)).1).toNat) mac0)).1))).1, (cutR (((startU b l free4 k).getD (((b.macs.getD (((l.getD k (0, 0)).1).toNat) mac0).scale).toNat) (0, 0)).1, ((startU b l free4 k).getD (((b.macs.getD (((l.getD k (0, 0)).1).toNat) mac0).scale).toNat) (0, 0)).2) (((l.getD k (0, 0)).2) - ((biasF (b.macs.getD (((l.getD k (0, 0)).1).toNat) mac0)).2), ((l.getD k (0, 0)).2) - ((biasF (b.macs.getD (((l.getD k (0, 0)).1).toNat) mac0)).1))).2))).length = 8 from by simp only [pairs_length, List.length_set]; omega) (pairs_one _) (by simp only [pairs_length, List.length_set, List.length_cons, List.length_nil]; omega)) rfl rfl ?_
    intro _ w127 hS128 hA130; have hS129 := hS128.blk_say (i := 3) rfl (cs' := (pairs ((startU b l free4 k).set (((b.macs.getD (((l.getD k (0, 0)).1).toNat) mac0).scale).toNat) ((cutR (((startU b l free4 k).getD (((b.macs.getD (((l.getD k (0, 0)).1).toNat) mac0).scale).toNat) (0, 0)).1, ((startU b l free4 k).getD (((b.macs.getD (((l.getD k (0, 0)).1).toNat) mac0).scale).toNat) (0, 0)).2) (((l.getD k (0, 0)).2) - ((biasF (b.macs.getD (((l.getD k (0, 0)).1).toNat) mac0)).2), ((l.getD k (0, 0)).2) - ((biasF (b.macs.getD (((l.getD k (0, 0)).1).toNat) mac0)).1))).1, (cutR (((startU b l free4 k).getD (((b.macs.getD (((l.getD k (0, 0)).1).toNat) mac0).scale).toNat) (0, 0)).1, ((startU b l free4 k).getD (((b.macs.getD (((l.getD k (0, 0)).1).toNat) mac0).scale).toNat) (0, 0)).2) (((l.getD k (0, 0)).2) - ((biasF (b.macs.getD (((l.getD k (0, 0)).1).toNat) mac0)).2), ((l.getD k (0, 0)).2) - ((biasF (b.macs.getD (((l.getD k (0, 0)).1).toNat) mac0)).1))).2)))) (setFrom_all _ _ (by first | (simp only [pairs_length, List.length_set, List.length_cons, List.length_nil]; done) | (simp only [pairs_length, List.length_set, List.length_cons, List.length_nil]; omega))); clear hS128 hA126 hS122
    refine st hA130 (op_assign rfl (evc _ _)) rfl rfl (by decide) fun a131 hA132 => ?_; clear hA130 a125
    refine wl_nil ?_
    refine then_n ?_
    refine c_ret ?_
    refine blk_ret ?_
    refine then_ret ?_
    refine then_ret ?_
    refine blk_ret ?_
    refine then_ret ?_
    refine fin_run hA132 (.inl rfl) (run_results2 hA132 rfl (.cellA rfl ty_120 (hS129.bk 3 rfl) (l := (pairs ((startU b l free4 k).set (((b.macs.getD (((l.getD k (0, 0)).1).toNat) mac0).scale).toNat) ((cutR (((startU b l free4 k).getD (((b.macs.getD (((l.getD k (0, 0)).1).toNat) mac0).scale).toNat) (0, 0)).1, ((startU b l free4 k).getD (((b.macs.getD (((l.getD k (0, 0)).1).toNat) mac0).scale).toNat) (0, 0)).2) (((l.getD k (0, 0)).2) - ((biasF (b.macs.getD (((l.getD k (0, 0)).1).toNat) mac0)).2), ((l.getD k (0, 0)).2) - ((biasF (b.macs.getD (((l.getD k (0, 0)).1).toNat) mac0)).1))).1, (cutR (((startU b l free4 k).getD (((b.macs.getD (((l.getD k (0, 0)).1).toNat) mac0).scale).toNat) (0, 0)).1, ((startU b l free4 k).getD (((b.macs.getD (((l.getD k (0, 0)).1).toNat) mac0).scale).toNat) (0, 0)).2) (((l.getD k (0, 0)).2) - ((biasF (b.macs.getD (((l.getD k (0, 0)).1).toNat) mac0)).2), ((l.getD k (0, 0)).2) - ((biasF (b.macs.getD (((l.getD k (0, 0)).1).toNat) mac0)).1))).2)))) (drop_take_all _ _ (show (pairs ((startU b l free4 k).set (((b.macs.getD (((l.getD k (0, 0)).1).toNat) mac0).scale).toNat) ((cutR (((startU b l free4 k).getD (((b.macs.getD (((l.getD k (0, 0)).1).toNat) mac0).scale).toNat) (0, 0)).1, ((startU b l free4 k).getD (((b.macs.getD (((l.getD k (0, 0)).1).toNat) mac0).scale).toNat) (0, 0)).2) (((l.getD k (0, 0)).2) - ((biasF (b.macs.getD (((l.getD k (0, 0)).1).toNat) mac0)).2), ((l.getD k (0, 0)).2) - ((biasF (b.macs.getD (((l.getD k (0, 0)).1).toNat) mac0)).1))).1, (cutR (((startU b l free4 k).getD (((b.macs.getD (((l.getD k (0, 0)).1).toNat) mac0).scale).toNat) (0, 0)).1, ((startU b l free4 k).getD (((b.macs.getD (((l.getD k (0, 0)).1).toNat) mac0).scale).toNat) (0, 0)).2) (((l.getD k (0, 0)).2) - ((biasF (b.macs.getD (((l.getD k (0, 0)).1).toNat) mac0)).2), ((l.getD k (0, 0)).2) - ((biasF (b.macs.getD (((l.getD k (0, 0)).1).toNat) mac0)).1))).2))).length = 8 from by simp only [pairs_length, List.length_set]; omega)) (show (pairs ((startU b l free4 k).set (((b.macs.getD (((l.getD k (0, 0)).1).toNat) mac0).scale).toNat) ((cutR (((startU b l free4 k).getD (((b.macs.getD (((l.getD k (0, 0)).1).toNat) mac0).scale).toNat) (0, 0)).1, ((startU b l free4 k).getD (((b.macs.getD (((l.getD k (0, 0)).1).toNat) mac0).scale).toNat) (0, 0)).2) (((l.getD k (0, 0)).2) - ((biasF (b.macs.getD (((l.getD k (0, 0)).1).toNat) mac0)).2), ((l.getD k (0, 0)).2) - ((biasF (b.macs.getD (((l.getD k (0, 0)).1).toNat) mac0)).1))).1, (cutR (((startU b l free4 k).getD (((b.macs.getD (((l.getD k (0, 0)).1).toNat) mac0).scale).toNat) (0, 0)).1, ((startU b l free4 k).getD (((b.macs.getD (((l.getD k (0, 0)).1).toNat) mac0).scale).toNat) (0, 0)).2) (((l.getD k (0, 0)).2) - ((biasF (b.macs.getD (((l.getD k (0, 0)).1).toNat) mac0)).2), ((l.getD k (0, 0)).2) - ((biasF (b.macs.getD (((l.getD k (0, 0)).1).toNat) mac0)).1))).2))).length = 8 from by simp only [pairs_length, List.length_set]; omega)) (.tmp rfl)) ?_
    have hz := start_empty hb hl (k := k) (by omega) (by assumption)
    exact ⟨_, hsl1, by rw [hz]; rfl, fun t h_ => by rw [hz] at h_; (cases h_), hS129.ext⟩
   ·skip
    rw [decide_eq_false hb123] at hA119
    refine c_false hA119 rfl ?_
    refine c_skip ?_
    refine blk_n ?_
    refine then_n ?_
    have hA133 := hA119.as [(22, (Value.int .i64 (k : Int))), (21, (Value.int .i64 (l.length : Int))), (20, xl), (4, (bptr b4 0)), (0, (bptr bx 0))] rfl; clear hA119
    refine c_region ?_
    refine st hA133 (op_add rfl (hA133.ev rfl) (evc _ _) (by omega) (by omega)) rfl rfl (by decide) fun a134 hA135 => ?_; clear hA133 a118
    refine st hA135 (op_move rfl (hA135.ev rfl)) rfl rfl (by decide) fun a136 hA137 => ?_; clear hA135 a134
    refine wl_nil ?_
    have hS138 : Sep NoB w w120 [(blk b4 120 (pairs ((startU b l free4 k).set (((b.macs.getD (((l.getD k (0, 0)).1).toNat) mac0).scale).toNat) ((cutR (((startU b l free4 k).getD (((b.macs.getD (((l.getD k (0, 0)).1).toNat) mac0).scale).toNat) (0, 0)).1, ((startU b l free4 k).getD (((b.macs.getD (((l.getD k (0, 0)).1).toNat) mac0).scale).toNat) (0, 0)).2) (((l.getD k (0, 0)).2) - ((biasF (b.macs.getD (((l.getD k (0, 0)).1).toNat) mac0)).2), ((l.getD k (0, 0)).2) - ((biasF (b.macs.getD (((l.getD k (0, 0)).1).toNat) mac0)).1))).1, (cutR (((startU b l free4 k).getD (((b.macs.getD (((l.getD k (0, 0)).1).toNat) mac0).scale).toNat) (0, 0)).1, ((startU b l free4 k).getD (((b.macs.getD (((l.getD k (0, 0)).1).toNat) mac0).scale).toNat) (0, 0)).2) (((l.getD k (0, 0)).2) - ((biasF (b.macs.getD (((l.getD k (0, 0)).1).toNat) mac0)).2), ((l.getD k (0, 0)).2) - ((biasF (b.macs.getD (((l.getD k (0, 0)).1).toNat) mac0)).1))).2)))), (rob bx 146 [(Value.int .i64 b.scales), vt, vm, (Value.map (some bm))]), (mapX false bm es ck es.size 106 5 (bN b.tabs b.tabs.length) (bC lr lb b.tabs b.tabs.length)), (tabsR false vt lr lb b.tabs), (macsR false vm lk b.macs), (sl xl 2 l.length (pairs l))] := hS122.keep [3, 4, 5, 6, 7, 8] (by decide) _ rfl rfl; clear hS122
    exact then_n ⟨k + 1, ⟨hA137.as _ rfl, hS138, by omega, (start_next hb hl (by omega) hfu (by assumption))⟩, by omega⟩
  ·skip
   rw [decide_eq_false hb50] at hA49
   refine c_false hA49 rfl ?_
   refine c_exit ?_
   refine then_exit ?_
   refine then_exit ?_
   refine blk_hit ?_
   refine then_n ?_
   refine c_block ?_
   have hA139 := hA49.as [(4, (bptr b4 0)), (0, (bptr bx 0))] rfl; clear hA49
   refine c_loop (G := Nat) (fun (g : Nat) a_ w_ => ∃ x_ : List (Int × Int), Fr 79 [] [(4, (bptr b4 0)), (0, (bptr bx 0))] a_ ∧ Sep NoB w w_ [(blk b4 120 (pairs x_)), (rob bx 146 [(Value.int .i64 b.scales), vt, vm, (Value.map (some bm))]), (mapX false bm es ck es.size 106 5 (bN b.tabs b.tabs.length) (bC lr lb b.tabs b.tabs.length)), (tabsR false vt lr lb b.tabs), (macsR false vm lk b.macs), (sl xl 2 l.length (pairs l))] ∧ (Go.Hard.Loop b.scales.toNat b.tabs (startF b l) x_) ∧ (spansF b l = spansK b.scales.toNat (orderF b.scales.toNat b.tabs) g x_) ∧ (width x_ < g)) (fun g => g) 400001 ⟨(startU b l free4 k), hA139.as _ rfl, hS47, (by have hkl : k = l.length := (by omega); subst hkl; exact loop_start hb hl hfu), (by have hkl : k = l.length := (by omega); subst hkl; exact spans_go hfu), (by have hkl : k = l.length := (by omega); subst hkl; exact Nat.lt_succ_of_le (start_width hb hl))⟩ ?_
   clear hA139 hS47 a48
   rintro g a140 w142 ⟨x_, hA141, hS143, hlp, hsp, hwd⟩
   have hx4 : x_.length = 4 := hlp.len; have hp4 : (passF (orderF b.scales.toNat b.tabs) x_).1.length = 4 := (hlp.pass hb.four hb.orderV).1
   refine c_block ?_
   refine c_seq ?_
   refine c_region ?_
   refine st hA141 (op_move rfl (hA141.ev rfl)) rfl rfl (by decide) fun a144 hA145 => ?_; clear hA141 a140
   refine st hA145 (op_loadA rfl ty_120 (hA145.ev rfl) (hS143.bk 0 rfl) (l := (pairs x_)) (drop_take_all _ _ (show (pairs x_).length = 8 from by simp only [pairs_length, List.length_set]; omega)) (show (pairs x_).length = 8 from by simp only [pairs_length, List.length_set]; omega)) rfl rfl (by decide) fun a146 hA147 => ?_; clear hA145 a144
   refine stw hA147 (op_call rfl en_88 (ev2 (hA147.ev rfl) (hA147.ev rfl)) (cutb_ok b vt vm lr lb lk _ (tabs_at (hS143.ok 3 _ rfl)) (macs_at (hS143.ok 4 _ rfl)) hth bx bm _ _ hMO (hS143.rk 1 rfl) (hS143.ok 2 _ rfl) hb x_ (by omega))) rfl rfl (by decide) ?_
   rintro a148 _ w150 ⟨rfl, hE151⟩ hA149; have hS152 := hS143.step hE151; clear hE151 hA147 hS143 a146
   refine st hA149 (op_move rfl (hA149.ev rfl)) rfl rfl (by decide) fun a153 hA154 => ?_; clear hA149 a148
   refine st hA154 (op_extract rfl (hA154.ev rfl) rfl) rfl rfl (by decide) fun a155 hA156 => ?_; clear hA154 a153
   refine st hA156 (op_extract rfl (hA156.ev rfl) rfl) rfl rfl (by decide) fun a157 hA158 => ?_; clear hA156 a155
   refine stw hA158 (op_alloc hS152 rfl ze_120 (cs := [(Value.int .i64 0), (Value.int .i64 0), (Value.int .i64 0), (Value.int .i64 0), (Value.int .i64 0), (Value.int .i64 0), (Value.int .i64 0), (Value.int .i64 0)]) rfl) rfl rfl (by decide) ?_
   rintro a159 _ w161 ⟨b162, rfl, hS163⟩ hA160; clear hA158 hS152 a157
   refine sts hA160 (op_store hS163 rfl ty_120 (hA160.ev rfl) (hA160.ev rfl) (i := 0) rfl (vs := (pairs ((passF (orderF b.scales.toNat b.tabs) x_).1))) rfl (show (pairs ((passF (orderF b.scales.toNat b.tabs) x_).1)).length = 8 from by simp only [pairs_length, List.length_set]; omega) (pairs_one _) (by decide)) rfl rfl ?_
   intro _ w164 hS165 hA167; have hS166 := hS165.blk_say (i := 0) rfl (cs' := (pairs ((passF (orderF b.scales.toNat b.tabs) x_).1))) (setFrom_all _ _ (Eq.symm (show (pairs ((passF (orderF b.scales.toNat b.tabs) x_).1)).length = 8 from by simp only [pairs_length, List.length_set]; omega))); clear hS165 hA160 hS163
   refine st hA167 (op_assign rfl (hA167.ev rfl)) rfl rfl (by decide) fun a168 hA169 => ?_; clear hA167 a159
   refine wl_nil ?_
   refine then_n ?_
   refine c_seq ?_
   refine c_seq ?_
   have hA170 := hA169.as [(12, (Value.bool (fullB b.scales.toNat (passF (orderF b.scales.toNat b.tabs) x_).1))), (11, (bptr b162 0)), (4, (bptr b4 0)), (0, (bptr bx 0))] rfl; clear hA169
   refine c_region ?_
   refine st hA170 (op_move rfl (hA170.ev rfl)) rfl rfl (by decide) fun a171 hA172 => ?_; clear hA170 a168
   refine st hA172 (op_not rfl (hA172.ev rfl)) rfl rfl (by decide) fun a173 hA174 => ?_; clear hA172 a171
   refine st hA174 (op_move rfl (hA174.ev rfl)) rfl rfl (by decide) fun a175 hA176 => ?_; clear hA174 a173
   rcases Bool.eq_false_or_eq_true ((fullB b.scales.toNat (passF (orderF b.scales.toNat b.tabs) x_).1)) with hb177 | hb177
   ·skip
    rw [hb177] at hA176
    refine stg hA176 (op_loadA rfl ty_120 (hA176.ev rfl) (hS166.bk 0 rfl) (l := (pairs ((passF (orderF b.scales.toNat b.tabs) x_).1))) (drop_take_all _ _ (show (pairs ((passF (orderF b.scales.toNat b.tabs) x_).1)).length = 8 from by simp only [pairs_length, List.length_set]; omega)) (show (pairs ((passF (orderF b.scales.toNat b.tabs) x_).1)).length = 8 from by simp only [pairs_length, List.length_set]; omega)) rfl rfl rfl rfl (by decide) fun a178 hA179 => ?_; clear hA176 a175
    refine stg hA179 (op_loadA rfl ty_120 (hA179.ev rfl) (hS166.bk 1 rfl) (l := (pairs x_)) (drop_take_all _ _ (show (pairs x_).length = 8 from by simp only [pairs_length, List.length_set]; omega)) (show (pairs x_).length = 8 from by simp only [pairs_length, List.length_set]; omega)) rfl rfl rfl rfl (by decide) fun a180 hA181 => ?_; clear hA179 a178
    refine stg hA181 (op_eqlAP ar_120 tw_30 ty_30 gt_120 rfl (hA181.ev rfl) (hA181.ev rfl) (by omega) (by omega)) rfl rfl rfl rfl (by decide) fun a182 hA183 => ?_; clear hA181 a180
    refine st hA183 (op_pick_f rfl (hA183.ev rfl) (hA183.ev rfl)) rfl rfl (by decide) fun a184 hA185 => ?_; clear hA183 a182
    refine wl_nil ?_
    refine then_n ?_
    by_cases hb186 : (passF (orderF b.scales.toNat b.tabs) x_).1 = x_
    ·skip
     rw [decide_eq_true hb186] at hA185
     refine c_true hA185 rfl ?_
     refine c_seq ?_
     have hA187 := hA185.as [(12, (Value.bool true)), (11, (bptr b162 0)), (4, (bptr b4 0))] rfl; clear hA185
     refine c_region ?_
     refine st hA187 (op_loadA rfl ty_120 (hA187.ev rfl) (hS166.bk 0 rfl) (l := (pairs ((passF (orderF b.scales.toNat b.tabs) x_).1))) (drop_take_all _ _ (show (pairs ((passF (orderF b.scales.toNat b.tabs) x_).1)).length = 8 from by simp only [pairs_length, List.length_set]; omega)) (show (pairs ((passF (orderF b.scales.toNat b.tabs) x_).1)).length = 8 from by simp only [pairs_length, List.length_set]; omega)) rfl rfl (by decide) fun a188 hA189 => ?_; clear hA187 a184
     refine st hA189 (op_move rfl (hA189.ev rfl)) rfl rfl (by decide) fun a190 hA191 => ?_; clear hA189 a188
     refine sts hA191 (op_store hS166 rfl ty_120 (hA191.ev rfl) (hA191.ev rfl) (i := 1) rfl (vs := (pairs ((passF (orderF b.scales.toNat b.tabs) x_).1))) rfl (show (pairs ((passF (orderF b.scales.toNat b.tabs) x_).1)).length = 8 from by simp only [pairs_length, List.length_set]; omega) (pairs_one _) (by simp only [pairs_length, List.length_set, List.length_cons, List.length_nil]; omega)) rfl rfl ?_
     intro _ w192 hS193 hA195; have hS194 := hS193.blk_say (i := 1) rfl (cs' := (pairs ((passF (orderF b.scales.toNat b.tabs) x_).1))) (setFrom_all _ _ (by first | (simp only [pairs_length, List.length_set, List.length_cons, List.length_nil]; done) | (simp only [pairs_length, List.length_set, List.length_cons, List.length_nil]; omega))); clear hS193 hA191 hS166
     refine st hA195 (op_assign rfl (hA195.ev rfl)) rfl rfl (by decide) fun a196 hA197 => ?_; clear hA195 a190
     refine wl_nil ?_
     refine then_n ?_
     refine c_ret ?_
     refine then_ret ?_
     refine blk_ret ?_
     refine then_ret ?_
     refine blk_ret ?_
     refine fin_run hA197 (.inl rfl) (run_results2 hA197 rfl (.cellA rfl ty_120 (hS194.bk 1 rfl) (l := (pairs ((passF (orderF b.scales.toNat b.tabs) x_).1))) (drop_take_all _ _ (show (pairs ((passF (orderF b.scales.toNat b.tabs) x_).1)).length = 8 from by simp only [pairs_length, List.length_set]; omega)) (show (pairs ((passF (orderF b.scales.toNat b.tabs) x_).1)).length = 8 from by simp only [pairs_length, List.length_set]; omega)) (.tmp rfl)) ?_
     have hz := hsp.trans (k_done (by omega) (by assumption) (by assumption))
     exact ⟨_, hp4, by rw [hz]; rfl, fun t h_ => by rw [hz] at h_; rw [← Option.some.inj h_]; congr 1, hS194.ext⟩
    ·skip
     rw [decide_eq_false hb186] at hA185
     refine c_false hA185 rfl ?_
     refine c_skip ?_
     refine then_n ?_
     have hA198 := hA185.as [(11, (bptr b162 0)), (4, (bptr b4 0)), (0, (bptr bx 0))] rfl; clear hA185
     refine c_region ?_
     refine st hA198 (op_loadA rfl ty_120 (hA198.ev rfl) (hS166.bk 0 rfl) (l := (pairs ((passF (orderF b.scales.toNat b.tabs) x_).1))) (drop_take_all _ _ (show (pairs ((passF (orderF b.scales.toNat b.tabs) x_).1)).length = 8 from by simp only [pairs_length, List.length_set]; omega)) (show (pairs ((passF (orderF b.scales.toNat b.tabs) x_).1)).length = 8 from by simp only [pairs_length, List.length_set]; omega)) rfl rfl (by decide) fun a199 hA200 => ?_; clear hA198 a184
     refine sts hA200 (op_store hS166 rfl ty_120 (hA200.ev rfl) (hA200.ev rfl) (i := 1) rfl (vs := (pairs ((passF (orderF b.scales.toNat b.tabs) x_).1))) rfl (show (pairs ((passF (orderF b.scales.toNat b.tabs) x_).1)).length = 8 from by simp only [pairs_length, List.length_set]; omega) (pairs_one _) (by simp only [pairs_length, List.length_set, List.length_cons, List.length_nil]; omega)) rfl rfl ?_
     intro _ w201 hS202 hA204; have hS203 := hS202.blk_say (i := 1) rfl (cs' := (pairs ((passF (orderF b.scales.toNat b.tabs) x_).1))) (setFrom_all _ _ (by first | (simp only [pairs_length, List.length_set, List.length_cons, List.length_nil]; done) | (simp only [pairs_length, List.length_set, List.length_cons, List.length_nil]; omega))); clear hS202 hA200 hS166
     refine wl_nil ?_
     refine blk_n ?_
     have hS205 : Sep NoB w w201 [(blk b4 120 (pairs ((passF (orderF b.scales.toNat b.tabs) x_).1))), (rob bx 146 [(Value.int .i64 b.scales), vt, vm, (Value.map (some bm))]), (mapX false bm es ck es.size 106 5 (bN b.tabs b.tabs.length) (bC lr lb b.tabs b.tabs.length)), (tabsR false vt lr lb b.tabs), (macsR false vm lk b.macs), (sl xl 2 l.length (pairs l))] := hS203.keep [1, 2, 3, 4, 5, 6] (by decide) _ rfl rfl; clear hS203
     exact then_n ⟨(g - 1), ⟨(passF (orderF b.scales.toNat b.tabs) x_).1, hA204.as _ rfl, hS205, (hlp.next hb.four hb.orderV (full_iff.1 (by assumption)) (by assumption)).1, (hsp.trans (k_next (by omega) (by assumption) (by assumption))), (by have := (hlp.next hb.four hb.orderV (full_iff.1 (by assumption)) (by assumption)).2; omega)⟩, by omega⟩
   ·skip
    rw [hb177] at hA176
    refine skp hA176 rfl rfl rfl rfl rfl (by decide) fun a206 hA207 => ?_; clear hA176 a175
    refine skp hA207 rfl rfl rfl rfl rfl (by decide) fun a208 hA209 => ?_; clear hA207 a206
    refine skp hA209 rfl rfl rfl rfl rfl (by decide) fun a210 hA211 => ?_; clear hA209 a208
    refine st hA211 (op_pick_t rfl (hA211.ev rfl) (evc _ _)) rfl rfl (by decide) fun a212 hA213 => ?_; clear hA211 a210
    refine wl_nil ?_
    refine then_n ?_
    refine c_true hA213 rfl ?_
    refine c_seq ?_
    have hA214 := hA213.as [(12, (Value.bool false)), (11, (bptr b162 0)), (4, (bptr b4 0))] rfl; clear hA213
    refine c_region ?_
    refine st hA214 (op_loadA rfl ty_120 (hA214.ev rfl) (hS166.bk 0 rfl) (l := (pairs ((passF (orderF b.scales.toNat b.tabs) x_).1))) (drop_take_all _ _ (show (pairs ((passF (orderF b.scales.toNat b.tabs) x_).1)).length = 8 from by simp only [pairs_length, List.length_set]; omega)) (show (pairs ((passF (orderF b.scales.toNat b.tabs) x_).1)).length = 8 from by simp only [pairs_length, List.length_set]; omega)) rfl rfl (by decide) fun a215 hA216 => ?_; clear hA214 a212
    refine st hA216 (op_move rfl (hA216.ev rfl)) rfl rfl (by decide) fun a217 hA218 => ?_; clear hA216 a215
    refine sts hA218 (op_store hS166 rfl ty_120 (hA218.ev rfl) (hA218.ev rfl) (i := 1) rfl (vs := (pairs ((passF (orderF b.scales.toNat b.tabs) x_).1))) rfl (show (pairs ((passF (orderF b.scales.toNat b.tabs) x_).1)).length = 8 from by simp only [pairs_length, List.length_set]; omega) (pairs_one _) (by simp only [pairs_length, List.length_set, List.length_cons, List.length_nil]; omega)) rfl rfl ?_
    intro _ w219 hS220 hA222; have hS221 := hS220.blk_say (i := 1) rfl (cs' := (pairs ((passF (orderF b.scales.toNat b.tabs) x_).1))) (setFrom_all _ _ (by first | (simp only [pairs_length, List.length_set, List.length_cons, List.length_nil]; done) | (simp only [pairs_length, List.length_set, List.length_cons, List.length_nil]; omega))); clear hS220 hA218 hS166
    refine st hA222 (op_assign rfl (hA222.ev rfl)) rfl rfl (by decide) fun a223 hA224 => ?_; clear hA222 a217
    refine wl_nil ?_
    refine then_n ?_
    refine c_ret ?_
    refine then_ret ?_
    refine blk_ret ?_
    refine then_ret ?_
    refine blk_ret ?_
    refine fin_run hA224 (.inl rfl) (run_results2 hA224 rfl (.cellA rfl ty_120 (hS221.bk 1 rfl) (l := (pairs ((passF (orderF b.scales.toNat b.tabs) x_).1))) (drop_take_all _ _ (show (pairs ((passF (orderF b.scales.toNat b.tabs) x_).1)).length = 8 from by simp only [pairs_length, List.length_set]; omega)) (show (pairs ((passF (orderF b.scales.toNat b.tabs) x_).1)).length = 8 from by simp only [pairs_length, List.length_set]; omega)) (.tmp rfl)) ?_
    have hz := hsp.trans (k_fail (by assumption))
    exact ⟨_, hp4, by rw [hz]; rfl, fun t h_ => by rw [hz] at h_; (cases h_), hS221.ext⟩
end Go.Proofs.Ytohgladndklciaa

namespace Go.Proofs.Ytohgladndklciaa
open Go.RowKit Go.Shelf Go.Eng Go.Hard
theorem bs_30_0_  : Instr.fill (fun i => some (i * 2, 2)) ((Array.range (0 * 2)).map ((Value.agg #[(Value.int .i64 0), (Value.int .i64 0)]).cells[· % (Value.agg #[(Value.int .i64 0), (Value.int .i64 0)]).cells.size]!)) [] = some (([] : List Value).toArray) := by kernel_rfl
theorem el_30 : elK Try.prog 30 = some ((Value.agg #[(Value.int .i64 0), (Value.int .i64 0)]), 2, 16) := by kernel_rfl
theorem clone_rng (xs : List (Int × Int)) (v : Value) (w : World) (hv : SlAt w v 2 xs.length (pairs xs)) (hlen : xs.length ≤ 1000000) :
  Calls Try.prog 58 #[v] w (Ret fun v w' => Ext NoB w w' ∧ w'.ownsRow w.heap.size 30 2 v xs.length (pairs xs)) := by
 refine calls_enter Try.func58 rfl fun a0 hA0 => ?_
 replace hA0 : Fr 8 [] [(0, v)] a0 := hA0
 have hS0 : Sep NoB w w [(sl v 2 xs.length (pairs xs))] := sep_ro ⟨rfl, hv, trivial⟩
 refine c_seq ?_
 refine c_region ?_
 refine st hA0 (op_assign rfl (evc _ _)) rfl rfl (by decide) fun a1 hA2 => ?_; clear hA0 a0
 refine wl_nil ?_
 refine then_n ?_
 refine c_seq ?_
 refine c_seq ?_
 refine c_region ?_
 refine st hA2 (op_move rfl (hA2.ev rfl)) rfl rfl (by decide) fun a3 hA4 => ?_; clear hA2 a1
 refine stw hA4 (op_eqlNil un_50 rfl (hA4.ev rfl) (evc _ _) (hS0.sk 0 rfl) (by decide)) rfl rfl (by decide) ?_
 rintro a5 _ _ ⟨bn7, rfl, rfl, hn8⟩ hA6; clear hA4 a3
 refine wl_nil ?_
 refine then_n ?_
 rcases Bool.eq_false_or_eq_true (bn7) with hb9 | hb9
 ·skip
  rw [hb9] at hA6
  refine c_true hA6 rfl ?_
  refine c_seq ?_
  refine c_region ?_
  refine st hA6 (op_assign rfl (evc _ _)) rfl rfl (by decide) fun a10 hA11 => ?_; clear hA6 a5
  refine wl_nil ?_
  refine then_n ?_
  refine c_ret ?_
  refine then_ret ?_
  refine fin_run hA11 (.inl rfl) (run_results1 hA11 rfl (.tmp rfl)) ?_
  exact ⟨hS0.ext, by have hz := (hn8 (by assumption)); rw [hz.1, hz.2]; exact ⟨by simp, .inl ⟨rfl, rfl⟩⟩⟩
 ·skip
  rw [hb9] at hA6
  refine c_false hA6 rfl ?_
  refine c_skip ?_
  refine then_n ?_
  refine c_seq ?_
  refine c_region ?_
  refine stw hA6 (op_buildSlice hS0 rfl pv0 un_50 ty_30 ze_30 (by decide) (cs := []) bs_30_0_) rfl rfl (by decide) ?_
  rintro a12 _ w14 ⟨b15, rfl, hS16⟩ hA13; clear hA6 hS0 a5
  refine st hA13 (op_move rfl (hA13.ev rfl)) rfl rfl (by decide) fun a17 hA18 => ?_; clear hA13 a12
  have hS19 := hS16.blk_row (i := 0) (sz := 2) (n := 0) rfl rfl (by decide); clear hS16
  refine stw hA18 (op_append hS19 rfl un_50 el_30 (hA18.ev rfl) (hA18.ev rfl) (i := 0) rfl (hS19.sk 1 rfl) (pairs_one _) (by simp [maxLen]; omega) (by omega)) rfl rfl (by decide) ?_
  intro a20 v23 w22 hS24 hA21
  have hS25 := hS24.row_say (i := 0) rfl (n' := xs.length) (xs' := (pairs xs)) (by simp) (by simp); clear hS24 hA18 hS19 a17
  refine st hA21 (op_assign rfl (hA21.ev rfl)) rfl rfl (by decide) fun a26 hA27 => ?_; clear hA21 a20
  refine wl_nil ?_
  refine then_n ?_
  refine c_ret ?_
  refine fin_run hA27 (.inl rfl) (run_results1 hA27 rfl (.tmp rfl)) ?_
  exact ⟨hS25.ext, hS25.row_new (i := 0) rfl⟩
end Go.Proofs.Ytohgladndklciaa

namespace Go.Proofs.Ytohgladndklciaa
open Go.RowKit Go.Shelf Go.Eng Go.Hard
theorem en_56 : ∀ args w, (callFunc 56 args).run Try.prog w = .ok (.enter 56 args) w := enters_of Try.func56 (by kernel_rfl) rfl
theorem en_57 : ∀ args w, (callFunc 57 args).run Try.prog w = .ok (.enter 57 args) w := enters_of Try.func57 (by kernel_rfl) rfl
theorem en_58 : ∀ args w, (callFunc 58 args).run Try.prog w = .ok (.enter 58 args) w := enters_of Try.func58 (by kernel_rfl) rfl
theorem Spans_ok (b : BookD) (vt vm : Value) (lr lb lk : Nat → Value) (w : World) (hT : TabsAt w vt lr lb b.tabs) (hM : MacsAt w vm lk b.macs) (hth : ThinB b) (l : List (Int × Int)) (xl : Value) (hxl : SlAt w xl 2 l.length (pairs l)) (hlb : l.length ≤ 1000000) (t : Spans) (hr : readF b l = 0) (hs : spansF b l = some t) :
  Calls Try.prog 25 #[(Value.agg #[(Value.int .i64 b.scales), vt, vm]), xl] w (Ret fun v w' => ∃ u, v = .tuple #[u, .int .i64 0] ∧ Sep NoB w w' [row u 30 2 t.length (pairs t)]) := by
 refine calls_enter Try.func25 rfl fun a0 hA0 => ?_
 replace hA0 : Fr 31 [] [(0, (Value.agg #[(Value.int .i64 b.scales), vt, vm])), (1, xl)] a0 := hA0
 have hc : checkF b = 0 := read_check hr; have hbl := read_ok hr; have hb := hbl.1; have hl := hbl.2; have hll := hl.len; have hsc := hb.scales
 have hS0 : Sep NoB w w [(tabsR false vt lr lb b.tabs), (macsR false vm lk b.macs), (sl xl 2 l.length (pairs l))] := sep_ro ⟨rfl, hT, rfl, hM, rfl, hxl, trivial⟩
 refine c_seq ?_
 refine c_region ?_
 refine stw hA0 (op_box hS0 rfl (hA0.ev rfl) (cs := [(Value.int .i64 b.scales), vt, vm]) rfl) rfl rfl (by decide) ?_
 rintro a1 _ w3 ⟨b4, rfl, hS5⟩ hA2; clear hA0 hS0 a0
 refine st hA2 (op_assign rfl (evc _ _)) rfl rfl (by decide) fun a6 hA7 => ?_; clear hA2 a1
 refine st hA7 (op_assign rfl (evc _ _)) rfl rfl (by decide) fun a8 hA9 => ?_; clear hA7 a6
 refine wl_nil ?_
 refine then_n ?_
 refine c_seq ?_
 refine c_region ?_
 refine st hA9 (op_loadA rfl ty_37 (hA9.ev rfl) (hS5.bk 0 rfl) (l := [(Value.int .i64 b.scales), vt, vm]) rfl rfl) rfl rfl (by decide) fun a10 hA11 => ?_; clear hA9 a8
 refine st hA11 (op_move rfl (hA11.ev rfl)) rfl rfl (by decide) fun a12 hA13 => ?_; clear hA11 a10
 refine stw hA13 (op_call rfl en_56 (ev2 (hA13.ev rfl) (hA13.ev rfl)) (read_yes b vt vm lr lb lk _ (tabs_at (hS5.ok 1 _ rfl)) (macs_at (hS5.ok 2 _ rfl)) hth l _ (hS5.sk 3 rfl) (by omega) hc hr)) rfl rfl (by decide) ?_
 rintro a14 _ w16 ⟨bx19, bm20, es21, ck22, rfl, hMO23, hT17⟩ hA15; have hS18 := hS5.callS hT17 rfl; clear hT17 hA13 hS5 a12
 refine st hA15 (op_move rfl (hA15.ev rfl)) rfl rfl (by decide) fun a24 hA25 => ?_; clear hA15 a14
 refine st hA25 (op_extract rfl (hA25.ev rfl) rfl) rfl rfl (by decide) fun a26 hA27 => ?_; clear hA25 a24
 refine st hA27 (op_extract rfl (hA27.ev rfl) rfl) rfl rfl (by decide) fun a28 hA29 => ?_; clear hA27 a26
 refine st hA29 (op_assign rfl (hA29.ev rfl)) rfl rfl (by decide) fun a30 hA31 => ?_; clear hA29 a28
 refine st hA31 (op_assign rfl (hA31.ev rfl)) rfl rfl (by decide) fun a32 hA33 => ?_; clear hA31 a30
 refine wl_nil ?_
 refine then_n ?_
 refine c_seq ?_
 refine c_seq ?_
 have hA34 := hA33.as [(7, (Value.int .i64 0)), (6, (bptr bx19 0)), (2, (bptr b4 0)), (1, xl)] rfl; clear hA33
 refine c_region ?_
 refine st hA34 (op_move rfl (hA34.ev rfl)) rfl rfl (by decide) fun a35 hA36 => ?_; clear hA34 a32
 refine st hA36 (op_neq rfl (hA36.ev rfl) (evc _ _)) rfl rfl (by decide) fun a37 hA38 => ?_; clear hA36 a35
 refine wl_nil ?_
 refine then_n ?_
 refine c_false hA38 rfl ?_
 refine c_skip ?_
 refine then_n ?_
 refine c_seq ?_
 refine c_region ?_
 refine st hA38 (op_move rfl (hA38.ev rfl)) rfl rfl (by decide) fun a39 hA40 => ?_; clear hA38 a37
 refine st hA40 (op_move rfl (hA40.ev rfl)) rfl rfl (by decide) fun a41 hA42 => ?_; clear hA40 a39
 refine stw hA42 (op_call rfl en_57 (ev2 (hA42.ev rfl) (hA42.ev rfl)) (spansb_ok b vt vm lr lb lk _ (tabs_at (hS18.ok 3 _ rfl)) (macs_at (hS18.ok 4 _ rfl)) hth bx19 bm20 _ _ (by assumption) (hS18.bk 0 rfl) (mapX_ro (hS18.ok 1 _ rfl)) hb l _ (hS18.sk 5 rfl) hl)) rfl rfl (by decide) ?_
 rintro a43 _ w45 ⟨x46, hx47, rfl, htk48, hE49⟩ hA44; have hS50 := hS18.step hE49; clear hE49 hA42 hS18 a41
 refine st hA44 (op_move rfl (hA44.ev rfl)) rfl rfl (by decide) fun a51 hA52 => ?_; clear hA44 a43
 refine st hA52 (op_extract rfl (hA52.ev rfl) rfl) rfl rfl (by decide) fun a53 hA54 => ?_; clear hA52 a51
 refine st hA54 (op_extract rfl (hA54.ev rfl) rfl) rfl rfl (by decide) fun a55 hA56 => ?_; clear hA54 a53
 have hd57 : ((spansF b l).isSome) = true := (by rw [hs]; rfl)
 rw [hd57] at hA56
 refine stw hA56 (op_alloc hS50 rfl ze_120 (cs := [(Value.int .i64 0), (Value.int .i64 0), (Value.int .i64 0), (Value.int .i64 0), (Value.int .i64 0), (Value.int .i64 0), (Value.int .i64 0), (Value.int .i64 0)]) rfl) rfl rfl (by decide) ?_
 rintro a58 _ w60 ⟨b61, rfl, hS62⟩ hA59; clear hA56 hS50 a55
 refine sts hA59 (op_store hS62 rfl ty_120 (hA59.ev rfl) (hA59.ev rfl) (i := 0) rfl (vs := (pairs x46)) rfl (show (pairs x46).length = 8 from by simp only [pairs_length, List.length_set]; omega) (pairs_one _) (by decide)) rfl rfl ?_
 intro _ w63 hS64 hA66; have hS65 := hS64.blk_say (i := 0) rfl (cs' := (pairs x46)) (setFrom_all _ _ (Eq.symm (show (pairs x46).length = 8 from by simp only [pairs_length, List.length_set]; omega))); clear hS64 hA59 hS62
 refine st hA66 (op_assign rfl (hA66.ev rfl)) rfl rfl (by decide) fun a67 hA68 => ?_; clear hA66 a58
 refine wl_nil ?_
 refine then_n ?_
 refine c_seq ?_
 refine c_seq ?_
 have hA69 := hA68.as [(9, (Value.bool true)), (8, (bptr b61 0)), (2, (bptr b4 0))] rfl; clear hA68
 refine c_region ?_
 refine st hA69 (op_move rfl (hA69.ev rfl)) rfl rfl (by decide) fun a70 hA71 => ?_; clear hA69 a67
 refine st hA71 (op_not rfl (hA71.ev rfl)) rfl rfl (by decide) fun a72 hA73 => ?_; clear hA71 a70
 refine wl_nil ?_
 refine then_n ?_
 refine c_false hA73 rfl ?_
 refine c_skip ?_
 refine then_n ?_
 refine c_seq ?_
 refine c_region ?_
 refine st hA73 (op_field rfl fd_37_0 (hA73.ev rfl)) rfl rfl (by decide) fun a74 hA75 => ?_; clear hA73 a72
 refine st hA75 (op_load1 rfl ty_3 (hA75.ev rfl) (hS65.bk 3 rfl) rfl) rfl rfl (by decide) fun a76 hA77 => ?_; clear hA75 a74
 refine st hA77 (op_sliceArr rfl un_120 ty_30 (hA77.ev rfl) (h := b.scales.toNat) ((hA77.ev rfl).trans (int_nat (by omega))) (by omega)) rfl rfl (by decide) fun a78 hA79 => ?_; clear hA77 a76
 refine stw hA79 (op_call rfl en_58 (ev1 (hA79.ev rfl)) (clone_rng (x46.take b.scales.toNat) _ _ ((SlAt.of_blkCut (hS65.bk 0 rfl) (by rw [pairs_length]; omega) (by omega) (by decide)).say (by rw [List.length_take]; omega) (pairs_takeH _ _)) (by rw [List.length_take]; omega))) rfl rfl (by decide) ?_
 rintro a80 v86 w82 ⟨hE83, hO84⟩ hA81; have hS85 := hS65.new_row hE83 hO84; clear hE83 hO84 hA79 hS65 a78
 refine st hA81 (op_assign rfl (hA81.ev rfl)) rfl rfl (by decide) fun a87 hA88 => ?_; clear hA81 a80
 refine st hA88 (op_assign rfl (evc _ _)) rfl rfl (by decide) fun a89 hA90 => ?_; clear hA88 a87
 refine wl_nil ?_
 refine then_n ?_
 refine c_ret ?_
 refine fin_run hA90 (.inl rfl) (run_results2 hA90 rfl (.tmp rfl) (.tmp rfl)) ?_
 have hz := hS85.keep [0] (by decide) [_] rfl rfl
 rw [htk48 _ hs] at hz
 exact ⟨_, rfl, hz⟩
end Go.Proofs.Ytohgladndklciaa

namespace Go.Hard
open Go.RowKit Go.Eng
section
variable {X : Nat → Prop} {w0 w : World} {L : List Res}
theorem sep_sls_nil (h : Sep X w0 w L) (v : Nat → Value) (sz : Nat) (k : Nat → Nat) (c : Nat → List Value) : Sep X w0 w (slsR true 0 v sz k c :: L) :=
  h.push (Ext.refl _ _) (fun i hi => absurd hi (Nat.not_lt_zero _)) (fun b hb => by obtain ⟨i, hi, _⟩ := hb; exact absurd hi (Nat.not_lt_zero _))
theorem sep_sls_snoc {u : Value} {e sz m n : Nat} {xs : List Value} {v : Nat → Value} {k k' : Nat → Nat} {c c' : Nat → List Value} (h : Sep X w0 w (row u e sz m xs :: slsR true n v sz k c :: L)) (hk : k' n = m) (hc : c' n = xs) (hold : ∀ i, i < n → k' i = k i ∧ c' i = c i) :
    Sep X w0 w (slsR true (n + 1) (putV n v u) sz k' c' :: L) := by
  have h0 := h.ok_row 0 rfl
  have h1 := h.ok 1 _ rfl
  refine h.join (t := slsR true (n + 1) (putV n v u) sz k' c') (fun i hi => ?_) (fun b hb => ?_) (fun _ => ⟨rfl, rfl⟩) (fun _ => trivial)
  · rcases Nat.lt_succ_iff_lt_or_eq.1 hi with hi | rfl
    · rw [putV_old _ _ hi, (hold i hi).1, (hold i hi).2]; exact h1 i hi
    · rw [putV_new, hk, hc]; exact SlAt.of_row h0
  · obtain ⟨i, hi, hb⟩ := hb
    rcases Nat.lt_succ_iff_lt_or_eq.1 hi with hi | rfl
    · rw [putV_old _ _ hi, (hold i hi).2] at hb; exact .inr ⟨i, hi, hb⟩
    · rw [putV_new, hc] at hb; exact .inl (slFoot_row hb)
theorem sep_sls_say {i : Nat} {o : Bool} {sz n n' : Nat} {v v' : Nat → Value} {k k' : Nat → Nat} {c c' : Nat → List Value} (h : Sep X w0 w L) (hi : L[i]? = some (slsR o n v sz k c)) (hn : n = n') (he : ∀ i, i < n → v' i = v i ∧ k' i = k i ∧ c' i = c i) : Sep X w0 w (L.set i (slsR o n' v' sz k' c')) := by
  subst hn
  have h1 := h.ok i _ hi
  refine h.say hi (fun q hq => ?_) (fun b hb => ?_) (fun ho => ho)
  · rw [(he q hq).1, (he q hq).2.1, (he q hq).2.2]; exact h1 q hq
  · obtain ⟨q, hq, hb⟩ := hb
    rw [(he q hq).1, (he q hq).2.2] at hb; exact ⟨q, hq, hb⟩
theorem sep_tabs_join {vt : Value} {lr lb : Nat → Value} {ts : List TabD} (h : Sep X w0 w (row vt 106 5 ts.length (tabsC lr lb ts) :: slsR true ts.length lr 2 (rowsN ts) (rowsC ts) :: slsR true ts.length lb 1 (brkN ts) (brkC ts) :: L)) : Sep X w0 w (tabsR true vt lr lb ts :: L) := by
  have h0 := h.ok_row 0 rfl
  have hp := h.pw
  have ap := List.pairwise_cons.1 hp
  -- the row and both together
  refine Sep.of_pw h.ext (fun r hr => ?_) (fun r hr ho b hb => ?_) (List.pairwise_cons.2 ⟨fun r hr => ?_, (List.pairwise_cons.1 (List.pairwise_cons.1 ap.2).2).2⟩)
  · rcases List.mem_cons.1 hr with rfl | hr
    · exact ⟨SlAt.of_row h0, h.ok 1 _ rfl, h.ok 2 _ rfl⟩
    · exact h.mem (List.mem_cons_of_mem _ (List.mem_cons_of_mem _ (List.mem_cons_of_mem _ hr)))
  · rcases List.mem_cons.1 hr with rfl | hr
    · rcases hb with hb | hb | hb
      · exact h.mine 0 _ rfl rfl b (slFoot_row hb)
      · exact h.mine 1 _ rfl rfl b hb
      · exact h.mine 2 _ rfl rfl b hb
    · exact h.mineM (List.mem_cons_of_mem _ (List.mem_cons_of_mem _ (List.mem_cons_of_mem _ hr))) ho b hb
  · have a0 := ap.1 r (List.mem_cons_of_mem _ (List.mem_cons_of_mem _ hr))
    have a1 := (List.pairwise_cons.1 ap.2).1 r (List.mem_cons_of_mem _ hr)
    have a2 := (List.pairwise_cons.1 (List.pairwise_cons.1 ap.2).2).1 r hr
    refine ⟨fun _ b hb => ?_, fun ho b hb hb' => ?_⟩
    · rcases hb with hb | hb | hb
      · exact a0.1 rfl b (slFoot_row hb)
      · exact a1.1 rfl b hb
      · exact a2.1 rfl b hb
    · rcases hb' with hb' | hb' | hb'
      · exact a0.2 ho b hb (slFoot_row hb')
      · exact a1.2 ho b hb hb'
      · exact a2.2 ho b hb hb'
theorem sep_macs_join {vm : Value} {lk : Nat → Value} {ms : List MacD} (h : Sep X w0 w (row vm 103 2 ms.length (macsC lk ms) :: slsR true ms.length lk 3 (blkN ms) (blkC ms) :: L)) : Sep X w0 w (macsR true vm lk ms :: L) := by
  have h0 := h.ok_row 0 rfl
  refine h.join (t := macsR true vm lk ms) ⟨SlAt.of_row h0, h.ok 1 _ rfl⟩ (fun b hb => ?_) (fun _ => ⟨rfl, rfl⟩) (fun _ => trivial)
  rcases hb with hb | hb
  · exact .inl (slFoot_row hb)
  · exact .inr hb
end
theorem take_tab {α : Type} {l : List α} {d : α} {k : Nat} (h : k < l.length) : l.take k ++ [l.getD k d] = l.take (k + 1) := by
  rw [List.take_add_one, List.getElem?_eq_getElem h, List.getD, List.getElem?_eq_getElem h]; rfl
section
variable {ts : List TabD} {ms : List MacD} {k : Nat}
theorem take_at {α : Type} {l : List α} {d : α} {k i : Nat} (hk : i < k) : (l.take k).getD i d = l.getD i d := by
  simp [List.getD, List.getElem?_take, hk]
theorem rowsN_new (h : k < ts.length) : rowsN (ts.take (k + 1)) (ts.take k).length = (ts.getD k tab0).rows.length ∧ rowsC (ts.take (k + 1)) (ts.take k).length = pairs (ts.getD k tab0).rows ∧ brkN (ts.take (k + 1)) (ts.take k).length = (ts.getD k tab0).brk.length ∧ brkC (ts.take (k + 1)) (ts.take k).length = ints (ts.getD k tab0).brk := by
  rw [List.length_take, Nat.min_eq_left (by omega)]
  unfold rowsN rowsC brkN brkC
  rw [take_at (Nat.lt_succ_self k)]
  exact ⟨rfl, rfl, rfl, rfl⟩
theorem rowsN_old (i : Nat) (hi : i < (ts.take k).length) : (rowsN (ts.take (k + 1)) i = rowsN (ts.take k) i ∧ rowsC (ts.take (k + 1)) i = rowsC (ts.take k) i) ∧ brkN (ts.take (k + 1)) i = brkN (ts.take k) i ∧ brkC (ts.take (k + 1)) i = brkC (ts.take k) i := by
  have hk : i < k := by rw [List.length_take] at hi; omega
  unfold rowsN rowsC brkN brkC
  rw [take_at (show i < k + 1 by omega), take_at hk]
  exact ⟨⟨rfl, rfl⟩, rfl, rfl⟩
theorem blkN_new (h : k < ms.length) : blkN (ms.take (k + 1)) (ms.take k).length = (ms.getD k mac0).blocks.length ∧ blkC (ms.take (k + 1)) (ms.take k).length = trips (ms.getD k mac0).blocks := by
  rw [List.length_take, Nat.min_eq_left (by omega)]
  unfold blkN blkC
  rw [take_at (Nat.lt_succ_self k)]
  exact ⟨rfl, rfl⟩
theorem blkN_old (i : Nat) (hi : i < (ms.take k).length) : blkN (ms.take (k + 1)) i = blkN (ms.take k) i ∧ blkC (ms.take (k + 1)) i = blkC (ms.take k) i := by
  have hk : i < k := by rw [List.length_take] at hi; omega
  unfold blkN blkC
  rw [take_at (show i < k + 1 by omega), take_at hk]
  exact ⟨rfl, rfl⟩
theorem take_len1 {α : Type} {l : List α} (h : k < l.length) : (l.take k).length + 1 = (l.take (k + 1)).length := by simp only [List.length_take]; omega
end
end Go.Hard

namespace Go.Proofs.Ytohgladndklciaa
open Go.RowKit Go.Shelf Go.Eng Go.Hard
theorem bd_98_0i_1i (x0_0 : Int) (x1_0 : Int) (w : World) : (Instr.build 98 #[(0, (.int .i64 x0_0)), (1, (.int .i64 x1_0))]).run Try.prog w = .ok (.agg #[(.int .i64 x0_0), (.int .i64 x1_0)]) w := by kernel_rfl
theorem bs_98_1_0iia (x0_0 : Int) (x0_1 : Int) : Instr.fill (fun i => some (i * 2, 2)) ((Array.range (1 * 2)).map ((Value.agg #[(Value.int .i64 0), (Value.int .i64 0)]).cells[· % (Value.agg #[(Value.int .i64 0), (Value.int .i64 0)]).cells.size]!)) [(0, .agg #[(.int .i64 x0_0), (.int .i64 x0_1)])] = some (([(.int .i64 x0_0), (.int .i64 x0_1)] : List Value).toArray) := by kernel_rfl
theorem list_ok (l : List Int) (xl : Value) (w : World) (hxl : SlAt w xl 1 l.length (ints l)) (hlen : l.length ≤ 1000000) :
  Calls Try.prog 40 #[xl] w (Ret fun v w' => Ext NoB w w' ∧ w'.ownsRow w.heap.size 3 1 v l.length (ints l)) := by
 refine calls_enter Try.func40 rfl fun a0 hA0 => ?_
 replace hA0 : Fr 5 [] [(0, xl)] a0 := hA0
 have hS0 : Sep NoB w w [(sl xl 1 l.length (ints l))] := sep_ro ⟨rfl, hxl, trivial⟩
 refine c_seq ?_
 refine c_region ?_
 refine st hA0 (op_assign rfl (evc _ _)) rfl rfl (by decide) fun a1 hA2 => ?_; clear hA0 a0
 refine wl_nil ?_
 refine then_n ?_
 refine c_seq ?_
 refine c_region ?_
 refine st hA2 (op_move rfl (hA2.ev rfl)) rfl rfl (by decide) fun a3 hA4 => ?_; clear hA2 a1
 have hS5 := hS0.nil_row 3 1; clear hS0
 refine stw hA4 (op_append hS5 rfl un_44 el_3 (evc _ _) (hA4.ev rfl) (i := 0) rfl (hS5.sk 1 rfl) (ints_one _) (by simp only [maxLen]; omega) (by omega)) rfl rfl (by decide) ?_
 intro a6 v9 w8 hS10 hA7
 have hS11 := hS10.row_say (i := 0) rfl (n' := l.length) (xs' := (ints l)) (by simp) (by simp); clear hS10 hA4 hS5 a3
 refine st hA7 (op_assign rfl (hA7.ev rfl)) rfl rfl (by decide) fun a12 hA13 => ?_; clear hA7 a6
 refine wl_nil ?_
 refine then_n ?_
 refine c_ret ?_
 refine fin_run hA13 (.inl rfl) (run_results1 hA13 rfl (.tmp rfl)) ?_
 exact ⟨hS11.ext, hS11.row_new (i := 0) rfl⟩
end Go.Proofs.Ytohgladndklciaa

namespace Go.Proofs.Ytohgladndklciaa
open Go.RowKit Go.Shelf Go.Eng Go.Hard
theorem ze_37 : (Try.prog.info? 37).bind (·.zero) = some (Value.agg #[(Value.int .i64 0), (Value.slice none 0 0), (Value.slice none 0 0)]) := by kernel_rfl
theorem bd_37_0i (x0_0 : Int) (w : World) : (Instr.build 37 #[(0, (.int .i64 x0_0))]).run Try.prog w = .ok (.agg #[(.int .i64 x0_0), (Value.slice none 0 0), (Value.slice none 0 0)]) w := by kernel_rfl
theorem ze_46 : (Try.prog.info? 46).bind (·.zero) = some (Value.agg #[(Value.int .i64 0), (Value.int .i64 0), (Value.slice none 0 0), (Value.slice none 0 0), (Value.int .i64 0)]) := by kernel_rfl
theorem bd_106_0i_1i_3s_4i (x0_0 : Int) (x1_0 : Int) (x2_0 : Value) (hx2_0 : IsSl x2_0) (x3_0 : Int) (w : World) : (Instr.build 106 #[(0, (.int .i64 x0_0)), (1, (.int .i64 x1_0)), (3, x2_0), (4, (.int .i64 x3_0))]).run Try.prog w = .ok (.agg #[(.int .i64 x0_0), (.int .i64 x1_0), (Value.slice none 0 0), x2_0, (.int .i64 x3_0)]) w := by obtain ⟨Ax2_0, Bx2_0, Cx2_0, rfl⟩ := hx2_0; kernel_rfl
theorem en_40 : ∀ args w, (callFunc 40 args).run Try.prog w = .ok (.enter 40 args) w := enters_of Try.func40 (by kernel_rfl) rfl
theorem bd_107_0i_1i (x0_0 : Int) (x1_0 : Int) (w : World) : (Instr.build 107 #[(0, (.int .i64 x0_0)), (1, (.int .i64 x1_0))]).run Try.prog w = .ok (.agg #[(.int .i64 x0_0), (.int .i64 x1_0)]) w := by kernel_rfl
theorem bs_107_1_0iia (x0_0 : Int) (x0_1 : Int) : Instr.fill (fun i => some (i * 2, 2)) ((Array.range (1 * 2)).map ((Value.agg #[(Value.int .i64 0), (Value.int .i64 0)]).cells[· % (Value.agg #[(Value.int .i64 0), (Value.int .i64 0)]).cells.size]!)) [(0, .agg #[(.int .i64 x0_0), (.int .i64 x0_1)])] = some (([(.int .i64 x0_0), (.int .i64 x0_1)] : List Value).toArray) := by kernel_rfl
theorem el_107 : elK Try.prog 107 = some ((Value.agg #[(Value.int .i64 0), (Value.int .i64 0)]), 2, 16) := by kernel_rfl
theorem bd_103_0i (x0_0 : Int) (w : World) : (Instr.build 103 #[(0, (.int .i64 x0_0))]).run Try.prog w = .ok (.agg #[(.int .i64 x0_0), (Value.slice none 0 0)]) w := by kernel_rfl
theorem bd_100_0iia_1i (x0_0 : Int) (x0_1 : Int) (x1_0 : Int) (w : World) : (Instr.build 100 #[(0, .agg #[(.int .i64 x0_0), (.int .i64 x0_1)]), (1, (.int .i64 x1_0))]).run Try.prog w = .ok (.agg #[(.int .i64 x0_0), (.int .i64 x0_1), (.int .i64 x1_0)]) w := by kernel_rfl
theorem en_20 : ∀ args w, (callFunc 20 args).run Try.prog w = .ok (.enter 20 args) w := enters_of Try.func20 (by kernel_rfl) rfl
theorem bs_100_1_0iiia (x0_0 : Int) (x0_1 : Int) (x0_2 : Int) : Instr.fill (fun i => some (i * 3, 3)) ((Array.range (1 * 3)).map ((Value.agg #[(Value.int .i64 0), (Value.int .i64 0), (Value.int .i64 0)]).cells[· % (Value.agg #[(Value.int .i64 0), (Value.int .i64 0), (Value.int .i64 0)]).cells.size]!)) [(0, .agg #[(.int .i64 x0_0), (.int .i64 x0_1), (.int .i64 x0_2)])] = some (([(.int .i64 x0_0), (.int .i64 x0_1), (.int .i64 x0_2)] : List Value).toArray) := by kernel_rfl
theorem el_100 : elK Try.prog 100 = some ((Value.agg #[(Value.int .i64 0), (Value.int .i64 0), (Value.int .i64 0)]), 3, 24) := by kernel_rfl
theorem bs_103_1_0iva (x0_0 : Int) (x0_1 : Value) : Instr.fill (fun i => some (i * 2, 2)) ((Array.range (1 * 2)).map ((Value.agg #[(Value.int .i64 0), (Value.slice none 0 0)]).cells[· % (Value.agg #[(Value.int .i64 0), (Value.slice none 0 0)]).cells.size]!)) [(0, .agg #[(.int .i64 x0_0), x0_1])] = some (([(.int .i64 x0_0), x0_1] : List Value).toArray) := by kernel_rfl
theorem el_103 : elK Try.prog 103 = some ((Value.agg #[(Value.int .i64 0), (Value.slice none 0 0)]), 2, 32) := by kernel_rfl
set_option maxHeartbeats 4000000 in
theorem Book_ok (b : BookD) (vt vm : Value) (lr lb lk : Nat → Value) (w : World) (hT : TabsAt w vt lr lb b.tabs) (hM : MacsAt w vm lk b.macs) (hth : ThinB b) :
  Calls Try.prog 19 #[(Value.agg #[(Value.int .i64 b.scales), vt, vm])] w (Ret fun v w' => ∃ vt' vm' lr' lb' lk', v = .agg #[.int .i64 b.scales, vt', vm'] ∧ Sep NoB w w' [tabsR true vt' lr' lb' b.tabs, macsR true vm' lk' b.macs]) := by
 refine calls_enter Try.func19 rfl fun a0 hA0 => ?_
 replace hA0 : Fr 116 [] [(0, (Value.agg #[(Value.int .i64 b.scales), vt, vm]))] a0 := hA0
 have htl9 := hth.tl; have hml9 := hth.ml
 have hS0 : Sep NoB w w [(tabsR false vt lr lb b.tabs), (macsR false vm lk b.macs)] := sep_ro ⟨rfl, hT, rfl, hM, trivial⟩
 refine c_seq ?_
 refine c_region ?_
 refine stw hA0 (op_box hS0 rfl (hA0.ev rfl) (cs := [(Value.int .i64 b.scales), vt, vm]) rfl) rfl rfl (by decide) ?_
 rintro a1 _ w3 ⟨b4, rfl, hS5⟩ hA2; clear hA0 hS0 a0
 refine stw hA2 (op_alloc hS5 rfl ze_37 (cs := [(Value.int .i64 0), (Value.slice none 0 0), (Value.slice none 0 0)]) rfl) rfl rfl (by decide) ?_
 rintro a6 _ w8 ⟨b9, rfl, hS10⟩ hA7; clear hA2 hS5 a1
 refine wl_nil ?_
 refine then_n ?_
 refine c_seq ?_
 refine c_region ?_
 refine st hA7 (op_field rfl fd_25_0 (hA7.ev rfl)) rfl rfl (by decide) fun a11 hA12 => ?_; clear hA7 a6
 refine st hA12 (op_load1 rfl ty_3 (hA12.ev rfl) (hS10.bk 1 rfl) rfl) rfl rfl (by decide) fun a13 hA14 => ?_; clear hA12 a11
 refine st hA14 (op_build rfl (pv1 (hA14.ev rfl)) (bd_37_0i _)) rfl rfl (by decide) fun a15 hA16 => ?_; clear hA14 a13
 refine stw hA16 (op_alloc hS10 rfl ze_37 (cs := [(Value.int .i64 0), (Value.slice none 0 0), (Value.slice none 0 0)]) rfl) rfl rfl (by decide) ?_
 rintro a17 _ w19 ⟨b20, rfl, hS21⟩ hA18; clear hA16 hS10 a15
 refine sts hA18 (op_store hS21 rfl ty_37 (hA18.ev rfl) (hA18.ev rfl) (i := 0) rfl (vs := [(Value.int .i64 b.scales), (Value.slice none 0 0), (Value.slice none 0 0)]) rfl rfl (all_c rfl (all_c rfl (all_c rfl all_n))) (Nat.le_of_ble_eq_true rfl)) rfl rfl ?_
 intro _ w22 hS23 hA24; clear hA18
 have hS25 : Sep NoB w w22 [(blk b20 37 [(Value.int .i64 b.scales), (Value.slice none 0 0), (Value.slice none 0 0)]), (blk b9 37 [(Value.int .i64 0), (Value.slice none 0 0), (Value.slice none 0 0)]), (blk b4 25 [(Value.int .i64 b.scales), vt, vm]), (tabsR false vt lr lb b.tabs), (macsR false vm lk b.macs)] := hS23; clear hS23 hS21
 refine wl_nil ?_
 refine then_n ?_
 refine c_seq ?_
 refine c_seq ?_
 refine c_region ?_
 refine st hA24 (op_assign rfl (evc _ _)) rfl rfl (by decide) fun a26 hA27 => ?_; clear hA24 a17
 refine wl_nil ?_
 refine then_n ?_
 refine c_block ?_
 have hS28 := sep_sls_nil (sep_sls_nil (hS25.nil_row 106 5) (fun _ => Value.slice none 0 0) 1 (brkN (b.tabs.take 0)) (brkC (b.tabs.take 0))) (fun _ => Value.slice none 0 0) 2 (rowsN (b.tabs.take 0)) (rowsC (b.tabs.take 0)); clear hS25
 have hA29 := hA27.as [(4, (Value.int .i64 0)), (3, (bptr b20 0)), (2, (bptr b9 0)), (1, (bptr b4 0))] rfl; clear hA27
 refine c_loop (G := Nat) (fun (k : Nat) a_ w_ => ∃ vt_ : Value, ∃ lr_ : Nat → Value, ∃ lb_ : Nat → Value, Fr 116 [] [(4, (Value.int .i64 (k : Int))), (3, (bptr b20 0)), (2, (bptr b9 0)), (1, (bptr b4 0))] a_ ∧ Sep NoB w w_ [(slsR true ((b.tabs.take k).length) lr_ 2 (rowsN (b.tabs.take k)) (rowsC (b.tabs.take k))), (slsR true ((b.tabs.take k).length) lb_ 1 (brkN (b.tabs.take k)) (brkC (b.tabs.take k))), (row vt_ 106 5 ((b.tabs.take k).length) (tabsC lr_ lb_ (b.tabs.take k))), (blk b20 37 [(Value.int .i64 b.scales), vt_, (Value.slice none 0 0)]), (blk b9 37 [(Value.int .i64 0), (Value.slice none 0 0), (Value.slice none 0 0)]), (blk b4 25 [(Value.int .i64 b.scales), vt, vm]), (tabsR false vt lr lb b.tabs), (macsR false vm lk b.macs)] ∧ (k ≤ b.tabs.length)) (fun k => b.tabs.length - k) 0 ⟨(Value.slice none 0 0), (fun _ => Value.slice none 0 0), (fun _ => Value.slice none 0 0), hA29.as _ rfl, (hS28.row_say (i := 2) rfl (by rfl) (by rfl)), by omega⟩ ?_
 clear hA29 hS28 a26
 rintro k a30 w32 ⟨vt_, lr_, lb_, hA31, hS33, hk⟩
 have htk : (b.tabs.take k).length = k := by rw [List.length_take]; omega
 refine c_seq ?_
 refine c_seq ?_
 refine c_region ?_
 refine st hA31 (op_move rfl (hA31.ev rfl)) rfl rfl (by decide) fun a34 hA35 => ?_; clear hA31 a30
 refine st hA35 (op_field rfl fd_25_1 (hA35.ev rfl)) rfl rfl (by decide) fun a36 hA37 => ?_; clear hA35 a34
 refine st hA37 (op_load1 rfl ty_22 (hA37.ev rfl) (hS33.bk 5 rfl) rfl) rfl rfl (by decide) fun a38 hA39 => ?_; clear hA37 a36
 refine st hA39 (op_lenS rfl un_22 (hA39.ev rfl) (tabs_at (hS33.ok 6 _ rfl)).tabs) rfl rfl (by decide) fun a40 hA41 => ?_; clear hA39 a38
 refine st hA41 (op_lss rfl (hA41.ev rfl) (hA41.ev rfl)) rfl rfl (by decide) fun a42 hA43 => ?_; clear hA41 a40
 refine wl_nil ?_
 refine then_n ?_
 by_cases hb44 : (k : Int) < (b.tabs.length : Int)
 ·skip
  rw [decide_eq_true hb44] at hA43
  have htkk := hth.tab k
  refine c_true hA43 rfl ?_
  refine c_skip ?_
  refine then_n ?_
  refine c_seq ?_
  refine c_block ?_
  refine c_seq ?_
  refine c_region ?_
  refine st hA43 (op_field rfl fd_25_1 (hA43.ev rfl)) rfl rfl (by decide) fun a45 hA46 => ?_; clear hA43 a42
  refine st hA46 (op_load1 rfl ty_22 (hA46.ev rfl) (hS33.bk 5 rfl) rfl) rfl rfl (by decide) fun a47 hA48 => ?_; clear hA46 a45
  refine st hA48 (op_move rfl (hA48.ev rfl)) rfl rfl (by decide) fun a49 hA50 => ?_; clear hA48 a47
  refine st hA50 (op_indexS rfl un_22 ty_46 (hA50.ev rfl) (i := k) (hA50.ev rfl) (tabs_at (hS33.ok 6 _ rfl)).tabs (by decide) (by omega)) rfl rfl (by decide) fun a51 hA52 => ?_; clear hA50 a49
  refine st hA52 (op_loadAE rfl ty_46 (hA52.ev rfl) (tabs_at (hS33.ok 6 _ rfl)).tabs (tabs_all (by omega)) rfl (by decide)) rfl rfl (by decide) fun a53 hA54 => ?_; clear hA52 a51
  refine stw hA54 (op_alloc hS33 rfl ze_46 (cs := [(Value.int .i64 0), (Value.int .i64 0), (Value.slice none 0 0), (Value.slice none 0 0), (Value.int .i64 0)]) rfl) rfl rfl (by decide) ?_
  rintro a55 _ w57 ⟨b58, rfl, hS59⟩ hA56; clear hA54 hS33 a53
  refine sts hA56 (op_store hS59 rfl ty_46 (hA56.ev rfl) (hA56.ev rfl) (i := 0) rfl (vs := [(Value.int .i64 ((b.tabs.getD k tab0).frm)), (Value.int .i64 ((b.tabs.getD k tab0).dst)), (lr k), (lb k), (Value.int .i64 ((b.tabs.getD k tab0).err))]) rfl rfl (all_c rfl (all_c rfl (all_c (SlAt.one ((tabs_at (hS59.ok 7 _ rfl)).row (i := k) (by omega))) (all_c (SlAt.one ((tabs_at (hS59.ok 7 _ rfl)).brk (i := k) (by omega))) (all_c rfl all_n))))) (Nat.le_of_ble_eq_true rfl)) rfl rfl ?_
  intro _ w60 hS61 hA62; clear hA56
  have hS63 : Sep NoB w w60 [(blk b58 46 [(Value.int .i64 ((b.tabs.getD k tab0).frm)), (Value.int .i64 ((b.tabs.getD k tab0).dst)), (lr k), (lb k), (Value.int .i64 ((b.tabs.getD k tab0).err))]), (slsR true ((b.tabs.take k).length) lr_ 2 (rowsN (b.tabs.take k)) (rowsC (b.tabs.take k))), (slsR true ((b.tabs.take k).length) lb_ 1 (brkN (b.tabs.take k)) (brkC (b.tabs.take k))), (row vt_ 106 5 ((b.tabs.take k).length) (tabsC lr_ lb_ (b.tabs.take k))), (blk b20 37 [(Value.int .i64 b.scales), vt_, (Value.slice none 0 0)]), (blk b9 37 [(Value.int .i64 0), (Value.slice none 0 0), (Value.slice none 0 0)]), (blk b4 25 [(Value.int .i64 b.scales), vt, vm]), (tabsR false vt lr lb b.tabs), (macsR false vm lk b.macs)] := hS61; clear hS61 hS59
  refine wl_nil ?_
  refine then_n ?_
  refine c_seq ?_
  have hA64 := hA62.as [(5, (bptr b58 0)), (4, (Value.int .i64 (k : Int))), (3, (bptr b20 0)), (2, (bptr b9 0)), (1, (bptr b4 0))] rfl; clear hA62
  have hA65 := hA64.as [(5, (bptr b58 0)), (4, (Value.int .i64 (k : Int))), (3, (bptr b20 0)), (2, (bptr b9 0)), (1, (bptr b4 0))] rfl; clear hA64
  refine c_drawV mixed hA65 hS63 11 [[], [0], [], [2], [], [4], [5], [], [7], [1, 3, 6, 8], []] [(fun (vs66 : Nat → Value) (v_ : Value) (rs_ : List Res) => v_ = (bptr b58 0) ∧ rs_ = []), (fun (vs66 : Nat → Value) (v_ : Value) (rs_ : List Res) => v_ = (Value.int .i64 ((b.tabs.getD k tab0).frm)) ∧ rs_ = []), (fun (vs66 : Nat → Value) (v_ : Value) (rs_ : List Res) => v_ = (bptr b58 1) ∧ rs_ = []), (fun (vs66 : Nat → Value) (v_ : Value) (rs_ : List Res) => v_ = (Value.int .i64 ((b.tabs.getD k tab0).dst)) ∧ rs_ = []), (fun (vs66 : Nat → Value) (v_ : Value) (rs_ : List Res) => v_ = (bptr b58 3) ∧ rs_ = []), (fun (vs66 : Nat → Value) (v_ : Value) (rs_ : List Res) => v_ = (lb k) ∧ rs_ = []), (fun (vs66 : Nat → Value) (v_ : Value) (rs_ : List Res) => True ∧ rs_ = [(row v_ 3 1 ((b.tabs.getD k tab0).brk.length) (ints ((b.tabs.getD k tab0).brk)))]), (fun (vs66 : Nat → Value) (v_ : Value) (rs_ : List Res) => v_ = (bptr b58 4) ∧ rs_ = []), (fun (vs66 : Nat → Value) (v_ : Value) (rs_ : List Res) => v_ = (Value.int .i64 ((b.tabs.getD k tab0).err)) ∧ rs_ = []), (fun (vs66 : Nat → Value) (v_ : Value) (rs_ : List Res) => v_ = (Value.agg #[(Value.int .i64 ((b.tabs.getD k tab0).frm)), (Value.int .i64 ((b.tabs.getD k tab0).dst)), (Value.slice none 0 0), (vs66 6), (Value.int .i64 ((b.tabs.getD k tab0).err))]) ∧ rs_ = []), (fun (vs66 : Nat → Value) (v_ : Value) (rs_ : List Res) => ∃ (b10_ : Nat), v_ = (bptr b10_ 0) ∧ rs_ = [(blk b10_ 106 [(Value.int .i64 0), (Value.int .i64 0), (Value.slice none 0 0), (Value.slice none 0 0), (Value.int .i64 0)])])] (by decide +kernel) (by decide +kernel) rfl rfl ⟨(fun _ _ _ _ _ h_ => h_), (fun _ _ _ _ _ h_ => h_), (fun _ _ _ _ _ h_ => h_), (fun _ _ _ _ _ h_ => h_), (fun _ _ _ _ _ h_ => h_), (fun _ _ _ _ _ h_ => h_), (fun _ _ _ _ _ h_ => h_), (fun _ _ _ _ _ h_ => h_), (fun _ _ _ _ _ h_ => h_), (fun _ _ _ _ he_ h_ => by dsimp only at h_ ⊢; rw [← he_ 6 (by decide)]; exact h_), (fun _ _ _ _ _ h_ => h_), trivial⟩ ?_ ?_
  ·skip
   refine ⟨fun a w vs66 hA hS hd => ?_, ?_⟩
   ·skip
    exact opG_of rfl (vv (op_field rfl fd_46_0 (hA.ev rfl)) (And.intro rfl rfl))
   refine ⟨fun a w vs66 hA hS hd => ?_, ?_⟩
   ·skip
    obtain ⟨e0, rs0, hy0, hp0⟩ := hd 0 (by decide)
    obtain ⟨hv0, hr0⟩ := hy0; subst hr0
    rw [hv0] at e0
    exact opG_of rfl (vv (op_load1 rfl ty_3 (tmp_ev (slot_ev e0 rfl)) (hS.bk 0 rfl) rfl) (And.intro rfl rfl))
   refine ⟨fun a w vs66 hA hS hd => ?_, ?_⟩
   ·skip
    exact opG_of rfl (vv (op_field rfl fd_46_1 (hA.ev rfl)) (And.intro rfl rfl))
   refine ⟨fun a w vs66 hA hS hd => ?_, ?_⟩
   ·skip
    obtain ⟨e2, rs2, hy2, hp2⟩ := hd 2 (by decide)
    obtain ⟨hv2, hr2⟩ := hy2; subst hr2
    rw [hv2] at e2
    exact opG_of rfl (vv (op_load1 rfl ty_3 (tmp_ev (slot_ev e2 rfl)) (hS.bk 0 rfl) rfl) (And.intro rfl rfl))
   refine ⟨fun a w vs66 hA hS hd => ?_, ?_⟩
   ·skip
    exact opG_of rfl (vv (op_field rfl fd_46_3 (hA.ev rfl)) (And.intro rfl rfl))
   refine ⟨fun a w vs66 hA hS hd => ?_, ?_⟩
   ·skip
    obtain ⟨e4, rs4, hy4, hp4⟩ := hd 4 (by decide)
    obtain ⟨hv4, hr4⟩ := hy4; subst hr4
    rw [hv4] at e4
    exact opG_of rfl (vv (op_load1 rfl ty_44 (tmp_ev (slot_ev e4 rfl)) (hS.bk 0 rfl) rfl) (And.intro rfl rfl))
   refine ⟨fun a w vs66 hA hS hd => ?_, ?_⟩
   ·skip
    obtain ⟨e5, rs5, hy5, hp5⟩ := hd 5 (by decide)
    obtain ⟨hv5, hr5⟩ := hy5; subst hr5
    rw [hv5] at e5
    exact opG_of rfl (vn (op_call rfl en_40 (ev1 (tmp_ev (slot_ev e5 rfl))) (list_ok ((b.tabs.getD k tab0).brk) _ _ ((tabs_at (hS.ok 7 _ rfl)).brk (i := k) (by omega)) (hth.bl _))) (fun v w' h => ⟨_, And.intro trivial rfl, (Sep.start NoB _).new_row h.1 h.2, rfl⟩))
   refine ⟨fun a w vs66 hA hS hd => ?_, ?_⟩
   ·skip
    exact opG_of rfl (vv (op_field rfl fd_46_4 (hA.ev rfl)) (And.intro rfl rfl))
   refine ⟨fun a w vs66 hA hS hd => ?_, ?_⟩
   ·skip
    obtain ⟨e7, rs7, hy7, hp7⟩ := hd 7 (by decide)
    obtain ⟨hv7, hr7⟩ := hy7; subst hr7
    rw [hv7] at e7
    exact opG_of rfl (vv (op_load1 rfl ty_3 (tmp_ev (slot_ev e7 rfl)) (hS.bk 0 rfl) rfl) (And.intro rfl rfl))
   refine ⟨fun a w vs66 hA hS hd => ?_, ?_⟩
   ·skip
    obtain ⟨e1, rs1, hy1, hp1⟩ := hd 1 (by decide)
    obtain ⟨hv1, hr1⟩ := hy1; subst hr1
    rw [hv1] at e1
    obtain ⟨e3, rs3, hy3, hp3⟩ := hd 3 (by decide)
    obtain ⟨hv3, hr3⟩ := hy3; subst hr3
    rw [hv3] at e3
    obtain ⟨e6, rs6, hy6, hp6⟩ := hd 6 (by decide)
    obtain ⟨hv6, hr6⟩ := hy6; subst hr6
    have hp6_0 := hp6 _ (List.mem_of_getElem? (i := 0) rfl)
    obtain ⟨e8, rs8, hy8, hp8⟩ := hd 8 (by decide)
    obtain ⟨hv8, hr8⟩ := hy8; subst hr8
    rw [hv8] at e8
    exact opG_of rfl (vv (op_build rfl (pv4 (tmp_ev (slot_ev e1 rfl)) (tmp_ev (slot_ev e3 rfl)) (tmp_ev (slot_ev e6 rfl)) (tmp_ev (slot_ev e8 rfl))) (bd_106_0i_1i_3s_4i _ _ _ (SlAt.isSl (SlAt.of_row hp6_0)) _)) (And.intro rfl rfl))
   refine ⟨fun a w vs66 hA hS hd => ?_, ?_⟩
   ·skip
    exact opG_of rfl (valloc rfl ze_106 (cs := [(Value.int .i64 0), (Value.int .i64 0), (Value.slice none 0 0), (Value.slice none 0 0), (Value.int .i64 0)]) rfl (fun b_ => ⟨b_, rfl, rfl⟩))
   trivial
  intro a67 w68 vs66 rsf72 hA69 hH71 hS70; clear hA65 hS63
  obtain ⟨hs_0, hy_0⟩ := hH71 0 (by decide)
  obtain ⟨hv_0, hr_0⟩ := hy_0
  obtain ⟨hs_1, hy_1⟩ := hH71 1 (by decide)
  obtain ⟨hv_1, hr_1⟩ := hy_1
  obtain ⟨hs_2, hy_2⟩ := hH71 2 (by decide)
  obtain ⟨hv_2, hr_2⟩ := hy_2
  obtain ⟨hs_3, hy_3⟩ := hH71 3 (by decide)
  obtain ⟨hv_3, hr_3⟩ := hy_3
  obtain ⟨hs_4, hy_4⟩ := hH71 4 (by decide)
  obtain ⟨hv_4, hr_4⟩ := hy_4
  obtain ⟨hs_5, hy_5⟩ := hH71 5 (by decide)
  obtain ⟨hv_5, hr_5⟩ := hy_5
  obtain ⟨hs_6, hy_6⟩ := hH71 6 (by decide)
  obtain ⟨hv_6, hr_6⟩ := hy_6
  obtain ⟨hs_7, hy_7⟩ := hH71 7 (by decide)
  obtain ⟨hv_7, hr_7⟩ := hy_7
  obtain ⟨hs_8, hy_8⟩ := hH71 8 (by decide)
  obtain ⟨hv_8, hr_8⟩ := hy_8
  obtain ⟨hs_9, hy_9⟩ := hH71 9 (by decide)
  obtain ⟨hv_9, hr_9⟩ := hy_9
  obtain ⟨hs_10, hy_10⟩ := hH71 10 (by decide)
  obtain ⟨b10_, hv_10, hr_10⟩ := hy_10
  have hS73 : Sep NoB w w68 [(row (vs66 6) 3 1 ((b.tabs.getD k tab0).brk.length) (ints ((b.tabs.getD k tab0).brk))), (blk b10_ 106 [(Value.int .i64 0), (Value.int .i64 0), (Value.slice none 0 0), (Value.slice none 0 0), (Value.int .i64 0)]), (blk b58 46 [(Value.int .i64 ((b.tabs.getD k tab0).frm)), (Value.int .i64 ((b.tabs.getD k tab0).dst)), (lr k), (lb k), (Value.int .i64 ((b.tabs.getD k tab0).err))]), (slsR true ((b.tabs.take k).length) lr_ 2 (rowsN (b.tabs.take k)) (rowsC (b.tabs.take k))), (slsR true ((b.tabs.take k).length) lb_ 1 (brkN (b.tabs.take k)) (brkC (b.tabs.take k))), (row vt_ 106 5 ((b.tabs.take k).length) (tabsC lr_ lb_ (b.tabs.take k))), (blk b20 37 [(Value.int .i64 b.scales), vt_, (Value.slice none 0 0)]), (blk b9 37 [(Value.int .i64 0), (Value.slice none 0 0), (Value.slice none 0 0)]), (blk b4 25 [(Value.int .i64 b.scales), vt, vm]), (tabsR false vt lr lb b.tabs), (macsR false vm lk b.macs)] := by rw [show catR rsf72 0 11 = ([(row (vs66 6) 3 1 ((b.tabs.getD k tab0).brk.length) (ints ((b.tabs.getD k tab0).brk))), (blk b10_ 106 [(Value.int .i64 0), (Value.int .i64 0), (Value.slice none 0 0), (Value.slice none 0 0), (Value.int .i64 0)])] : List Res) by (try simp only [catR, hr_0, hr_1, hr_2, hr_3, hr_4, hr_5, hr_6, hr_7, hr_8, hr_9, hr_10]); (try rfl)] at hS70; exact hS70
  rw [hv_9] at hs_9
  have hA74 : Fr 116 [] [(36, (Value.agg #[(Value.int .i64 ((b.tabs.getD k tab0).frm)), (Value.int .i64 ((b.tabs.getD k tab0).dst)), (Value.slice none 0 0), (vs66 6), (Value.int .i64 ((b.tabs.getD k tab0).err))])), (5, (bptr b58 0)), (4, (Value.int .i64 (k : Int))), (3, (bptr b20 0)), (2, (bptr b9 0)), (1, (bptr b4 0))] a67 := hA69.add (slot_ev hs_9 rfl); clear hA69
  rw [hv_10] at hs_10
  have hA75 : Fr 116 [] [(6, (bptr b10_ 0)), (36, (Value.agg #[(Value.int .i64 ((b.tabs.getD k tab0).frm)), (Value.int .i64 ((b.tabs.getD k tab0).dst)), (Value.slice none 0 0), (vs66 6), (Value.int .i64 ((b.tabs.getD k tab0).err))])), (5, (bptr b58 0)), (4, (Value.int .i64 (k : Int))), (3, (bptr b20 0)), (2, (bptr b9 0)), (1, (bptr b4 0))] a67 := hA74.add (slot_ev hs_10 rfl); clear hA74
  clear hH71 hS70 hs_0 hs_1 hs_2 hs_3 hs_4 hs_5 hs_6 hs_7 hs_8 hs_9 hs_10
  clear hr_0
  clear hv_0
  clear hr_1
  clear hv_1
  clear hr_2
  clear hv_2
  clear hr_3
  clear hv_3
  clear hr_4
  clear hv_4
  clear hr_5
  clear hv_5
  clear hr_6
  clear hv_6
  clear hr_7
  clear hv_7
  clear hr_8
  clear hv_8
  clear hr_9
  clear hv_9
  clear hr_10
  clear hv_10
  refine sts hA75 (op_store hS73 rfl ty_106 (hA75.ev rfl) (hA75.ev rfl) (i := 1) rfl (vs := [(Value.int .i64 ((b.tabs.getD k tab0).frm)), (Value.int .i64 ((b.tabs.getD k tab0).dst)), (Value.slice none 0 0), (vs66 6), (Value.int .i64 ((b.tabs.getD k tab0).err))]) rfl rfl (all_c rfl (all_c rfl (all_c rfl (all_c (SlAt.one (SlAt.of_row (hS73.ok_row 0 rfl))) (all_c rfl all_n))))) (Nat.le_of_ble_eq_true rfl)) rfl rfl ?_
  intro _ w76 hS77 hA78; clear hA75
  have hS79 : Sep NoB w w76 [(row (vs66 6) 3 1 ((b.tabs.getD k tab0).brk.length) (ints ((b.tabs.getD k tab0).brk))), (blk b10_ 106 [(Value.int .i64 ((b.tabs.getD k tab0).frm)), (Value.int .i64 ((b.tabs.getD k tab0).dst)), (Value.slice none 0 0), (vs66 6), (Value.int .i64 ((b.tabs.getD k tab0).err))]), (blk b58 46 [(Value.int .i64 ((b.tabs.getD k tab0).frm)), (Value.int .i64 ((b.tabs.getD k tab0).dst)), (lr k), (lb k), (Value.int .i64 ((b.tabs.getD k tab0).err))]), (slsR true ((b.tabs.take k).length) lr_ 2 (rowsN (b.tabs.take k)) (rowsC (b.tabs.take k))), (slsR true ((b.tabs.take k).length) lb_ 1 (brkN (b.tabs.take k)) (brkC (b.tabs.take k))), (row vt_ 106 5 ((b.tabs.take k).length) (tabsC lr_ lb_ (b.tabs.take k))), (blk b20 37 [(Value.int .i64 b.scales), vt_, (Value.slice none 0 0)]), (blk b9 37 [(Value.int .i64 0), (Value.slice none 0 0), (Value.slice none 0 0)]), (blk b4 25 [(Value.int .i64 b.scales), vt, vm]), (tabsR false vt lr lb b.tabs), (macsR false vm lk b.macs)] := hS77; clear hS77 hS73
  refine wl_nil ?_
  refine then_n ?_
  refine c_seq ?_
  refine c_seq ?_
  refine c_region ?_
  refine st hA78 (op_assign rfl (evc _ _)) rfl rfl (by decide) fun a80 hA81 => ?_; clear hA78 a67
  refine wl_nil ?_
  refine then_n ?_
  refine c_block ?_
  have hS82 := hS79.nil_row 107 2; clear hS79
  have hA83 := hA81.as [(7, (Value.int .i64 0)), (6, (bptr b10_ 0)), (5, (bptr b58 0)), (4, (Value.int .i64 (k : Int))), (3, (bptr b20 0)), (2, (bptr b9 0)), (1, (bptr b4 0))] rfl; clear hA81
  refine c_loop (G := Nat) (fun (j : Nat) a_ w_ => ∃ vr_ : Value, Fr 116 [] [(7, (Value.int .i64 (j : Int))), (6, (bptr b10_ 0)), (5, (bptr b58 0)), (4, (Value.int .i64 (k : Int))), (3, (bptr b20 0)), (2, (bptr b9 0)), (1, (bptr b4 0))] a_ ∧ Sep NoB w w_ [(row vr_ 107 2 (((b.tabs.getD k tab0).rows.take j).length) (pairs ((b.tabs.getD k tab0).rows.take j))), (row (vs66 6) 3 1 ((b.tabs.getD k tab0).brk.length) (ints ((b.tabs.getD k tab0).brk))), (blk b10_ 106 [(Value.int .i64 ((b.tabs.getD k tab0).frm)), (Value.int .i64 ((b.tabs.getD k tab0).dst)), vr_, (vs66 6), (Value.int .i64 ((b.tabs.getD k tab0).err))]), (blk b58 46 [(Value.int .i64 ((b.tabs.getD k tab0).frm)), (Value.int .i64 ((b.tabs.getD k tab0).dst)), (lr k), (lb k), (Value.int .i64 ((b.tabs.getD k tab0).err))]), (slsR true ((b.tabs.take k).length) lr_ 2 (rowsN (b.tabs.take k)) (rowsC (b.tabs.take k))), (slsR true ((b.tabs.take k).length) lb_ 1 (brkN (b.tabs.take k)) (brkC (b.tabs.take k))), (row vt_ 106 5 ((b.tabs.take k).length) (tabsC lr_ lb_ (b.tabs.take k))), (blk b20 37 [(Value.int .i64 b.scales), vt_, (Value.slice none 0 0)]), (blk b9 37 [(Value.int .i64 0), (Value.slice none 0 0), (Value.slice none 0 0)]), (blk b4 25 [(Value.int .i64 b.scales), vt, vm]), (tabsR false vt lr lb b.tabs), (macsR false vm lk b.macs)] ∧ (j ≤ (b.tabs.getD k tab0).rows.length)) (fun j => (b.tabs.getD k tab0).rows.length - j) 0 ⟨(Value.slice none 0 0), hA83.as _ rfl, (hS82.row_say (i := 0) rfl (by rfl) (by rfl)), (Nat.zero_le _)⟩ ?_
  clear hA83 hS82 a80
  rintro j a84 w86 ⟨vr_, hA85, hS87, hkj⟩
  have hlt_j : ((b.tabs.getD k tab0).rows.take j).length ≤ 12 := by simp only [List.length_take]; omega
  refine c_seq ?_
  refine c_seq ?_
  refine c_region ?_
  refine st hA85 (op_move rfl (hA85.ev rfl)) rfl rfl (by decide) fun a88 hA89 => ?_; clear hA85 a84
  refine st hA89 (op_field rfl fd_46_2 (hA89.ev rfl)) rfl rfl (by decide) fun a90 hA91 => ?_; clear hA89 a88
  refine st hA91 (op_load1 rfl ty_43 (hA91.ev rfl) (hS87.bk 3 rfl) rfl) rfl rfl (by decide) fun a92 hA93 => ?_; clear hA91 a90
  refine st hA93 (op_lenS rfl un_43 (hA93.ev rfl) ((tabs_at (hS87.ok 10 _ rfl)).row (i := k) (by omega))) rfl rfl (by decide) fun a94 hA95 => ?_; clear hA93 a92
  refine st hA95 (op_lss rfl (hA95.ev rfl) (hA95.ev rfl)) rfl rfl (by decide) fun a96 hA97 => ?_; clear hA95 a94
  refine wl_nil ?_
  refine then_n ?_
  by_cases hb98 : (j : Int) < ((b.tabs.getD k tab0).rows.length : Int)
  ·skip
   rw [decide_eq_true hb98] at hA97
   refine c_true hA97 rfl ?_
   refine c_skip ?_
   refine then_n ?_
   refine c_seq ?_
   refine c_block ?_
   have hA99 := hA97.as [(7, (Value.int .i64 (j : Int))), (6, (bptr b10_ 0)), (5, (bptr b58 0)), (4, (Value.int .i64 (k : Int))), (3, (bptr b20 0)), (2, (bptr b9 0)), (1, (bptr b4 0))] rfl; clear hA97
   refine c_drawV mixed hA99 hS87 16 [[], [0], [], [2], [], [3, 4], [5], [6], [], [8], [], [9, 10], [11], [12], [7, 13], [14]] [(fun (vs100 : Nat → Value) (v_ : Value) (rs_ : List Res) => v_ = (bptr b10_ 2) ∧ rs_ = []), (fun (vs100 : Nat → Value) (v_ : Value) (rs_ : List Res) => v_ = vr_ ∧ rs_ = []), (fun (vs100 : Nat → Value) (v_ : Value) (rs_ : List Res) => v_ = (bptr b58 2) ∧ rs_ = []), (fun (vs100 : Nat → Value) (v_ : Value) (rs_ : List Res) => v_ = (lr k) ∧ rs_ = []), (fun (vs100 : Nat → Value) (v_ : Value) (rs_ : List Res) => v_ = (Value.int .i64 (j : Int)) ∧ rs_ = []), (fun (vs100 : Nat → Value) (v_ : Value) (rs_ : List Res) => v_ = (eptr (lr k) (j * 2)) ∧ rs_ = []), (fun (vs100 : Nat → Value) (v_ : Value) (rs_ : List Res) => v_ = (eptr (lr k) (j * 2 + 0)) ∧ rs_ = []), (fun (vs100 : Nat → Value) (v_ : Value) (rs_ : List Res) => v_ = (Value.int .i64 ((((b.tabs.getD k tab0).rows).getD j (0, 0)).1)) ∧ rs_ = []), (fun (vs100 : Nat → Value) (v_ : Value) (rs_ : List Res) => v_ = (bptr b58 2) ∧ rs_ = []), (fun (vs100 : Nat → Value) (v_ : Value) (rs_ : List Res) => v_ = (lr k) ∧ rs_ = []), (fun (vs100 : Nat → Value) (v_ : Value) (rs_ : List Res) => v_ = (Value.int .i64 (j : Int)) ∧ rs_ = []), (fun (vs100 : Nat → Value) (v_ : Value) (rs_ : List Res) => v_ = (eptr (lr k) (j * 2)) ∧ rs_ = []), (fun (vs100 : Nat → Value) (v_ : Value) (rs_ : List Res) => v_ = (eptr (lr k) (j * 2 + 1)) ∧ rs_ = []), (fun (vs100 : Nat → Value) (v_ : Value) (rs_ : List Res) => v_ = (Value.int .i64 ((((b.tabs.getD k tab0).rows).getD j (0, 0)).2)) ∧ rs_ = []), (fun (vs100 : Nat → Value) (v_ : Value) (rs_ : List Res) => v_ = (Value.agg #[(Value.int .i64 ((((b.tabs.getD k tab0).rows).getD j (0, 0)).1)), (Value.int .i64 ((((b.tabs.getD k tab0).rows).getD j (0, 0)).2))]) ∧ rs_ = []), (fun (vs100 : Nat → Value) (v_ : Value) (rs_ : List Res) => True ∧ rs_ = [(row v_ 107 2 1 [(Value.int .i64 ((((b.tabs.getD k tab0).rows).getD j (0, 0)).1)), (Value.int .i64 ((((b.tabs.getD k tab0).rows).getD j (0, 0)).2))])])] (by decide +kernel) (by decide +kernel) rfl rfl ⟨(fun _ _ _ _ _ h_ => h_), (fun _ _ _ _ _ h_ => h_), (fun _ _ _ _ _ h_ => h_), (fun _ _ _ _ _ h_ => h_), (fun _ _ _ _ _ h_ => h_), (fun _ _ _ _ _ h_ => h_), (fun _ _ _ _ _ h_ => h_), (fun _ _ _ _ _ h_ => h_), (fun _ _ _ _ _ h_ => h_), (fun _ _ _ _ _ h_ => h_), (fun _ _ _ _ _ h_ => h_), (fun _ _ _ _ _ h_ => h_), (fun _ _ _ _ _ h_ => h_), (fun _ _ _ _ _ h_ => h_), (fun _ _ _ _ _ h_ => h_), (fun _ _ _ _ _ h_ => h_), trivial⟩ ?_ ?_
   ·skip
    refine ⟨fun a w vs100 hA hS hd => ?_, ?_⟩
    ·skip
     exact opG_of rfl (vv (op_field rfl fd_106_2 (hA.ev rfl)) (And.intro rfl rfl))
    refine ⟨fun a w vs100 hA hS hd => ?_, ?_⟩
    ·skip
     obtain ⟨e0, rs0, hy0, hp0⟩ := hd 0 (by decide)
     obtain ⟨hv0, hr0⟩ := hy0; subst hr0
     rw [hv0] at e0
     exact opG_of rfl (vv (op_load1 rfl ty_104 (tmp_ev (slot_ev e0 rfl)) (hS.bk 2 rfl) rfl) (And.intro rfl rfl))
    refine ⟨fun a w vs100 hA hS hd => ?_, ?_⟩
    ·skip
     exact opG_of rfl (vv (op_field rfl fd_46_2 (hA.ev rfl)) (And.intro rfl rfl))
    refine ⟨fun a w vs100 hA hS hd => ?_, ?_⟩
    ·skip
     obtain ⟨e2, rs2, hy2, hp2⟩ := hd 2 (by decide)
     obtain ⟨hv2, hr2⟩ := hy2; subst hr2
     rw [hv2] at e2
     exact opG_of rfl (vv (op_load1 rfl ty_43 (tmp_ev (slot_ev e2 rfl)) (hS.bk 3 rfl) rfl) (And.intro rfl rfl))
    refine ⟨fun a w vs100 hA hS hd => ?_, ?_⟩
    ·skip
     exact opG_of rfl (vv (op_move rfl (hA.ev rfl)) (And.intro rfl rfl))
    refine ⟨fun a w vs100 hA hS hd => ?_, ?_⟩
    ·skip
     obtain ⟨e3, rs3, hy3, hp3⟩ := hd 3 (by decide)
     obtain ⟨hv3, hr3⟩ := hy3; subst hr3
     rw [hv3] at e3
     obtain ⟨e4, rs4, hy4, hp4⟩ := hd 4 (by decide)
     obtain ⟨hv4, hr4⟩ := hy4; subst hr4
     rw [hv4] at e4
     exact opG_of rfl (vv (op_indexS rfl un_43 ty_75 (tmp_ev (slot_ev e3 rfl)) (i := j) (tmp_ev (slot_ev e4 rfl)) ((tabs_at (hS.ok 10 _ rfl)).row (i := k) (by omega)) (by decide) (by omega)) (And.intro rfl rfl))
    refine ⟨fun a w vs100 hA hS hd => ?_, ?_⟩
    ·skip
     obtain ⟨e5, rs5, hy5, hp5⟩ := hd 5 (by decide)
     obtain ⟨hv5, hr5⟩ := hy5; subst hr5
     rw [hv5] at e5
     exact opG_of rfl (vv (op_fieldS rfl fd_75_0 (tmp_ev (slot_ev e5 rfl)) ((tabs_at (hS.ok 10 _ rfl)).row (i := k) (by omega)) (by rw [(((tabs_at (hS.ok 10 _ rfl)).row (i := k) (by omega))).1]; omega)) (And.intro rfl rfl))
    refine ⟨fun a w vs100 hA hS hd => ?_, ?_⟩
    ·skip
     obtain ⟨e6, rs6, hy6, hp6⟩ := hd 6 (by decide)
     obtain ⟨hv6, hr6⟩ := hy6; subst hr6
     rw [hv6] at e6
     exact opG_of rfl (vv (op_load1E rfl ty_3 (tmp_ev (slot_ev e6 rfl)) ((tabs_at (hS.ok 10 _ rfl)).row (i := k) (by omega)) (pairs_at0 (by omega))) (And.intro rfl rfl))
    refine ⟨fun a w vs100 hA hS hd => ?_, ?_⟩
    ·skip
     exact opG_of rfl (vv (op_field rfl fd_46_2 (hA.ev rfl)) (And.intro rfl rfl))
    refine ⟨fun a w vs100 hA hS hd => ?_, ?_⟩
    ·skip
     obtain ⟨e8, rs8, hy8, hp8⟩ := hd 8 (by decide)
     obtain ⟨hv8, hr8⟩ := hy8; subst hr8
     rw [hv8] at e8
     exact opG_of rfl (vv (op_load1 rfl ty_43 (tmp_ev (slot_ev e8 rfl)) (hS.bk 3 rfl) rfl) (And.intro rfl rfl))
    refine ⟨fun a w vs100 hA hS hd => ?_, ?_⟩
    ·skip
     exact opG_of rfl (vv (op_move rfl (hA.ev rfl)) (And.intro rfl rfl))
    refine ⟨fun a w vs100 hA hS hd => ?_, ?_⟩
    ·skip
     obtain ⟨e9, rs9, hy9, hp9⟩ := hd 9 (by decide)
     obtain ⟨hv9, hr9⟩ := hy9; subst hr9
     rw [hv9] at e9
     obtain ⟨e10, rs10, hy10, hp10⟩ := hd 10 (by decide)
     obtain ⟨hv10, hr10⟩ := hy10; subst hr10
     rw [hv10] at e10
     exact opG_of rfl (vv (op_indexS rfl un_43 ty_75 (tmp_ev (slot_ev e9 rfl)) (i := j) (tmp_ev (slot_ev e10 rfl)) ((tabs_at (hS.ok 10 _ rfl)).row (i := k) (by omega)) (by decide) (by omega)) (And.intro rfl rfl))
    refine ⟨fun a w vs100 hA hS hd => ?_, ?_⟩
    ·skip
     obtain ⟨e11, rs11, hy11, hp11⟩ := hd 11 (by decide)
     obtain ⟨hv11, hr11⟩ := hy11; subst hr11
     rw [hv11] at e11
     exact opG_of rfl (vv (op_fieldS rfl fd_75_1 (tmp_ev (slot_ev e11 rfl)) ((tabs_at (hS.ok 10 _ rfl)).row (i := k) (by omega)) (by rw [(((tabs_at (hS.ok 10 _ rfl)).row (i := k) (by omega))).1]; omega)) (And.intro rfl rfl))
    refine ⟨fun a w vs100 hA hS hd => ?_, ?_⟩
    ·skip
     obtain ⟨e12, rs12, hy12, hp12⟩ := hd 12 (by decide)
     obtain ⟨hv12, hr12⟩ := hy12; subst hr12
     rw [hv12] at e12
     exact opG_of rfl (vv (op_load1E rfl ty_3 (tmp_ev (slot_ev e12 rfl)) ((tabs_at (hS.ok 10 _ rfl)).row (i := k) (by omega)) (pairs_at1 (by omega))) (And.intro rfl rfl))
    refine ⟨fun a w vs100 hA hS hd => ?_, ?_⟩
    ·skip
     obtain ⟨e7, rs7, hy7, hp7⟩ := hd 7 (by decide)
     obtain ⟨hv7, hr7⟩ := hy7; subst hr7
     rw [hv7] at e7
     obtain ⟨e13, rs13, hy13, hp13⟩ := hd 13 (by decide)
     obtain ⟨hv13, hr13⟩ := hy13; subst hr13
     rw [hv13] at e13
     exact opG_of rfl (vv (op_build rfl (pv2 (tmp_ev (slot_ev e7 rfl)) (tmp_ev (slot_ev e13 rfl))) (bd_107_0i_1i _ _)) (And.intro rfl rfl))
    refine ⟨fun a w vs100 hA hS hd => ?_, ?_⟩
    ·skip
     obtain ⟨e14, rs14, hy14, hp14⟩ := hd 14 (by decide)
     obtain ⟨hv14, hr14⟩ := hy14; subst hr14
     rw [hv14] at e14
     exact opG_of rfl (vblt rfl (pv1 (tmp_ev (slot_ev e14 rfl))) un_104 ty_107 ze_107 (by decide) (cs := [(Value.int .i64 ((((b.tabs.getD k tab0).rows).getD j (0, 0)).1)), (Value.int .i64 ((((b.tabs.getD k tab0).rows).getD j (0, 0)).2))]) (bs_107_1_0iia _ _) rfl (by decide) (fun _ => And.intro trivial rfl))
    trivial
   intro a101 w102 vs100 rsf106 hA103 hH105 hS104; clear hA99 hS87
   obtain ⟨hs_0, hy_0⟩ := hH105 0 (by decide)
   obtain ⟨hv_0, hr_0⟩ := hy_0
   obtain ⟨hs_1, hy_1⟩ := hH105 1 (by decide)
   obtain ⟨hv_1, hr_1⟩ := hy_1
   obtain ⟨hs_2, hy_2⟩ := hH105 2 (by decide)
   obtain ⟨hv_2, hr_2⟩ := hy_2
   obtain ⟨hs_3, hy_3⟩ := hH105 3 (by decide)
   obtain ⟨hv_3, hr_3⟩ := hy_3
   obtain ⟨hs_4, hy_4⟩ := hH105 4 (by decide)
   obtain ⟨hv_4, hr_4⟩ := hy_4
   obtain ⟨hs_5, hy_5⟩ := hH105 5 (by decide)
   obtain ⟨hv_5, hr_5⟩ := hy_5
   obtain ⟨hs_6, hy_6⟩ := hH105 6 (by decide)
   obtain ⟨hv_6, hr_6⟩ := hy_6
   obtain ⟨hs_7, hy_7⟩ := hH105 7 (by decide)
   obtain ⟨hv_7, hr_7⟩ := hy_7
   obtain ⟨hs_8, hy_8⟩ := hH105 8 (by decide)
   obtain ⟨hv_8, hr_8⟩ := hy_8
   obtain ⟨hs_9, hy_9⟩ := hH105 9 (by decide)
   obtain ⟨hv_9, hr_9⟩ := hy_9
   obtain ⟨hs_10, hy_10⟩ := hH105 10 (by decide)
   obtain ⟨hv_10, hr_10⟩ := hy_10
   obtain ⟨hs_11, hy_11⟩ := hH105 11 (by decide)
   obtain ⟨hv_11, hr_11⟩ := hy_11
   obtain ⟨hs_12, hy_12⟩ := hH105 12 (by decide)
   obtain ⟨hv_12, hr_12⟩ := hy_12
   obtain ⟨hs_13, hy_13⟩ := hH105 13 (by decide)
   obtain ⟨hv_13, hr_13⟩ := hy_13
   obtain ⟨hs_14, hy_14⟩ := hH105 14 (by decide)
   obtain ⟨hv_14, hr_14⟩ := hy_14
   obtain ⟨hs_15, hy_15⟩ := hH105 15 (by decide)
   obtain ⟨hv_15, hr_15⟩ := hy_15
   have hS107 : Sep NoB w w102 [(row (vs100 15) 107 2 1 [(Value.int .i64 ((((b.tabs.getD k tab0).rows).getD j (0, 0)).1)), (Value.int .i64 ((((b.tabs.getD k tab0).rows).getD j (0, 0)).2))]), (row vr_ 107 2 (((b.tabs.getD k tab0).rows.take j).length) (pairs ((b.tabs.getD k tab0).rows.take j))), (row (vs66 6) 3 1 ((b.tabs.getD k tab0).brk.length) (ints ((b.tabs.getD k tab0).brk))), (blk b10_ 106 [(Value.int .i64 ((b.tabs.getD k tab0).frm)), (Value.int .i64 ((b.tabs.getD k tab0).dst)), vr_, (vs66 6), (Value.int .i64 ((b.tabs.getD k tab0).err))]), (blk b58 46 [(Value.int .i64 ((b.tabs.getD k tab0).frm)), (Value.int .i64 ((b.tabs.getD k tab0).dst)), (lr k), (lb k), (Value.int .i64 ((b.tabs.getD k tab0).err))]), (slsR true ((b.tabs.take k).length) lr_ 2 (rowsN (b.tabs.take k)) (rowsC (b.tabs.take k))), (slsR true ((b.tabs.take k).length) lb_ 1 (brkN (b.tabs.take k)) (brkC (b.tabs.take k))), (row vt_ 106 5 ((b.tabs.take k).length) (tabsC lr_ lb_ (b.tabs.take k))), (blk b20 37 [(Value.int .i64 b.scales), vt_, (Value.slice none 0 0)]), (blk b9 37 [(Value.int .i64 0), (Value.slice none 0 0), (Value.slice none 0 0)]), (blk b4 25 [(Value.int .i64 b.scales), vt, vm]), (tabsR false vt lr lb b.tabs), (macsR false vm lk b.macs)] := by rw [show catR rsf106 0 16 = ([(row (vs100 15) 107 2 1 [(Value.int .i64 ((((b.tabs.getD k tab0).rows).getD j (0, 0)).1)), (Value.int .i64 ((((b.tabs.getD k tab0).rows).getD j (0, 0)).2))])] : List Res) by (try simp only [catR, hr_0, hr_1, hr_2, hr_3, hr_4, hr_5, hr_6, hr_7, hr_8, hr_9, hr_10, hr_11, hr_12, hr_13, hr_14, hr_15]); (try rfl)] at hS104; exact hS104
   rw [hv_1] at hs_1
   have hA108 : Fr 116 [] [(45, vr_), (7, (Value.int .i64 (j : Int))), (6, (bptr b10_ 0)), (5, (bptr b58 0)), (4, (Value.int .i64 (k : Int))), (3, (bptr b20 0)), (2, (bptr b9 0)), (1, (bptr b4 0))] a101 := hA103.add (slot_ev hs_1 rfl); clear hA103
   have hA109 : Fr 116 [] [(59, (vs100 15)), (45, vr_), (7, (Value.int .i64 (j : Int))), (6, (bptr b10_ 0)), (5, (bptr b58 0)), (4, (Value.int .i64 (k : Int))), (3, (bptr b20 0)), (2, (bptr b9 0)), (1, (bptr b4 0))] a101 := hA108.add (slot_ev hs_15 rfl); clear hA108
   clear hH105 hS104 hs_0 hs_1 hs_2 hs_3 hs_4 hs_5 hs_6 hs_7 hs_8 hs_9 hs_10 hs_11 hs_12 hs_13 hs_14 hs_15
   clear hr_0
   clear hv_0
   clear hr_1
   clear hv_1
   clear hr_2
   clear hv_2
   clear hr_3
   clear hv_3
   clear hr_4
   clear hv_4
   clear hr_5
   clear hv_5
   clear hr_6
   clear hv_6
   clear hr_7
   clear hv_7
   clear hr_8
   clear hv_8
   clear hr_9
   clear hv_9
   clear hr_10
   clear hv_10
   clear hr_11
   clear hv_11
   clear hr_12
   clear hv_12
   clear hr_13
   clear hv_13
   clear hr_14
   clear hv_14
   clear hr_15
   clear hv_15
   refine stw hA109 (op_append hS107 rfl un_104 el_107 (hA109.ev rfl) (hA109.ev rfl) (i := 1) rfl (SlAt.of_row (hS107.ok_row 0 rfl)) rfl (by simp only [maxLen]; omega) (by omega)) rfl rfl (by decide) ?_
   intro a110 v113 w112 hS114 hA111
   have hS115 := hS114.row_say (i := 1) rfl (n' := (((b.tabs.getD k tab0).rows.take j) ++ [(b.tabs.getD k tab0).rows.getD j (0, 0)]).length) (xs' := (pairs (((b.tabs.getD k tab0).rows.take j) ++ [(b.tabs.getD k tab0).rows.getD j (0, 0)]))) (by simp) (by simp [pairs]); clear hS114 hA109 hS107 a101
   refine st hA111 (op_field rfl fd_106_2 (hA111.ev rfl)) rfl rfl (by decide) fun a116 hA117 => ?_; clear hA111 a110
   refine sts hA117 (op_store hS115 rfl ty_104 (hA117.ev rfl) (hA117.ev rfl) (i := 3) rfl (vs := [v113]) (isSl_cells (SlAt.isSl (SlAt.of_row (hS115.ok_row 1 rfl)))) rfl (all_c (SlAt.one (SlAt.of_row (hS115.ok_row 1 rfl))) all_n) (Nat.le_of_ble_eq_true rfl)) rfl rfl ?_
   intro _ w118 hS119 hA120; clear hA117
   have hS121 : Sep NoB w w118 [(row (vs100 15) 107 2 1 [(Value.int .i64 ((((b.tabs.getD k tab0).rows).getD j (0, 0)).1)), (Value.int .i64 ((((b.tabs.getD k tab0).rows).getD j (0, 0)).2))]), (row v113 107 2 ((((b.tabs.getD k tab0).rows.take j) ++ [(b.tabs.getD k tab0).rows.getD j (0, 0)]).length) (pairs (((b.tabs.getD k tab0).rows.take j) ++ [(b.tabs.getD k tab0).rows.getD j (0, 0)]))), (row (vs66 6) 3 1 ((b.tabs.getD k tab0).brk.length) (ints ((b.tabs.getD k tab0).brk))), (blk b10_ 106 [(Value.int .i64 ((b.tabs.getD k tab0).frm)), (Value.int .i64 ((b.tabs.getD k tab0).dst)), v113, (vs66 6), (Value.int .i64 ((b.tabs.getD k tab0).err))]), (blk b58 46 [(Value.int .i64 ((b.tabs.getD k tab0).frm)), (Value.int .i64 ((b.tabs.getD k tab0).dst)), (lr k), (lb k), (Value.int .i64 ((b.tabs.getD k tab0).err))]), (slsR true ((b.tabs.take k).length) lr_ 2 (rowsN (b.tabs.take k)) (rowsC (b.tabs.take k))), (slsR true ((b.tabs.take k).length) lb_ 1 (brkN (b.tabs.take k)) (brkC (b.tabs.take k))), (row vt_ 106 5 ((b.tabs.take k).length) (tabsC lr_ lb_ (b.tabs.take k))), (blk b20 37 [(Value.int .i64 b.scales), vt_, (Value.slice none 0 0)]), (blk b9 37 [(Value.int .i64 0), (Value.slice none 0 0), (Value.slice none 0 0)]), (blk b4 25 [(Value.int .i64 b.scales), vt, vm]), (tabsR false vt lr lb b.tabs), (macsR false vm lk b.macs)] := hS119; clear hS119 hS115
   refine wl_nil ?_
   refine blk_n ?_
   refine then_n ?_
   refine c_region ?_
   refine st hA120 (op_move rfl (hA120.ev rfl)) rfl rfl (by decide) fun a122 hA123 => ?_; clear hA120 a116
   refine st hA123 (op_add rfl (hA123.ev rfl) (evc _ _) (by omega) (by omega)) rfl rfl (by decide) fun a124 hA125 => ?_; clear hA123 a122
   refine st hA125 (op_assign rfl (hA125.ev rfl)) rfl rfl (by decide) fun a126 hA127 => ?_; clear hA125 a124
   refine wl_nil ?_
   have hS128 : Sep NoB w w118 [(row v113 107 2 ((((b.tabs.getD k tab0).rows.take j) ++ [(b.tabs.getD k tab0).rows.getD j (0, 0)]).length) (pairs (((b.tabs.getD k tab0).rows.take j) ++ [(b.tabs.getD k tab0).rows.getD j (0, 0)]))), (row (vs66 6) 3 1 ((b.tabs.getD k tab0).brk.length) (ints ((b.tabs.getD k tab0).brk))), (blk b10_ 106 [(Value.int .i64 ((b.tabs.getD k tab0).frm)), (Value.int .i64 ((b.tabs.getD k tab0).dst)), v113, (vs66 6), (Value.int .i64 ((b.tabs.getD k tab0).err))]), (blk b58 46 [(Value.int .i64 ((b.tabs.getD k tab0).frm)), (Value.int .i64 ((b.tabs.getD k tab0).dst)), (lr k), (lb k), (Value.int .i64 ((b.tabs.getD k tab0).err))]), (slsR true ((b.tabs.take k).length) lr_ 2 (rowsN (b.tabs.take k)) (rowsC (b.tabs.take k))), (slsR true ((b.tabs.take k).length) lb_ 1 (brkN (b.tabs.take k)) (brkC (b.tabs.take k))), (row vt_ 106 5 ((b.tabs.take k).length) (tabsC lr_ lb_ (b.tabs.take k))), (blk b20 37 [(Value.int .i64 b.scales), vt_, (Value.slice none 0 0)]), (blk b9 37 [(Value.int .i64 0), (Value.slice none 0 0), (Value.slice none 0 0)]), (blk b4 25 [(Value.int .i64 b.scales), vt, vm]), (tabsR false vt lr lb b.tabs), (macsR false vm lk b.macs)] := hS121.keep [1, 2, 3, 4, 5, 6, 7, 8, 9, 10, 11, 12] (by decide) _ rfl rfl; clear hS121
   exact then_n ⟨j + 1, ⟨v113, hA127.as _ rfl, (hS128.row_say (i := 0) rfl (by rw [take_tab (by omega)]) (by rw [take_tab (by omega)])), by omega⟩, by omega⟩
  ·skip
   rw [decide_eq_false hb98] at hA97
   refine c_false hA97 rfl ?_
   refine c_exit ?_
   refine then_exit ?_
   refine then_exit ?_
   refine blk_hit ?_
   refine then_n ?_
   have hA129 := hA97.as [(6, (bptr b10_ 0)), (4, (Value.int .i64 (k : Int))), (3, (bptr b20 0)), (2, (bptr b9 0)), (1, (bptr b4 0))] rfl; clear hA97
   refine c_region ?_
   refine st hA129 (op_field rfl fd_37_1 (hA129.ev rfl)) rfl rfl (by decide) fun a130 hA131 => ?_; clear hA129 a96
   refine st hA131 (op_load1 rfl ty_34 (hA131.ev rfl) (hS87.bk 7 rfl) rfl) rfl rfl (by decide) fun a132 hA133 => ?_; clear hA131 a130
   refine st hA133 (op_loadA rfl ty_106 (hA133.ev rfl) (hS87.bk 2 rfl) (l := [(Value.int .i64 ((b.tabs.getD k tab0).frm)), (Value.int .i64 ((b.tabs.getD k tab0).dst)), vr_, (vs66 6), (Value.int .i64 ((b.tabs.getD k tab0).err))]) rfl rfl) rfl rfl (by decide) fun a134 hA135 => ?_; clear hA133 a132
   refine stw hA135 (op_buildSlice hS87 rfl (pv1 (hA135.ev rfl)) un_34 ty_106 ze_106 (by decide) (cs := [(Value.int .i64 ((b.tabs.getD k tab0).frm)), (Value.int .i64 ((b.tabs.getD k tab0).dst)), vr_, (vs66 6), (Value.int .i64 ((b.tabs.getD k tab0).err))]) (bs_106_1_0iivvia _ _ _ _ _)) rfl rfl (by decide) ?_
   rintro a136 _ w138 ⟨b139, rfl, hS140⟩ hA137; clear hA135 hS87 a134
   refine stw hA137 (op_append hS140 rfl un_34 el_106 (hA137.ev rfl) (hA137.ev rfl) (i := 7) rfl (SlAt.of_blk (hS140.bk 0 rfl) rfl (Nat.le_of_ble_eq_true rfl)) (all_c rfl (all_c rfl (all_c (SlAt.one (SlAt.of_row (hS140.ok_row 1 rfl))) (all_c (SlAt.one (SlAt.of_row (hS140.ok_row 2 rfl))) (all_c rfl all_n))))) (by simp only [maxLen]; omega) (by omega)) rfl rfl (by decide) ?_
   intro a141 v144 w143 hS145 hA142
   have hS146 := hS145.row_say (i := 7) rfl (n' := ((b.tabs.take k) ++ [(b.tabs.getD k tab0)]).length) (xs' := (tabsC (putV (b.tabs.take k).length lr_ vr_) (putV (b.tabs.take k).length lb_ (vs66 6)) ((b.tabs.take k) ++ [(b.tabs.getD k tab0)]))) (by simp) (tabs_snoc (b.tabs.getD k tab0) vr_ (vs66 6)); clear hS145 hA137 hS140 a136
   refine st hA142 (op_field rfl fd_37_1 (hA142.ev rfl)) rfl rfl (by decide) fun a147 hA148 => ?_; clear hA142 a141
   refine sts hA148 (op_store hS146 rfl ty_34 (hA148.ev rfl) (hA148.ev rfl) (i := 8) rfl (vs := [v144]) (isSl_cells (SlAt.isSl (SlAt.of_row (hS146.ok_row 7 rfl)))) rfl (all_c (SlAt.one (SlAt.of_row (hS146.ok_row 7 rfl))) all_n) (Nat.le_of_ble_eq_true rfl)) rfl rfl ?_
   intro _ w149 hS150 hA151; clear hA148
   have hS152 : Sep NoB w w149 [(blk b139 106 [(Value.int .i64 ((b.tabs.getD k tab0).frm)), (Value.int .i64 ((b.tabs.getD k tab0).dst)), vr_, (vs66 6), (Value.int .i64 ((b.tabs.getD k tab0).err))]), (row vr_ 107 2 (((b.tabs.getD k tab0).rows.take j).length) (pairs ((b.tabs.getD k tab0).rows.take j))), (row (vs66 6) 3 1 ((b.tabs.getD k tab0).brk.length) (ints ((b.tabs.getD k tab0).brk))), (blk b10_ 106 [(Value.int .i64 ((b.tabs.getD k tab0).frm)), (Value.int .i64 ((b.tabs.getD k tab0).dst)), vr_, (vs66 6), (Value.int .i64 ((b.tabs.getD k tab0).err))]), (blk b58 46 [(Value.int .i64 ((b.tabs.getD k tab0).frm)), (Value.int .i64 ((b.tabs.getD k tab0).dst)), (lr k), (lb k), (Value.int .i64 ((b.tabs.getD k tab0).err))]), (slsR true ((b.tabs.take k).length) lr_ 2 (rowsN (b.tabs.take k)) (rowsC (b.tabs.take k))), (slsR true ((b.tabs.take k).length) lb_ 1 (brkN (b.tabs.take k)) (brkC (b.tabs.take k))), (row v144 106 5 (((b.tabs.take k) ++ [(b.tabs.getD k tab0)]).length) (tabsC (putV (b.tabs.take k).length lr_ vr_) (putV (b.tabs.take k).length lb_ (vs66 6)) ((b.tabs.take k) ++ [(b.tabs.getD k tab0)]))), (blk b20 37 [(Value.int .i64 b.scales), v144, (Value.slice none 0 0)]), (blk b9 37 [(Value.int .i64 0), (Value.slice none 0 0), (Value.slice none 0 0)]), (blk b4 25 [(Value.int .i64 b.scales), vt, vm]), (tabsR false vt lr lb b.tabs), (macsR false vm lk b.macs)] := hS150; clear hS150 hS146
   refine wl_nil ?_
   refine blk_n ?_
   refine then_n ?_
   have hA153 := hA151.as [(4, (Value.int .i64 (k : Int))), (3, (bptr b20 0)), (2, (bptr b9 0)), (1, (bptr b4 0))] rfl; clear hA151
   refine c_region ?_
   refine st hA153 (op_move rfl (hA153.ev rfl)) rfl rfl (by decide) fun a154 hA155 => ?_; clear hA153 a147
   refine st hA155 (op_add rfl (hA155.ev rfl) (evc _ _) (by omega) (by omega)) rfl rfl (by decide) fun a156 hA157 => ?_; clear hA155 a154
   refine st hA157 (op_assign rfl (hA157.ev rfl)) rfl rfl (by decide) fun a158 hA159 => ?_; clear hA157 a156
   refine wl_nil ?_
   have hS160 := hS152.row_say (i := 1) rfl (n' := (b.tabs.getD k tab0).rows.length) (xs' := pairs (b.tabs.getD k tab0).rows) (by rw [List.take_of_length_le (by omega)]) (by rw [List.take_of_length_le (by omega)]); clear hS152
   have hS161 : Sep NoB w w149 [(row vr_ 107 2 ((b.tabs.getD k tab0).rows.length) (pairs ((b.tabs.getD k tab0).rows))), (slsR true ((b.tabs.take k).length) lr_ 2 (rowsN (b.tabs.take k)) (rowsC (b.tabs.take k))), (blk b139 106 [(Value.int .i64 ((b.tabs.getD k tab0).frm)), (Value.int .i64 ((b.tabs.getD k tab0).dst)), vr_, (vs66 6), (Value.int .i64 ((b.tabs.getD k tab0).err))]), (row (vs66 6) 3 1 ((b.tabs.getD k tab0).brk.length) (ints ((b.tabs.getD k tab0).brk))), (blk b10_ 106 [(Value.int .i64 ((b.tabs.getD k tab0).frm)), (Value.int .i64 ((b.tabs.getD k tab0).dst)), vr_, (vs66 6), (Value.int .i64 ((b.tabs.getD k tab0).err))]), (blk b58 46 [(Value.int .i64 ((b.tabs.getD k tab0).frm)), (Value.int .i64 ((b.tabs.getD k tab0).dst)), (lr k), (lb k), (Value.int .i64 ((b.tabs.getD k tab0).err))]), (slsR true ((b.tabs.take k).length) lb_ 1 (brkN (b.tabs.take k)) (brkC (b.tabs.take k))), (row v144 106 5 (((b.tabs.take k) ++ [(b.tabs.getD k tab0)]).length) (tabsC (putV (b.tabs.take k).length lr_ vr_) (putV (b.tabs.take k).length lb_ (vs66 6)) ((b.tabs.take k) ++ [(b.tabs.getD k tab0)]))), (blk b20 37 [(Value.int .i64 b.scales), v144, (Value.slice none 0 0)]), (blk b9 37 [(Value.int .i64 0), (Value.slice none 0 0), (Value.slice none 0 0)]), (blk b4 25 [(Value.int .i64 b.scales), vt, vm]), (tabsR false vt lr lb b.tabs), (macsR false vm lk b.macs)] := hS160.keep [1, 5, 0, 2, 3, 4, 6, 7, 8, 9, 10, 11, 12] (by decide) _ rfl rfl; clear hS160
   have hS162 := sep_sls_snoc (k' := rowsN (b.tabs.take (k + 1))) (c' := rowsC (b.tabs.take (k + 1))) hS161 (rowsN_new (by omega)).1 (rowsN_new (by omega)).2.1 (fun i hi => (rowsN_old i hi).1); clear hS161
   have hS163 := sep_sls_say (i := 0) (n' := (b.tabs.take (k + 1)).length) (v' := (putV (b.tabs.take k).length lr_ vr_)) (k' := rowsN (b.tabs.take (k + 1))) (c' := rowsC (b.tabs.take (k + 1))) hS162 rfl (take_len1 (by omega)) (fun _ _ => ⟨rfl, rfl, rfl⟩); clear hS162
   have hS165 : Sep NoB w w149 [(row (vs66 6) 3 1 ((b.tabs.getD k tab0).brk.length) (ints ((b.tabs.getD k tab0).brk))), (slsR true ((b.tabs.take k).length) lb_ 1 (brkN (b.tabs.take k)) (brkC (b.tabs.take k))), (slsR true ((b.tabs.take (k + 1)).length) (putV (b.tabs.take k).length lr_ vr_) 2 (rowsN (b.tabs.take (k + 1))) (rowsC (b.tabs.take (k + 1)))), (blk b139 106 [(Value.int .i64 ((b.tabs.getD k tab0).frm)), (Value.int .i64 ((b.tabs.getD k tab0).dst)), vr_, (vs66 6), (Value.int .i64 ((b.tabs.getD k tab0).err))]), (blk b10_ 106 [(Value.int .i64 ((b.tabs.getD k tab0).frm)), (Value.int .i64 ((b.tabs.getD k tab0).dst)), vr_, (vs66 6), (Value.int .i64 ((b.tabs.getD k tab0).err))]), (blk b58 46 [(Value.int .i64 ((b.tabs.getD k tab0).frm)), (Value.int .i64 ((b.tabs.getD k tab0).dst)), (lr k), (lb k), (Value.int .i64 ((b.tabs.getD k tab0).err))]), (row v144 106 5 (((b.tabs.take k) ++ [(b.tabs.getD k tab0)]).length) (tabsC (putV (b.tabs.take k).length lr_ vr_) (putV (b.tabs.take k).length lb_ (vs66 6)) ((b.tabs.take k) ++ [(b.tabs.getD k tab0)]))), (blk b20 37 [(Value.int .i64 b.scales), v144, (Value.slice none 0 0)]), (blk b9 37 [(Value.int .i64 0), (Value.slice none 0 0), (Value.slice none 0 0)]), (blk b4 25 [(Value.int .i64 b.scales), vt, vm]), (tabsR false vt lr lb b.tabs), (macsR false vm lk b.macs)] := hS163.keep [2, 5, 0, 1, 3, 4, 6, 7, 8, 9, 10, 11] (by decide) _ rfl rfl; clear hS163
   have hS166 := sep_sls_snoc (k' := brkN (b.tabs.take (k + 1))) (c' := brkC (b.tabs.take (k + 1))) hS165 (rowsN_new (by omega)).2.2.1 (rowsN_new (by omega)).2.2.2 (fun i hi => (rowsN_old i hi).2); clear hS165
   have hS167 := sep_sls_say (i := 0) (n' := (b.tabs.take (k + 1)).length) (v' := (putV (b.tabs.take k).length lb_ (vs66 6))) (k' := brkN (b.tabs.take (k + 1))) (c' := brkC (b.tabs.take (k + 1))) hS166 rfl (take_len1 (by omega)) (fun _ _ => ⟨rfl, rfl, rfl⟩); clear hS166
   have hS168 : Sep NoB w w149 [(slsR true ((b.tabs.take (k + 1)).length) (putV (b.tabs.take k).length lr_ vr_) 2 (rowsN (b.tabs.take (k + 1))) (rowsC (b.tabs.take (k + 1)))), (slsR true ((b.tabs.take (k + 1)).length) (putV (b.tabs.take k).length lb_ (vs66 6)) 1 (brkN (b.tabs.take (k + 1))) (brkC (b.tabs.take (k + 1)))), (row v144 106 5 (((b.tabs.take k) ++ [(b.tabs.getD k tab0)]).length) (tabsC (putV (b.tabs.take k).length lr_ vr_) (putV (b.tabs.take k).length lb_ (vs66 6)) ((b.tabs.take k) ++ [(b.tabs.getD k tab0)]))), (blk b20 37 [(Value.int .i64 b.scales), v144, (Value.slice none 0 0)]), (blk b9 37 [(Value.int .i64 0), (Value.slice none 0 0), (Value.slice none 0 0)]), (blk b4 25 [(Value.int .i64 b.scales), vt, vm]), (tabsR false vt lr lb b.tabs), (macsR false vm lk b.macs)] := hS167.keep [1, 0, 5, 6, 7, 8, 9, 10] (by decide) _ rfl rfl; clear hS167
   exact then_n ⟨k + 1, ⟨v144, (putV (b.tabs.take k).length lr_ vr_), (putV (b.tabs.take k).length lb_ (vs66 6)), hA159.as _ rfl, (hS168.row_say (i := 2) rfl (by rw [take_tab (by omega)]) (by rw [take_tab (by omega)])), by omega⟩, by omega⟩
 ·skip
  rw [decide_eq_false hb44] at hA43
  refine c_false hA43 rfl ?_
  refine c_exit ?_
  refine then_exit ?_
  refine then_exit ?_
  refine blk_hit ?_
  refine then_n ?_
  refine c_seq ?_
  refine c_seq ?_
  have hA169 := hA43.as [(3, (bptr b20 0)), (2, (bptr b9 0)), (1, (bptr b4 0))] rfl; clear hA43
  refine c_region ?_
  refine st hA169 (op_assign rfl (evc _ _)) rfl rfl (by decide) fun a170 hA171 => ?_; clear hA169 a42
  refine wl_nil ?_
  refine then_n ?_
  refine c_block ?_
  have hkt : k = b.tabs.length := by omega
  have hS172 : Sep NoB w w32 [(row vt_ 106 5 ((b.tabs.take k).length) (tabsC lr_ lb_ (b.tabs.take k))), (slsR true ((b.tabs.take k).length) lr_ 2 (rowsN (b.tabs.take k)) (rowsC (b.tabs.take k))), (slsR true ((b.tabs.take k).length) lb_ 1 (brkN (b.tabs.take k)) (brkC (b.tabs.take k))), (blk b20 37 [(Value.int .i64 b.scales), vt_, (Value.slice none 0 0)]), (blk b9 37 [(Value.int .i64 0), (Value.slice none 0 0), (Value.slice none 0 0)]), (blk b4 25 [(Value.int .i64 b.scales), vt, vm]), (tabsR false vt lr lb b.tabs), (macsR false vm lk b.macs)] := hS33.keep [2, 0, 1, 3, 4, 5, 6, 7] (by decide) _ rfl rfl; clear hS33
  rw [hkt, List.take_length] at hS172
  have hS173 := sep_tabs_join hS172; clear hS172
  have hS174 := sep_sls_nil (hS173.nil_row 103 2) (fun _ => Value.slice none 0 0) 3 (blkN (b.macs.take 0)) (blkC (b.macs.take 0)); clear hS173
  have hA175 := hA171.as [(8, (Value.int .i64 0)), (3, (bptr b20 0)), (2, (bptr b9 0)), (1, (bptr b4 0))] rfl; clear hA171
  refine c_loop (G := Nat) (fun (m : Nat) a_ w_ => ∃ vm_ : Value, ∃ lk_ : Nat → Value, Fr 116 [] [(8, (Value.int .i64 (m : Int))), (3, (bptr b20 0)), (2, (bptr b9 0)), (1, (bptr b4 0))] a_ ∧ Sep NoB w w_ [(slsR true ((b.macs.take m).length) lk_ 3 (blkN (b.macs.take m)) (blkC (b.macs.take m))), (row vm_ 103 2 ((b.macs.take m).length) (macsC lk_ (b.macs.take m))), (tabsR true vt_ lr_ lb_ b.tabs), (blk b20 37 [(Value.int .i64 b.scales), vt_, vm_]), (blk b9 37 [(Value.int .i64 0), (Value.slice none 0 0), (Value.slice none 0 0)]), (blk b4 25 [(Value.int .i64 b.scales), vt, vm]), (tabsR false vt lr lb b.tabs), (macsR false vm lk b.macs)] ∧ (m ≤ b.macs.length)) (fun m => b.macs.length - m) 0 ⟨(Value.slice none 0 0), (fun _ => Value.slice none 0 0), hA175.as _ rfl, (hS174.row_say (i := 1) rfl (by rfl) (by rfl)), (Nat.zero_le _)⟩ ?_
  clear hA175 hS174 a170
  rintro m a176 w178 ⟨vm_, lk_, hA177, hS179, hkm⟩
  have hmtk : (b.macs.take m).length = m := by rw [List.length_take]; omega
  refine c_seq ?_
  refine c_seq ?_
  refine c_region ?_
  refine st hA177 (op_move rfl (hA177.ev rfl)) rfl rfl (by decide) fun a180 hA181 => ?_; clear hA177 a176
  refine st hA181 (op_field rfl fd_25_2 (hA181.ev rfl)) rfl rfl (by decide) fun a182 hA183 => ?_; clear hA181 a180
  refine st hA183 (op_load1 rfl ty_23 (hA183.ev rfl) (hS179.bk 5 rfl) rfl) rfl rfl (by decide) fun a184 hA185 => ?_; clear hA183 a182
  refine st hA185 (op_lenS rfl un_23 (hA185.ev rfl) (macs_at (hS179.ok 7 _ rfl)).macs) rfl rfl (by decide) fun a186 hA187 => ?_; clear hA185 a184
  refine st hA187 (op_lss rfl (hA187.ev rfl) (hA187.ev rfl)) rfl rfl (by decide) fun a188 hA189 => ?_; clear hA187 a186
  refine wl_nil ?_
  refine then_n ?_
  by_cases hb190 : (m : Int) < (b.macs.length : Int)
  ·skip
   rw [decide_eq_true hb190] at hA189
   have hmkk := hth.mac m
   refine c_true hA189 rfl ?_
   refine c_skip ?_
   refine then_n ?_
   refine c_seq ?_
   refine c_block ?_
   refine c_seq ?_
   refine c_region ?_
   refine st hA189 (op_field rfl fd_25_2 (hA189.ev rfl)) rfl rfl (by decide) fun a191 hA192 => ?_; clear hA189 a188
   refine st hA192 (op_load1 rfl ty_23 (hA192.ev rfl) (hS179.bk 5 rfl) rfl) rfl rfl (by decide) fun a193 hA194 => ?_; clear hA192 a191
   refine st hA194 (op_move rfl (hA194.ev rfl)) rfl rfl (by decide) fun a195 hA196 => ?_; clear hA194 a193
   refine st hA196 (op_indexS rfl un_23 ty_61 (hA196.ev rfl) (i := m) (hA196.ev rfl) (macs_at (hS179.ok 7 _ rfl)).macs (by decide) (by omega)) rfl rfl (by decide) fun a197 hA198 => ?_; clear hA196 a195
   refine st hA198 (op_loadAE rfl ty_61 (hA198.ev rfl) (macs_at (hS179.ok 7 _ rfl)).macs (macs_all (by omega)) rfl (by decide)) rfl rfl (by decide) fun a199 hA200 => ?_; clear hA198 a197
   refine stw hA200 (op_alloc hS179 rfl ze_61 (cs := [(Value.int .i64 0), (Value.slice none 0 0)]) rfl) rfl rfl (by decide) ?_
   rintro a201 _ w203 ⟨b204, rfl, hS205⟩ hA202; clear hA200 hS179 a199
   refine sts hA202 (op_store hS205 rfl ty_61 (hA202.ev rfl) (hA202.ev rfl) (i := 0) rfl (vs := [(Value.int .i64 ((b.macs.getD m mac0).scale)), (lk m)]) rfl rfl (all_c rfl (all_c (SlAt.one ((macs_at (hS205.ok 8 _ rfl)).blk (i := m) (by omega))) all_n)) (Nat.le_of_ble_eq_true rfl)) rfl rfl ?_
   intro _ w206 hS207 hA208; clear hA202
   have hS209 : Sep NoB w w206 [(blk b204 61 [(Value.int .i64 ((b.macs.getD m mac0).scale)), (lk m)]), (slsR true ((b.macs.take m).length) lk_ 3 (blkN (b.macs.take m)) (blkC (b.macs.take m))), (row vm_ 103 2 ((b.macs.take m).length) (macsC lk_ (b.macs.take m))), (tabsR true vt_ lr_ lb_ b.tabs), (blk b20 37 [(Value.int .i64 b.scales), vt_, vm_]), (blk b9 37 [(Value.int .i64 0), (Value.slice none 0 0), (Value.slice none 0 0)]), (blk b4 25 [(Value.int .i64 b.scales), vt, vm]), (tabsR false vt lr lb b.tabs), (macsR false vm lk b.macs)] := hS207; clear hS207 hS205
   refine wl_nil ?_
   refine then_n ?_
   refine c_seq ?_
   have hA210 := hA208.as [(9, (bptr b204 0)), (8, (Value.int .i64 (m : Int))), (3, (bptr b20 0)), (2, (bptr b9 0)), (1, (bptr b4 0))] rfl; clear hA208
   refine c_region ?_
   refine st hA210 (op_field rfl fd_61_0 (hA210.ev rfl)) rfl rfl (by decide) fun a211 hA212 => ?_; clear hA210 a201
   refine st hA212 (op_load1 rfl ty_3 (hA212.ev rfl) (hS209.bk 0 rfl) rfl) rfl rfl (by decide) fun a213 hA214 => ?_; clear hA212 a211
   refine st hA214 (op_build rfl (pv1 (hA214.ev rfl)) (bd_103_0i _)) rfl rfl (by decide) fun a215 hA216 => ?_; clear hA214 a213
   refine stw hA216 (op_alloc hS209 rfl ze_103 (cs := [(Value.int .i64 0), (Value.slice none 0 0)]) rfl) rfl rfl (by decide) ?_
   rintro a217 _ w219 ⟨b220, rfl, hS221⟩ hA218; clear hA216 hS209 a215
   refine sts hA218 (op_store hS221 rfl ty_103 (hA218.ev rfl) (hA218.ev rfl) (i := 0) rfl (vs := [(Value.int .i64 ((b.macs.getD m mac0).scale)), (Value.slice none 0 0)]) rfl rfl (all_c rfl (all_c rfl all_n)) (Nat.le_of_ble_eq_true rfl)) rfl rfl ?_
   intro _ w222 hS223 hA224; clear hA218
   have hS225 : Sep NoB w w222 [(blk b220 103 [(Value.int .i64 ((b.macs.getD m mac0).scale)), (Value.slice none 0 0)]), (blk b204 61 [(Value.int .i64 ((b.macs.getD m mac0).scale)), (lk m)]), (slsR true ((b.macs.take m).length) lk_ 3 (blkN (b.macs.take m)) (blkC (b.macs.take m))), (row vm_ 103 2 ((b.macs.take m).length) (macsC lk_ (b.macs.take m))), (tabsR true vt_ lr_ lb_ b.tabs), (blk b20 37 [(Value.int .i64 b.scales), vt_, vm_]), (blk b9 37 [(Value.int .i64 0), (Value.slice none 0 0), (Value.slice none 0 0)]), (blk b4 25 [(Value.int .i64 b.scales), vt, vm]), (tabsR false vt lr lb b.tabs), (macsR false vm lk b.macs)] := hS223; clear hS223 hS221
   refine wl_nil ?_
   refine then_n ?_
   refine c_seq ?_
   refine c_seq ?_
   refine c_region ?_
   refine st hA224 (op_assign rfl (evc _ _)) rfl rfl (by decide) fun a226 hA227 => ?_; clear hA224 a217
   refine wl_nil ?_
   refine then_n ?_
   refine c_block ?_
   have hS228 := hS225.nil_row 100 3; clear hS225
   have hA229 := hA227.as [(11, (Value.int .i64 0)), (10, (bptr b220 0)), (9, (bptr b204 0)), (8, (Value.int .i64 (m : Int))), (3, (bptr b20 0)), (2, (bptr b9 0)), (1, (bptr b4 0))] rfl; clear hA227
   refine c_loop (G := Nat) (fun (q : Nat) a_ w_ => ∃ vk_ : Value, Fr 116 [] [(11, (Value.int .i64 (q : Int))), (10, (bptr b220 0)), (9, (bptr b204 0)), (8, (Value.int .i64 (m : Int))), (3, (bptr b20 0)), (2, (bptr b9 0)), (1, (bptr b4 0))] a_ ∧ Sep NoB w w_ [(row vk_ 100 3 (((b.macs.getD m mac0).blocks.take q).length) (trips ((b.macs.getD m mac0).blocks.take q))), (blk b220 103 [(Value.int .i64 ((b.macs.getD m mac0).scale)), vk_]), (blk b204 61 [(Value.int .i64 ((b.macs.getD m mac0).scale)), (lk m)]), (slsR true ((b.macs.take m).length) lk_ 3 (blkN (b.macs.take m)) (blkC (b.macs.take m))), (row vm_ 103 2 ((b.macs.take m).length) (macsC lk_ (b.macs.take m))), (tabsR true vt_ lr_ lb_ b.tabs), (blk b20 37 [(Value.int .i64 b.scales), vt_, vm_]), (blk b9 37 [(Value.int .i64 0), (Value.slice none 0 0), (Value.slice none 0 0)]), (blk b4 25 [(Value.int .i64 b.scales), vt, vm]), (tabsR false vt lr lb b.tabs), (macsR false vm lk b.macs)] ∧ (q ≤ (b.macs.getD m mac0).blocks.length)) (fun q => (b.macs.getD m mac0).blocks.length - q) 0 ⟨(Value.slice none 0 0), hA229.as _ rfl, (hS228.row_say (i := 0) rfl (by rfl) (by rfl)), (Nat.zero_le _)⟩ ?_
   clear hA229 hS228 a226
   rintro q a230 w232 ⟨vk_, hA231, hS233, hkq⟩
   have hlt_q : ((b.macs.getD m mac0).blocks.take q).length ≤ 12 := by simp only [List.length_take]; omega
   refine c_seq ?_
   refine c_seq ?_
   refine c_region ?_
   refine st hA231 (op_move rfl (hA231.ev rfl)) rfl rfl (by decide) fun a234 hA235 => ?_; clear hA231 a230
   refine st hA235 (op_field rfl fd_61_1 (hA235.ev rfl)) rfl rfl (by decide) fun a236 hA237 => ?_; clear hA235 a234
   refine st hA237 (op_load1 rfl ty_59 (hA237.ev rfl) (hS233.bk 2 rfl) rfl) rfl rfl (by decide) fun a238 hA239 => ?_; clear hA237 a236
   refine st hA239 (op_lenS rfl un_59 (hA239.ev rfl) ((macs_at (hS233.ok 10 _ rfl)).blk (i := m) (by omega))) rfl rfl (by decide) fun a240 hA241 => ?_; clear hA239 a238
   refine st hA241 (op_lss rfl (hA241.ev rfl) (hA241.ev rfl)) rfl rfl (by decide) fun a242 hA243 => ?_; clear hA241 a240
   refine wl_nil ?_
   refine then_n ?_
   by_cases hb244 : (q : Int) < ((b.macs.getD m mac0).blocks.length : Int)
   ·skip
    rw [decide_eq_true hb244] at hA243
    refine c_true hA243 rfl ?_
    refine c_skip ?_
    refine then_n ?_
    refine c_seq ?_
    refine c_block ?_
    have hA245 := hA243.as [(11, (Value.int .i64 (q : Int))), (10, (bptr b220 0)), (9, (bptr b204 0)), (8, (Value.int .i64 (m : Int))), (3, (bptr b20 0)), (2, (bptr b9 0)), (1, (bptr b4 0))] rfl; clear hA243
    refine c_drawV mixed hA245 hS233 17 [[], [0], [], [2], [], [3, 4], [5], [6], [7], [], [9], [], [10, 11], [12], [13], [8, 14], [15]] [(fun (vs246 : Nat → Value) (v_ : Value) (rs_ : List Res) => v_ = (bptr b220 1) ∧ rs_ = []), (fun (vs246 : Nat → Value) (v_ : Value) (rs_ : List Res) => v_ = vk_ ∧ rs_ = []), (fun (vs246 : Nat → Value) (v_ : Value) (rs_ : List Res) => v_ = (bptr b204 1) ∧ rs_ = []), (fun (vs246 : Nat → Value) (v_ : Value) (rs_ : List Res) => v_ = (lk m) ∧ rs_ = []), (fun (vs246 : Nat → Value) (v_ : Value) (rs_ : List Res) => v_ = (Value.int .i64 (q : Int)) ∧ rs_ = []), (fun (vs246 : Nat → Value) (v_ : Value) (rs_ : List Res) => v_ = (eptr (lk m) (q * 3)) ∧ rs_ = []), (fun (vs246 : Nat → Value) (v_ : Value) (rs_ : List Res) => v_ = (eptr (lk m) (q * 3 + 0)) ∧ rs_ = []), (fun (vs246 : Nat → Value) (v_ : Value) (rs_ : List Res) => v_ = (Value.agg #[(Value.int .i64 ((((b.macs.getD m mac0).blocks).getD q (0, 0, 0)).1)), (Value.int .i64 ((((b.macs.getD m mac0).blocks).getD q (0, 0, 0)).2.1))]) ∧ rs_ = []), (fun (vs246 : Nat → Value) (v_ : Value) (rs_ : List Res) => v_ = (Value.agg #[(Value.int .i64 ((((b.macs.getD m mac0).blocks).getD q (0, 0, 0)).1)), (Value.int .i64 ((((b.macs.getD m mac0).blocks).getD q (0, 0, 0)).2.1))]) ∧ rs_ = []), (fun (vs246 : Nat → Value) (v_ : Value) (rs_ : List Res) => v_ = (bptr b204 1) ∧ rs_ = []), (fun (vs246 : Nat → Value) (v_ : Value) (rs_ : List Res) => v_ = (lk m) ∧ rs_ = []), (fun (vs246 : Nat → Value) (v_ : Value) (rs_ : List Res) => v_ = (Value.int .i64 (q : Int)) ∧ rs_ = []), (fun (vs246 : Nat → Value) (v_ : Value) (rs_ : List Res) => v_ = (eptr (lk m) (q * 3)) ∧ rs_ = []), (fun (vs246 : Nat → Value) (v_ : Value) (rs_ : List Res) => v_ = (eptr (lk m) (q * 3 + 2)) ∧ rs_ = []), (fun (vs246 : Nat → Value) (v_ : Value) (rs_ : List Res) => v_ = (Value.int .i64 ((((b.macs.getD m mac0).blocks).getD q (0, 0, 0)).2.2)) ∧ rs_ = []), (fun (vs246 : Nat → Value) (v_ : Value) (rs_ : List Res) => v_ = (Value.agg #[(Value.int .i64 ((((b.macs.getD m mac0).blocks).getD q (0, 0, 0)).1)), (Value.int .i64 ((((b.macs.getD m mac0).blocks).getD q (0, 0, 0)).2.1)), (Value.int .i64 ((((b.macs.getD m mac0).blocks).getD q (0, 0, 0)).2.2))]) ∧ rs_ = []), (fun (vs246 : Nat → Value) (v_ : Value) (rs_ : List Res) => True ∧ rs_ = [(row v_ 100 3 1 [(Value.int .i64 ((((b.macs.getD m mac0).blocks).getD q (0, 0, 0)).1)), (Value.int .i64 ((((b.macs.getD m mac0).blocks).getD q (0, 0, 0)).2.1)), (Value.int .i64 ((((b.macs.getD m mac0).blocks).getD q (0, 0, 0)).2.2))])])] (by decide +kernel) (by decide +kernel) rfl rfl ⟨(fun _ _ _ _ _ h_ => h_), (fun _ _ _ _ _ h_ => h_), (fun _ _ _ _ _ h_ => h_), (fun _ _ _ _ _ h_ => h_), (fun _ _ _ _ _ h_ => h_), (fun _ _ _ _ _ h_ => h_), (fun _ _ _ _ _ h_ => h_), (fun _ _ _ _ _ h_ => h_), (fun _ _ _ _ _ h_ => h_), (fun _ _ _ _ _ h_ => h_), (fun _ _ _ _ _ h_ => h_), (fun _ _ _ _ _ h_ => h_), (fun _ _ _ _ _ h_ => h_), (fun _ _ _ _ _ h_ => h_), (fun _ _ _ _ _ h_ => h_), (fun _ _ _ _ _ h_ => h_), (fun _ _ _ _ _ h_ => h_), trivial⟩ ?_ ?_
    ·skip
     refine ⟨fun a w vs246 hA hS hd => ?_, ?_⟩
     ·skip
      exact opG_of rfl (vv (op_field rfl fd_103_1 (hA.ev rfl)) (And.intro rfl rfl))
     refine ⟨fun a w vs246 hA hS hd => ?_, ?_⟩
     ·skip
      obtain ⟨e0, rs0, hy0, hp0⟩ := hd 0 (by decide)
      obtain ⟨hv0, hr0⟩ := hy0; subst hr0
      rw [hv0] at e0
      exact opG_of rfl (vv (op_load1 rfl ty_101 (tmp_ev (slot_ev e0 rfl)) (hS.bk 1 rfl) rfl) (And.intro rfl rfl))
     refine ⟨fun a w vs246 hA hS hd => ?_, ?_⟩
     ·skip
      exact opG_of rfl (vv (op_field rfl fd_61_1 (hA.ev rfl)) (And.intro rfl rfl))
     refine ⟨fun a w vs246 hA hS hd => ?_, ?_⟩
     ·skip
      obtain ⟨e2, rs2, hy2, hp2⟩ := hd 2 (by decide)
      obtain ⟨hv2, hr2⟩ := hy2; subst hr2
      rw [hv2] at e2
      exact opG_of rfl (vv (op_load1 rfl ty_59 (tmp_ev (slot_ev e2 rfl)) (hS.bk 2 rfl) rfl) (And.intro rfl rfl))
     refine ⟨fun a w vs246 hA hS hd => ?_, ?_⟩
     ·skip
      exact opG_of rfl (vv (op_move rfl (hA.ev rfl)) (And.intro rfl rfl))
     refine ⟨fun a w vs246 hA hS hd => ?_, ?_⟩
     ·skip
      obtain ⟨e3, rs3, hy3, hp3⟩ := hd 3 (by decide)
      obtain ⟨hv3, hr3⟩ := hy3; subst hr3
      rw [hv3] at e3
      obtain ⟨e4, rs4, hy4, hp4⟩ := hd 4 (by decide)
      obtain ⟨hv4, hr4⟩ := hy4; subst hr4
      rw [hv4] at e4
      exact opG_of rfl (vv (op_indexS rfl un_59 ty_63 (tmp_ev (slot_ev e3 rfl)) (i := q) (tmp_ev (slot_ev e4 rfl)) ((macs_at (hS.ok 10 _ rfl)).blk (i := m) (by omega)) (by decide) (by omega)) (And.intro rfl rfl))
     refine ⟨fun a w vs246 hA hS hd => ?_, ?_⟩
     ·skip
      obtain ⟨e5, rs5, hy5, hp5⟩ := hd 5 (by decide)
      obtain ⟨hv5, hr5⟩ := hy5; subst hr5
      rw [hv5] at e5
      exact opG_of rfl (vv (op_fieldS rfl fd_63_0 (tmp_ev (slot_ev e5 rfl)) ((macs_at (hS.ok 10 _ rfl)).blk (i := m) (by omega)) (by rw [(((macs_at (hS.ok 10 _ rfl)).blk (i := m) (by omega))).1]; omega)) (And.intro rfl rfl))
     refine ⟨fun a w vs246 hA hS hd => ?_, ?_⟩
     ·skip
      obtain ⟨e6, rs6, hy6, hp6⟩ := hd 6 (by decide)
      obtain ⟨hv6, hr6⟩ := hy6; subst hr6
      rw [hv6] at e6
      exact opG_of rfl (vv (op_loadAE rfl ty_27 (tmp_ev (slot_ev e6 rfl)) ((macs_at (hS.ok 10 _ rfl)).blk (i := m) (by omega)) (trips_sub0 (by omega)) rfl (by decide)) (And.intro rfl rfl))
     refine ⟨fun a w vs246 hA hS hd => ?_, ?_⟩
     ·skip
      obtain ⟨e7, rs7, hy7, hp7⟩ := hd 7 (by decide)
      obtain ⟨hv7, hr7⟩ := hy7; subst hr7
      rw [hv7] at e7
      exact opG_of rfl (vx (op_call rfl en_20 (ev1 (tmp_ev (slot_ev e7 rfl))) (to_ok _ _ _)) (And.intro rfl rfl))
     refine ⟨fun a w vs246 hA hS hd => ?_, ?_⟩
     ·skip
      exact opG_of rfl (vv (op_field rfl fd_61_1 (hA.ev rfl)) (And.intro rfl rfl))
     refine ⟨fun a w vs246 hA hS hd => ?_, ?_⟩
     ·skip
      obtain ⟨e9, rs9, hy9, hp9⟩ := hd 9 (by decide)
      obtain ⟨hv9, hr9⟩ := hy9; subst hr9
      rw [hv9] at e9
      exact opG_of rfl (vv (op_load1 rfl ty_59 (tmp_ev (slot_ev e9 rfl)) (hS.bk 2 rfl) rfl) (And.intro rfl rfl))
     refine ⟨fun a w vs246 hA hS hd => ?_, ?_⟩
     ·skip
      exact opG_of rfl (vv (op_move rfl (hA.ev rfl)) (And.intro rfl rfl))
     refine ⟨fun a w vs246 hA hS hd => ?_, ?_⟩
     ·skip
      obtain ⟨e10, rs10, hy10, hp10⟩ := hd 10 (by decide)
      obtain ⟨hv10, hr10⟩ := hy10; subst hr10
      rw [hv10] at e10
      obtain ⟨e11, rs11, hy11, hp11⟩ := hd 11 (by decide)
      obtain ⟨hv11, hr11⟩ := hy11; subst hr11
      rw [hv11] at e11
      exact opG_of rfl (vv (op_indexS rfl un_59 ty_63 (tmp_ev (slot_ev e10 rfl)) (i := q) (tmp_ev (slot_ev e11 rfl)) ((macs_at (hS.ok 10 _ rfl)).blk (i := m) (by omega)) (by decide) (by omega)) (And.intro rfl rfl))
     refine ⟨fun a w vs246 hA hS hd => ?_, ?_⟩
     ·skip
      obtain ⟨e12, rs12, hy12, hp12⟩ := hd 12 (by decide)
      obtain ⟨hv12, hr12⟩ := hy12; subst hr12
      rw [hv12] at e12
      exact opG_of rfl (vv (op_fieldS rfl fd_63_1 (tmp_ev (slot_ev e12 rfl)) ((macs_at (hS.ok 10 _ rfl)).blk (i := m) (by omega)) (by rw [(((macs_at (hS.ok 10 _ rfl)).blk (i := m) (by omega))).1]; omega)) (And.intro rfl rfl))
     refine ⟨fun a w vs246 hA hS hd => ?_, ?_⟩
     ·skip
      obtain ⟨e13, rs13, hy13, hp13⟩ := hd 13 (by decide)
      obtain ⟨hv13, hr13⟩ := hy13; subst hr13
      rw [hv13] at e13
      exact opG_of rfl (vv (op_load1E rfl ty_3 (tmp_ev (slot_ev e13 rfl)) ((macs_at (hS.ok 10 _ rfl)).blk (i := m) (by omega)) (trips_at2 (by omega))) (And.intro rfl rfl))
     refine ⟨fun a w vs246 hA hS hd => ?_, ?_⟩
     ·skip
      obtain ⟨e8, rs8, hy8, hp8⟩ := hd 8 (by decide)
      obtain ⟨hv8, hr8⟩ := hy8; subst hr8
      rw [hv8] at e8
      obtain ⟨e14, rs14, hy14, hp14⟩ := hd 14 (by decide)
      obtain ⟨hv14, hr14⟩ := hy14; subst hr14
      rw [hv14] at e14
      exact opG_of rfl (vv (op_build rfl (pv2 (tmp_ev (slot_ev e8 rfl)) (tmp_ev (slot_ev e14 rfl))) (bd_100_0iia_1i _ _ _)) (And.intro rfl rfl))
     refine ⟨fun a w vs246 hA hS hd => ?_, ?_⟩
     ·skip
      obtain ⟨e15, rs15, hy15, hp15⟩ := hd 15 (by decide)
      obtain ⟨hv15, hr15⟩ := hy15; subst hr15
      rw [hv15] at e15
      exact opG_of rfl (vblt rfl (pv1 (tmp_ev (slot_ev e15 rfl))) un_101 ty_100 ze_100 (by decide) (cs := [(Value.int .i64 ((((b.macs.getD m mac0).blocks).getD q (0, 0, 0)).1)), (Value.int .i64 ((((b.macs.getD m mac0).blocks).getD q (0, 0, 0)).2.1)), (Value.int .i64 ((((b.macs.getD m mac0).blocks).getD q (0, 0, 0)).2.2))]) (bs_100_1_0iiia _ _ _) rfl (by decide) (fun _ => And.intro trivial rfl))
     trivial
    intro a247 w248 vs246 rsf252 hA249 hH251 hS250; clear hA245 hS233
    obtain ⟨hs_0, hy_0⟩ := hH251 0 (by decide)
    obtain ⟨hv_0, hr_0⟩ := hy_0
    obtain ⟨hs_1, hy_1⟩ := hH251 1 (by decide)
    obtain ⟨hv_1, hr_1⟩ := hy_1
    obtain ⟨hs_2, hy_2⟩ := hH251 2 (by decide)
    obtain ⟨hv_2, hr_2⟩ := hy_2
    obtain ⟨hs_3, hy_3⟩ := hH251 3 (by decide)
    obtain ⟨hv_3, hr_3⟩ := hy_3
    obtain ⟨hs_4, hy_4⟩ := hH251 4 (by decide)
    obtain ⟨hv_4, hr_4⟩ := hy_4
    obtain ⟨hs_5, hy_5⟩ := hH251 5 (by decide)
    obtain ⟨hv_5, hr_5⟩ := hy_5
    obtain ⟨hs_6, hy_6⟩ := hH251 6 (by decide)
    obtain ⟨hv_6, hr_6⟩ := hy_6
    obtain ⟨hs_7, hy_7⟩ := hH251 7 (by decide)
    obtain ⟨hv_7, hr_7⟩ := hy_7
    obtain ⟨hs_8, hy_8⟩ := hH251 8 (by decide)
    obtain ⟨hv_8, hr_8⟩ := hy_8
    obtain ⟨hs_9, hy_9⟩ := hH251 9 (by decide)
    obtain ⟨hv_9, hr_9⟩ := hy_9
    obtain ⟨hs_10, hy_10⟩ := hH251 10 (by decide)
    obtain ⟨hv_10, hr_10⟩ := hy_10
    obtain ⟨hs_11, hy_11⟩ := hH251 11 (by decide)
    obtain ⟨hv_11, hr_11⟩ := hy_11
    obtain ⟨hs_12, hy_12⟩ := hH251 12 (by decide)
    obtain ⟨hv_12, hr_12⟩ := hy_12
    obtain ⟨hs_13, hy_13⟩ := hH251 13 (by decide)
    obtain ⟨hv_13, hr_13⟩ := hy_13
    obtain ⟨hs_14, hy_14⟩ := hH251 14 (by decide)
    obtain ⟨hv_14, hr_14⟩ := hy_14
    obtain ⟨hs_15, hy_15⟩ := hH251 15 (by decide)
    obtain ⟨hv_15, hr_15⟩ := hy_15
    obtain ⟨hs_16, hy_16⟩ := hH251 16 (by decide)
    obtain ⟨hv_16, hr_16⟩ := hy_16
    have hS253 : Sep NoB w w248 [(row (vs246 16) 100 3 1 [(Value.int .i64 ((((b.macs.getD m mac0).blocks).getD q (0, 0, 0)).1)), (Value.int .i64 ((((b.macs.getD m mac0).blocks).getD q (0, 0, 0)).2.1)), (Value.int .i64 ((((b.macs.getD m mac0).blocks).getD q (0, 0, 0)).2.2))]), (row vk_ 100 3 (((b.macs.getD m mac0).blocks.take q).length) (trips ((b.macs.getD m mac0).blocks.take q))), (blk b220 103 [(Value.int .i64 ((b.macs.getD m mac0).scale)), vk_]), (blk b204 61 [(Value.int .i64 ((b.macs.getD m mac0).scale)), (lk m)]), (slsR true ((b.macs.take m).length) lk_ 3 (blkN (b.macs.take m)) (blkC (b.macs.take m))), (row vm_ 103 2 ((b.macs.take m).length) (macsC lk_ (b.macs.take m))), (tabsR true vt_ lr_ lb_ b.tabs), (blk b20 37 [(Value.int .i64 b.scales), vt_, vm_]), (blk b9 37 [(Value.int .i64 0), (Value.slice none 0 0), (Value.slice none 0 0)]), (blk b4 25 [(Value.int .i64 b.scales), vt, vm]), (tabsR false vt lr lb b.tabs), (macsR false vm lk b.macs)] := by rw [show catR rsf252 0 17 = ([(row (vs246 16) 100 3 1 [(Value.int .i64 ((((b.macs.getD m mac0).blocks).getD q (0, 0, 0)).1)), (Value.int .i64 ((((b.macs.getD m mac0).blocks).getD q (0, 0, 0)).2.1)), (Value.int .i64 ((((b.macs.getD m mac0).blocks).getD q (0, 0, 0)).2.2))])] : List Res) by (try simp only [catR, hr_0, hr_1, hr_2, hr_3, hr_4, hr_5, hr_6, hr_7, hr_8, hr_9, hr_10, hr_11, hr_12, hr_13, hr_14, hr_15, hr_16]); (try rfl)] at hS250; exact hS250
    rw [hv_1] at hs_1
    have hA254 : Fr 116 [] [(91, vk_), (11, (Value.int .i64 (q : Int))), (10, (bptr b220 0)), (9, (bptr b204 0)), (8, (Value.int .i64 (m : Int))), (3, (bptr b20 0)), (2, (bptr b9 0)), (1, (bptr b4 0))] a247 := hA249.add (slot_ev hs_1 rfl); clear hA249
    have hA255 : Fr 116 [] [(106, (vs246 16)), (91, vk_), (11, (Value.int .i64 (q : Int))), (10, (bptr b220 0)), (9, (bptr b204 0)), (8, (Value.int .i64 (m : Int))), (3, (bptr b20 0)), (2, (bptr b9 0)), (1, (bptr b4 0))] a247 := hA254.add (slot_ev hs_16 rfl); clear hA254
    clear hH251 hS250 hs_0 hs_1 hs_2 hs_3 hs_4 hs_5 hs_6 hs_7 hs_8 hs_9 hs_10 hs_11 hs_12 hs_13 hs_14 hs_15 hs_16
    clear hr_0
    clear hv_0
    clear hr_1
    clear hv_1
    clear hr_2
    clear hv_2
    clear hr_3
    clear hv_3
    clear hr_4
    clear hv_4
    clear hr_5
    clear hv_5
    clear hr_6
    clear hv_6
    clear hr_7
    clear hv_7
    clear hr_8
    clear hv_8
    clear hr_9
    clear hv_9
    clear hr_10
    clear hv_10
    clear hr_11
    clear hv_11
    clear hr_12
    clear hv_12
    clear hr_13
    clear hv_13
    clear hr_14
    clear hv_14
    clear hr_15
    clear hv_15
    clear hr_16
    clear hv_16
    refine stw hA255 (op_append hS253 rfl un_101 el_100 (hA255.ev rfl) (hA255.ev rfl) (i := 1) rfl (SlAt.of_row (hS253.ok_row 0 rfl)) rfl (by simp only [maxLen]; omega) (by omega)) rfl rfl (by decide) ?_
    intro a256 v259 w258 hS260 hA257
    have hS261 := hS260.row_say (i := 1) rfl (n' := (((b.macs.getD m mac0).blocks.take q) ++ [(b.macs.getD m mac0).blocks.getD q (0, 0, 0)]).length) (xs' := (trips (((b.macs.getD m mac0).blocks.take q) ++ [(b.macs.getD m mac0).blocks.getD q (0, 0, 0)]))) (by simp) (by simp [trips]); clear hS260 hA255 hS253 a247
    refine st hA257 (op_field rfl fd_103_1 (hA257.ev rfl)) rfl rfl (by decide) fun a262 hA263 => ?_; clear hA257 a256
    refine sts hA263 (op_store hS261 rfl ty_101 (hA263.ev rfl) (hA263.ev rfl) (i := 2) rfl (vs := [v259]) (isSl_cells (SlAt.isSl (SlAt.of_row (hS261.ok_row 1 rfl)))) rfl (all_c (SlAt.one (SlAt.of_row (hS261.ok_row 1 rfl))) all_n) (Nat.le_of_ble_eq_true rfl)) rfl rfl ?_
    intro _ w264 hS265 hA266; clear hA263
    have hS267 : Sep NoB w w264 [(row (vs246 16) 100 3 1 [(Value.int .i64 ((((b.macs.getD m mac0).blocks).getD q (0, 0, 0)).1)), (Value.int .i64 ((((b.macs.getD m mac0).blocks).getD q (0, 0, 0)).2.1)), (Value.int .i64 ((((b.macs.getD m mac0).blocks).getD q (0, 0, 0)).2.2))]), (row v259 100 3 ((((b.macs.getD m mac0).blocks.take q) ++ [(b.macs.getD m mac0).blocks.getD q (0, 0, 0)]).length) (trips (((b.macs.getD m mac0).blocks.take q) ++ [(b.macs.getD m mac0).blocks.getD q (0, 0, 0)]))), (blk b220 103 [(Value.int .i64 ((b.macs.getD m mac0).scale)), v259]), (blk b204 61 [(Value.int .i64 ((b.macs.getD m mac0).scale)), (lk m)]), (slsR true ((b.macs.take m).length) lk_ 3 (blkN (b.macs.take m)) (blkC (b.macs.take m))), (row vm_ 103 2 ((b.macs.take m).length) (macsC lk_ (b.macs.take m))), (tabsR true vt_ lr_ lb_ b.tabs), (blk b20 37 [(Value.int .i64 b.scales), vt_, vm_]), (blk b9 37 [(Value.int .i64 0), (Value.slice none 0 0), (Value.slice none 0 0)]), (blk b4 25 [(Value.int .i64 b.scales), vt, vm]), (tabsR false vt lr lb b.tabs), (macsR false vm lk b.macs)] := hS265; clear hS265 hS261
    refine wl_nil ?_
    refine blk_n ?_
    refine then_n ?_
    refine c_region ?_
    refine st hA266 (op_move rfl (hA266.ev rfl)) rfl rfl (by decide) fun a268 hA269 => ?_; clear hA266 a262
    refine st hA269 (op_add rfl (hA269.ev rfl) (evc _ _) (by omega) (by omega)) rfl rfl (by decide) fun a270 hA271 => ?_; clear hA269 a268
    refine st hA271 (op_assign rfl (hA271.ev rfl)) rfl rfl (by decide) fun a272 hA273 => ?_; clear hA271 a270
    refine wl_nil ?_
    have hS274 : Sep NoB w w264 [(row v259 100 3 ((((b.macs.getD m mac0).blocks.take q) ++ [(b.macs.getD m mac0).blocks.getD q (0, 0, 0)]).length) (trips (((b.macs.getD m mac0).blocks.take q) ++ [(b.macs.getD m mac0).blocks.getD q (0, 0, 0)]))), (blk b220 103 [(Value.int .i64 ((b.macs.getD m mac0).scale)), v259]), (blk b204 61 [(Value.int .i64 ((b.macs.getD m mac0).scale)), (lk m)]), (slsR true ((b.macs.take m).length) lk_ 3 (blkN (b.macs.take m)) (blkC (b.macs.take m))), (row vm_ 103 2 ((b.macs.take m).length) (macsC lk_ (b.macs.take m))), (tabsR true vt_ lr_ lb_ b.tabs), (blk b20 37 [(Value.int .i64 b.scales), vt_, vm_]), (blk b9 37 [(Value.int .i64 0), (Value.slice none 0 0), (Value.slice none 0 0)]), (blk b4 25 [(Value.int .i64 b.scales), vt, vm]), (tabsR false vt lr lb b.tabs), (macsR false vm lk b.macs)] := hS267.keep [1, 2, 3, 4, 5, 6, 7, 8, 9, 10, 11] (by decide) _ rfl rfl; clear hS267
    exact then_n ⟨q + 1, ⟨v259, hA273.as _ rfl, (hS274.row_say (i := 0) rfl (by rw [take_tab (by omega)]) (by rw [take_tab (by omega)])), by omega⟩, by omega⟩
   ·skip
    rw [decide_eq_false hb244] at hA243
    refine c_false hA243 rfl ?_
    refine c_exit ?_
    refine then_exit ?_
    refine then_exit ?_
    refine blk_hit ?_
    refine then_n ?_
    have hA275 := hA243.as [(10, (bptr b220 0)), (8, (Value.int .i64 (m : Int))), (3, (bptr b20 0)), (2, (bptr b9 0)), (1, (bptr b4 0))] rfl; clear hA243
    refine c_region ?_
    refine st hA275 (op_field rfl fd_37_2 (hA275.ev rfl)) rfl rfl (by decide) fun a276 hA277 => ?_; clear hA275 a242
    refine st hA277 (op_load1 rfl ty_35 (hA277.ev rfl) (hS233.bk 6 rfl) rfl) rfl rfl (by decide) fun a278 hA279 => ?_; clear hA277 a276
    refine st hA279 (op_loadA rfl ty_103 (hA279.ev rfl) (hS233.bk 1 rfl) (l := [(Value.int .i64 ((b.macs.getD m mac0).scale)), vk_]) rfl rfl) rfl rfl (by decide) fun a280 hA281 => ?_; clear hA279 a278
    refine stw hA281 (op_buildSlice hS233 rfl (pv1 (hA281.ev rfl)) un_35 ty_103 ze_103 (by decide) (cs := [(Value.int .i64 ((b.macs.getD m mac0).scale)), vk_]) (bs_103_1_0iva _ _)) rfl rfl (by decide) ?_
    rintro a282 _ w284 ⟨b285, rfl, hS286⟩ hA283; clear hA281 hS233 a280
    refine stw hA283 (op_append hS286 rfl un_35 el_103 (hA283.ev rfl) (hA283.ev rfl) (i := 5) rfl (SlAt.of_blk (hS286.bk 0 rfl) rfl (Nat.le_of_ble_eq_true rfl)) (all_c rfl (all_c (SlAt.one (SlAt.of_row (hS286.ok_row 1 rfl))) all_n)) (by simp only [maxLen]; omega) (by omega)) rfl rfl (by decide) ?_
    intro a287 v290 w289 hS291 hA288
    have hS292 := hS291.row_say (i := 5) rfl (n' := ((b.macs.take m) ++ [(b.macs.getD m mac0)]).length) (xs' := (macsC (putV (b.macs.take m).length lk_ vk_) ((b.macs.take m) ++ [(b.macs.getD m mac0)]))) (by simp) (macs_snoc (b.macs.getD m mac0) vk_); clear hS291 hA283 hS286 a282
    refine st hA288 (op_field rfl fd_37_2 (hA288.ev rfl)) rfl rfl (by decide) fun a293 hA294 => ?_; clear hA288 a287
    refine sts hA294 (op_store hS292 rfl ty_35 (hA294.ev rfl) (hA294.ev rfl) (i := 7) rfl (vs := [v290]) (isSl_cells (SlAt.isSl (SlAt.of_row (hS292.ok_row 5 rfl)))) rfl (all_c (SlAt.one (SlAt.of_row (hS292.ok_row 5 rfl))) all_n) (Nat.le_of_ble_eq_true rfl)) rfl rfl ?_
    intro _ w295 hS296 hA297; clear hA294
    have hS298 : Sep NoB w w295 [(blk b285 103 [(Value.int .i64 ((b.macs.getD m mac0).scale)), vk_]), (row vk_ 100 3 (((b.macs.getD m mac0).blocks.take q).length) (trips ((b.macs.getD m mac0).blocks.take q))), (blk b220 103 [(Value.int .i64 ((b.macs.getD m mac0).scale)), vk_]), (blk b204 61 [(Value.int .i64 ((b.macs.getD m mac0).scale)), (lk m)]), (slsR true ((b.macs.take m).length) lk_ 3 (blkN (b.macs.take m)) (blkC (b.macs.take m))), (row v290 103 2 (((b.macs.take m) ++ [(b.macs.getD m mac0)]).length) (macsC (putV (b.macs.take m).length lk_ vk_) ((b.macs.take m) ++ [(b.macs.getD m mac0)]))), (tabsR true vt_ lr_ lb_ b.tabs), (blk b20 37 [(Value.int .i64 b.scales), vt_, v290]), (blk b9 37 [(Value.int .i64 0), (Value.slice none 0 0), (Value.slice none 0 0)]), (blk b4 25 [(Value.int .i64 b.scales), vt, vm]), (tabsR false vt lr lb b.tabs), (macsR false vm lk b.macs)] := hS296; clear hS296 hS292
    refine wl_nil ?_
    refine blk_n ?_
    refine then_n ?_
    have hA299 := hA297.as [(8, (Value.int .i64 (m : Int))), (3, (bptr b20 0)), (2, (bptr b9 0)), (1, (bptr b4 0))] rfl; clear hA297
    refine c_region ?_
    refine st hA299 (op_move rfl (hA299.ev rfl)) rfl rfl (by decide) fun a300 hA301 => ?_; clear hA299 a293
    refine st hA301 (op_add rfl (hA301.ev rfl) (evc _ _) (by omega) (by omega)) rfl rfl (by decide) fun a302 hA303 => ?_; clear hA301 a300
    refine st hA303 (op_assign rfl (hA303.ev rfl)) rfl rfl (by decide) fun a304 hA305 => ?_; clear hA303 a302
    refine wl_nil ?_
    have hS306 := hS298.row_say (i := 1) rfl (n' := (b.macs.getD m mac0).blocks.length) (xs' := trips (b.macs.getD m mac0).blocks) (by rw [List.take_of_length_le (by omega)]) (by rw [List.take_of_length_le (by omega)]); clear hS298
    have hS307 : Sep NoB w w295 [(row vk_ 100 3 ((b.macs.getD m mac0).blocks.length) (trips ((b.macs.getD m mac0).blocks))), (slsR true ((b.macs.take m).length) lk_ 3 (blkN (b.macs.take m)) (blkC (b.macs.take m))), (blk b285 103 [(Value.int .i64 ((b.macs.getD m mac0).scale)), vk_]), (blk b220 103 [(Value.int .i64 ((b.macs.getD m mac0).scale)), vk_]), (blk b204 61 [(Value.int .i64 ((b.macs.getD m mac0).scale)), (lk m)]), (row v290 103 2 (((b.macs.take m) ++ [(b.macs.getD m mac0)]).length) (macsC (putV (b.macs.take m).length lk_ vk_) ((b.macs.take m) ++ [(b.macs.getD m mac0)]))), (tabsR true vt_ lr_ lb_ b.tabs), (blk b20 37 [(Value.int .i64 b.scales), vt_, v290]), (blk b9 37 [(Value.int .i64 0), (Value.slice none 0 0), (Value.slice none 0 0)]), (blk b4 25 [(Value.int .i64 b.scales), vt, vm]), (tabsR false vt lr lb b.tabs), (macsR false vm lk b.macs)] := hS306.keep [1, 4, 0, 2, 3, 5, 6, 7, 8, 9, 10, 11] (by decide) _ rfl rfl; clear hS306
    have hS308 := sep_sls_snoc (k' := blkN (b.macs.take (m + 1))) (c' := blkC (b.macs.take (m + 1))) hS307 (blkN_new (by omega)).1 (blkN_new (by omega)).2 blkN_old; clear hS307
    have hS309 := sep_sls_say (i := 0) (n' := (b.macs.take (m + 1)).length) (v' := (putV (b.macs.take m).length lk_ vk_)) (k' := blkN (b.macs.take (m + 1))) (c' := blkC (b.macs.take (m + 1))) hS308 rfl (take_len1 (by omega)) (fun _ _ => ⟨rfl, rfl, rfl⟩); clear hS308
    have hS310 : Sep NoB w w295 [(slsR true ((b.macs.take (m + 1)).length) (putV (b.macs.take m).length lk_ vk_) 3 (blkN (b.macs.take (m + 1))) (blkC (b.macs.take (m + 1)))), (row v290 103 2 (((b.macs.take m) ++ [(b.macs.getD m mac0)]).length) (macsC (putV (b.macs.take m).length lk_ vk_) ((b.macs.take m) ++ [(b.macs.getD m mac0)]))), (tabsR true vt_ lr_ lb_ b.tabs), (blk b20 37 [(Value.int .i64 b.scales), vt_, v290]), (blk b9 37 [(Value.int .i64 0), (Value.slice none 0 0), (Value.slice none 0 0)]), (blk b4 25 [(Value.int .i64 b.scales), vt, vm]), (tabsR false vt lr lb b.tabs), (macsR false vm lk b.macs)] := hS309.keep [0, 4, 5, 6, 7, 8, 9, 10] (by decide) _ rfl rfl; clear hS309
    exact then_n ⟨m + 1, ⟨v290, (putV (b.macs.take m).length lk_ vk_), hA305.as _ rfl, (hS310.row_say (i := 1) rfl (by rw [take_tab (by omega)]) (by rw [take_tab (by omega)])), by omega⟩, by omega⟩
  ·skip
   rw [decide_eq_false hb190] at hA189
   refine c_false hA189 rfl ?_
   refine c_exit ?_
   refine then_exit ?_
   refine then_exit ?_
   refine blk_hit ?_
   refine then_n ?_
   refine c_seq ?_
   have hA311 := hA189.as [(3, (bptr b20 0)), (2, (bptr b9 0))] rfl; clear hA189
   refine c_region ?_
   refine st hA311 (op_loadA rfl ty_37 (hA311.ev rfl) (hS179.bk 3 rfl) (l := [(Value.int .i64 b.scales), vt_, vm_]) rfl rfl) rfl rfl (by decide) fun a312 hA313 => ?_; clear hA311 a188
   refine sts hA313 (op_store hS179 rfl ty_37 (hA313.ev rfl) (hA313.ev rfl) (i := 4) rfl (vs := [(Value.int .i64 b.scales), vt_, vm_]) rfl rfl (all_c rfl (all_c ((tabs_at (hS179.ok 2 _ rfl)).tabs.one) (all_c (SlAt.one (SlAt.of_row (hS179.ok_row 1 rfl))) all_n))) (Nat.le_of_ble_eq_true rfl)) rfl rfl ?_
   intro _ w314 hS315 hA316; clear hA313
   have hS317 : Sep NoB w w314 [(slsR true ((b.macs.take m).length) lk_ 3 (blkN (b.macs.take m)) (blkC (b.macs.take m))), (row vm_ 103 2 ((b.macs.take m).length) (macsC lk_ (b.macs.take m))), (tabsR true vt_ lr_ lb_ b.tabs), (blk b20 37 [(Value.int .i64 b.scales), vt_, vm_]), (blk b9 37 [(Value.int .i64 b.scales), vt_, vm_]), (blk b4 25 [(Value.int .i64 b.scales), vt, vm]), (tabsR false vt lr lb b.tabs), (macsR false vm lk b.macs)] := hS315; clear hS315 hS179
   refine wl_nil ?_
   refine then_n ?_
   refine c_ret ?_
   refine fin_run hA316 (.inl rfl) (run_results1 hA316 rfl (.cellA rfl ty_37 (hS317.bk 4 rfl) (l := [(Value.int .i64 b.scales), vt_, vm_]) rfl rfl)) ?_
   have hS318 : Sep NoB w w314 [(row vm_ 103 2 ((b.macs.take m).length) (macsC lk_ (b.macs.take m))), (slsR true ((b.macs.take m).length) lk_ 3 (blkN (b.macs.take m)) (blkC (b.macs.take m))), (tabsR true vt_ lr_ lb_ b.tabs)] := hS317.keep [1, 0, 2] (by decide) _ rfl rfl; clear hS317
   have hmt : m = b.macs.length := by omega
   have hz := hS318
   rw [hmt, List.take_length] at hz
   exact ⟨_, _, _, _, _, rfl, (sep_macs_join hz).keep [1, 0] (by decide) _ rfl rfl⟩
end Go.Proofs.Ytohgladndklciaa

namespace Go.Hard
def keptB : BookD := ⟨3, [⟨0, 1, [(100, 200), (200, 300), (300, 500), (400, 600)], [2], 2⟩, ⟨1, 2, [(250, 90), (350, 50)], [], 0⟩], [⟨0, [(150, 154, 160), (240, 246, 249)]⟩, ⟨1, [(300, 300, 299)]⟩]⟩
open Go.RowKit Go.Eng in
theorem kept_tabsC (a b c d : Value) : tabsC (putV 1 (putV 0 (fun _ => Value.slice none 0 0) a) c) (putV 1 (putV 0 (fun _ => Value.slice none 0 0) b) d) keptB.tabs = [.int .i64 0, .int .i64 1, a, b, .int .i64 2, .int .i64 1, .int .i64 2, c, d, .int .i64 0] := rfl
open Go.RowKit Go.Eng in
theorem kept_macsC (a b : Value) : macsC (putV 1 (putV 0 (fun _ => Value.slice none 0 0) a) b) keptB.macs = [.int .i64 0, a, .int .i64 1, b] := rfl
theorem kept_thin : ThinB keptB := (thin_iff (n := 0)).1 (by decide) |>.1
theorem kept_read : readF keptB [(0, 170)] = 0 := by decide
theorem kept_spans : spansF keptB [(0, 170)] = some [(161, 164), (259, 266), (83, 87)] := by
  unfold spansF
  rw [if_pos (by decide)]
  show spansK 3 _ (400000 + 1) _ = _
  rw [spansK, if_pos (by decide), if_neg (by decide)]
  show spansK 3 _ (399999 + 1) _ = _
  rw [spansK, if_pos (by decide), if_pos (by decide)]
  decide
end Go.Hard
