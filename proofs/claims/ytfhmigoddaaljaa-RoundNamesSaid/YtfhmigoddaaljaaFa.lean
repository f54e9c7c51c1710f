/-
  Walks through the functions of the seat, printed by a program of ours (gowalk), a theorem a function: what the call returns and what it leaves in memory.
-/
import Derived.Test.YtfhmigoddaaljaaProg
import Derived.Shelf.Abstract
import Derived.Test.YtfhmigoddaaljaaPlain
set_option linter.unusedSimpArgs false
set_option linter.unusedVariables false
namespace Go.Proofs.Ytfhmigoddaaljaa
open Go.RowKit Go.Shelf Go.Eng
theorem sep_sl {X : Nat → Prop} {w : World} {v : Value} {sz n : Nat} {cs : List Value} (h : SlAt w v sz n cs) : Sep X w w [sl v sz n cs] :=
 (Sep.start X w).fact rfl h (fun _ _ i s hi => by simp at hi)
theorem fill_one_23 (u : Value) (h : IsSl u) : Instr.fill (fun i => some (i * 1, 1)) ((Array.range (1 * 1)).map ((Value.slice none 0 0).cells[· % (Value.slice none 0 0).cells.size]!)) [(0, u)] = some [u].toArray := by obtain ⟨A, B, C, rfl⟩ := h; kernel_rfl
theorem fd_46_0 : fldK Try.prog 46 0 = some 0 := by kernel_rfl
theorem ty_3 : tyK Try.prog 3 = some (false, 1) := by kernel_rfl
theorem fd_46_1 : fldK Try.prog 46 1 = some 1 := by kernel_rfl
theorem en_44 : ∀ args w, (callFunc 44 args).run Try.prog w = .ok (.enter 44 args) w := enters_of Try.func44 (by kernel_rfl) rfl
theorem ze_46 : (Try.prog.info? 46).bind (·.zero) = some (Value.agg #[(Value.int .i64 0), (Value.int .i64 0)]) := by kernel_rfl
theorem bd_46_0i_1i (x0_0 : Int) (x1_0 : Int) (w : World) : (Instr.build 46 #[(0, (.int .i64 x0_0)), (1, (.int .i64 x1_0))]).run Try.prog w = .ok (.agg #[(.int .i64 x0_0), (.int .i64 x1_0)]) w := by kernel_rfl
theorem ty_46 : tyK Try.prog 46 = some (true, 2) := by kernel_rfl
theorem ze_94 : (Try.prog.info? 94).bind (·.zero) = some (Value.agg #[(Value.int .i64 0), (Value.int .i64 0)]) := by kernel_rfl
theorem bd_94_0i_1i (x0_0 : Int) (x1_0 : Int) (w : World) : (Instr.build 94 #[(0, (.int .i64 x0_0)), (1, (.int .i64 x1_0))]).run Try.prog w = .ok (.agg #[(.int .i64 x0_0), (.int .i64 x1_0)]) w := by kernel_rfl
theorem ty_94 : tyK Try.prog 94 = some (true, 2) := by kernel_rfl
theorem un_23 : Try.prog.underlying 23 = some (.slice 3) := by kernel_rfl
theorem en_81 : ∀ args w, (callFunc 81 args).run Try.prog w = .ok (.enter 81 args) w := enters_of Try.func81 (by kernel_rfl) rfl
theorem en_94 : ∀ args w, (callFunc 94 args).run Try.prog w = .ok (.enter 94 args) w := enters_of Try.func94 (by kernel_rfl) rfl
theorem bd_124_0f (x0_0 : Fn) (x0_0a x0_0b : Array Value) (w : World) : (Instr.build 124 #[(0, (.func x0_0 x0_0a x0_0b))]).run Try.prog w = .ok (.agg #[(.func x0_0 x0_0a x0_0b)]) w := by kernel_rfl
theorem ze_124 : (Try.prog.info? 124).bind (·.zero) = some (Value.agg #[Value.nilFunc]) := by kernel_rfl
theorem ty_124 : tyK Try.prog 124 = some (true, 1) := by kernel_rfl
theorem fd_124_0 : fldK Try.prog 124 0 = some 0 := by kernel_rfl
theorem ty_121 : tyK Try.prog 121 = some (false, 1) := by kernel_rfl
theorem ze_3 : (Try.prog.info? 3).bind (·.zero) = some (Value.int .i64 0) := by kernel_rfl
theorem mixed : Try.prog.follows .mixedOrders = true := by kernel_rfl
theorem en_90 : ∀ args w, (callFunc 90 args).run Try.prog w = .ok (.enter 90 args) w := enters_of Try.func90 (by kernel_rfl) rfl
theorem bs_3_2_0i_1i (x0_0 : Int) (x1_0 : Int) : Instr.fill (fun i => some (i * 1, 1)) ((Array.range (2 * 1)).map ((Value.int .i64 0).cells[· % (Value.int .i64 0).cells.size]!)) [(0, (.int .i64 x0_0)), (1, (.int .i64 x1_0))] = some (([(.int .i64 x0_0), (.int .i64 x1_0)] : List Value).toArray) := by kernel_rfl
theorem en_92 : ∀ args w, (callFunc 92 args).run Try.prog w = .ok (.enter 92 args) w := enters_of Try.func92 (by kernel_rfl) rfl
theorem en_91 : ∀ args w, (callFunc 91 args).run Try.prog w = .ok (.enter 91 args) w := enters_of Try.func91 (by kernel_rfl) rfl
theorem en_60 : ∀ args w, (callFunc 60 args).run Try.prog w = .ok (.enter 60 args) w := enters_of Try.func60 (by kernel_rfl) rfl
theorem en_86 : ∀ args w, (callFunc 86 args).run Try.prog w = .ok (.enter 86 args) w := enters_of Try.func86 (by kernel_rfl) rfl
theorem ty_77 : tyK Try.prog 77 = some (false, 1) := by kernel_rfl
theorem en_68 : ∀ args w, (callFunc 68 args).run Try.prog w = .ok (.enter 68 args) w := enters_of Try.func68 (by kernel_rfl) rfl
theorem en_67 : ∀ args w, (callFunc 67 args).run Try.prog w = .ok (.enter 67 args) w := enters_of Try.func67 (by kernel_rfl) rfl
theorem un_31 : Try.prog.underlying 31 = some (.slice 46) := by kernel_rfl
theorem en_85 : ∀ args w, (callFunc 85 args).run Try.prog w = .ok (.enter 85 args) w := enters_of Try.func85 (by kernel_rfl) rfl
theorem ty_79 : tyK Try.prog 79 = some (false, 1) := by kernel_rfl
theorem en_66 : ∀ args w, (callFunc 66 args).run Try.prog w = .ok (.enter 66 args) w := enters_of Try.func66 (by kernel_rfl) rfl
theorem en_65 : ∀ args w, (callFunc 65 args).run Try.prog w = .ok (.enter 65 args) w := enters_of Try.func65 (by kernel_rfl) rfl
theorem un_32 : Try.prog.underlying 32 = some (.slice 75) := by kernel_rfl
theorem ty_75 : tyK Try.prog 75 = some (true, 2) := by kernel_rfl
theorem en_87 : ∀ args w, (callFunc 87 args).run Try.prog w = .ok (.enter 87 args) w := enters_of Try.func87 (by kernel_rfl) rfl
theorem ty_82 : tyK Try.prog 82 = some (false, 1) := by kernel_rfl
theorem en_70 : ∀ args w, (callFunc 70 args).run Try.prog w = .ok (.enter 70 args) w := enters_of Try.func70 (by kernel_rfl) rfl
theorem en_69 : ∀ args w, (callFunc 69 args).run Try.prog w = .ok (.enter 69 args) w := enters_of Try.func69 (by kernel_rfl) rfl
theorem un_51 : Try.prog.underlying 51 = some (.slice 23) := by kernel_rfl
theorem ty_23 : tyK Try.prog 23 = some (false, 1) := by kernel_rfl
theorem en_93 : ∀ args w, (callFunc 93 args).run Try.prog w = .ok (.enter 93 args) w := enters_of Try.func93 (by kernel_rfl) rfl
theorem ty_103 : tyK Try.prog 103 = some (false, 1) := by kernel_rfl
theorem en_83 : ∀ args w, (callFunc 83 args).run Try.prog w = .ok (.enter 83 args) w := enters_of Try.func83 (by kernel_rfl) rfl
theorem en_82 : ∀ args w, (callFunc 82 args).run Try.prog w = .ok (.enter 82 args) w := enters_of Try.func82 (by kernel_rfl) rfl
theorem fd_34_0 : fldK Try.prog 34 0 = some 0 := by kernel_rfl
theorem ty_31 : tyK Try.prog 31 = some (false, 1) := by kernel_rfl
theorem fd_75_0 : fldK Try.prog 75 0 = some 0 := by kernel_rfl
theorem en_48 : ∀ args w, (callFunc 48 args).run Try.prog w = .ok (.enter 48 args) w := enters_of Try.func48 (by kernel_rfl) rfl
theorem fd_75_1 : fldK Try.prog 75 1 = some 1 := by kernel_rfl
theorem fd_34_1 : fldK Try.prog 34 1 = some 1 := by kernel_rfl
theorem en_71 : ∀ args w, (callFunc 71 args).run Try.prog w = .ok (.enter 71 args) w := enters_of Try.func71 (by kernel_rfl) rfl
theorem en_47 : ∀ args w, (callFunc 47 args).run Try.prog w = .ok (.enter 47 args) w := enters_of Try.func47 (by kernel_rfl) rfl
theorem fd_34_3 : fldK Try.prog 34 3 = some 3 := by kernel_rfl
theorem ty_32 : tyK Try.prog 32 = some (false, 1) := by kernel_rfl
theorem en_46 : ∀ args w, (callFunc 46 args).run Try.prog w = .ok (.enter 46 args) w := enters_of Try.func46 (by kernel_rfl) rfl
theorem en_45 : ∀ args w, (callFunc 45 args).run Try.prog w = .ok (.enter 45 args) w := enters_of Try.func45 (by kernel_rfl) rfl
theorem en_43 : ∀ args w, (callFunc 43 args).run Try.prog w = .ok (.enter 43 args) w := enters_of Try.func43 (by kernel_rfl) rfl
theorem fd_34_2 : fldK Try.prog 34 2 = some 2 := by kernel_rfl
theorem ty_34 : tyK Try.prog 34 = some (true, 4) := by kernel_rfl
theorem en_50 : ∀ args w, (callFunc 50 args).run Try.prog w = .ok (.enter 50 args) w := enters_of Try.func50 (by kernel_rfl) rfl
theorem en_49 : ∀ args w, (callFunc 49 args).run Try.prog w = .ok (.enter 49 args) w := enters_of Try.func49 (by kernel_rfl) rfl
theorem en_19 : ∀ args w, (callFunc 19 args).run Try.prog w = .ok (.enter 19 args) w := enters_of Try.func19 (by kernel_rfl) rfl
theorem bd_107_0vviva_1m (x0_0 : Value) (x0_1 : Value) (x0_2 : Int) (x0_3 : Value) (x1_0 : Option Nat) (w : World) : (Instr.build 107 #[(0, .agg #[x0_0, x0_1, (.int .i64 x0_2), x0_3]), (1, (.map x1_0))]).run Try.prog w = .ok (.agg #[x0_0, x0_1, (.int .i64 x0_2), x0_3, (.map x1_0)]) w := by kernel_rfl
theorem ze_85 : (Try.prog.info? 85).bind (·.zero) = some (Value.agg #[(Value.bool false), (Value.bool false), (Value.bool false), (Value.bool false), (Value.bool false), (Value.bool false)]) := by kernel_rfl
theorem en_57 : ∀ args w, (callFunc 57 args).run Try.prog w = .ok (.enter 57 args) w := enters_of Try.func57 (by kernel_rfl) rfl
theorem bd_85_  (w : World) : (Instr.build 85 #[]).run Try.prog w = .ok (.agg #[(Value.bool false), (Value.bool false), (Value.bool false), (Value.bool false), (Value.bool false), (Value.bool false)]) w := by kernel_rfl
theorem ty_85 : tyK Try.prog 85 = some (true, 6) := by kernel_rfl
theorem un_85 : Try.prog.underlying 85 = some (.array 6 4) := by kernel_rfl
theorem ty_4 : tyK Try.prog 4 = some (false, 1) := by kernel_rfl
theorem ty_83 : tyK Try.prog 83 = some (false, 1) := by kernel_rfl
theorem fd_107_0 : fldK Try.prog 107 0 = some 0 := by kernel_rfl
theorem ze_75 : (Try.prog.info? 75).bind (·.zero) = some (Value.agg #[(Value.int .i64 0), (Value.slice none 0 0)]) := by kernel_rfl
theorem fd_94_0 : fldK Try.prog 94 0 = some 0 := by kernel_rfl
theorem fd_94_1 : fldK Try.prog 94 1 = some 1 := by kernel_rfl
theorem en_77 : ∀ args w, (callFunc 77 args).run Try.prog w = .ok (.enter 77 args) w := enters_of Try.func77 (by kernel_rfl) rfl
theorem bs_46_0_  : Instr.fill (fun i => some (i * 2, 2)) ((Array.range (0 * 2)).map ((Value.agg #[(Value.int .i64 0), (Value.int .i64 0)]).cells[· % (Value.agg #[(Value.int .i64 0), (Value.int .i64 0)]).cells.size]!)) [] = some (([] : List Value).toArray) := by kernel_rfl
theorem el_46 : elK Try.prog 46 = some ((Value.agg #[(Value.int .i64 0), (Value.int .i64 0)]), 2, 16) := by kernel_rfl
theorem bs_3_0_  : Instr.fill (fun i => some (i * 1, 1)) ((Array.range (0 * 1)).map ((Value.int .i64 0).cells[· % (Value.int .i64 0).cells.size]!)) [] = some (([] : List Value).toArray) := by kernel_rfl
theorem el_3 : elK Try.prog 3 = some ((Value.int .i64 0), 1, 8) := by kernel_rfl
theorem en_73 : ∀ args w, (callFunc 73 args).run Try.prog w = .ok (.enter 73 args) w := enters_of Try.func73 (by kernel_rfl) rfl
theorem en_74 : ∀ args w, (callFunc 74 args).run Try.prog w = .ok (.enter 74 args) w := enters_of Try.func74 (by kernel_rfl) rfl
theorem en_89 : ∀ args w, (callFunc 89 args).run Try.prog w = .ok (.enter 89 args) w := enters_of Try.func89 (by kernel_rfl) rfl
theorem en_75 : ∀ args w, (callFunc 75 args).run Try.prog w = .ok (.enter 75 args) w := enters_of Try.func75 (by kernel_rfl) rfl
theorem en_76 : ∀ args w, (callFunc 76 args).run Try.prog w = .ok (.enter 76 args) w := enters_of Try.func76 (by kernel_rfl) rfl
theorem bs_46_1_0iia (x0_0 : Int) (x0_1 : Int) : Instr.fill (fun i => some (i * 2, 2)) ((Array.range (1 * 2)).map ((Value.agg #[(Value.int .i64 0), (Value.int .i64 0)]).cells[· % (Value.agg #[(Value.int .i64 0), (Value.int .i64 0)]).cells.size]!)) [(0, .agg #[(.int .i64 x0_0), (.int .i64 x0_1)])] = some (([(.int .i64 x0_0), (.int .i64 x0_1)] : List Value).toArray) := by kernel_rfl
theorem un_4 : Try.prog.underlying 4 = some .bool := by kernel_rfl
theorem fd_107_1 : fldK Try.prog 107 1 = some 4 := by kernel_rfl
theorem ty_105 : tyK Try.prog 105 = some (false, 1) := by kernel_rfl
theorem ze_4 : (Try.prog.info? 4).bind (·.zero) = some (Value.bool false) := by kernel_rfl
theorem un_105 : Try.prog.underlying 105 = some (.map 85 4) := by kernel_rfl
theorem en_55 : ∀ args w, (callFunc 55 args).run Try.prog w = .ok (.enter 55 args) w := enters_of Try.func55 (by kernel_rfl) rfl
theorem en_54 : ∀ args w, (callFunc 54 args).run Try.prog w = .ok (.enter 54 args) w := enters_of Try.func54 (by kernel_rfl) rfl
theorem en_51 : ∀ args w, (callFunc 51 args).run Try.prog w = .ok (.enter 51 args) w := enters_of Try.func51 (by kernel_rfl) rfl
theorem en_52 : ∀ args w, (callFunc 52 args).run Try.prog w = .ok (.enter 52 args) w := enters_of Try.func52 (by kernel_rfl) rfl
theorem ty_88 : tyK Try.prog 88 = some (false, 1) := by kernel_rfl
theorem ty_51 : tyK Try.prog 51 = some (false, 1) := by kernel_rfl
theorem en_79 : ∀ args w, (callFunc 79 args).run Try.prog w = .ok (.enter 79 args) w := enters_of Try.func79 (by kernel_rfl) rfl
theorem ze_23 : (Try.prog.info? 23).bind (·.zero) = some (Value.slice none 0 0) := by kernel_rfl
theorem el_23 : elK Try.prog 23 = some ((Value.slice none 0 0), 1, 24) := by kernel_rfl
theorem ty_114 : tyK Try.prog 114 = some (false, 1) := by kernel_rfl
theorem bs_3_1_0i (x0_0 : Int) : Instr.fill (fun i => some (i * 1, 1)) ((Array.range (1 * 1)).map ((Value.int .i64 0).cells[· % (Value.int .i64 0).cells.size]!)) [(0, (.int .i64 x0_0))] = some (([(.int .i64 x0_0)] : List Value).toArray) := by kernel_rfl
theorem en_78 : ∀ args w, (callFunc 78 args).run Try.prog w = .ok (.enter 78 args) w := enters_of Try.func78 (by kernel_rfl) rfl
theorem ze_51 : (Try.prog.info? 51).bind (·.zero) = some (Value.slice none 0 0) := by kernel_rfl
theorem ze_88 : (Try.prog.info? 88).bind (·.zero) = some Value.nilFunc := by kernel_rfl
theorem ze_114 : (Try.prog.info? 114).bind (·.zero) = some Value.nilFunc := by kernel_rfl
theorem en_84 : ∀ args w, (callFunc 84 args).run Try.prog w = .ok (.enter 84 args) w := enters_of Try.func84 (by kernel_rfl) rfl
theorem en_64 : ∀ args w, (callFunc 64 args).run Try.prog w = .ok (.enter 64 args) w := enters_of Try.func64 (by kernel_rfl) rfl
theorem en_58 : ∀ args w, (callFunc 58 args).run Try.prog w = .ok (.enter 58 args) w := enters_of Try.func58 (by kernel_rfl) rfl
theorem en_63 : ∀ args w, (callFunc 63 args).run Try.prog w = .ok (.enter 63 args) w := enters_of Try.func63 (by kernel_rfl) rfl
theorem en_62 : ∀ args w, (callFunc 62 args).run Try.prog w = .ok (.enter 62 args) w := enters_of Try.func62 (by kernel_rfl) rfl
theorem tw_46 : twoInts Try.prog 46 = true := by kernel_rfl
theorem bd_46_  (w : World) : (Instr.build 46 #[]).run Try.prog w = .ok (.agg #[(Value.int .i64 0), (Value.int .i64 0)]) w := by kernel_rfl
theorem ze_34 : (Try.prog.info? 34).bind (·.zero) = some (Value.agg #[(Value.slice none 0 0), (Value.slice none 0 0), (Value.int .i64 0), (Value.slice none 0 0)]) := by kernel_rfl
theorem bs_46_2_0iia_1iia (x0_0 : Int) (x0_1 : Int) (x1_0 : Int) (x1_1 : Int) : Instr.fill (fun i => some (i * 2, 2)) ((Array.range (2 * 2)).map ((Value.agg #[(Value.int .i64 0), (Value.int .i64 0)]).cells[· % (Value.agg #[(Value.int .i64 0), (Value.int .i64 0)]).cells.size]!)) [(0, .agg #[(.int .i64 x0_0), (.int .i64 x0_1)]), (1, .agg #[(.int .i64 x1_0), (.int .i64 x1_1)])] = some (([(.int .i64 x0_0), (.int .i64 x0_1), (.int .i64 x1_0), (.int .i64 x1_1)] : List Value).toArray) := by kernel_rfl
theorem bs_3_3_0i_1i_2i (x0_0 : Int) (x1_0 : Int) (x2_0 : Int) : Instr.fill (fun i => some (i * 1, 1)) ((Array.range (3 * 1)).map ((Value.int .i64 0).cells[· % (Value.int .i64 0).cells.size]!)) [(0, (.int .i64 x0_0)), (1, (.int .i64 x1_0)), (2, (.int .i64 x2_0))] = some (([(.int .i64 x0_0), (.int .i64 x1_0), (.int .i64 x2_0)] : List Value).toArray) := by kernel_rfl
theorem bd_75_0i_1s (x0_0 : Int) (x1_0 : Value) (hx1_0 : IsSl x1_0) (w : World) : (Instr.build 75 #[(0, (.int .i64 x0_0)), (1, x1_0)]).run Try.prog w = .ok (.agg #[(.int .i64 x0_0), x1_0]) w := by obtain ⟨Ax1_0, Bx1_0, Cx1_0, rfl⟩ := hx1_0; kernel_rfl
theorem bs_75_4_0iva_1iva_2iva_3iva (x0_0 : Int) (x0_1 : Value) (x1_0 : Int) (x1_1 : Value) (x2_0 : Int) (x2_1 : Value) (x3_0 : Int) (x3_1 : Value) : Instr.fill (fun i => some (i * 2, 2)) ((Array.range (4 * 2)).map ((Value.agg #[(Value.int .i64 0), (Value.slice none 0 0)]).cells[· % (Value.agg #[(Value.int .i64 0), (Value.slice none 0 0)]).cells.size]!)) [(0, .agg #[(.int .i64 x0_0), x0_1]), (1, .agg #[(.int .i64 x1_0), x1_1]), (2, .agg #[(.int .i64 x2_0), x2_1]), (3, .agg #[(.int .i64 x3_0), x3_1])] = some (([(.int .i64 x0_0), x0_1, (.int .i64 x1_0), x1_1, (.int .i64 x2_0), x2_1, (.int .i64 x3_0), x3_1] : List Value).toArray) := by kernel_rfl
theorem bd_34_0s_1s_2i_3s (x0_0 : Value) (hx0_0 : IsSl x0_0) (x1_0 : Value) (hx1_0 : IsSl x1_0) (x2_0 : Int) (x3_0 : Value) (hx3_0 : IsSl x3_0) (w : World) : (Instr.build 34 #[(0, x0_0), (1, x1_0), (2, (.int .i64 x2_0)), (3, x3_0)]).run Try.prog w = .ok (.agg #[x0_0, x1_0, (.int .i64 x2_0), x3_0]) w := by obtain ⟨Ax0_0, Bx0_0, Cx0_0, rfl⟩ := hx0_0; obtain ⟨Ax1_0, Bx1_0, Cx1_0, rfl⟩ := hx1_0; obtain ⟨Ax3_0, Bx3_0, Cx3_0, rfl⟩ := hx3_0; kernel_rfl
theorem en_40 : ∀ args w, (callFunc 40 args).run Try.prog w = .ok (.enter 40 args) w := enters_of Try.func40 (by kernel_rfl) rfl
theorem en_21 : ∀ args w, (callFunc 21 args).run Try.prog w = .ok (.enter 21 args) w := enters_of Try.func21 (by kernel_rfl) rfl
theorem en_26 : ∀ args w, (callFunc 26 args).run Try.prog w = .ok (.enter 26 args) w := enters_of Try.func26 (by kernel_rfl) rfl
theorem en_29 : ∀ args w, (callFunc 29 args).run Try.prog w = .ok (.enter 29 args) w := enters_of Try.func29 (by kernel_rfl) rfl
theorem en_32 : ∀ args w, (callFunc 32 args).run Try.prog w = .ok (.enter 32 args) w := enters_of Try.func32 (by kernel_rfl) rfl
theorem en_30 : ∀ args w, (callFunc 30 args).run Try.prog w = .ok (.enter 30 args) w := enters_of Try.func30 (by kernel_rfl) rfl
theorem fd_26_3 : fldK Try.prog 26 3 = some 3 := by kernel_rfl
theorem ty_24 : tyK Try.prog 24 = some (false, 1) := by kernel_rfl
theorem un_24 : Try.prog.underlying 24 = some (.slice 62) := by kernel_rfl
theorem ty_62 : tyK Try.prog 62 = some (true, 2) := by kernel_rfl
theorem fd_62_1 : fldK Try.prog 62 1 = some 1 := by kernel_rfl
theorem fd_26_0 : fldK Try.prog 26 0 = some 0 := by kernel_rfl
theorem ty_22 : tyK Try.prog 22 = some (false, 1) := by kernel_rfl
theorem un_22 : Try.prog.underlying 22 = some (.slice 44) := by kernel_rfl
theorem fd_26_1 : fldK Try.prog 26 1 = some 1 := by kernel_rfl
theorem fd_26_2 : fldK Try.prog 26 2 = some 2 := by kernel_rfl
theorem en_33 : ∀ args w, (callFunc 33 args).run Try.prog w = .ok (.enter 33 args) w := enters_of Try.func33 (by kernel_rfl) rfl
theorem ty_44 : tyK Try.prog 44 = some (true, 2) := by kernel_rfl
theorem fd_44_0 : fldK Try.prog 44 0 = some 0 := by kernel_rfl
theorem fd_44_1 : fldK Try.prog 44 1 = some 1 := by kernel_rfl
theorem ze_62 : (Try.prog.info? 62).bind (·.zero) = some (Value.agg #[(Value.int .i64 0), (Value.slice none 0 0)]) := by kernel_rfl
theorem fd_62_0 : fldK Try.prog 62 0 = some 0 := by kernel_rfl
theorem ty_26 : tyK Try.prog 26 = some (true, 4) := by kernel_rfl
theorem en_28 : ∀ args w, (callFunc 28 args).run Try.prog w = .ok (.enter 28 args) w := enters_of Try.func28 (by kernel_rfl) rfl
theorem en_42 : ∀ args w, (callFunc 42 args).run Try.prog w = .ok (.enter 42 args) w := enters_of Try.func42 (by kernel_rfl) rfl
theorem en_39 : ∀ args w, (callFunc 39 args).run Try.prog w = .ok (.enter 39 args) w := enters_of Try.func39 (by kernel_rfl) rfl
theorem en_56 : ∀ args w, (callFunc 56 args).run Try.prog w = .ok (.enter 56 args) w := enters_of Try.func56 (by kernel_rfl) rfl
theorem en_88 : ∀ args w, (callFunc 88 args).run Try.prog w = .ok (.enter 88 args) w := enters_of Try.func88 (by kernel_rfl) rfl
theorem en_72 : ∀ args w, (callFunc 72 args).run Try.prog w = .ok (.enter 72 args) w := enters_of Try.func72 (by kernel_rfl) rfl
theorem bs_23_1_0s (x0_0 : Value) (hx0_0 : IsSl x0_0) : Instr.fill (fun i => some (i * 1, 1)) ((Array.range (1 * 1)).map ((Value.slice none 0 0).cells[· % (Value.slice none 0 0).cells.size]!)) [(0, x0_0)] = some (([x0_0] : List Value).toArray) := by obtain ⟨Ax0_0, Bx0_0, Cx0_0, rfl⟩ := hx0_0; kernel_rfl
theorem en_53 : ∀ args w, (callFunc 53 args).run Try.prog w = .ok (.enter 53 args) w := enters_of Try.func53 (by kernel_rfl) rfl
theorem bd_34_1s_2i (x0_0 : Value) (hx0_0 : IsSl x0_0) (x1_0 : Int) (w : World) : (Instr.build 34 #[(1, x0_0), (2, (.int .i64 x1_0))]).run Try.prog w = .ok (.agg #[(Value.slice none 0 0), x0_0, (.int .i64 x1_0), (Value.slice none 0 0)]) w := by obtain ⟨Ax0_0, Bx0_0, Cx0_0, rfl⟩ := hx0_0; kernel_rfl
theorem en_22 : ∀ args w, (callFunc 22 args).run Try.prog w = .ok (.enter 22 args) w := enters_of Try.func22 (by kernel_rfl) rfl
theorem bs_75_1_0iva (x0_0 : Int) (x0_1 : Value) : Instr.fill (fun i => some (i * 2, 2)) ((Array.range (1 * 2)).map ((Value.agg #[(Value.int .i64 0), (Value.slice none 0 0)]).cells[· % (Value.agg #[(Value.int .i64 0), (Value.slice none 0 0)]).cells.size]!)) [(0, .agg #[(.int .i64 x0_0), x0_1])] = some (([(.int .i64 x0_0), x0_1] : List Value).toArray) := by kernel_rfl
theorem el_75 : elK Try.prog 75 = some ((Value.agg #[(Value.int .i64 0), (Value.slice none 0 0)]), 2, 32) := by kernel_rfl
theorem en_17 : ∀ args w, (callFunc 17 args).run Try.prog w = .ok (.enter 17 args) w := enters_of Try.func17 (by kernel_rfl) rfl
theorem en_18 : ∀ args w, (callFunc 18 args).run Try.prog w = .ok (.enter 18 args) w := enters_of Try.func18 (by kernel_rfl) rfl
theorem en_20 : ∀ args w, (callFunc 20 args).run Try.prog w = .ok (.enter 20 args) w := enters_of Try.func20 (by kernel_rfl) rfl
theorem en_23 : ∀ args w, (callFunc 23 args).run Try.prog w = .ok (.enter 23 args) w := enters_of Try.func23 (by kernel_rfl) rfl
theorem en_24 : ∀ args w, (callFunc 24 args).run Try.prog w = .ok (.enter 24 args) w := enters_of Try.func24 (by kernel_rfl) rfl
theorem en_25 : ∀ args w, (callFunc 25 args).run Try.prog w = .ok (.enter 25 args) w := enters_of Try.func25 (by kernel_rfl) rfl
theorem en_34 : ∀ args w, (callFunc 34 args).run Try.prog w = .ok (.enter 34 args) w := enters_of Try.func34 (by kernel_rfl) rfl
theorem un_3 : Try.prog.underlying 3 = some (.int .i64) := by kernel_rfl
theorem un_71 : Try.prog.underlying 71 = some (.int .u64) := by kernel_rfl
theorem en_35 : ∀ args w, (callFunc 35 args).run Try.prog w = .ok (.enter 35 args) w := enters_of Try.func35 (by kernel_rfl) rfl
theorem en_36 : ∀ args w, (callFunc 36 args).run Try.prog w = .ok (.enter 36 args) w := enters_of Try.func36 (by kernel_rfl) rfl
theorem ze_44 : (Try.prog.info? 44).bind (·.zero) = some (Value.agg #[(Value.int .i64 0), (Value.int .i64 0)]) := by kernel_rfl
theorem bd_44_0i_1i (x0_0 : Int) (x1_0 : Int) (w : World) : (Instr.build 44 #[(0, (.int .i64 x0_0)), (1, (.int .i64 x1_0))]).run Try.prog w = .ok (.agg #[(.int .i64 x0_0), (.int .i64 x1_0)]) w := by kernel_rfl
theorem en_27 : ∀ args w, (callFunc 27 args).run Try.prog w = .ok (.enter 27 args) w := enters_of Try.func27 (by kernel_rfl) rfl
theorem un_68 : Try.prog.underlying 68 = some (.slice 59) := by kernel_rfl
theorem ty_59 : tyK Try.prog 59 = some (false, 1) := by kernel_rfl
theorem un_59 : Try.prog.underlying 59 = some (.int .u16) := by kernel_rfl
theorem en_61 : ∀ args w, (callFunc 61 args).run Try.prog w = .ok (.enter 61 args) w := enters_of Try.func61 (by kernel_rfl) rfl
theorem ze_26 : (Try.prog.info? 26).bind (·.zero) = some (Value.agg #[(Value.slice none 0 0), (Value.slice none 0 0), (Value.int .i64 0), (Value.slice none 0 0)]) := by kernel_rfl
theorem en_41 : ∀ args w, (callFunc 41 args).run Try.prog w = .ok (.enter 41 args) w := enters_of Try.func41 (by kernel_rfl) rfl
theorem bd_62_0i (x0_0 : Int) (w : World) : (Instr.build 62 #[(0, (.int .i64 x0_0))]).run Try.prog w = .ok (.agg #[(.int .i64 x0_0), (Value.slice none 0 0)]) w := by kernel_rfl
theorem bs_62_1_0iva (x0_0 : Int) (x0_1 : Value) : Instr.fill (fun i => some (i * 2, 2)) ((Array.range (1 * 2)).map ((Value.agg #[(Value.int .i64 0), (Value.slice none 0 0)]).cells[· % (Value.agg #[(Value.int .i64 0), (Value.slice none 0 0)]).cells.size]!)) [(0, .agg #[(.int .i64 x0_0), x0_1])] = some (([(.int .i64 x0_0), x0_1] : List Value).toArray) := by kernel_rfl
theorem el_62 : elK Try.prog 62 = some ((Value.agg #[(Value.int .i64 0), (Value.slice none 0 0)]), 2, 32) := by kernel_rfl
theorem un_5 : Try.prog.underlying 5 = some (.int .u8) := by kernel_rfl
theorem un_69 : Try.prog.underlying 69 = some (.int .i16) := by kernel_rfl
theorem en_37 : ∀ args w, (callFunc 37 args).run Try.prog w = .ok (.enter 37 args) w := enters_of Try.func37 (by kernel_rfl) rfl
theorem en_38 : ∀ args w, (callFunc 38 args).run Try.prog w = .ok (.enter 38 args) w := enters_of Try.func38 (by kernel_rfl) rfl
theorem bd_26_1s_2i (x0_0 : Value) (hx0_0 : IsSl x0_0) (x1_0 : Int) (w : World) : (Instr.build 26 #[(1, x0_0), (2, (.int .i64 x1_0))]).run Try.prog w = .ok (.agg #[(Value.slice none 0 0), x0_0, (.int .i64 x1_0), (Value.slice none 0 0)]) w := by obtain ⟨Ax0_0, Bx0_0, Cx0_0, rfl⟩ := hx0_0; kernel_rfl
theorem bs_44_1_0iia (x0_0 : Int) (x0_1 : Int) : Instr.fill (fun i => some (i * 2, 2)) ((Array.range (1 * 2)).map ((Value.agg #[(Value.int .i64 0), (Value.int .i64 0)]).cells[· % (Value.agg #[(Value.int .i64 0), (Value.int .i64 0)]).cells.size]!)) [(0, .agg #[(.int .i64 x0_0), (.int .i64 x0_1)])] = some (([(.int .i64 x0_0), (.int .i64 x0_1)] : List Value).toArray) := by kernel_rfl
theorem el_44 : elK Try.prog 44 = some ((Value.agg #[(Value.int .i64 0), (Value.int .i64 0)]), 2, 16) := by kernel_rfl
theorem bd_62_0i_1s (x0_0 : Int) (x1_0 : Value) (hx1_0 : IsSl x1_0) (w : World) : (Instr.build 62 #[(0, (.int .i64 x0_0)), (1, x1_0)]).run Try.prog w = .ok (.agg #[(.int .i64 x0_0), x1_0]) w := by obtain ⟨Ax1_0, Bx1_0, Cx1_0, rfl⟩ := hx1_0; kernel_rfl
theorem bd_60_0i_1i_2i_3i_4i (x0_0 : Int) (x1_0 : Int) (x2_0 : Int) (x3_0 : Int) (x4_0 : Int) (w : World) : (Instr.build 60 #[(0, (.int .i64 x0_0)), (1, (.int .i64 x1_0)), (2, (.int .i64 x2_0)), (3, (.int .i64 x3_0)), (4, (.int .i64 x4_0))]).run Try.prog w = .ok (.agg #[(.int .i64 x0_0), (.int .i64 x1_0), (.int .i64 x2_0), (.int .i64 x3_0), (.int .i64 x4_0)]) w := by kernel_rfl
theorem ze_60 : (Try.prog.info? 60).bind (·.zero) = some (Value.agg #[(Value.int .i64 0), (Value.int .i64 0), (Value.int .i64 0), (Value.int .i64 0), (Value.int .i64 0)]) := by kernel_rfl
theorem ty_60 : tyK Try.prog 60 = some (true, 5) := by kernel_rfl
theorem un_60 : Try.prog.underlying 60 = some (.array 5 3) := by kernel_rfl
theorem bd_62_  (w : World) : (Instr.build 62 #[]).run Try.prog w = .ok (.agg #[(Value.int .i64 0), (Value.slice none 0 0)]) w := by kernel_rfl
theorem bs_62_0_  : Instr.fill (fun i => some (i * 2, 2)) ((Array.range (0 * 2)).map ((Value.agg #[(Value.int .i64 0), (Value.slice none 0 0)]).cells[· % (Value.agg #[(Value.int .i64 0), (Value.slice none 0 0)]).cells.size]!)) [] = some (([] : List Value).toArray) := by kernel_rfl
theorem bs_44_0_  : Instr.fill (fun i => some (i * 2, 2)) ((Array.range (0 * 2)).map ((Value.agg #[(Value.int .i64 0), (Value.int .i64 0)]).cells[· % (Value.agg #[(Value.int .i64 0), (Value.int .i64 0)]).cells.size]!)) [] = some (([] : List Value).toArray) := by kernel_rfl
end Go.Proofs.Ytfhmigoddaaljaa

namespace Go.Proofs.Ytfhmigoddaaljaa
open Go.RowKit Go.Shelf Go.Eng
theorem within_ok (n lo hi : Int) (w : World) :
  Calls Try.prog 44 #[(Value.int .i64 n), (Value.int .i64 lo), (Value.int .i64 hi)] w (Ret fun v w' => v = .bool (decide (lo ≤ n) && decide (n ≤ hi)) ∧ w' = w) := by
 refine calls_enter Try.func44 rfl fun a0 hA0 => ?_
 replace hA0 : Fr 15 [] [(0, (Value.int .i64 n)), (1, (Value.int .i64 lo)), (2, (Value.int .i64 hi))] a0 := hA0
 have hS0 : Sep NoB w w [] := Sep.start _ _
 refine c_seq ?_
 refine c_region ?_
 refine st hA0 (op_assign rfl (evc _ _)) rfl rfl (by decide) fun a1 hA2 => ?_; clear hA0 a0
 refine wl_nil ?_
 refine then_n ?_
 refine c_seq ?_
 refine c_region ?_
 refine st hA2 (op_move rfl (hA2.ev rfl)) rfl rfl (by decide) fun a3 hA4 => ?_; clear hA2 a1
 refine st hA4 (op_move rfl (hA4.ev rfl)) rfl rfl (by decide) fun a5 hA6 => ?_; clear hA4 a3
 refine st hA6 (op_leq rfl (hA6.ev rfl) (hA6.ev rfl)) rfl rfl (by decide) fun a7 hA8 => ?_; clear hA6 a5
 refine st hA8 (op_move rfl (hA8.ev rfl)) rfl rfl (by decide) fun a9 hA10 => ?_; clear hA8 a7
 by_cases hb11 : lo ≤ n
 ·skip
  rw [decide_eq_true hb11] at hA10
  refine stg hA10 (op_move rfl (hA10.ev rfl)) rfl rfl rfl rfl (by decide) fun a12 hA13 => ?_; clear hA10 a9
  refine stg hA13 (op_move rfl (hA13.ev rfl)) rfl rfl rfl rfl (by decide) fun a14 hA15 => ?_; clear hA13 a12
  refine stg hA15 (op_leq rfl (hA15.ev rfl) (hA15.ev rfl)) rfl rfl rfl rfl (by decide) fun a16 hA17 => ?_; clear hA15 a14
  refine st hA17 (op_pick_t rfl (hA17.ev rfl) (hA17.ev rfl)) rfl rfl (by decide) fun a18 hA19 => ?_; clear hA17 a16
  refine st hA19 (op_assign rfl (hA19.ev rfl)) rfl rfl (by decide) fun a20 hA21 => ?_; clear hA19 a18
  refine wl_nil ?_
  refine then_n ?_
  refine c_ret ?_
  refine fin_run hA21 (.inl rfl) (run_results1 hA21 rfl (.tmp rfl)) ?_
  exact ⟨by simp [*], rfl⟩
 ·skip
  rw [decide_eq_false hb11] at hA10
  refine skp hA10 rfl rfl rfl rfl rfl (by decide) fun a22 hA23 => ?_; clear hA10 a9
  refine skp hA23 rfl rfl rfl rfl rfl (by decide) fun a24 hA25 => ?_; clear hA23 a22
  refine skp hA25 rfl rfl rfl rfl rfl (by decide) fun a26 hA27 => ?_; clear hA25 a24
  refine st hA27 (op_pick_f rfl (hA27.ev rfl) (evc _ _)) rfl rfl (by decide) fun a28 hA29 => ?_; clear hA27 a26
  refine st hA29 (op_assign rfl (hA29.ev rfl)) rfl rfl (by decide) fun a30 hA31 => ?_; clear hA29 a28
  refine wl_nil ?_
  refine then_n ?_
  refine c_ret ?_
  refine fin_run hA31 (.inl rfl) (run_results1 hA31 rfl (.tmp rfl)) ?_
  exact ⟨by simp [*], rfl⟩

theorem lot_ok (r1 r2 : Int) (w : World) :
  Calls Try.prog 46 #[(Value.agg #[(Value.int .i64 r1), (Value.int .i64 r2)])] w (Ret fun v w' => v = .bool (decide (0 ≤ r1) && decide (r1 ≤ r2) && decide (r2 ≤ 1000)) ∧ Ext NoB w w') := by
 refine calls_enter Try.func46 rfl fun a0 hA0 => ?_
 replace hA0 : Fr 18 [] [(0, (Value.agg #[(Value.int .i64 r1), (Value.int .i64 r2)]))] a0 := hA0
 have hS0 : Sep NoB w w [] := Sep.start _ _
 refine c_seq ?_
 refine c_region ?_
 refine stw hA0 (op_box hS0 rfl (hA0.ev rfl) (cs := [(Value.int .i64 r1), (Value.int .i64 r2)]) rfl) rfl rfl (by decide) ?_
 rintro a1 _ w3 ⟨b4, rfl, hS5⟩ hA2; clear hA0 hS0 a0
 refine st hA2 (op_assign rfl (evc _ _)) rfl rfl (by decide) fun a6 hA7 => ?_; clear hA2 a1
 refine wl_nil ?_
 refine then_n ?_
 refine c_seq ?_
 refine c_region ?_
 refine st hA7 (op_field rfl fd_46_0 (hA7.ev rfl)) rfl rfl (by decide) fun a8 hA9 => ?_; clear hA7 a6
 refine st hA9 (op_load1 rfl ty_3 (hA9.ev rfl) (hS5.bk 0 rfl) rfl) rfl rfl (by decide) fun a10 hA11 => ?_; clear hA9 a8
 refine st hA11 (op_leq rfl (evc _ _) (hA11.ev rfl)) rfl rfl (by decide) fun a12 hA13 => ?_; clear hA11 a10
 refine st hA13 (op_move rfl (hA13.ev rfl)) rfl rfl (by decide) fun a14 hA15 => ?_; clear hA13 a12
 by_cases hb16 : 0 ≤ r1
 ·skip
  rw [decide_eq_true hb16] at hA15
  refine stg hA15 (op_field rfl fd_46_0 (hA15.ev rfl)) rfl rfl rfl rfl (by decide) fun a17 hA18 => ?_; clear hA15 a14
  refine stg hA18 (op_load1 rfl ty_3 (hA18.ev rfl) (hS5.bk 0 rfl) rfl) rfl rfl rfl rfl (by decide) fun a19 hA20 => ?_; clear hA18 a17
  refine stg hA20 (op_field rfl fd_46_1 (hA20.ev rfl)) rfl rfl rfl rfl (by decide) fun a21 hA22 => ?_; clear hA20 a19
  refine stg hA22 (op_load1 rfl ty_3 (hA22.ev rfl) (hS5.bk 0 rfl) rfl) rfl rfl rfl rfl (by decide) fun a23 hA24 => ?_; clear hA22 a21
  refine stg hA24 (op_leq rfl (hA24.ev rfl) (hA24.ev rfl)) rfl rfl rfl rfl (by decide) fun a25 hA26 => ?_; clear hA24 a23
  refine st hA26 (op_pick_t rfl (hA26.ev rfl) (hA26.ev rfl)) rfl rfl (by decide) fun a27 hA28 => ?_; clear hA26 a25
  refine st hA28 (op_move rfl (hA28.ev rfl)) rfl rfl (by decide) fun a29 hA30 => ?_; clear hA28 a27
  by_cases hb31 : r1 ≤ r2
  ·skip
   rw [decide_eq_true hb31] at hA30
   refine stg hA30 (op_field rfl fd_46_1 (hA30.ev rfl)) rfl rfl rfl rfl (by decide) fun a32 hA33 => ?_; clear hA30 a29
   refine stg hA33 (op_load1 rfl ty_3 (hA33.ev rfl) (hS5.bk 0 rfl) rfl) rfl rfl rfl rfl (by decide) fun a34 hA35 => ?_; clear hA33 a32
   refine stg hA35 (op_leq rfl (hA35.ev rfl) (evc _ _)) rfl rfl rfl rfl (by decide) fun a36 hA37 => ?_; clear hA35 a34
   refine st hA37 (op_pick_t rfl (hA37.ev rfl) (hA37.ev rfl)) rfl rfl (by decide) fun a38 hA39 => ?_; clear hA37 a36
   refine st hA39 (op_assign rfl (hA39.ev rfl)) rfl rfl (by decide) fun a40 hA41 => ?_; clear hA39 a38
   refine wl_nil ?_
   refine then_n ?_
   refine c_ret ?_
   refine fin_run hA41 (.inl rfl) (run_results1 hA41 rfl (.tmp rfl)) ?_
   exact ⟨by simp [*], hS5.ext⟩
  ·skip
   rw [decide_eq_false hb31] at hA30
   refine skp hA30 rfl rfl rfl rfl rfl (by decide) fun a42 hA43 => ?_; clear hA30 a29
   refine skp hA43 rfl rfl rfl rfl rfl (by decide) fun a44 hA45 => ?_; clear hA43 a42
   refine skp hA45 rfl rfl rfl rfl rfl (by decide) fun a46 hA47 => ?_; clear hA45 a44
   refine st hA47 (op_pick_f rfl (hA47.ev rfl) (evc _ _)) rfl rfl (by decide) fun a48 hA49 => ?_; clear hA47 a46
   refine st hA49 (op_assign rfl (hA49.ev rfl)) rfl rfl (by decide) fun a50 hA51 => ?_; clear hA49 a48
   refine wl_nil ?_
   refine then_n ?_
   refine c_ret ?_
   refine fin_run hA51 (.inl rfl) (run_results1 hA51 rfl (.tmp rfl)) ?_
   exact ⟨by simp [*], hS5.ext⟩
 ·skip
  rw [decide_eq_false hb16] at hA15
  refine skp hA15 rfl rfl rfl rfl rfl (by decide) fun a52 hA53 => ?_; clear hA15 a14
  refine skp hA53 rfl rfl rfl rfl rfl (by decide) fun a54 hA55 => ?_; clear hA53 a52
  refine skp hA55 rfl rfl rfl rfl rfl (by decide) fun a56 hA57 => ?_; clear hA55 a54
  refine skp hA57 rfl rfl rfl rfl rfl (by decide) fun a58 hA59 => ?_; clear hA57 a56
  refine skp hA59 rfl rfl rfl rfl rfl (by decide) fun a60 hA61 => ?_; clear hA59 a58
  refine st hA61 (op_pick_f rfl (hA61.ev rfl) (evc _ _)) rfl rfl (by decide) fun a62 hA63 => ?_; clear hA61 a60
  refine st hA63 (op_move rfl (hA63.ev rfl)) rfl rfl (by decide) fun a64 hA65 => ?_; clear hA63 a62
  refine skp hA65 rfl rfl rfl rfl rfl (by decide) fun a66 hA67 => ?_; clear hA65 a64
  refine skp hA67 rfl rfl rfl rfl rfl (by decide) fun a68 hA69 => ?_; clear hA67 a66
  refine skp hA69 rfl rfl rfl rfl rfl (by decide) fun a70 hA71 => ?_; clear hA69 a68
  refine st hA71 (op_pick_f rfl (hA71.ev rfl) (evc _ _)) rfl rfl (by decide) fun a72 hA73 => ?_; clear hA71 a70
  refine st hA73 (op_assign rfl (hA73.ev rfl)) rfl rfl (by decide) fun a74 hA75 => ?_; clear hA73 a72
  refine wl_nil ?_
  refine then_n ?_
  refine c_ret ?_
  refine fin_run hA75 (.inl rfl) (run_results1 hA75 rfl (.tmp rfl)) ?_
  exact ⟨by simp [*], hS5.ext⟩

theorem tol_ok (n : Int) (w : World) :
  Calls Try.prog 48 #[(Value.int .i64 n)] w (Ret fun v w' => v = .bool (decide (0 ≤ n) && decide (n ≤ 100)) ∧ w' = w) := by
 refine calls_enter Try.func48 rfl fun a0 hA0 => ?_
 replace hA0 : Fr 5 [] [(0, (Value.int .i64 n))] a0 := hA0
 have hS0 : Sep NoB w w [] := Sep.start _ _
 refine c_seq ?_
 refine c_region ?_
 refine st hA0 (op_assign rfl (evc _ _)) rfl rfl (by decide) fun a1 hA2 => ?_; clear hA0 a0
 refine wl_nil ?_
 refine then_n ?_
 refine c_seq ?_
 refine c_region ?_
 refine st hA2 (op_move rfl (hA2.ev rfl)) rfl rfl (by decide) fun a3 hA4 => ?_; clear hA2 a1
 refine stw hA4 (op_call rfl en_44 (ev3 (hA4.ev rfl) (evc _ _) (evc _ _)) (within_ok _ _ _ _)) rfl rfl (by decide) ?_
 rintro a5 _ _ ⟨rfl, rfl⟩ hA6; clear hA4 a3
 refine st hA6 (op_assign rfl (hA6.ev rfl)) rfl rfl (by decide) fun a8 hA9 => ?_; clear hA6 a5
 refine wl_nil ?_
 refine then_n ?_
 refine c_ret ?_
 refine fin_run hA9 (.inl rfl) (run_results1 hA9 rfl (.tmp rfl)) ?_
 exact ⟨rfl, rfl⟩

theorem low_ok (r1 r2 : Int) (w : World) :
  Calls Try.prog 90 #[(Value.agg #[(Value.int .i64 r1), (Value.int .i64 r2)])] w (Ret fun v w' => v = .int .i64 r1 ∧ Ext NoB w w') := by
 refine calls_enter Try.func90 rfl fun a0 hA0 => ?_
 replace hA0 : Fr 5 [] [(0, (Value.agg #[(Value.int .i64 r1), (Value.int .i64 r2)]))] a0 := hA0
 have hS0 : Sep NoB w w [] := Sep.start _ _
 refine c_seq ?_
 refine c_region ?_
 refine stw hA0 (op_box hS0 rfl (hA0.ev rfl) (cs := [(Value.int .i64 r1), (Value.int .i64 r2)]) rfl) rfl rfl (by decide) ?_
 rintro a1 _ w3 ⟨b4, rfl, hS5⟩ hA2; clear hA0 hS0 a0
 refine st hA2 (op_assign rfl (evc _ _)) rfl rfl (by decide) fun a6 hA7 => ?_; clear hA2 a1
 refine wl_nil ?_
 refine then_n ?_
 refine c_seq ?_
 refine c_region ?_
 refine st hA7 (op_field rfl fd_46_0 (hA7.ev rfl)) rfl rfl (by decide) fun a8 hA9 => ?_; clear hA7 a6
 refine st hA9 (op_load1 rfl ty_3 (hA9.ev rfl) (hS5.bk 0 rfl) rfl) rfl rfl (by decide) fun a10 hA11 => ?_; clear hA9 a8
 refine st hA11 (op_assign rfl (hA11.ev rfl)) rfl rfl (by decide) fun a12 hA13 => ?_; clear hA11 a10
 refine wl_nil ?_
 refine then_n ?_
 refine c_ret ?_
 refine fin_run hA13 (.inl rfl) (run_results1 hA13 rfl (.tmp rfl)) ?_
 exact ⟨rfl, hS5.ext⟩

theorem high_ok (r1 r2 : Int) (w : World) :
  Calls Try.prog 91 #[(Value.agg #[(Value.int .i64 r1), (Value.int .i64 r2)])] w (Ret fun v w' => v = .int .i64 r2 ∧ Ext NoB w w') := by
 refine calls_enter Try.func91 rfl fun a0 hA0 => ?_
 replace hA0 : Fr 5 [] [(0, (Value.agg #[(Value.int .i64 r1), (Value.int .i64 r2)]))] a0 := hA0
 have hS0 : Sep NoB w w [] := Sep.start _ _
 refine c_seq ?_
 refine c_region ?_
 refine stw hA0 (op_box hS0 rfl (hA0.ev rfl) (cs := [(Value.int .i64 r1), (Value.int .i64 r2)]) rfl) rfl rfl (by decide) ?_
 rintro a1 _ w3 ⟨b4, rfl, hS5⟩ hA2; clear hA0 hS0 a0
 refine st hA2 (op_assign rfl (evc _ _)) rfl rfl (by decide) fun a6 hA7 => ?_; clear hA2 a1
 refine wl_nil ?_
 refine then_n ?_
 refine c_seq ?_
 refine c_region ?_
 refine st hA7 (op_field rfl fd_46_1 (hA7.ev rfl)) rfl rfl (by decide) fun a8 hA9 => ?_; clear hA7 a6
 refine st hA9 (op_load1 rfl ty_3 (hA9.ev rfl) (hS5.bk 0 rfl) rfl) rfl rfl (by decide) fun a10 hA11 => ?_; clear hA9 a8
 refine st hA11 (op_assign rfl (hA11.ev rfl)) rfl rfl (by decide) fun a12 hA13 => ?_; clear hA11 a10
 refine wl_nil ?_
 refine then_n ?_
 refine c_ret ?_
 refine fin_run hA13 (.inl rfl) (run_results1 hA13 rfl (.tmp rfl)) ?_
 exact ⟨rfl, hS5.ext⟩

theorem empty_ok (r1 r2 : Int) (w : World) :
  Calls Try.prog 76 #[(Value.agg #[(Value.int .i64 r1), (Value.int .i64 r2)])] w (Ret fun v w' => v = .bool (decide (r2 < r1)) ∧ Ext NoB w w') := by
 refine calls_enter Try.func76 rfl fun a0 hA0 => ?_
 replace hA0 : Fr 8 [] [(0, (Value.agg #[(Value.int .i64 r1), (Value.int .i64 r2)]))] a0 := hA0
 have hS0 : Sep NoB w w [] := Sep.start _ _
 refine c_seq ?_
 refine c_region ?_
 refine stw hA0 (op_box hS0 rfl (hA0.ev rfl) (cs := [(Value.int .i64 r1), (Value.int .i64 r2)]) rfl) rfl rfl (by decide) ?_
 rintro a1 _ w3 ⟨b4, rfl, hS5⟩ hA2; clear hA0 hS0 a0
 refine st hA2 (op_assign rfl (evc _ _)) rfl rfl (by decide) fun a6 hA7 => ?_; clear hA2 a1
 refine wl_nil ?_
 refine then_n ?_
 refine c_seq ?_
 refine c_region ?_
 refine st hA7 (op_field rfl fd_46_0 (hA7.ev rfl)) rfl rfl (by decide) fun a8 hA9 => ?_; clear hA7 a6
 refine st hA9 (op_load1 rfl ty_3 (hA9.ev rfl) (hS5.bk 0 rfl) rfl) rfl rfl (by decide) fun a10 hA11 => ?_; clear hA9 a8
 refine st hA11 (op_field rfl fd_46_1 (hA11.ev rfl)) rfl rfl (by decide) fun a12 hA13 => ?_; clear hA11 a10
 refine st hA13 (op_load1 rfl ty_3 (hA13.ev rfl) (hS5.bk 0 rfl) rfl) rfl rfl (by decide) fun a14 hA15 => ?_; clear hA13 a12
 refine st hA15 (op_gtr rfl (hA15.ev rfl) (hA15.ev rfl)) rfl rfl (by decide) fun a16 hA17 => ?_; clear hA15 a14
 refine st hA17 (op_assign rfl (hA17.ev rfl)) rfl rfl (by decide) fun a18 hA19 => ?_; clear hA17 a16
 refine wl_nil ?_
 refine then_n ?_
 refine c_ret ?_
 refine fin_run hA19 (.inl rfl) (run_results1 hA19 rfl (.tmp rfl)) ?_
 exact ⟨rfl, hS5.ext⟩

theorem wider_ok (r1 r2 n : Int) (w : World) (h1 : -4000000000 ≤ r1) (h2 : r1 ≤ 4000000000) (h3 : -4000000000 ≤ r2) (h4 : r2 ≤ 4000000000) (h5 : -4000000000 ≤ n) (h6 : n ≤ 4000000000) :
  Calls Try.prog 77 #[(Value.agg #[(Value.int .i64 r1), (Value.int .i64 r2)]), (Value.int .i64 n)] w (Ret fun v w' => v = .agg #[.int .i64 (r1 - n), .int .i64 (r2 + n)] ∧ Ext NoB w w') := by
 refine calls_enter Try.func77 rfl fun a0 hA0 => ?_
 replace hA0 : Fr 14 [] [(0, (Value.agg #[(Value.int .i64 r1), (Value.int .i64 r2)])), (1, (Value.int .i64 n))] a0 := hA0
 have hS0 : Sep NoB w w [] := Sep.start _ _
 refine c_seq ?_
 refine c_region ?_
 refine stw hA0 (op_box hS0 rfl (hA0.ev rfl) (cs := [(Value.int .i64 r1), (Value.int .i64 r2)]) rfl) rfl rfl (by decide) ?_
 rintro a1 _ w3 ⟨b4, rfl, hS5⟩ hA2; clear hA0 hS0 a0
 refine stw hA2 (op_alloc hS5 rfl ze_46 (cs := [(Value.int .i64 0), (Value.int .i64 0)]) rfl) rfl rfl (by decide) ?_
 rintro a6 _ w8 ⟨b9, rfl, hS10⟩ hA7; clear hA2 hS5 a1
 refine wl_nil ?_
 refine then_n ?_
 refine c_seq ?_
 refine c_region ?_
 refine st hA7 (op_field rfl fd_46_0 (hA7.ev rfl)) rfl rfl (by decide) fun a11 hA12 => ?_; clear hA7 a6
 refine st hA12 (op_load1 rfl ty_3 (hA12.ev rfl) (hS10.bk 1 rfl) rfl) rfl rfl (by decide) fun a13 hA14 => ?_; clear hA12 a11
 refine st hA14 (op_move rfl (hA14.ev rfl)) rfl rfl (by decide) fun a15 hA16 => ?_; clear hA14 a13
 refine st hA16 (op_sub rfl (hA16.ev rfl) (hA16.ev rfl) (by omega) (by omega)) rfl rfl (by decide) fun a17 hA18 => ?_; clear hA16 a15
 refine st hA18 (op_field rfl fd_46_1 (hA18.ev rfl)) rfl rfl (by decide) fun a19 hA20 => ?_; clear hA18 a17
 refine st hA20 (op_load1 rfl ty_3 (hA20.ev rfl) (hS10.bk 1 rfl) rfl) rfl rfl (by decide) fun a21 hA22 => ?_; clear hA20 a19
 refine st hA22 (op_move rfl (hA22.ev rfl)) rfl rfl (by decide) fun a23 hA24 => ?_; clear hA22 a21
 refine st hA24 (op_add rfl (hA24.ev rfl) (hA24.ev rfl) (by omega) (by omega)) rfl rfl (by decide) fun a25 hA26 => ?_; clear hA24 a23
 refine st hA26 (op_build rfl (pv2 (hA26.ev rfl) (hA26.ev rfl)) (bd_46_0i_1i _ _)) rfl rfl (by decide) fun a27 hA28 => ?_; clear hA26 a25
 refine sts hA28 (op_store hS10 rfl ty_46 (hA28.ev rfl) (hA28.ev rfl) (i := 0) rfl (vs := [(Value.int .i64 (r1 - n)), (Value.int .i64 (r2 + n))]) rfl rfl rfl (Nat.le_of_ble_eq_true rfl)) rfl rfl ?_
 intro _ w29 hS30 hA31; clear hA28
 have hS32 : Sep NoB w w29 [(blk b9 46 [(Value.int .i64 (r1 - n)), (Value.int .i64 (r2 + n))]), (blk b4 46 [(Value.int .i64 r1), (Value.int .i64 r2)])] := hS30; clear hS30 hS10
 refine wl_nil ?_
 refine then_n ?_
 refine c_ret ?_
 refine fin_run hA31 (.inl rfl) (run_results1 hA31 rfl (.cellA rfl ty_46 (hS32.bk 0 rfl) (l := [(Value.int .i64 (r1 - n)), (Value.int .i64 (r2 + n))]) rfl rfl)) ?_
 exact ⟨rfl, hS32.ext⟩

theorem nobody_ok (w : World) :
  Calls Try.prog 55 #[] w (Ret fun v w' => v = .agg #[.int .i64 (-1), .int .i64 0] ∧ Ext NoB w w') := by
 refine calls_enter Try.func55 rfl fun a0 hA0 => ?_
 replace hA0 : Fr 2 [] [] a0 := hA0
 have hS0 : Sep NoB w w [] := Sep.start _ _
 refine c_seq ?_
 refine c_region ?_
 refine stw hA0 (op_alloc hS0 rfl ze_94 (cs := [(Value.int .i64 0), (Value.int .i64 0)]) rfl) rfl rfl (by decide) ?_
 rintro a1 _ w3 ⟨b4, rfl, hS5⟩ hA2; clear hA0 hS0 a0
 refine wl_nil ?_
 refine then_n ?_
 refine c_seq ?_
 refine c_region ?_
 refine st hA2 (op_build rfl (pv2 (evc _ _) (evc _ _)) (bd_94_0i_1i _ _)) rfl rfl (by decide) fun a6 hA7 => ?_; clear hA2 a1
 refine sts hA7 (op_store hS5 rfl ty_94 (hA7.ev rfl) (hA7.ev rfl) (i := 0) rfl (vs := [(Value.int .i64 (-1)), (Value.int .i64 0)]) rfl rfl rfl (Nat.le_of_ble_eq_true rfl)) rfl rfl ?_
 intro _ w8 hS9 hA10; clear hA7
 have hS11 : Sep NoB w w8 [(blk b4 94 [(Value.int .i64 (-1)), (Value.int .i64 0)])] := hS9; clear hS9 hS5
 refine wl_nil ?_
 refine then_n ?_
 refine c_ret ?_
 refine fin_run hA10 (.inl rfl) (run_results1 hA10 rfl (.cellA rfl ty_94 (hS11.bk 0 rfl) (l := [(Value.int .i64 (-1)), (Value.int .i64 0)]) rfl rfl)) ?_
 exact ⟨rfl, hS11.ext⟩

theorem smin_ok (xs : List Int) (v : Value) (w : World) (hv : SlAt w v 1 xs.length (ints xs)) (h0 : 0 < xs.length) (hlen : xs.length ≤ 1000000) :
  Calls Try.prog 81 #[v] w (Ret fun v w' => v = .int .i64 (minL xs) ∧ Ext NoB w w') := by
 refine calls_enter Try.func81 rfl fun a0 hA0 => ?_
 replace hA0 : Fr 25 [] [(0, v)] a0 := hA0
 have hS0 : Sep NoB w w [(sl v 1 xs.length (ints xs))] := sep_sl hv
 refine c_seq ?_
 refine c_region ?_
 refine st hA0 (op_assign rfl (evc _ _)) rfl rfl (by decide) fun a1 hA2 => ?_; clear hA0 a0
 refine wl_nil ?_
 refine then_n ?_
 refine c_seq ?_
 refine c_seq ?_
 refine c_region ?_
 refine st hA2 (op_move rfl (hA2.ev rfl)) rfl rfl (by decide) fun a3 hA4 => ?_; clear hA2 a1
 refine st hA4 (op_lenS rfl un_23 (hA4.ev rfl) (hS0.ok 0 _ rfl)) rfl rfl (by decide) fun a5 hA6 => ?_; clear hA4 a3
 refine st hA6 (op_lss rfl (hA6.ev rfl) (evc _ _)) rfl rfl (by decide) fun a7 hA8 => ?_; clear hA6 a5
 have hd9 : ¬ ((xs.length : Int) < 1) := (by omega)
 rw [decide_eq_false hd9] at hA8
 refine wl_nil ?_
 refine then_n ?_
 refine c_false hA8 rfl ?_
 refine c_skip ?_
 refine then_n ?_
 refine c_seq ?_
 refine c_region ?_
 refine st hA8 (op_move rfl (hA8.ev rfl)) rfl rfl (by decide) fun a10 hA11 => ?_; clear hA8 a7
 refine st hA11 (op_indexS rfl un_23 ty_3 (hA11.ev rfl) (i := 0) (show _ = Value.int .i64 ((0 : Nat) : Int) from (evc _ _)) (hS0.ok 0 _ rfl) (by decide) (by omega)) rfl rfl (by decide) fun a12 hA13 => ?_; clear hA11 a10
 refine st hA13 (op_load1E rfl ty_3 (hA13.ev rfl) (hS0.ok 0 _ rfl) (ints_at (by omega))) rfl rfl (by decide) fun a14 hA15 => ?_; clear hA13 a12
 refine st hA15 (op_assign rfl (hA15.ev rfl)) rfl rfl (by decide) fun a16 hA17 => ?_; clear hA15 a14
 refine wl_nil ?_
 refine then_n ?_
 refine c_seq ?_
 refine c_seq ?_
 have hA18 := hA17.as [(3, (Value.int .i64 (xs.getD 0 0))), (0, v)] rfl; clear hA17
 refine c_region ?_
 refine st hA18 (op_assign rfl (evc _ _)) rfl rfl (by decide) fun a19 hA20 => ?_; clear hA18 a16
 refine wl_nil ?_
 refine then_n ?_
 refine c_block ?_
 have hA21 := hA20.as [(4, (Value.int .i64 1)), (3, (Value.int .i64 (xs.getD 0 0))), (0, v)] rfl; clear hA20
 refine c_loop (G := Nat) (fun (k : Nat) a_ w_ => Fr 25 [] [(4, (Value.int .i64 (k : Int))), (3, (Value.int .i64 (minL (xs.take k)))), (0, v)] a_ ∧ Sep NoB w w_ [(sl v 1 xs.length (ints xs))] ∧ (1 ≤ k) ∧ (k ≤ xs.length)) (fun k => xs.length - k) 1 ⟨hA21.as _ (by simp [pickSlots, List.lookup, minL_one xs h0]), hS0, by omega, by omega⟩ ?_
 clear hA21 hS0 a19
 rintro k a22 w24 ⟨hA23, hS25, hk1, hk2⟩
 refine c_seq ?_
 refine c_seq ?_
 refine c_region ?_
 refine st hA23 (op_move rfl (hA23.ev rfl)) rfl rfl (by decide) fun a26 hA27 => ?_; clear hA23 a22
 refine st hA27 (op_move rfl (hA27.ev rfl)) rfl rfl (by decide) fun a28 hA29 => ?_; clear hA27 a26
 refine st hA29 (op_lenS rfl un_23 (hA29.ev rfl) (hS25.ok 0 _ rfl)) rfl rfl (by decide) fun a30 hA31 => ?_; clear hA29 a28
 refine st hA31 (op_lss rfl (hA31.ev rfl) (hA31.ev rfl)) rfl rfl (by decide) fun a32 hA33 => ?_; clear hA31 a30
 refine wl_nil ?_
 refine then_n ?_
 by_cases hb34 : (k : Int) < (xs.length : Int)
 ·skip
  rw [decide_eq_true hb34] at hA33
  refine c_true hA33 rfl ?_
  refine c_skip ?_
  refine then_n ?_
  refine c_seq ?_
  refine c_block ?_
  refine c_region ?_
  refine st hA33 (op_move rfl (hA33.ev rfl)) rfl rfl (by decide) fun a35 hA36 => ?_; clear hA33 a32
  refine st hA36 (op_move rfl (hA36.ev rfl)) rfl rfl (by decide) fun a37 hA38 => ?_; clear hA36 a35
  refine st hA38 (op_move rfl (hA38.ev rfl)) rfl rfl (by decide) fun a39 hA40 => ?_; clear hA38 a37
  refine st hA40 (op_indexS rfl un_23 ty_3 (hA40.ev rfl) (i := k) (hA40.ev rfl) (hS25.ok 0 _ rfl) (by decide) (by omega)) rfl rfl (by decide) fun a41 hA42 => ?_; clear hA40 a39
  refine st hA42 (op_load1E rfl ty_3 (hA42.ev rfl) (hS25.ok 0 _ rfl) (ints_at (by omega))) rfl rfl (by decide) fun a43 hA44 => ?_; clear hA42 a41
  refine st hA44 (op_min rfl (hA44.ev rfl) (hA44.ev rfl)) rfl rfl (by decide) fun a45 hA46 => ?_; clear hA44 a43
  refine st hA46 (op_assign rfl (hA46.ev rfl)) rfl rfl (by decide) fun a47 hA48 => ?_; clear hA46 a45
  refine wl_nil ?_
  refine blk_n ?_
  refine then_n ?_
  have hA49 := hA48.as [(3, (Value.int .i64 (min (minL (xs.take k)) (xs.getD k 0)))), (4, (Value.int .i64 (k : Int))), (0, v)] rfl; clear hA48
  refine c_region ?_
  refine st hA49 (op_move rfl (hA49.ev rfl)) rfl rfl (by decide) fun a50 hA51 => ?_; clear hA49 a47
  refine st hA51 (op_add rfl (hA51.ev rfl) (evc _ _) (by omega) (by omega)) rfl rfl (by decide) fun a52 hA53 => ?_; clear hA51 a50
  refine st hA53 (op_assign rfl (hA53.ev rfl)) rfl rfl (by decide) fun a54 hA55 => ?_; clear hA53 a52
  refine wl_nil ?_
  exact then_n ⟨k + 1, ⟨hA55.as _ (by simp [pickSlots, List.lookup, minL_take xs k (by omega) (by omega)]), hS25, by omega, by omega⟩, by omega⟩
 ·skip
  rw [decide_eq_false hb34] at hA33
  refine c_false hA33 rfl ?_
  refine c_exit ?_
  refine then_exit ?_
  refine then_exit ?_
  refine blk_hit ?_
  refine then_n ?_
  refine c_seq ?_
  have hA56 := hA33.as [(3, (Value.int .i64 (minL (xs.take k))))] rfl; clear hA33
  refine c_region ?_
  refine st hA56 (op_move rfl (hA56.ev rfl)) rfl rfl (by decide) fun a57 hA58 => ?_; clear hA56 a32
  refine st hA58 (op_assign rfl (hA58.ev rfl)) rfl rfl (by decide) fun a59 hA60 => ?_; clear hA58 a57
  refine wl_nil ?_
  refine then_n ?_
  refine c_ret ?_
  refine fin_run hA60 (.inl rfl) (run_results1 hA60 rfl (.tmp rfl)) ?_
  exact ⟨by rw [List.take_of_length_le (by omega)], hS25.ext⟩

theorem smax_ok (xs : List Int) (v : Value) (w : World) (hv : SlAt w v 1 xs.length (ints xs)) (h0 : 0 < xs.length) (hlen : xs.length ≤ 1000000) :
  Calls Try.prog 94 #[v] w (Ret fun v w' => v = .int .i64 (maxL xs) ∧ Ext NoB w w') := by
 refine calls_enter Try.func94 rfl fun a0 hA0 => ?_
 replace hA0 : Fr 25 [] [(0, v)] a0 := hA0
 have hS0 : Sep NoB w w [(sl v 1 xs.length (ints xs))] := sep_sl hv
 refine c_seq ?_
 refine c_region ?_
 refine st hA0 (op_assign rfl (evc _ _)) rfl rfl (by decide) fun a1 hA2 => ?_; clear hA0 a0
 refine wl_nil ?_
 refine then_n ?_
 refine c_seq ?_
 refine c_seq ?_
 refine c_region ?_
 refine st hA2 (op_move rfl (hA2.ev rfl)) rfl rfl (by decide) fun a3 hA4 => ?_; clear hA2 a1
 refine st hA4 (op_lenS rfl un_23 (hA4.ev rfl) (hS0.ok 0 _ rfl)) rfl rfl (by decide) fun a5 hA6 => ?_; clear hA4 a3
 refine st hA6 (op_lss rfl (hA6.ev rfl) (evc _ _)) rfl rfl (by decide) fun a7 hA8 => ?_; clear hA6 a5
 have hd9 : ¬ ((xs.length : Int) < 1) := (by omega)
 rw [decide_eq_false hd9] at hA8
 refine wl_nil ?_
 refine then_n ?_
 refine c_false hA8 rfl ?_
 refine c_skip ?_
 refine then_n ?_
 refine c_seq ?_
 refine c_region ?_
 refine st hA8 (op_move rfl (hA8.ev rfl)) rfl rfl (by decide) fun a10 hA11 => ?_; clear hA8 a7
 refine st hA11 (op_indexS rfl un_23 ty_3 (hA11.ev rfl) (i := 0) (show _ = Value.int .i64 ((0 : Nat) : Int) from (evc _ _)) (hS0.ok 0 _ rfl) (by decide) (by omega)) rfl rfl (by decide) fun a12 hA13 => ?_; clear hA11 a10
 refine st hA13 (op_load1E rfl ty_3 (hA13.ev rfl) (hS0.ok 0 _ rfl) (ints_at (by omega))) rfl rfl (by decide) fun a14 hA15 => ?_; clear hA13 a12
 refine st hA15 (op_assign rfl (hA15.ev rfl)) rfl rfl (by decide) fun a16 hA17 => ?_; clear hA15 a14
 refine wl_nil ?_
 refine then_n ?_
 refine c_seq ?_
 refine c_seq ?_
 have hA18 := hA17.as [(3, (Value.int .i64 (xs.getD 0 0))), (0, v)] rfl; clear hA17
 refine c_region ?_
 refine st hA18 (op_assign rfl (evc _ _)) rfl rfl (by decide) fun a19 hA20 => ?_; clear hA18 a16
 refine wl_nil ?_
 refine then_n ?_
 refine c_block ?_
 have hA21 := hA20.as [(4, (Value.int .i64 1)), (3, (Value.int .i64 (xs.getD 0 0))), (0, v)] rfl; clear hA20
 refine c_loop (G := Nat) (fun (k : Nat) a_ w_ => Fr 25 [] [(4, (Value.int .i64 (k : Int))), (3, (Value.int .i64 (maxL (xs.take k)))), (0, v)] a_ ∧ Sep NoB w w_ [(sl v 1 xs.length (ints xs))] ∧ (1 ≤ k) ∧ (k ≤ xs.length)) (fun k => xs.length - k) 1 ⟨hA21.as _ (by simp [pickSlots, List.lookup, maxL_one xs h0]), hS0, by omega, by omega⟩ ?_
 clear hA21 hS0 a19
 rintro k a22 w24 ⟨hA23, hS25, hk1, hk2⟩
 refine c_seq ?_
 refine c_seq ?_
 refine c_region ?_
 refine st hA23 (op_move rfl (hA23.ev rfl)) rfl rfl (by decide) fun a26 hA27 => ?_; clear hA23 a22
 refine st hA27 (op_move rfl (hA27.ev rfl)) rfl rfl (by decide) fun a28 hA29 => ?_; clear hA27 a26
 refine st hA29 (op_lenS rfl un_23 (hA29.ev rfl) (hS25.ok 0 _ rfl)) rfl rfl (by decide) fun a30 hA31 => ?_; clear hA29 a28
 refine st hA31 (op_lss rfl (hA31.ev rfl) (hA31.ev rfl)) rfl rfl (by decide) fun a32 hA33 => ?_; clear hA31 a30
 refine wl_nil ?_
 refine then_n ?_
 by_cases hb34 : (k : Int) < (xs.length : Int)
 ·skip
  rw [decide_eq_true hb34] at hA33
  refine c_true hA33 rfl ?_
  refine c_skip ?_
  refine then_n ?_
  refine c_seq ?_
  refine c_block ?_
  refine c_region ?_
  refine st hA33 (op_move rfl (hA33.ev rfl)) rfl rfl (by decide) fun a35 hA36 => ?_; clear hA33 a32
  refine st hA36 (op_move rfl (hA36.ev rfl)) rfl rfl (by decide) fun a37 hA38 => ?_; clear hA36 a35
  refine st hA38 (op_move rfl (hA38.ev rfl)) rfl rfl (by decide) fun a39 hA40 => ?_; clear hA38 a37
  refine st hA40 (op_indexS rfl un_23 ty_3 (hA40.ev rfl) (i := k) (hA40.ev rfl) (hS25.ok 0 _ rfl) (by decide) (by omega)) rfl rfl (by decide) fun a41 hA42 => ?_; clear hA40 a39
  refine st hA42 (op_load1E rfl ty_3 (hA42.ev rfl) (hS25.ok 0 _ rfl) (ints_at (by omega))) rfl rfl (by decide) fun a43 hA44 => ?_; clear hA42 a41
  refine st hA44 (op_max rfl (hA44.ev rfl) (hA44.ev rfl)) rfl rfl (by decide) fun a45 hA46 => ?_; clear hA44 a43
  refine st hA46 (op_assign rfl (hA46.ev rfl)) rfl rfl (by decide) fun a47 hA48 => ?_; clear hA46 a45
  refine wl_nil ?_
  refine blk_n ?_
  refine then_n ?_
  have hA49 := hA48.as [(3, (Value.int .i64 (max (maxL (xs.take k)) (xs.getD k 0)))), (4, (Value.int .i64 (k : Int))), (0, v)] rfl; clear hA48
  refine c_region ?_
  refine st hA49 (op_move rfl (hA49.ev rfl)) rfl rfl (by decide) fun a50 hA51 => ?_; clear hA49 a47
  refine st hA51 (op_add rfl (hA51.ev rfl) (evc _ _) (by omega) (by omega)) rfl rfl (by decide) fun a52 hA53 => ?_; clear hA51 a50
  refine st hA53 (op_assign rfl (hA53.ev rfl)) rfl rfl (by decide) fun a54 hA55 => ?_; clear hA53 a52
  refine wl_nil ?_
  exact then_n ⟨k + 1, ⟨hA55.as _ (by simp [pickSlots, List.lookup, maxL_take xs k (by omega) (by omega)]), hS25, by omega, by omega⟩, by omega⟩
 ·skip
  rw [decide_eq_false hb34] at hA33
  refine c_false hA33 rfl ?_
  refine c_exit ?_
  refine then_exit ?_
  refine then_exit ?_
  refine blk_hit ?_
  refine then_n ?_
  refine c_seq ?_
  have hA56 := hA33.as [(3, (Value.int .i64 (maxL (xs.take k))))] rfl; clear hA33
  refine c_region ?_
  refine st hA56 (op_move rfl (hA56.ev rfl)) rfl rfl (by decide) fun a57 hA58 => ?_; clear hA56 a32
  refine st hA58 (op_assign rfl (hA58.ev rfl)) rfl rfl (by decide) fun a59 hA60 => ?_; clear hA58 a57
  refine wl_nil ?_
  refine then_n ?_
  refine c_ret ?_
  refine fin_run hA60 (.inl rfl) (run_results1 hA60 rfl (.tmp rfl)) ?_
  exact ⟨by rw [List.take_of_length_le (by omega)], hS25.ext⟩

theorem least_ok (xs : List Int) (v : Value) (w : World) (hv : SlAt w v 1 xs.length (ints xs)) (h0 : 0 < xs.length) (hlen : xs.length ≤ 1000000) :
  Calls Try.prog 60 #[v] w (Ret fun v w' => v = .int .i64 (minL xs) ∧ Ext NoB w w') := by
 refine calls_enter Try.func60 rfl fun a0 hA0 => ?_
 replace hA0 : Fr 5 [] [(0, v)] a0 := hA0
 have hS0 : Sep NoB w w [(sl v 1 xs.length (ints xs))] := sep_sl hv
 refine c_seq ?_
 refine c_region ?_
 refine st hA0 (op_assign rfl (evc _ _)) rfl rfl (by decide) fun a1 hA2 => ?_; clear hA0 a0
 refine wl_nil ?_
 refine then_n ?_
 refine c_seq ?_
 refine c_region ?_
 refine st hA2 (op_move rfl (hA2.ev rfl)) rfl rfl (by decide) fun a3 hA4 => ?_; clear hA2 a1
 refine stw hA4 (op_call rfl en_81 (ev1 (hA4.ev rfl)) (smin_ok xs _ _ (hS0.ok 0 _ rfl) h0 hlen)) rfl rfl (by decide) ?_
 rintro a5 _ w7 ⟨rfl, hE8⟩ hA6; have hS9 := hS0.step hE8; clear hE8 hA4 hS0 a3
 refine st hA6 (op_assign rfl (hA6.ev rfl)) rfl rfl (by decide) fun a10 hA11 => ?_; clear hA6 a5
 refine wl_nil ?_
 refine then_n ?_
 refine c_ret ?_
 refine fin_run hA11 (.inl rfl) (run_results1 hA11 rfl (.tmp rfl)) ?_
 exact ⟨rfl, hS9.ext⟩

theorem most_ok (xs : List Int) (v : Value) (w : World) (hv : SlAt w v 1 xs.length (ints xs)) (h0 : 0 < xs.length) (hlen : xs.length ≤ 1000000) :
  Calls Try.prog 92 #[v] w (Ret fun v w' => v = .int .i64 (maxL xs) ∧ Ext NoB w w') := by
 refine calls_enter Try.func92 rfl fun a0 hA0 => ?_
 replace hA0 : Fr 5 [] [(0, v)] a0 := hA0
 have hS0 : Sep NoB w w [(sl v 1 xs.length (ints xs))] := sep_sl hv
 refine c_seq ?_
 refine c_region ?_
 refine st hA0 (op_assign rfl (evc _ _)) rfl rfl (by decide) fun a1 hA2 => ?_; clear hA0 a0
 refine wl_nil ?_
 refine then_n ?_
 refine c_seq ?_
 refine c_region ?_
 refine st hA2 (op_move rfl (hA2.ev rfl)) rfl rfl (by decide) fun a3 hA4 => ?_; clear hA2 a1
 refine stw hA4 (op_call rfl en_94 (ev1 (hA4.ev rfl)) (smax_ok xs _ _ (hS0.ok 0 _ rfl) h0 hlen)) rfl rfl (by decide) ?_
 rintro a5 _ w7 ⟨rfl, hE8⟩ hA6; have hS9 := hS0.step hE8; clear hE8 hA4 hS0 a3
 refine st hA6 (op_assign rfl (hA6.ev rfl)) rfl rfl (by decide) fun a10 hA11 => ?_; clear hA6 a5
 refine wl_nil ?_
 refine then_n ?_
 refine c_ret ?_
 refine fin_run hA11 (.inl rfl) (run_results1 hA11 rfl (.tmp rfl)) ?_
 exact ⟨rfl, hS9.ext⟩

theorem cut_ok (r1 r2 o1 o2 : Int) (w : World) :
  Calls Try.prog 75 #[(Value.agg #[(Value.int .i64 r1), (Value.int .i64 r2)]), (Value.agg #[(Value.int .i64 o1), (Value.int .i64 o2)])] w (Ret fun v w' => v = .agg #[.int .i64 (max r1 o1), .int .i64 (min r2 o2)] ∧ Ext NoB w w') := by
 refine calls_enter Try.func75 rfl fun a0 hA0 => ?_
 replace hA0 : Fr 30 [] [(0, (Value.agg #[(Value.int .i64 r1), (Value.int .i64 r2)])), (1, (Value.agg #[(Value.int .i64 o1), (Value.int .i64 o2)]))] a0 := hA0
 have hS0 : Sep NoB w w [] := Sep.start _ _
 refine c_seq ?_
 refine c_region ?_
 refine stw hA0 (op_box hS0 rfl (hA0.ev rfl) (cs := [(Value.int .i64 r1), (Value.int .i64 r2)]) rfl) rfl rfl (by decide) ?_
 rintro a1 _ w3 ⟨b4, rfl, hS5⟩ hA2; clear hA0 hS0 a0
 refine stw hA2 (op_box hS5 rfl (hA2.ev rfl) (cs := [(Value.int .i64 o1), (Value.int .i64 o2)]) rfl) rfl rfl (by decide) ?_
 rintro a6 _ w8 ⟨b9, rfl, hS10⟩ hA7; clear hA2 hS5 a1
 refine stw hA7 (op_alloc hS10 rfl ze_46 (cs := [(Value.int .i64 0), (Value.int .i64 0)]) rfl) rfl rfl (by decide) ?_
 rintro a11 _ w13 ⟨b14, rfl, hS15⟩ hA12; clear hA7 hS10 a6
 refine wl_nil ?_
 refine then_n ?_
 refine c_seq ?_
 refine c_region ?_
 refine st hA12 (op_build rfl (pv1 (evf _ _)) (bd_124_0f _ _ _)) rfl rfl (by decide) fun a16 hA17 => ?_; clear hA12 a11
 refine st hA17 (op_build rfl (pv1 (evf _ _)) (bd_124_0f _ _ _)) rfl rfl (by decide) fun a18 hA19 => ?_; clear hA17 a16
 refine stw hA19 (op_alloc hS15 rfl ze_124 (cs := [Value.nilFunc]) rfl) rfl rfl (by decide) ?_
 rintro a20 _ w22 ⟨b23, rfl, hS24⟩ hA21; clear hA19 hS15 a18
 refine stw hA21 (op_alloc hS24 rfl ze_124 (cs := [Value.nilFunc]) rfl) rfl rfl (by decide) ?_
 rintro a25 _ w27 ⟨b28, rfl, hS29⟩ hA26; clear hA21 hS24 a20
 refine sts hA26 (op_store hS29 rfl ty_124 (hA26.ev rfl) (hA26.ev rfl) (i := 1) rfl (vs := [(Value.func (.func 90) #[] #[])]) rfl rfl rfl (Nat.le_of_ble_eq_true rfl)) rfl rfl ?_
 intro _ w30 hS31 hA32; clear hA26
 have hS33 : Sep NoB w w30 [(blk b28 124 [Value.nilFunc]), (blk b23 124 [(Value.func (.func 90) #[] #[])]), (blk b14 46 [(Value.int .i64 0), (Value.int .i64 0)]), (blk b9 46 [(Value.int .i64 o1), (Value.int .i64 o2)]), (blk b4 46 [(Value.int .i64 r1), (Value.int .i64 r2)])] := hS31; clear hS31 hS29
 refine sts hA32 (op_store hS33 rfl ty_124 (hA32.ev rfl) (hA32.ev rfl) (i := 0) rfl (vs := [(Value.func (.func 91) #[] #[])]) rfl rfl rfl (Nat.le_of_ble_eq_true rfl)) rfl rfl ?_
 intro _ w34 hS35 hA36; clear hA32
 have hS37 : Sep NoB w w34 [(blk b28 124 [(Value.func (.func 91) #[] #[])]), (blk b23 124 [(Value.func (.func 90) #[] #[])]), (blk b14 46 [(Value.int .i64 0), (Value.int .i64 0)]), (blk b9 46 [(Value.int .i64 o1), (Value.int .i64 o2)]), (blk b4 46 [(Value.int .i64 r1), (Value.int .i64 r2)])] := hS35; clear hS35 hS33
 refine wl_nil ?_
 refine then_n ?_
 refine c_seq ?_
 have hA38 := hA36.as [(6, (bptr b28 0)), (5, (bptr b23 0)), (4, (bptr b14 0)), (3, (bptr b9 0)), (2, (bptr b4 0))] rfl; clear hA36
 refine c_drawn mixed hA38 hS37 17 [[], [0], [], [1, 2], [], [4], [], [5, 6], [3, 7], [8], [], [10], [], [11, 12], [], [14], []] [(Yd.val (bptr b23 0)), (Yd.val (Value.func (.func 90) #[] #[])), (Yd.val (Value.agg #[(Value.int .i64 r1), (Value.int .i64 r2)])), (Yd.val (Value.int .i64 r1)), (Yd.val (bptr b23 0)), (Yd.val (Value.func (.func 90) #[] #[])), (Yd.val (Value.agg #[(Value.int .i64 o1), (Value.int .i64 o2)])), (Yd.val (Value.int .i64 o1)), (Yd.blt w.heap.size 3 2 [(Value.int .i64 r1), (Value.int .i64 o1)]), (Yd.val (Value.int .i64 (max r1 o1))), (Yd.val (bptr b28 0)), (Yd.val (Value.func (.func 91) #[] #[])), (Yd.val (Value.agg #[(Value.int .i64 r1), (Value.int .i64 r2)])), (Yd.val (Value.int .i64 r2)), (Yd.val (bptr b28 0)), (Yd.val (Value.func (.func 91) #[] #[])), (Yd.val (Value.agg #[(Value.int .i64 o1), (Value.int .i64 o2)]))] (by decide +kernel) rfl rfl ?_ ?_
 ·skip
  refine ⟨fun a w hA hS hd => ?_, ?_⟩
  ·skip
   exact opG_of rfl (dv (op_field rfl fd_124_0 (hA.ev rfl)) hS rfl)
  refine ⟨fun a w hA hS hd => ?_, ?_⟩
  ·skip
   have e0 := has_ev (hd 0 (by decide)) rfl (fun _ h => h)
   exact opG_of rfl (dv (op_load1 rfl ty_121 (tmp_ev e0) (hS.bk 1 rfl) rfl) hS rfl)
  refine ⟨fun a w hA hS hd => ?_, ?_⟩
  ·skip
   exact opG_of rfl (dv (op_loadA rfl ty_46 (hA.ev rfl) (hS.bk 4 rfl) (l := [(Value.int .i64 r1), (Value.int .i64 r2)]) rfl rfl) hS rfl)
  refine ⟨fun a w hA hS hd => ?_, ?_⟩
  ·skip
   have e1 := has_ev (hd 1 (by decide)) rfl (fun _ h => h)
   have e2 := has_ev (hd 2 (by decide)) rfl (fun _ h => h)
   exact opG_of rfl (dx (op_callv rfl (tmp_ev e1) en_90 (ev1 (tmp_ev e2)) (low_ok _ _ _)) hS (fun _ => rfl))
  refine ⟨fun a w hA hS hd => ?_, ?_⟩
  ·skip
   exact opG_of rfl (dv (op_field rfl fd_124_0 (hA.ev rfl)) hS rfl)
  refine ⟨fun a w hA hS hd => ?_, ?_⟩
  ·skip
   have e4 := has_ev (hd 4 (by decide)) rfl (fun _ h => h)
   exact opG_of rfl (dv (op_load1 rfl ty_121 (tmp_ev e4) (hS.bk 1 rfl) rfl) hS rfl)
  refine ⟨fun a w hA hS hd => ?_, ?_⟩
  ·skip
   exact opG_of rfl (dv (op_loadA rfl ty_46 (hA.ev rfl) (hS.bk 3 rfl) (l := [(Value.int .i64 o1), (Value.int .i64 o2)]) rfl rfl) hS rfl)
  refine ⟨fun a w hA hS hd => ?_, ?_⟩
  ·skip
   have e5 := has_ev (hd 5 (by decide)) rfl (fun _ h => h)
   have e6 := has_ev (hd 6 (by decide)) rfl (fun _ h => h)
   exact opG_of rfl (dx (op_callv rfl (tmp_ev e5) en_90 (ev1 (tmp_ev e6)) (low_ok _ _ _)) hS (fun _ => rfl))
  refine ⟨fun a w hA hS hd => ?_, ?_⟩
  ·skip
   have e3 := has_ev (hd 3 (by decide)) rfl (fun _ h => h)
   have e7 := has_ev (hd 7 (by decide)) rfl (fun _ h => h)
   exact opG_of rfl (dblt hS rfl (pv2 (tmp_ev e3) (tmp_ev e7)) un_23 ty_3 ze_3 (by decide) (cs := [(Value.int .i64 r1), (Value.int .i64 o1)]) (bs_3_2_0i_1i _ _) (fun _ _ h => h))
  refine ⟨fun a w hA hS hd => ?_, ?_⟩
  ·skip
   obtain ⟨_, e8, b8, rfl, hp8, _⟩ := has_get (hd 8 (by decide)) rfl
   exact opG_of rfl (dx (op_call rfl en_92 (ev1 (tmp_ev e8)) (most_ok [r1, o1] _ _ (SlAt.of_blk hp8 rfl (by decide)) (by simp) (by simp))) hS (fun _ => rfl))
  refine ⟨fun a w hA hS hd => ?_, ?_⟩
  ·skip
   exact opG_of rfl (dv (op_field rfl fd_124_0 (hA.ev rfl)) hS rfl)
  refine ⟨fun a w hA hS hd => ?_, ?_⟩
  ·skip
   have e10 := has_ev (hd 10 (by decide)) rfl (fun _ h => h)
   exact opG_of rfl (dv (op_load1 rfl ty_121 (tmp_ev e10) (hS.bk 0 rfl) rfl) hS rfl)
  refine ⟨fun a w hA hS hd => ?_, ?_⟩
  ·skip
   exact opG_of rfl (dv (op_loadA rfl ty_46 (hA.ev rfl) (hS.bk 4 rfl) (l := [(Value.int .i64 r1), (Value.int .i64 r2)]) rfl rfl) hS rfl)
  refine ⟨fun a w hA hS hd => ?_, ?_⟩
  ·skip
   have e11 := has_ev (hd 11 (by decide)) rfl (fun _ h => h)
   have e12 := has_ev (hd 12 (by decide)) rfl (fun _ h => h)
   exact opG_of rfl (dx (op_callv rfl (tmp_ev e11) en_91 (ev1 (tmp_ev e12)) (high_ok _ _ _)) hS (fun _ => rfl))
  refine ⟨fun a w hA hS hd => ?_, ?_⟩
  ·skip
   exact opG_of rfl (dv (op_field rfl fd_124_0 (hA.ev rfl)) hS rfl)
  refine ⟨fun a w hA hS hd => ?_, ?_⟩
  ·skip
   have e14 := has_ev (hd 14 (by decide)) rfl (fun _ h => h)
   exact opG_of rfl (dv (op_load1 rfl ty_121 (tmp_ev e14) (hS.bk 0 rfl) rfl) hS rfl)
  refine ⟨fun a w hA hS hd => ?_, ?_⟩
  ·skip
   exact opG_of rfl (dv (op_loadA rfl ty_46 (hA.ev rfl) (hS.bk 3 rfl) (l := [(Value.int .i64 o1), (Value.int .i64 o2)]) rfl rfl) hS rfl)
  trivial
 intro a39 w40 hA41 hS42 hH43; clear hA38 hS37
 have hA45 := hA41.add (has_ev (hH43 9 (by decide)) rfl (fun _ h => h)); clear hA41
 have hA46 := hA45.add (has_ev (hH43 13 (by decide)) rfl (fun _ h => h)); clear hA45
 have hA47 := hA46.add (has_ev (hH43 15 (by decide)) rfl (fun _ h => h)); clear hA46
 have hA48 := hA47.add (has_ev (hH43 16 (by decide)) rfl (fun _ h => h)); clear hA47
 clear hH43
 refine stw hA48 (op_callv rfl (hA48.ev rfl) en_91 (ev1 (hA48.ev rfl)) (high_ok _ _ _)) rfl rfl (by decide) ?_
 rintro a49 _ w51 ⟨rfl, hE52⟩ hA50; have hS53 := hS42.step hE52; clear hE52 hA48 hS42 a39
 refine stw hA50 (op_buildSlice hS53 rfl (pv2 (hA50.ev rfl) (hA50.ev rfl)) un_23 ty_3 ze_3 (by decide) (cs := [(Value.int .i64 r2), (Value.int .i64 o2)]) (bs_3_2_0i_1i _ _)) rfl rfl (by decide) ?_
 rintro a54 _ w56 ⟨b57, rfl, hS58⟩ hA55; clear hA50 hS53 a49
 refine stw hA55 (op_call rfl en_60 (ev1 (hA55.ev rfl)) (least_ok [r2, o2] _ _ (SlAt.of_blk (hS58.bk 0 rfl) rfl (Nat.le_of_ble_eq_true rfl)) (by simp) (by simp))) rfl rfl (by decide) ?_
 rintro a59 _ w61 ⟨rfl, hE62⟩ hA60; have hS63 := hS58.step hE62; clear hE62 hA55 hS58 a54
 refine st hA60 (op_build rfl (pv2 (hA60.ev rfl) (hA60.ev rfl)) (bd_46_0i_1i _ _)) rfl rfl (by decide) fun a64 hA65 => ?_; clear hA60 a59
 refine sts hA65 (op_store hS63 rfl ty_46 (hA65.ev rfl) (hA65.ev rfl) (i := 3) rfl (vs := [(Value.int .i64 (max r1 o1)), (Value.int .i64 (min r2 o2))]) rfl rfl rfl (Nat.le_of_ble_eq_true rfl)) rfl rfl ?_
 intro _ w66 hS67 hA68; clear hA65
 have hS69 : Sep NoB w w66 [(blk b57 3 [(Value.int .i64 r2), (Value.int .i64 o2)]), (blk b28 124 [(Value.func (.func 91) #[] #[])]), (blk b23 124 [(Value.func (.func 90) #[] #[])]), (blk b14 46 [(Value.int .i64 (max r1 o1)), (Value.int .i64 (min r2 o2))]), (blk b9 46 [(Value.int .i64 o1), (Value.int .i64 o2)]), (blk b4 46 [(Value.int .i64 r1), (Value.int .i64 r2)])] := hS67; clear hS67 hS63
 refine wl_nil ?_
 refine then_n ?_
 refine c_ret ?_
 refine fin_run hA68 (.inl rfl) (run_results1 hA68 rfl (.cellA rfl ty_46 (hS69.bk 3 rfl) (l := [(Value.int .i64 (max r1 o1)), (Value.int .i64 (min r2 o2))]) rfl rfl)) ?_
 exact ⟨rfl, hS69.ext⟩

end Go.Proofs.Ytfhmigoddaaljaa

namespace Go.Proofs.Ytfhmigoddaaljaa
open Go.RowKit Go.Shelf Go.Eng
theorem indexf_int (xs : List Int) (v : Value) (fid : Nat) (fs cs : Array Value) (p : Nat → Bool) (w : World) (hv : SlAt w v 1 xs.length (ints xs)) (hlen : xs.length ≤ 1000000) (hf : Asks Try.prog w fid fs cs xs.length (fun i => (Value.int .i64 (xs.getD i 0))) p) :
  Calls Try.prog 86 #[v, (Value.func (.func fid) fs cs)] w (Ret fun v w' => v = .int .i64 (fidx p xs.length) ∧ Ext NoB w w') := by
 refine calls_enter Try.func86 rfl fun a0 hA0 => ?_
 replace hA0 : Fr 19 [] [(0, v), (1, (Value.func (.func fid) fs cs))] a0 := hA0
 have hS0 : Sep NoB w w [(sl v 1 xs.length (ints xs))] := sep_ro ⟨rfl, hv, trivial⟩
 refine c_seq ?_
 refine c_region ?_
 refine st hA0 (op_assign rfl (evc _ _)) rfl rfl (by decide) fun a1 hA2 => ?_; clear hA0 a0
 refine wl_nil ?_
 refine then_n ?_
 refine c_seq ?_
 refine c_seq ?_
 refine c_region ?_
 refine st hA2 (op_move rfl (hA2.ev rfl)) rfl rfl (by decide) fun a3 hA4 => ?_; clear hA2 a1
 refine st hA4 (op_lenS rfl un_23 (hA4.ev rfl) (hS0.ok 0 _ rfl)) rfl rfl (by decide) fun a5 hA6 => ?_; clear hA4 a3
 refine st hA6 (op_move rfl (evc _ _)) rfl rfl (by decide) fun a7 hA8 => ?_; clear hA6 a5
 refine wl_nil ?_
 refine then_n ?_
 refine c_block ?_
 have hA9 := hA8.as [(8, (Value.int .i64 0)), (7, (Value.int .i64 (xs.length : Int))), (0, v), (1, (Value.func (.func fid) fs cs))] rfl; clear hA8
 refine c_loop (G := Nat) (fun (k : Nat) a_ w_ => Fr 19 [] [(8, (Value.int .i64 (k : Int))), (7, (Value.int .i64 (xs.length : Int))), (0, v), (1, (Value.func (.func fid) fs cs))] a_ ∧ Sep NoB w w_ [(sl v 1 xs.length (ints xs))] ∧ (k ≤ xs.length) ∧ (∀ i, i < k → p i = false)) (fun k => xs.length - k) 0 ⟨hA9.as _ rfl, hS0, by omega, by omega⟩ ?_
 clear hA9 hS0 a7
 rintro k a10 w12 ⟨hA11, hS13, hk, hn⟩
 refine c_seq ?_
 refine c_region ?_
 refine st hA11 (op_lss rfl (hA11.ev rfl) (hA11.ev rfl)) rfl rfl (by decide) fun a14 hA15 => ?_; clear hA11 a10
 refine wl_nil ?_
 refine then_n ?_
 refine c_seq ?_
 by_cases hb16 : (k : Int) < (xs.length : Int)
 ·skip
  rw [decide_eq_true hb16] at hA15
  refine c_true hA15 rfl ?_
  refine c_skip ?_
  refine then_n ?_
  refine c_seq ?_
  refine c_block ?_
  refine c_seq ?_
  refine c_region ?_
  refine st hA15 (op_move rfl (hA15.ev rfl)) rfl rfl (by decide) fun a17 hA18 => ?_; clear hA15 a14
  refine st hA18 (op_assign rfl (hA18.ev rfl)) rfl rfl (by decide) fun a19 hA20 => ?_; clear hA18 a17
  refine wl_nil ?_
  refine then_n ?_
  refine c_seq ?_
  refine c_region ?_
  refine st hA20 (op_move rfl (hA20.ev rfl)) rfl rfl (by decide) fun a21 hA22 => ?_; clear hA20 a19
  refine st hA22 (op_move rfl (hA22.ev rfl)) rfl rfl (by decide) fun a23 hA24 => ?_; clear hA22 a21
  refine st hA24 (op_move rfl (hA24.ev rfl)) rfl rfl (by decide) fun a25 hA26 => ?_; clear hA24 a23
  refine st hA26 (op_indexS rfl un_23 ty_3 (hA26.ev rfl) (i := k) (hA26.ev rfl) (hS13.ok 0 _ rfl) (by decide) (by omega)) rfl rfl (by decide) fun a27 hA28 => ?_; clear hA26 a25
  refine st hA28 (op_load1E rfl ty_3 (hA28.ev rfl) (hS13.ok 0 _ rfl) (ints_at (by omega))) rfl rfl (by decide) fun a29 hA30 => ?_; clear hA28 a27
  refine stw hA30 (op_callv rfl (hA30.ev rfl) hf.1 (ev1 (hA30.ev rfl)) (hf.2 k (by omega) _ hS13.ext)) rfl rfl (by decide) ?_
  rintro a31 _ w33 ⟨rfl, hE34⟩ hA32; have hS35 := hS13.step hE34; clear hA30 hS13 a29
  refine wl_nil ?_
  refine then_n ?_
  rcases Bool.eq_false_or_eq_true (p k) with hb36 | hb36
  ·skip
   rw [hb36] at hA32
   refine c_true hA32 rfl ?_
   refine c_seq ?_
   have hA37 := hA32.as [(5, (Value.int .i64 (k : Int)))] rfl; clear hA32
   refine c_region ?_
   refine st hA37 (op_move rfl (hA37.ev rfl)) rfl rfl (by decide) fun a38 hA39 => ?_; clear hA37 a31
   refine st hA39 (op_assign rfl (hA39.ev rfl)) rfl rfl (by decide) fun a40 hA41 => ?_; clear hA39 a38
   refine wl_nil ?_
   refine then_n ?_
   refine c_ret ?_
   refine blk_ret ?_
   refine then_ret ?_
   refine then_ret ?_
   refine blk_ret ?_
   refine then_ret ?_
   refine fin_run hA41 (.inl rfl) (run_results1 hA41 rfl (.tmp rfl)) ?_
   exact ⟨by first | rw [fidx_hit (by omega) hn (by assumption)] | rw [fidx_miss (fun i hi => hn i (by omega))], hS35.ext⟩
  ·skip
   rw [hb36] at hA32
   refine c_false hA32 rfl ?_
   refine c_skip ?_
   refine blk_n ?_
   refine then_n ?_
   have hA42 := hA32.as [(8, (Value.int .i64 (k : Int))), (7, (Value.int .i64 (xs.length : Int))), (0, v), (1, (Value.func (.func fid) fs cs))] rfl; clear hA32
   refine c_region ?_
   refine st hA42 (op_add rfl (hA42.ev rfl) (evc _ _) (by omega) (by omega)) rfl rfl (by decide) fun a43 hA44 => ?_; clear hA42 a31
   refine st hA44 (op_move rfl (hA44.ev rfl)) rfl rfl (by decide) fun a45 hA46 => ?_; clear hA44 a43
   refine wl_nil ?_
   exact then_n ⟨k + 1, ⟨hA46.as _ rfl, hS35, by omega, (fun i hi => by rcases Nat.lt_succ_iff_lt_or_eq.1 hi with h | h; exact hn i h; subst h; assumption)⟩, by omega⟩
 ·skip
  rw [decide_eq_false hb16] at hA15
  refine c_false hA15 rfl ?_
  refine c_exit ?_
  refine then_exit ?_
  refine then_exit ?_
  refine blk_hit ?_
  refine then_n ?_
  refine c_seq ?_
  refine c_region ?_
  refine st hA15 (op_assign rfl (evc _ _)) rfl rfl (by decide) fun a47 hA48 => ?_; clear hA15 a14
  refine wl_nil ?_
  refine then_n ?_
  refine c_ret ?_
  refine fin_run hA48 (.inl rfl) (run_results1 hA48 rfl (.tmp rfl)) ?_
  exact ⟨by first | rw [fidx_hit (by omega) hn (by assumption)] | rw [fidx_miss (fun i hi => hn i (by omega))], hS13.ext⟩

theorem contf_int (xs : List Int) (v : Value) (fid : Nat) (fs cs : Array Value) (p : Nat → Bool) (w : World) (hv : SlAt w v 1 xs.length (ints xs)) (hlen : xs.length ≤ 1000000) (hf : Asks Try.prog w fid fs cs xs.length (fun i => (Value.int .i64 (xs.getD i 0))) p) :
  Calls Try.prog 67 #[v, (Value.func (.func fid) fs cs)] w (Ret fun v w' => v = .bool ((List.range xs.length).any p) ∧ Ext NoB w w') := by
 refine calls_enter Try.func67 rfl fun a0 hA0 => ?_
 replace hA0 : Fr 9 [] [(0, v), (1, (Value.func (.func fid) fs cs))] a0 := hA0
 have hS0 : Sep NoB w w [(sl v 1 xs.length (ints xs))] := sep_ro ⟨rfl, hv, trivial⟩
 refine c_seq ?_
 refine c_region ?_
 refine st hA0 (op_assign rfl (evc _ _)) rfl rfl (by decide) fun a1 hA2 => ?_; clear hA0 a0
 refine wl_nil ?_
 refine then_n ?_
 refine c_seq ?_
 refine c_region ?_
 refine st hA2 (op_move rfl (hA2.ev rfl)) rfl rfl (by decide) fun a3 hA4 => ?_; clear hA2 a1
 refine st hA4 (op_move rfl (hA4.ev rfl)) rfl rfl (by decide) fun a5 hA6 => ?_; clear hA4 a3
 refine stw hA6 (op_call rfl en_86 (ev2 (hA6.ev rfl) (hA6.ev rfl)) (indexf_int xs _ _ _ _ p _ (hS0.ok 0 _ rfl) hlen (hf.step hS0.ext))) rfl rfl (by decide) ?_
 rintro a7 _ w9 ⟨rfl, hE10⟩ hA8; have hS11 := hS0.step hE10; clear hE10 hA6 hS0 a5
 refine st hA8 (op_geq rfl (hA8.ev rfl) (evc _ _)) rfl rfl (by decide) fun a12 hA13 => ?_; clear hA8 a7
 refine st hA13 (op_assign rfl (hA13.ev rfl)) rfl rfl (by decide) fun a14 hA15 => ?_; clear hA13 a12
 refine wl_nil ?_
 refine then_n ?_
 refine c_ret ?_
 refine fin_run hA15 (.inl rfl) (run_results1 hA15 rfl (.tmp rfl)) ?_
 exact ⟨congrArg Value.bool (fidx_any p xs.length), hS11.ext⟩

theorem clo_int (x : Int) (b fid : Nat) (fs cs : Array Value) (q : Bool) (w : World) (hb : (blk b 77 [.func (.func fid) fs cs]).p w) (hen : ∀ args W, (callFunc fid args).run Try.prog W = .ok (.enter fid args) W) (hf : ∀ W, Ext NoB w W → Calls Try.prog fid (fs ++ #[(Value.int .i64 x)] ++ cs) W (Ret fun v w' => v = .bool q ∧ Ext NoB W w')) :
  Calls Try.prog 68 #[(Value.int .i64 x), (bptr b 0)] w (Ret fun v w' => v = .bool (!q) ∧ Ext NoB w w') := by
 refine calls_enter Try.func68 rfl fun a0 hA0 => ?_
 replace hA0 : Fr 8 [] [(0, (Value.int .i64 x)), (1, (bptr b 0))] a0 := hA0
 have hS0 : Sep NoB w w [(rob b 77 [(Value.func (.func fid) fs cs)])] := sep_ro ⟨rfl, hb, trivial⟩
 refine c_seq ?_
 refine c_region ?_
 refine st hA0 (op_assign rfl (evc _ _)) rfl rfl (by decide) fun a1 hA2 => ?_; clear hA0 a0
 refine wl_nil ?_
 refine then_n ?_
 refine c_seq ?_
 refine c_region ?_
 refine st hA2 (op_load1 rfl ty_77 (hA2.ev rfl) (hS0.rk 0 rfl) rfl) rfl rfl (by decide) fun a3 hA4 => ?_; clear hA2 a1
 refine st hA4 (op_move rfl (hA4.ev rfl)) rfl rfl (by decide) fun a5 hA6 => ?_; clear hA4 a3
 refine stw hA6 (op_callv rfl (hA6.ev rfl) hen (ev1 (hA6.ev rfl)) (hf _ hS0.ext)) rfl rfl (by decide) ?_
 rintro a7 _ w9 ⟨rfl, hE10⟩ hA8; have hS11 := hS0.step hE10; clear hA6 hS0 a5
 refine st hA8 (op_not rfl (hA8.ev rfl)) rfl rfl (by decide) fun a12 hA13 => ?_; clear hA8 a7
 refine st hA13 (op_assign rfl (hA13.ev rfl)) rfl rfl (by decide) fun a14 hA15 => ?_; clear hA13 a12
 refine wl_nil ?_
 refine then_n ?_
 refine c_ret ?_
 refine fin_run hA15 (.inl rfl) (run_results1 hA15 rfl (.tmp rfl)) ?_
 exact ⟨rfl, hS11.ext⟩

theorem all_int (xs : List Int) (v : Value) (fid : Nat) (fs cs : Array Value) (p : Nat → Bool) (w : World) (hv : SlAt w v 1 xs.length (ints xs)) (hlen : xs.length ≤ 1000000) (hf : Asks Try.prog w fid fs cs xs.length (fun i => (Value.int .i64 (xs.getD i 0))) p) :
  Calls Try.prog 47 #[v, (Value.func (.func fid) fs cs)] w (Ret fun v w' => v = .bool ((List.range xs.length).all p) ∧ Ext NoB w w') := by
 refine calls_enter Try.func47 rfl fun a0 hA0 => ?_
 replace hA0 : Fr 9 [] [(0, v), (1, (Value.func (.func fid) fs cs))] a0 := hA0
 have hS0 : Sep NoB w w [(sl v 1 xs.length (ints xs))] := sep_ro ⟨rfl, hv, trivial⟩
 refine c_seq ?_
 refine c_region ?_
 refine stw hA0 (op_box hS0 rfl (hA0.ev rfl) (cs := [(Value.func (.func fid) fs cs)]) rfl) rfl rfl (by decide) ?_
 rintro a1 _ w3 ⟨b4, rfl, hS5⟩ hA2; clear hA0 hS0 a0
 refine st hA2 (op_assign rfl (evc _ _)) rfl rfl (by decide) fun a6 hA7 => ?_; clear hA2 a1
 refine wl_nil ?_
 refine then_n ?_
 refine c_seq ?_
 refine c_region ?_
 refine st hA7 (op_move rfl (hA7.ev rfl)) rfl rfl (by decide) fun a8 hA9 => ?_; clear hA7 a6
 refine st hA9 (op_makeFunc rfl ev0 (ev1 (hA9.ev rfl))) rfl rfl (by decide) fun a10 hA11 => ?_; clear hA9 a8
 refine stw hA11 (op_call rfl en_67 (ev2 (hA11.ev rfl) (hA11.ev rfl)) (contf_int xs _ 68 #[] #[(bptr b4 0)] (fun i => !p i) _ (hS5.ok 1 _ rfl) hlen ⟨en_68, fun i hi W hW => clo_int _ _ _ _ _ (p i) W ((hS5.step hW).bk 0 rfl) hf.1 (fun W' hW' => hf.2 i hi W' (hS5.ext.trans (hW.trans hW')))⟩)) rfl rfl (by decide) ?_
 rintro a12 _ w14 ⟨rfl, hE15⟩ hA13; have hS16 := hS5.step hE15; clear hE15 hA11 hS5 a10
 refine st hA13 (op_not rfl (hA13.ev rfl)) rfl rfl (by decide) fun a17 hA18 => ?_; clear hA13 a12
 refine st hA18 (op_assign rfl (hA18.ev rfl)) rfl rfl (by decide) fun a19 hA20 => ?_; clear hA18 a17
 refine wl_nil ?_
 refine then_n ?_
 refine c_ret ?_
 refine fin_run hA20 (.inl rfl) (run_results1 hA20 rfl (.tmp rfl)) ?_
 exact ⟨congrArg Value.bool (any_not p xs.length), hS16.ext⟩

theorem indexf_rng (xs : List (Int × Int)) (v : Value) (fid : Nat) (fs cs : Array Value) (p : Nat → Bool) (w : World) (hv : SlAt w v 2 xs.length (pairs xs)) (hlen : xs.length ≤ 1000000) (hf : Asks Try.prog w fid fs cs xs.length (fun i => (Value.agg #[(Value.int .i64 ((xs.getD i (0, 0)).1)), (Value.int .i64 ((xs.getD i (0, 0)).2))])) p) :
  Calls Try.prog 85 #[v, (Value.func (.func fid) fs cs)] w (Ret fun v w' => v = .int .i64 (fidx p xs.length) ∧ Ext NoB w w') := by
 refine calls_enter Try.func85 rfl fun a0 hA0 => ?_
 replace hA0 : Fr 19 [] [(0, v), (1, (Value.func (.func fid) fs cs))] a0 := hA0
 have hS0 : Sep NoB w w [(sl v 2 xs.length (pairs xs))] := sep_ro ⟨rfl, hv, trivial⟩
 refine c_seq ?_
 refine c_region ?_
 refine st hA0 (op_assign rfl (evc _ _)) rfl rfl (by decide) fun a1 hA2 => ?_; clear hA0 a0
 refine wl_nil ?_
 refine then_n ?_
 refine c_seq ?_
 refine c_seq ?_
 refine c_region ?_
 refine st hA2 (op_move rfl (hA2.ev rfl)) rfl rfl (by decide) fun a3 hA4 => ?_; clear hA2 a1
 refine st hA4 (op_lenS rfl un_31 (hA4.ev rfl) (hS0.ok 0 _ rfl)) rfl rfl (by decide) fun a5 hA6 => ?_; clear hA4 a3
 refine st hA6 (op_move rfl (evc _ _)) rfl rfl (by decide) fun a7 hA8 => ?_; clear hA6 a5
 refine wl_nil ?_
 refine then_n ?_
 refine c_block ?_
 have hA9 := hA8.as [(8, (Value.int .i64 0)), (7, (Value.int .i64 (xs.length : Int))), (0, v), (1, (Value.func (.func fid) fs cs))] rfl; clear hA8
 refine c_loop (G := Nat) (fun (k : Nat) a_ w_ => Fr 19 [] [(8, (Value.int .i64 (k : Int))), (7, (Value.int .i64 (xs.length : Int))), (0, v), (1, (Value.func (.func fid) fs cs))] a_ ∧ Sep NoB w w_ [(sl v 2 xs.length (pairs xs))] ∧ (k ≤ xs.length) ∧ (∀ i, i < k → p i = false)) (fun k => xs.length - k) 0 ⟨hA9.as _ rfl, hS0, by omega, by omega⟩ ?_
 clear hA9 hS0 a7
 rintro k a10 w12 ⟨hA11, hS13, hk, hn⟩
 refine c_seq ?_
 refine c_region ?_
 refine st hA11 (op_lss rfl (hA11.ev rfl) (hA11.ev rfl)) rfl rfl (by decide) fun a14 hA15 => ?_; clear hA11 a10
 refine wl_nil ?_
 refine then_n ?_
 refine c_seq ?_
 by_cases hb16 : (k : Int) < (xs.length : Int)
 ·skip
  rw [decide_eq_true hb16] at hA15
  refine c_true hA15 rfl ?_
  refine c_skip ?_
  refine then_n ?_
  refine c_seq ?_
  refine c_block ?_
  refine c_seq ?_
  refine c_region ?_
  refine st hA15 (op_move rfl (hA15.ev rfl)) rfl rfl (by decide) fun a17 hA18 => ?_; clear hA15 a14
  refine st hA18 (op_assign rfl (hA18.ev rfl)) rfl rfl (by decide) fun a19 hA20 => ?_; clear hA18 a17
  refine wl_nil ?_
  refine then_n ?_
  refine c_seq ?_
  refine c_region ?_
  refine st hA20 (op_move rfl (hA20.ev rfl)) rfl rfl (by decide) fun a21 hA22 => ?_; clear hA20 a19
  refine st hA22 (op_move rfl (hA22.ev rfl)) rfl rfl (by decide) fun a23 hA24 => ?_; clear hA22 a21
  refine st hA24 (op_move rfl (hA24.ev rfl)) rfl rfl (by decide) fun a25 hA26 => ?_; clear hA24 a23
  refine st hA26 (op_indexS rfl un_31 ty_46 (hA26.ev rfl) (i := k) (hA26.ev rfl) (hS13.ok 0 _ rfl) (by decide) (by omega)) rfl rfl (by decide) fun a27 hA28 => ?_; clear hA26 a25
  refine st hA28 (op_loadAE rfl ty_46 (hA28.ev rfl) (hS13.ok 0 _ rfl) (pairs_all (by omega)) rfl (by decide)) rfl rfl (by decide) fun a29 hA30 => ?_; clear hA28 a27
  refine stw hA30 (op_callv rfl (hA30.ev rfl) hf.1 (ev1 (hA30.ev rfl)) (hf.2 k (by omega) _ hS13.ext)) rfl rfl (by decide) ?_
  rintro a31 _ w33 ⟨rfl, hE34⟩ hA32; have hS35 := hS13.step hE34; clear hA30 hS13 a29
  refine wl_nil ?_
  refine then_n ?_
  rcases Bool.eq_false_or_eq_true (p k) with hb36 | hb36
  ·skip
   rw [hb36] at hA32
   refine c_true hA32 rfl ?_
   refine c_seq ?_
   have hA37 := hA32.as [(5, (Value.int .i64 (k : Int)))] rfl; clear hA32
   refine c_region ?_
   refine st hA37 (op_move rfl (hA37.ev rfl)) rfl rfl (by decide) fun a38 hA39 => ?_; clear hA37 a31
   refine st hA39 (op_assign rfl (hA39.ev rfl)) rfl rfl (by decide) fun a40 hA41 => ?_; clear hA39 a38
   refine wl_nil ?_
   refine then_n ?_
   refine c_ret ?_
   refine blk_ret ?_
   refine then_ret ?_
   refine then_ret ?_
   refine blk_ret ?_
   refine then_ret ?_
   refine fin_run hA41 (.inl rfl) (run_results1 hA41 rfl (.tmp rfl)) ?_
   exact ⟨by first | rw [fidx_hit (by omega) hn (by assumption)] | rw [fidx_miss (fun i hi => hn i (by omega))], hS35.ext⟩
  ·skip
   rw [hb36] at hA32
   refine c_false hA32 rfl ?_
   refine c_skip ?_
   refine blk_n ?_
   refine then_n ?_
   have hA42 := hA32.as [(8, (Value.int .i64 (k : Int))), (7, (Value.int .i64 (xs.length : Int))), (0, v), (1, (Value.func (.func fid) fs cs))] rfl; clear hA32
   refine c_region ?_
   refine st hA42 (op_add rfl (hA42.ev rfl) (evc _ _) (by omega) (by omega)) rfl rfl (by decide) fun a43 hA44 => ?_; clear hA42 a31
   refine st hA44 (op_move rfl (hA44.ev rfl)) rfl rfl (by decide) fun a45 hA46 => ?_; clear hA44 a43
   refine wl_nil ?_
   exact then_n ⟨k + 1, ⟨hA46.as _ rfl, hS35, by omega, (fun i hi => by rcases Nat.lt_succ_iff_lt_or_eq.1 hi with h | h; exact hn i h; subst h; assumption)⟩, by omega⟩
 ·skip
  rw [decide_eq_false hb16] at hA15
  refine c_false hA15 rfl ?_
  refine c_exit ?_
  refine then_exit ?_
  refine then_exit ?_
  refine blk_hit ?_
  refine then_n ?_
  refine c_seq ?_
  refine c_region ?_
  refine st hA15 (op_assign rfl (evc _ _)) rfl rfl (by decide) fun a47 hA48 => ?_; clear hA15 a14
  refine wl_nil ?_
  refine then_n ?_
  refine c_ret ?_
  refine fin_run hA48 (.inl rfl) (run_results1 hA48 rfl (.tmp rfl)) ?_
  exact ⟨by first | rw [fidx_hit (by omega) hn (by assumption)] | rw [fidx_miss (fun i hi => hn i (by omega))], hS13.ext⟩

theorem contf_rng (xs : List (Int × Int)) (v : Value) (fid : Nat) (fs cs : Array Value) (p : Nat → Bool) (w : World) (hv : SlAt w v 2 xs.length (pairs xs)) (hlen : xs.length ≤ 1000000) (hf : Asks Try.prog w fid fs cs xs.length (fun i => (Value.agg #[(Value.int .i64 ((xs.getD i (0, 0)).1)), (Value.int .i64 ((xs.getD i (0, 0)).2))])) p) :
  Calls Try.prog 65 #[v, (Value.func (.func fid) fs cs)] w (Ret fun v w' => v = .bool ((List.range xs.length).any p) ∧ Ext NoB w w') := by
 refine calls_enter Try.func65 rfl fun a0 hA0 => ?_
 replace hA0 : Fr 9 [] [(0, v), (1, (Value.func (.func fid) fs cs))] a0 := hA0
 have hS0 : Sep NoB w w [(sl v 2 xs.length (pairs xs))] := sep_ro ⟨rfl, hv, trivial⟩
 refine c_seq ?_
 refine c_region ?_
 refine st hA0 (op_assign rfl (evc _ _)) rfl rfl (by decide) fun a1 hA2 => ?_; clear hA0 a0
 refine wl_nil ?_
 refine then_n ?_
 refine c_seq ?_
 refine c_region ?_
 refine st hA2 (op_move rfl (hA2.ev rfl)) rfl rfl (by decide) fun a3 hA4 => ?_; clear hA2 a1
 refine st hA4 (op_move rfl (hA4.ev rfl)) rfl rfl (by decide) fun a5 hA6 => ?_; clear hA4 a3
 refine stw hA6 (op_call rfl en_85 (ev2 (hA6.ev rfl) (hA6.ev rfl)) (indexf_rng xs _ _ _ _ p _ (hS0.ok 0 _ rfl) hlen (hf.step hS0.ext))) rfl rfl (by decide) ?_
 rintro a7 _ w9 ⟨rfl, hE10⟩ hA8; have hS11 := hS0.step hE10; clear hE10 hA6 hS0 a5
 refine st hA8 (op_geq rfl (hA8.ev rfl) (evc _ _)) rfl rfl (by decide) fun a12 hA13 => ?_; clear hA8 a7
 refine st hA13 (op_assign rfl (hA13.ev rfl)) rfl rfl (by decide) fun a14 hA15 => ?_; clear hA13 a12
 refine wl_nil ?_
 refine then_n ?_
 refine c_ret ?_
 refine fin_run hA15 (.inl rfl) (run_results1 hA15 rfl (.tmp rfl)) ?_
 exact ⟨congrArg Value.bool (fidx_any p xs.length), hS11.ext⟩

theorem clo_rng (x1 x2 : Int) (b fid : Nat) (fs cs : Array Value) (q : Bool) (w : World) (hb : (blk b 79 [.func (.func fid) fs cs]).p w) (hen : ∀ args W, (callFunc fid args).run Try.prog W = .ok (.enter fid args) W) (hf : ∀ W, Ext NoB w W → Calls Try.prog fid (fs ++ #[(Value.agg #[(Value.int .i64 x1), (Value.int .i64 x2)])] ++ cs) W (Ret fun v w' => v = .bool q ∧ Ext NoB W w')) :
  Calls Try.prog 66 #[(Value.agg #[(Value.int .i64 x1), (Value.int .i64 x2)]), (bptr b 0)] w (Ret fun v w' => v = .bool (!q) ∧ Ext NoB w w') := by
 refine calls_enter Try.func66 rfl fun a0 hA0 => ?_
 replace hA0 : Fr 8 [] [(0, (Value.agg #[(Value.int .i64 x1), (Value.int .i64 x2)])), (1, (bptr b 0))] a0 := hA0
 have hS0 : Sep NoB w w [(rob b 79 [(Value.func (.func fid) fs cs)])] := sep_ro ⟨rfl, hb, trivial⟩
 refine c_seq ?_
 refine c_region ?_
 refine stw hA0 (op_box hS0 rfl (hA0.ev rfl) (cs := [(Value.int .i64 x1), (Value.int .i64 x2)]) rfl) rfl rfl (by decide) ?_
 rintro a1 _ w3 ⟨b4, rfl, hS5⟩ hA2; clear hA0 hS0 a0
 refine st hA2 (op_assign rfl (evc _ _)) rfl rfl (by decide) fun a6 hA7 => ?_; clear hA2 a1
 refine wl_nil ?_
 refine then_n ?_
 refine c_seq ?_
 refine c_region ?_
 refine st hA7 (op_load1 rfl ty_79 (hA7.ev rfl) (hS5.rk 1 rfl) rfl) rfl rfl (by decide) fun a8 hA9 => ?_; clear hA7 a6
 refine st hA9 (op_loadA rfl ty_46 (hA9.ev rfl) (hS5.bk 0 rfl) (l := [(Value.int .i64 x1), (Value.int .i64 x2)]) rfl rfl) rfl rfl (by decide) fun a10 hA11 => ?_; clear hA9 a8
 refine stw hA11 (op_callv rfl (hA11.ev rfl) hen (ev1 (hA11.ev rfl)) (hf _ hS5.ext)) rfl rfl (by decide) ?_
 rintro a12 _ w14 ⟨rfl, hE15⟩ hA13; have hS16 := hS5.step hE15; clear hA11 hS5 a10
 refine st hA13 (op_not rfl (hA13.ev rfl)) rfl rfl (by decide) fun a17 hA18 => ?_; clear hA13 a12
 refine st hA18 (op_assign rfl (hA18.ev rfl)) rfl rfl (by decide) fun a19 hA20 => ?_; clear hA18 a17
 refine wl_nil ?_
 refine then_n ?_
 refine c_ret ?_
 refine fin_run hA20 (.inl rfl) (run_results1 hA20 rfl (.tmp rfl)) ?_
 exact ⟨rfl, hS16.ext⟩

theorem all_rng (xs : List (Int × Int)) (v : Value) (fid : Nat) (fs cs : Array Value) (p : Nat → Bool) (w : World) (hv : SlAt w v 2 xs.length (pairs xs)) (hlen : xs.length ≤ 1000000) (hf : Asks Try.prog w fid fs cs xs.length (fun i => (Value.agg #[(Value.int .i64 ((xs.getD i (0, 0)).1)), (Value.int .i64 ((xs.getD i (0, 0)).2))])) p) :
  Calls Try.prog 45 #[v, (Value.func (.func fid) fs cs)] w (Ret fun v w' => v = .bool ((List.range xs.length).all p) ∧ Ext NoB w w') := by
 refine calls_enter Try.func45 rfl fun a0 hA0 => ?_
 replace hA0 : Fr 9 [] [(0, v), (1, (Value.func (.func fid) fs cs))] a0 := hA0
 have hS0 : Sep NoB w w [(sl v 2 xs.length (pairs xs))] := sep_ro ⟨rfl, hv, trivial⟩
 refine c_seq ?_
 refine c_region ?_
 refine stw hA0 (op_box hS0 rfl (hA0.ev rfl) (cs := [(Value.func (.func fid) fs cs)]) rfl) rfl rfl (by decide) ?_
 rintro a1 _ w3 ⟨b4, rfl, hS5⟩ hA2; clear hA0 hS0 a0
 refine st hA2 (op_assign rfl (evc _ _)) rfl rfl (by decide) fun a6 hA7 => ?_; clear hA2 a1
 refine wl_nil ?_
 refine then_n ?_
 refine c_seq ?_
 refine c_region ?_
 refine st hA7 (op_move rfl (hA7.ev rfl)) rfl rfl (by decide) fun a8 hA9 => ?_; clear hA7 a6
 refine st hA9 (op_makeFunc rfl ev0 (ev1 (hA9.ev rfl))) rfl rfl (by decide) fun a10 hA11 => ?_; clear hA9 a8
 refine stw hA11 (op_call rfl en_65 (ev2 (hA11.ev rfl) (hA11.ev rfl)) (contf_rng xs _ 66 #[] #[(bptr b4 0)] (fun i => !p i) _ (hS5.ok 1 _ rfl) hlen ⟨en_66, fun i hi W hW => clo_rng _ _ _ _ _ _ (p i) W ((hS5.step hW).bk 0 rfl) hf.1 (fun W' hW' => hf.2 i hi W' (hS5.ext.trans (hW.trans hW')))⟩)) rfl rfl (by decide) ?_
 rintro a12 _ w14 ⟨rfl, hE15⟩ hA13; have hS16 := hS5.step hE15; clear hE15 hA11 hS5 a10
 refine st hA13 (op_not rfl (hA13.ev rfl)) rfl rfl (by decide) fun a17 hA18 => ?_; clear hA13 a12
 refine st hA18 (op_assign rfl (hA18.ev rfl)) rfl rfl (by decide) fun a19 hA20 => ?_; clear hA18 a17
 refine wl_nil ?_
 refine then_n ?_
 refine c_ret ?_
 refine fin_run hA20 (.inl rfl) (run_results1 hA20 rfl (.tmp rfl)) ?_
 exact ⟨congrArg Value.bool (any_not p xs.length), hS16.ext⟩

theorem indexf_lab (xs : List (Int × Value)) (v : Value) (fid : Nat) (fs cs : Array Value) (p : Nat → Bool) (w : World) (hv : SlAt w v 2 xs.length (vpairs xs)) (hlen : xs.length ≤ 1000000) (hf : Asks Try.prog w fid fs cs xs.length (fun i => (Value.agg #[(Value.int .i64 ((xs.getD i (0, nilS)).1)), (xs.getD i (0, nilS)).2])) p) :
  Calls Try.prog 87 #[v, (Value.func (.func fid) fs cs)] w (Ret fun v w' => v = .int .i64 (fidx p xs.length) ∧ Ext NoB w w') := by
 refine calls_enter Try.func87 rfl fun a0 hA0 => ?_
 replace hA0 : Fr 19 [] [(0, v), (1, (Value.func (.func fid) fs cs))] a0 := hA0
 have hS0 : Sep NoB w w [(sl v 2 xs.length (vpairs xs))] := sep_ro ⟨rfl, hv, trivial⟩
 refine c_seq ?_
 refine c_region ?_
 refine st hA0 (op_assign rfl (evc _ _)) rfl rfl (by decide) fun a1 hA2 => ?_; clear hA0 a0
 refine wl_nil ?_
 refine then_n ?_
 refine c_seq ?_
 refine c_seq ?_
 refine c_region ?_
 refine st hA2 (op_move rfl (hA2.ev rfl)) rfl rfl (by decide) fun a3 hA4 => ?_; clear hA2 a1
 refine st hA4 (op_lenS rfl un_32 (hA4.ev rfl) (hS0.ok 0 _ rfl)) rfl rfl (by decide) fun a5 hA6 => ?_; clear hA4 a3
 refine st hA6 (op_move rfl (evc _ _)) rfl rfl (by decide) fun a7 hA8 => ?_; clear hA6 a5
 refine wl_nil ?_
 refine then_n ?_
 refine c_block ?_
 have hA9 := hA8.as [(8, (Value.int .i64 0)), (7, (Value.int .i64 (xs.length : Int))), (0, v), (1, (Value.func (.func fid) fs cs))] rfl; clear hA8
 refine c_loop (G := Nat) (fun (k : Nat) a_ w_ => Fr 19 [] [(8, (Value.int .i64 (k : Int))), (7, (Value.int .i64 (xs.length : Int))), (0, v), (1, (Value.func (.func fid) fs cs))] a_ ∧ Sep NoB w w_ [(sl v 2 xs.length (vpairs xs))] ∧ (k ≤ xs.length) ∧ (∀ i, i < k → p i = false)) (fun k => xs.length - k) 0 ⟨hA9.as _ rfl, hS0, by omega, by omega⟩ ?_
 clear hA9 hS0 a7
 rintro k a10 w12 ⟨hA11, hS13, hk, hn⟩
 refine c_seq ?_
 refine c_region ?_
 refine st hA11 (op_lss rfl (hA11.ev rfl) (hA11.ev rfl)) rfl rfl (by decide) fun a14 hA15 => ?_; clear hA11 a10
 refine wl_nil ?_
 refine then_n ?_
 refine c_seq ?_
 by_cases hb16 : (k : Int) < (xs.length : Int)
 ·skip
  rw [decide_eq_true hb16] at hA15
  refine c_true hA15 rfl ?_
  refine c_skip ?_
  refine then_n ?_
  refine c_seq ?_
  refine c_block ?_
  refine c_seq ?_
  refine c_region ?_
  refine st hA15 (op_move rfl (hA15.ev rfl)) rfl rfl (by decide) fun a17 hA18 => ?_; clear hA15 a14
  refine st hA18 (op_assign rfl (hA18.ev rfl)) rfl rfl (by decide) fun a19 hA20 => ?_; clear hA18 a17
  refine wl_nil ?_
  refine then_n ?_
  refine c_seq ?_
  refine c_region ?_
  refine st hA20 (op_move rfl (hA20.ev rfl)) rfl rfl (by decide) fun a21 hA22 => ?_; clear hA20 a19
  refine st hA22 (op_move rfl (hA22.ev rfl)) rfl rfl (by decide) fun a23 hA24 => ?_; clear hA22 a21
  refine st hA24 (op_move rfl (hA24.ev rfl)) rfl rfl (by decide) fun a25 hA26 => ?_; clear hA24 a23
  refine st hA26 (op_indexS rfl un_32 ty_75 (hA26.ev rfl) (i := k) (hA26.ev rfl) (hS13.ok 0 _ rfl) (by decide) (by omega)) rfl rfl (by decide) fun a27 hA28 => ?_; clear hA26 a25
  refine st hA28 (op_loadAE rfl ty_75 (hA28.ev rfl) (hS13.ok 0 _ rfl) (vpairs_all (by omega)) rfl (by decide)) rfl rfl (by decide) fun a29 hA30 => ?_; clear hA28 a27
  refine stw hA30 (op_callv rfl (hA30.ev rfl) hf.1 (ev1 (hA30.ev rfl)) (hf.2 k (by omega) _ hS13.ext)) rfl rfl (by decide) ?_
  rintro a31 _ w33 ⟨rfl, hE34⟩ hA32; have hS35 := hS13.step hE34; clear hA30 hS13 a29
  refine wl_nil ?_
  refine then_n ?_
  rcases Bool.eq_false_or_eq_true (p k) with hb36 | hb36
  ·skip
   rw [hb36] at hA32
   refine c_true hA32 rfl ?_
   refine c_seq ?_
   have hA37 := hA32.as [(5, (Value.int .i64 (k : Int)))] rfl; clear hA32
   refine c_region ?_
   refine st hA37 (op_move rfl (hA37.ev rfl)) rfl rfl (by decide) fun a38 hA39 => ?_; clear hA37 a31
   refine st hA39 (op_assign rfl (hA39.ev rfl)) rfl rfl (by decide) fun a40 hA41 => ?_; clear hA39 a38
   refine wl_nil ?_
   refine then_n ?_
   refine c_ret ?_
   refine blk_ret ?_
   refine then_ret ?_
   refine then_ret ?_
   refine blk_ret ?_
   refine then_ret ?_
   refine fin_run hA41 (.inl rfl) (run_results1 hA41 rfl (.tmp rfl)) ?_
   exact ⟨by first | rw [fidx_hit (by omega) hn (by assumption)] | rw [fidx_miss (fun i hi => hn i (by omega))], hS35.ext⟩
  ·skip
   rw [hb36] at hA32
   refine c_false hA32 rfl ?_
   refine c_skip ?_
   refine blk_n ?_
   refine then_n ?_
   have hA42 := hA32.as [(8, (Value.int .i64 (k : Int))), (7, (Value.int .i64 (xs.length : Int))), (0, v), (1, (Value.func (.func fid) fs cs))] rfl; clear hA32
   refine c_region ?_
   refine st hA42 (op_add rfl (hA42.ev rfl) (evc _ _) (by omega) (by omega)) rfl rfl (by decide) fun a43 hA44 => ?_; clear hA42 a31
   refine st hA44 (op_move rfl (hA44.ev rfl)) rfl rfl (by decide) fun a45 hA46 => ?_; clear hA44 a43
   refine wl_nil ?_
   exact then_n ⟨k + 1, ⟨hA46.as _ rfl, hS35, by omega, (fun i hi => by rcases Nat.lt_succ_iff_lt_or_eq.1 hi with h | h; exact hn i h; subst h; assumption)⟩, by omega⟩
 ·skip
  rw [decide_eq_false hb16] at hA15
  refine c_false hA15 rfl ?_
  refine c_exit ?_
  refine then_exit ?_
  refine then_exit ?_
  refine blk_hit ?_
  refine then_n ?_
  refine c_seq ?_
  refine c_region ?_
  refine st hA15 (op_assign rfl (evc _ _)) rfl rfl (by decide) fun a47 hA48 => ?_; clear hA15 a14
  refine wl_nil ?_
  refine then_n ?_
  refine c_ret ?_
  refine fin_run hA48 (.inl rfl) (run_results1 hA48 rfl (.tmp rfl)) ?_
  exact ⟨by first | rw [fidx_hit (by omega) hn (by assumption)] | rw [fidx_miss (fun i hi => hn i (by omega))], hS13.ext⟩

theorem contf_lab (xs : List (Int × Value)) (v : Value) (fid : Nat) (fs cs : Array Value) (p : Nat → Bool) (w : World) (hv : SlAt w v 2 xs.length (vpairs xs)) (hlen : xs.length ≤ 1000000) (hf : Asks Try.prog w fid fs cs xs.length (fun i => (Value.agg #[(Value.int .i64 ((xs.getD i (0, nilS)).1)), (xs.getD i (0, nilS)).2])) p) :
  Calls Try.prog 69 #[v, (Value.func (.func fid) fs cs)] w (Ret fun v w' => v = .bool ((List.range xs.length).any p) ∧ Ext NoB w w') := by
 refine calls_enter Try.func69 rfl fun a0 hA0 => ?_
 replace hA0 : Fr 9 [] [(0, v), (1, (Value.func (.func fid) fs cs))] a0 := hA0
 have hS0 : Sep NoB w w [(sl v 2 xs.length (vpairs xs))] := sep_ro ⟨rfl, hv, trivial⟩
 refine c_seq ?_
 refine c_region ?_
 refine st hA0 (op_assign rfl (evc _ _)) rfl rfl (by decide) fun a1 hA2 => ?_; clear hA0 a0
 refine wl_nil ?_
 refine then_n ?_
 refine c_seq ?_
 refine c_region ?_
 refine st hA2 (op_move rfl (hA2.ev rfl)) rfl rfl (by decide) fun a3 hA4 => ?_; clear hA2 a1
 refine st hA4 (op_move rfl (hA4.ev rfl)) rfl rfl (by decide) fun a5 hA6 => ?_; clear hA4 a3
 refine stw hA6 (op_call rfl en_87 (ev2 (hA6.ev rfl) (hA6.ev rfl)) (indexf_lab xs _ _ _ _ p _ (hS0.ok 0 _ rfl) hlen (hf.step hS0.ext))) rfl rfl (by decide) ?_
 rintro a7 _ w9 ⟨rfl, hE10⟩ hA8; have hS11 := hS0.step hE10; clear hE10 hA6 hS0 a5
 refine st hA8 (op_geq rfl (hA8.ev rfl) (evc _ _)) rfl rfl (by decide) fun a12 hA13 => ?_; clear hA8 a7
 refine st hA13 (op_assign rfl (hA13.ev rfl)) rfl rfl (by decide) fun a14 hA15 => ?_; clear hA13 a12
 refine wl_nil ?_
 refine then_n ?_
 refine c_ret ?_
 refine fin_run hA15 (.inl rfl) (run_results1 hA15 rfl (.tmp rfl)) ?_
 exact ⟨congrArg Value.bool (fidx_any p xs.length), hS11.ext⟩

theorem clo_lab (x1 : Int) (x2 : Value) (hx : x2.oneCell' = true) (b fid : Nat) (fs cs : Array Value) (q : Bool) (w : World) (hb : (blk b 82 [.func (.func fid) fs cs]).p w) (hen : ∀ args W, (callFunc fid args).run Try.prog W = .ok (.enter fid args) W) (hf : ∀ W, Ext NoB w W → Calls Try.prog fid (fs ++ #[(Value.agg #[(Value.int .i64 x1), x2])] ++ cs) W (Ret fun v w' => v = .bool q ∧ Ext NoB W w')) :
  Calls Try.prog 70 #[(Value.agg #[(Value.int .i64 x1), x2]), (bptr b 0)] w (Ret fun v w' => v = .bool (!q) ∧ Ext NoB w w') := by
 refine calls_enter Try.func70 rfl fun a0 hA0 => ?_
 replace hA0 : Fr 8 [] [(0, (Value.agg #[(Value.int .i64 x1), x2])), (1, (bptr b 0))] a0 := hA0
 have hS0 : Sep NoB w w [(rob b 82 [(Value.func (.func fid) fs cs)])] := sep_ro ⟨rfl, hb, trivial⟩
 refine c_seq ?_
 refine c_region ?_
 refine stw hA0 (op_box hS0 rfl (hA0.ev rfl) (cs := [(Value.int .i64 x1), x2]) rfl) rfl rfl (by decide) ?_
 rintro a1 _ w3 ⟨b4, rfl, hS5⟩ hA2; clear hA0 hS0 a0
 refine st hA2 (op_assign rfl (evc _ _)) rfl rfl (by decide) fun a6 hA7 => ?_; clear hA2 a1
 refine wl_nil ?_
 refine then_n ?_
 refine c_seq ?_
 refine c_region ?_
 refine st hA7 (op_load1 rfl ty_82 (hA7.ev rfl) (hS5.rk 1 rfl) rfl) rfl rfl (by decide) fun a8 hA9 => ?_; clear hA7 a6
 refine st hA9 (op_loadA rfl ty_75 (hA9.ev rfl) (hS5.bk 0 rfl) (l := [(Value.int .i64 x1), x2]) rfl rfl) rfl rfl (by decide) fun a10 hA11 => ?_; clear hA9 a8
 refine stw hA11 (op_callv rfl (hA11.ev rfl) hen (ev1 (hA11.ev rfl)) (hf _ hS5.ext)) rfl rfl (by decide) ?_
 rintro a12 _ w14 ⟨rfl, hE15⟩ hA13; have hS16 := hS5.step hE15; clear hA11 hS5 a10
 refine st hA13 (op_not rfl (hA13.ev rfl)) rfl rfl (by decide) fun a17 hA18 => ?_; clear hA13 a12
 refine st hA18 (op_assign rfl (hA18.ev rfl)) rfl rfl (by decide) fun a19 hA20 => ?_; clear hA18 a17
 refine wl_nil ?_
 refine then_n ?_
 refine c_ret ?_
 refine fin_run hA20 (.inl rfl) (run_results1 hA20 rfl (.tmp rfl)) ?_
 exact ⟨rfl, hS16.ext⟩

theorem all_lab (xs : List (Int × Value)) (v : Value) (fid : Nat) (fs cs : Array Value) (p : Nat → Bool) (w : World) (hv : SlAt w v 2 xs.length (vpairs xs)) (hlen : xs.length ≤ 1000000) (hf : Asks Try.prog w fid fs cs xs.length (fun i => (Value.agg #[(Value.int .i64 ((xs.getD i (0, nilS)).1)), (xs.getD i (0, nilS)).2])) p) (hone : ∀ i, i < xs.length → (xs.getD i (0, nilS)).2.oneCell' = true) :
  Calls Try.prog 49 #[v, (Value.func (.func fid) fs cs)] w (Ret fun v w' => v = .bool ((List.range xs.length).all p) ∧ Ext NoB w w') := by
 refine calls_enter Try.func49 rfl fun a0 hA0 => ?_
 replace hA0 : Fr 9 [] [(0, v), (1, (Value.func (.func fid) fs cs))] a0 := hA0
 have hS0 : Sep NoB w w [(sl v 2 xs.length (vpairs xs))] := sep_ro ⟨rfl, hv, trivial⟩
 refine c_seq ?_
 refine c_region ?_
 refine stw hA0 (op_box hS0 rfl (hA0.ev rfl) (cs := [(Value.func (.func fid) fs cs)]) rfl) rfl rfl (by decide) ?_
 rintro a1 _ w3 ⟨b4, rfl, hS5⟩ hA2; clear hA0 hS0 a0
 refine st hA2 (op_assign rfl (evc _ _)) rfl rfl (by decide) fun a6 hA7 => ?_; clear hA2 a1
 refine wl_nil ?_
 refine then_n ?_
 refine c_seq ?_
 refine c_region ?_
 refine st hA7 (op_move rfl (hA7.ev rfl)) rfl rfl (by decide) fun a8 hA9 => ?_; clear hA7 a6
 refine st hA9 (op_makeFunc rfl ev0 (ev1 (hA9.ev rfl))) rfl rfl (by decide) fun a10 hA11 => ?_; clear hA9 a8
 refine stw hA11 (op_call rfl en_69 (ev2 (hA11.ev rfl) (hA11.ev rfl)) (contf_lab xs _ 70 #[] #[(bptr b4 0)] (fun i => !p i) _ (hS5.ok 1 _ rfl) hlen ⟨en_70, fun i hi W hW => clo_lab _ _ (hone i hi) _ _ _ _ (p i) W ((hS5.step hW).bk 0 rfl) hf.1 (fun W' hW' => hf.2 i hi W' (hS5.ext.trans (hW.trans hW')))⟩)) rfl rfl (by decide) ?_
 rintro a12 _ w14 ⟨rfl, hE15⟩ hA13; have hS16 := hS5.step hE15; clear hE15 hA11 hS5 a10
 refine st hA13 (op_not rfl (hA13.ev rfl)) rfl rfl (by decide) fun a17 hA18 => ?_; clear hA13 a12
 refine st hA18 (op_assign rfl (hA18.ev rfl)) rfl rfl (by decide) fun a19 hA20 => ?_; clear hA18 a17
 refine wl_nil ?_
 refine then_n ?_
 refine c_ret ?_
 refine fin_run hA20 (.inl rfl) (run_results1 hA20 rfl (.tmp rfl)) ?_
 exact ⟨congrArg Value.bool (any_not p xs.length), hS16.ext⟩

theorem indexf_sls (xs : List Value) (v : Value) (fid : Nat) (fs cs : Array Value) (p : Nat → Bool) (w : World) (hv : SlAt w v 1 xs.length xs) (hlen : xs.length ≤ 1000000) (hf : Asks Try.prog w fid fs cs xs.length (fun i => (xs.getD i nilS)) p) :
  Calls Try.prog 93 #[v, (Value.func (.func fid) fs cs)] w (Ret fun v w' => v = .int .i64 (fidx p xs.length) ∧ Ext NoB w w') := by
 refine calls_enter Try.func93 rfl fun a0 hA0 => ?_
 replace hA0 : Fr 19 [] [(0, v), (1, (Value.func (.func fid) fs cs))] a0 := hA0
 have hS0 : Sep NoB w w [(sl v 1 xs.length xs)] := sep_ro ⟨rfl, hv, trivial⟩
 refine c_seq ?_
 refine c_region ?_
 refine st hA0 (op_assign rfl (evc _ _)) rfl rfl (by decide) fun a1 hA2 => ?_; clear hA0 a0
 refine wl_nil ?_
 refine then_n ?_
 refine c_seq ?_
 refine c_seq ?_
 refine c_region ?_
 refine st hA2 (op_move rfl (hA2.ev rfl)) rfl rfl (by decide) fun a3 hA4 => ?_; clear hA2 a1
 refine st hA4 (op_lenS rfl un_51 (hA4.ev rfl) (hS0.ok 0 _ rfl)) rfl rfl (by decide) fun a5 hA6 => ?_; clear hA4 a3
 refine st hA6 (op_move rfl (evc _ _)) rfl rfl (by decide) fun a7 hA8 => ?_; clear hA6 a5
 refine wl_nil ?_
 refine then_n ?_
 refine c_block ?_
 have hA9 := hA8.as [(8, (Value.int .i64 0)), (7, (Value.int .i64 (xs.length : Int))), (0, v), (1, (Value.func (.func fid) fs cs))] rfl; clear hA8
 refine c_loop (G := Nat) (fun (k : Nat) a_ w_ => Fr 19 [] [(8, (Value.int .i64 (k : Int))), (7, (Value.int .i64 (xs.length : Int))), (0, v), (1, (Value.func (.func fid) fs cs))] a_ ∧ Sep NoB w w_ [(sl v 1 xs.length xs)] ∧ (k ≤ xs.length) ∧ (∀ i, i < k → p i = false)) (fun k => xs.length - k) 0 ⟨hA9.as _ rfl, hS0, by omega, by omega⟩ ?_
 clear hA9 hS0 a7
 rintro k a10 w12 ⟨hA11, hS13, hk, hn⟩
 refine c_seq ?_
 refine c_region ?_
 refine st hA11 (op_lss rfl (hA11.ev rfl) (hA11.ev rfl)) rfl rfl (by decide) fun a14 hA15 => ?_; clear hA11 a10
 refine wl_nil ?_
 refine then_n ?_
 refine c_seq ?_
 by_cases hb16 : (k : Int) < (xs.length : Int)
 ·skip
  rw [decide_eq_true hb16] at hA15
  refine c_true hA15 rfl ?_
  refine c_skip ?_
  refine then_n ?_
  refine c_seq ?_
  refine c_block ?_
  refine c_seq ?_
  refine c_region ?_
  refine st hA15 (op_move rfl (hA15.ev rfl)) rfl rfl (by decide) fun a17 hA18 => ?_; clear hA15 a14
  refine st hA18 (op_assign rfl (hA18.ev rfl)) rfl rfl (by decide) fun a19 hA20 => ?_; clear hA18 a17
  refine wl_nil ?_
  refine then_n ?_
  refine c_seq ?_
  refine c_region ?_
  refine st hA20 (op_move rfl (hA20.ev rfl)) rfl rfl (by decide) fun a21 hA22 => ?_; clear hA20 a19
  refine st hA22 (op_move rfl (hA22.ev rfl)) rfl rfl (by decide) fun a23 hA24 => ?_; clear hA22 a21
  refine st hA24 (op_move rfl (hA24.ev rfl)) rfl rfl (by decide) fun a25 hA26 => ?_; clear hA24 a23
  refine st hA26 (op_indexS rfl un_51 ty_23 (hA26.ev rfl) (i := k) (hA26.ev rfl) (hS13.ok 0 _ rfl) (by decide) (by omega)) rfl rfl (by decide) fun a27 hA28 => ?_; clear hA26 a25
  refine st hA28 (op_load1E rfl ty_23 (hA28.ev rfl) (hS13.ok 0 _ rfl) (vals_at (by omega))) rfl rfl (by decide) fun a29 hA30 => ?_; clear hA28 a27
  refine stw hA30 (op_callv rfl (hA30.ev rfl) hf.1 (ev1 (hA30.ev rfl)) (hf.2 k (by omega) _ hS13.ext)) rfl rfl (by decide) ?_
  rintro a31 _ w33 ⟨rfl, hE34⟩ hA32; have hS35 := hS13.step hE34; clear hA30 hS13 a29
  refine wl_nil ?_
  refine then_n ?_
  rcases Bool.eq_false_or_eq_true (p k) with hb36 | hb36
  ·skip
   rw [hb36] at hA32
   refine c_true hA32 rfl ?_
   refine c_seq ?_
   have hA37 := hA32.as [(5, (Value.int .i64 (k : Int)))] rfl; clear hA32
   refine c_region ?_
   refine st hA37 (op_move rfl (hA37.ev rfl)) rfl rfl (by decide) fun a38 hA39 => ?_; clear hA37 a31
   refine st hA39 (op_assign rfl (hA39.ev rfl)) rfl rfl (by decide) fun a40 hA41 => ?_; clear hA39 a38
   refine wl_nil ?_
   refine then_n ?_
   refine c_ret ?_
   refine blk_ret ?_
   refine then_ret ?_
   refine then_ret ?_
   refine blk_ret ?_
   refine then_ret ?_
   refine fin_run hA41 (.inl rfl) (run_results1 hA41 rfl (.tmp rfl)) ?_
   exact ⟨by first | rw [fidx_hit (by omega) hn (by assumption)] | rw [fidx_miss (fun i hi => hn i (by omega))], hS35.ext⟩
  ·skip
   rw [hb36] at hA32
   refine c_false hA32 rfl ?_
   refine c_skip ?_
   refine blk_n ?_
   refine then_n ?_
   have hA42 := hA32.as [(8, (Value.int .i64 (k : Int))), (7, (Value.int .i64 (xs.length : Int))), (0, v), (1, (Value.func (.func fid) fs cs))] rfl; clear hA32
   refine c_region ?_
   refine st hA42 (op_add rfl (hA42.ev rfl) (evc _ _) (by omega) (by omega)) rfl rfl (by decide) fun a43 hA44 => ?_; clear hA42 a31
   refine st hA44 (op_move rfl (hA44.ev rfl)) rfl rfl (by decide) fun a45 hA46 => ?_; clear hA44 a43
   refine wl_nil ?_
   exact then_n ⟨k + 1, ⟨hA46.as _ rfl, hS35, by omega, (fun i hi => by rcases Nat.lt_succ_iff_lt_or_eq.1 hi with h | h; exact hn i h; subst h; assumption)⟩, by omega⟩
 ·skip
  rw [decide_eq_false hb16] at hA15
  refine c_false hA15 rfl ?_
  refine c_exit ?_
  refine then_exit ?_
  refine then_exit ?_
  refine blk_hit ?_
  refine then_n ?_
  refine c_seq ?_
  refine c_region ?_
  refine st hA15 (op_assign rfl (evc _ _)) rfl rfl (by decide) fun a47 hA48 => ?_; clear hA15 a14
  refine wl_nil ?_
  refine then_n ?_
  refine c_ret ?_
  refine fin_run hA48 (.inl rfl) (run_results1 hA48 rfl (.tmp rfl)) ?_
  exact ⟨by first | rw [fidx_hit (by omega) hn (by assumption)] | rw [fidx_miss (fun i hi => hn i (by omega))], hS13.ext⟩

theorem contf_sls (xs : List Value) (v : Value) (fid : Nat) (fs cs : Array Value) (p : Nat → Bool) (w : World) (hv : SlAt w v 1 xs.length xs) (hlen : xs.length ≤ 1000000) (hf : Asks Try.prog w fid fs cs xs.length (fun i => (xs.getD i nilS)) p) :
  Calls Try.prog 82 #[v, (Value.func (.func fid) fs cs)] w (Ret fun v w' => v = .bool ((List.range xs.length).any p) ∧ Ext NoB w w') := by
 refine calls_enter Try.func82 rfl fun a0 hA0 => ?_
 replace hA0 : Fr 9 [] [(0, v), (1, (Value.func (.func fid) fs cs))] a0 := hA0
 have hS0 : Sep NoB w w [(sl v 1 xs.length xs)] := sep_ro ⟨rfl, hv, trivial⟩
 refine c_seq ?_
 refine c_region ?_
 refine st hA0 (op_assign rfl (evc _ _)) rfl rfl (by decide) fun a1 hA2 => ?_; clear hA0 a0
 refine wl_nil ?_
 refine then_n ?_
 refine c_seq ?_
 refine c_region ?_
 refine st hA2 (op_move rfl (hA2.ev rfl)) rfl rfl (by decide) fun a3 hA4 => ?_; clear hA2 a1
 refine st hA4 (op_move rfl (hA4.ev rfl)) rfl rfl (by decide) fun a5 hA6 => ?_; clear hA4 a3
 refine stw hA6 (op_call rfl en_93 (ev2 (hA6.ev rfl) (hA6.ev rfl)) (indexf_sls xs _ _ _ _ p _ (hS0.ok 0 _ rfl) hlen (hf.step hS0.ext))) rfl rfl (by decide) ?_
 rintro a7 _ w9 ⟨rfl, hE10⟩ hA8; have hS11 := hS0.step hE10; clear hE10 hA6 hS0 a5
 refine st hA8 (op_geq rfl (hA8.ev rfl) (evc _ _)) rfl rfl (by decide) fun a12 hA13 => ?_; clear hA8 a7
 refine st hA13 (op_assign rfl (hA13.ev rfl)) rfl rfl (by decide) fun a14 hA15 => ?_; clear hA13 a12
 refine wl_nil ?_
 refine then_n ?_
 refine c_ret ?_
 refine fin_run hA15 (.inl rfl) (run_results1 hA15 rfl (.tmp rfl)) ?_
 exact ⟨congrArg Value.bool (fidx_any p xs.length), hS11.ext⟩

theorem clo_sls (x : Value) (b fid : Nat) (fs cs : Array Value) (q : Bool) (w : World) (hb : (blk b 103 [.func (.func fid) fs cs]).p w) (hen : ∀ args W, (callFunc fid args).run Try.prog W = .ok (.enter fid args) W) (hf : ∀ W, Ext NoB w W → Calls Try.prog fid (fs ++ #[x] ++ cs) W (Ret fun v w' => v = .bool q ∧ Ext NoB W w')) :
  Calls Try.prog 83 #[x, (bptr b 0)] w (Ret fun v w' => v = .bool (!q) ∧ Ext NoB w w') := by
 refine calls_enter Try.func83 rfl fun a0 hA0 => ?_
 replace hA0 : Fr 8 [] [(0, x), (1, (bptr b 0))] a0 := hA0
 have hS0 : Sep NoB w w [(rob b 103 [(Value.func (.func fid) fs cs)])] := sep_ro ⟨rfl, hb, trivial⟩
 refine c_seq ?_
 refine c_region ?_
 refine st hA0 (op_assign rfl (evc _ _)) rfl rfl (by decide) fun a1 hA2 => ?_; clear hA0 a0
 refine wl_nil ?_
 refine then_n ?_
 refine c_seq ?_
 refine c_region ?_
 refine st hA2 (op_load1 rfl ty_103 (hA2.ev rfl) (hS0.rk 0 rfl) rfl) rfl rfl (by decide) fun a3 hA4 => ?_; clear hA2 a1
 refine st hA4 (op_move rfl (hA4.ev rfl)) rfl rfl (by decide) fun a5 hA6 => ?_; clear hA4 a3
 refine stw hA6 (op_callv rfl (hA6.ev rfl) hen (ev1 (hA6.ev rfl)) (hf _ hS0.ext)) rfl rfl (by decide) ?_
 rintro a7 _ w9 ⟨rfl, hE10⟩ hA8; have hS11 := hS0.step hE10; clear hA6 hS0 a5
 refine st hA8 (op_not rfl (hA8.ev rfl)) rfl rfl (by decide) fun a12 hA13 => ?_; clear hA8 a7
 refine st hA13 (op_assign rfl (hA13.ev rfl)) rfl rfl (by decide) fun a14 hA15 => ?_; clear hA13 a12
 refine wl_nil ?_
 refine then_n ?_
 refine c_ret ?_
 refine fin_run hA15 (.inl rfl) (run_results1 hA15 rfl (.tmp rfl)) ?_
 exact ⟨rfl, hS11.ext⟩

theorem all_sls (xs : List Value) (v : Value) (fid : Nat) (fs cs : Array Value) (p : Nat → Bool) (w : World) (hv : SlAt w v 1 xs.length xs) (hlen : xs.length ≤ 1000000) (hf : Asks Try.prog w fid fs cs xs.length (fun i => (xs.getD i nilS)) p) :
  Calls Try.prog 62 #[v, (Value.func (.func fid) fs cs)] w (Ret fun v w' => v = .bool ((List.range xs.length).all p) ∧ Ext NoB w w') := by
 refine calls_enter Try.func62 rfl fun a0 hA0 => ?_
 replace hA0 : Fr 9 [] [(0, v), (1, (Value.func (.func fid) fs cs))] a0 := hA0
 have hS0 : Sep NoB w w [(sl v 1 xs.length xs)] := sep_ro ⟨rfl, hv, trivial⟩
 refine c_seq ?_
 refine c_region ?_
 refine stw hA0 (op_box hS0 rfl (hA0.ev rfl) (cs := [(Value.func (.func fid) fs cs)]) rfl) rfl rfl (by decide) ?_
 rintro a1 _ w3 ⟨b4, rfl, hS5⟩ hA2; clear hA0 hS0 a0
 refine st hA2 (op_assign rfl (evc _ _)) rfl rfl (by decide) fun a6 hA7 => ?_; clear hA2 a1
 refine wl_nil ?_
 refine then_n ?_
 refine c_seq ?_
 refine c_region ?_
 refine st hA7 (op_move rfl (hA7.ev rfl)) rfl rfl (by decide) fun a8 hA9 => ?_; clear hA7 a6
 refine st hA9 (op_makeFunc rfl ev0 (ev1 (hA9.ev rfl))) rfl rfl (by decide) fun a10 hA11 => ?_; clear hA9 a8
 refine stw hA11 (op_call rfl en_82 (ev2 (hA11.ev rfl) (hA11.ev rfl)) (contf_sls xs _ 83 #[] #[(bptr b4 0)] (fun i => !p i) _ (hS5.ok 1 _ rfl) hlen ⟨en_83, fun i hi W hW => clo_sls _ _ _ _ _ (p i) W ((hS5.step hW).bk 0 rfl) hf.1 (fun W' hW' => hf.2 i hi W' (hS5.ext.trans (hW.trans hW')))⟩)) rfl rfl (by decide) ?_
 rintro a12 _ w14 ⟨rfl, hE15⟩ hA13; have hS16 := hS5.step hE15; clear hE15 hA11 hS5 a10
 refine st hA13 (op_not rfl (hA13.ev rfl)) rfl rfl (by decide) fun a17 hA18 => ?_; clear hA13 a12
 refine st hA18 (op_assign rfl (hA18.ev rfl)) rfl rfl (by decide) fun a19 hA20 => ?_; clear hA18 a17
 refine wl_nil ?_
 refine then_n ?_
 refine c_ret ?_
 refine fin_run hA20 (.inl rfl) (run_results1 hA20 rfl (.tmp rfl)) ?_
 exact ⟨congrArg Value.bool (any_not p xs.length), hS16.ext⟩

end Go.Proofs.Ytfhmigoddaaljaa

namespace Go.Proofs.Ytfhmigoddaaljaa
open Go.RowKit Go.Shelf Go.Eng
theorem smp_ok (n : Int) (b : Nat) (vl vs vb : Value) (lv : List Value) (d : RD) (w : World) (hR : RoundAt w vl vs vb lv d) (c1 c2 c3 : Value) (hb : (blk b 34 [vl, c1, c2, c3]).p w) (hlen : d.lots.length ≤ 1000000) :
  Calls Try.prog 43 #[(Value.int .i64 n), (bptr b 0)] w (Ret fun v w' => v = .bool (smpB d.lots.length n) ∧ Ext NoB w w') := by
 refine calls_enter Try.func43 rfl fun a0 hA0 => ?_
 replace hA0 : Fr 10 [] [(0, (Value.int .i64 n)), (1, (bptr b 0))] a0 := hA0
 have hS0 : Sep NoB w w [(rob b 34 [vl, c1, c2, c3]), (sl vl 2 d.lots.length (pairs d.lots)), (sl vs 1 d.samples.length (ints d.samples)), (sl vb 2 d.tols.length (vpairs (d.tols.zip lv))), (rdsR lv d.rds)] := sep_ro ⟨rfl, hb, rfl, hR.lots, rfl, hR.samples, rfl, hR.labs, rfl, hR.rds, trivial⟩
 refine c_seq ?_
 refine c_region ?_
 refine st hA0 (op_assign rfl (evc _ _)) rfl rfl (by decide) fun a1 hA2 => ?_; clear hA0 a0
 refine wl_nil ?_
 refine then_n ?_
 refine c_seq ?_
 refine c_region ?_
 refine st hA2 (op_move rfl (hA2.ev rfl)) rfl rfl (by decide) fun a3 hA4 => ?_; clear hA2 a1
 refine st hA4 (op_field rfl fd_34_0 (hA4.ev rfl)) rfl rfl (by decide) fun a5 hA6 => ?_; clear hA4 a3
 refine st hA6 (op_load1 rfl ty_31 (hA6.ev rfl) (hS0.rk 0 rfl) rfl) rfl rfl (by decide) fun a7 hA8 => ?_; clear hA6 a5
 refine st hA8 (op_lenS rfl un_31 (hA8.ev rfl) (hS0.sk 1 rfl)) rfl rfl (by decide) fun a9 hA10 => ?_; clear hA8 a7
 refine st hA10 (op_sub rfl (hA10.ev rfl) (evc _ _) (by omega) (by omega)) rfl rfl (by decide) fun a11 hA12 => ?_; clear hA10 a9
 refine stw hA12 (op_call rfl en_44 (ev3 (hA12.ev rfl) (evc _ _) (hA12.ev rfl)) (within_ok _ _ _ _)) rfl rfl (by decide) ?_
 rintro a13 _ _ ⟨rfl, rfl⟩ hA14; clear hA12 a11
 refine st hA14 (op_assign rfl (hA14.ev rfl)) rfl rfl (by decide) fun a16 hA17 => ?_; clear hA14 a13
 refine wl_nil ?_
 refine then_n ?_
 refine c_ret ?_
 refine fin_run hA17 (.inl rfl) (run_results1 hA17 rfl (.tmp rfl)) ?_
 exact ⟨rfl, hS0.ext⟩

theorem rd_ok (n : Int) (w : World) :
  Calls Try.prog 71 #[(Value.int .i64 n)] w (Ret fun v w' => v = .bool (rdB n) ∧ Ext NoB w w') := by
 refine calls_enter Try.func71 rfl fun a0 hA0 => ?_
 replace hA0 : Fr 5 [] [(0, (Value.int .i64 n))] a0 := hA0
 have hS0 : Sep NoB w w [] := Sep.start _ _
 refine c_seq ?_
 refine c_region ?_
 refine st hA0 (op_assign rfl (evc _ _)) rfl rfl (by decide) fun a1 hA2 => ?_; clear hA0 a0
 refine wl_nil ?_
 refine then_n ?_
 refine c_seq ?_
 refine c_region ?_
 refine st hA2 (op_move rfl (hA2.ev rfl)) rfl rfl (by decide) fun a3 hA4 => ?_; clear hA2 a1
 refine stw hA4 (op_call rfl en_44 (ev3 (hA4.ev rfl) (evc _ _) (evc _ _)) (within_ok _ _ _ _)) rfl rfl (by decide) ?_
 rintro a5 _ _ ⟨rfl, rfl⟩ hA6; clear hA4 a3
 refine st hA6 (op_assign rfl (hA6.ev rfl)) rfl rfl (by decide) fun a8 hA9 => ?_; clear hA6 a5
 refine wl_nil ?_
 refine then_n ?_
 refine c_ret ?_
 refine fin_run hA9 (.inl rfl) (run_results1 hA9 rfl (.tmp rfl)) ?_
 exact ⟨rfl, hS0.ext⟩

theorem lab_ok (vl vs vb : Value) (lv : List Value) (d : RD) (w : World) (hR : RoundAt w vl vs vb lv d) (tol : Int) (xv : Value) (rs : List Int) (hx : SlAt w xv 1 rs.length (ints rs)) (hns : d.samples.length ≤ 1000000) :
  Calls Try.prog 50 #[(Value.agg #[vl, vs, (Value.int .i64 d.spread), vb]), (Value.agg #[(Value.int .i64 tol), xv])] w (Ret fun v w' => v = .bool (labB d.samples.length tol rs) ∧ Ext NoB w w') := by
 refine calls_enter Try.func50 rfl fun a0 hA0 => ?_
 replace hA0 : Fr 24 [] [(0, (Value.agg #[vl, vs, (Value.int .i64 d.spread), vb])), (1, (Value.agg #[(Value.int .i64 tol), xv]))] a0 := hA0
 have hS0 : Sep NoB w w [(sl xv 1 rs.length (ints rs)), (sl vl 2 d.lots.length (pairs d.lots)), (sl vs 1 d.samples.length (ints d.samples)), (sl vb 2 d.tols.length (vpairs (d.tols.zip lv))), (rdsR lv d.rds)] := sep_ro ⟨rfl, hx, rfl, hR.lots, rfl, hR.samples, rfl, hR.labs, rfl, hR.rds, trivial⟩
 refine c_seq ?_
 refine c_region ?_
 refine stw hA0 (op_box hS0 rfl (hA0.ev rfl) (cs := [vl, vs, (Value.int .i64 d.spread), vb]) rfl) rfl rfl (by decide) ?_
 rintro a1 _ w3 ⟨b4, rfl, hS5⟩ hA2; clear hA0 hS0 a0
 refine stw hA2 (op_box hS5 rfl (hA2.ev rfl) (cs := [(Value.int .i64 tol), xv]) rfl) rfl rfl (by decide) ?_
 rintro a6 _ w8 ⟨b9, rfl, hS10⟩ hA7; clear hA2 hS5 a1
 refine st hA7 (op_assign rfl (evc _ _)) rfl rfl (by decide) fun a11 hA12 => ?_; clear hA7 a6
 refine wl_nil ?_
 refine then_n ?_
 refine c_seq ?_
 refine c_region ?_
 refine st hA12 (op_assign rfl (evf _ _)) rfl rfl (by decide) fun a13 hA14 => ?_; clear hA12 a11
 refine wl_nil ?_
 refine then_n ?_
 refine c_seq ?_
 refine c_region ?_
 refine st hA14 (op_field rfl fd_75_0 (hA14.ev rfl)) rfl rfl (by decide) fun a15 hA16 => ?_; clear hA14 a13
 refine st hA16 (op_load1 rfl ty_3 (hA16.ev rfl) (hS10.bk 0 rfl) rfl) rfl rfl (by decide) fun a17 hA18 => ?_; clear hA16 a15
 refine stw hA18 (op_call rfl en_48 (ev1 (hA18.ev rfl)) (tol_ok _ _)) rfl rfl (by decide) ?_
 rintro a19 _ _ ⟨rfl, rfl⟩ hA20; clear hA18 a17
 refine st hA20 (op_move rfl (hA20.ev rfl)) rfl rfl (by decide) fun a22 hA23 => ?_; clear hA20 a19
 rcases Bool.eq_false_or_eq_true ((decide (0 ≤ tol) && decide (tol ≤ 100))) with hb24 | hb24
 ·skip
  rw [hb24] at hA23
  have hq25 := hb24; simp only [Bool.and_eq_true, Bool.and_eq_false_iff, decide_eq_true_eq, decide_eq_false_iff_not] at hq25
  refine stg hA23 (op_field rfl fd_75_1 (hA23.ev rfl)) rfl rfl rfl rfl (by decide) fun a26 hA27 => ?_; clear hA23 a22
  refine stg hA27 (op_load1 rfl ty_23 (hA27.ev rfl) (hS10.bk 0 rfl) rfl) rfl rfl rfl rfl (by decide) fun a28 hA29 => ?_; clear hA27 a26
  refine stg hA29 (op_lenS rfl un_23 (hA29.ev rfl) (hS10.sk 2 rfl)) rfl rfl rfl rfl (by decide) fun a30 hA31 => ?_; clear hA29 a28
  refine stg hA31 (op_field rfl fd_34_1 (hA31.ev rfl)) rfl rfl rfl rfl (by decide) fun a32 hA33 => ?_; clear hA31 a30
  refine stg hA33 (op_load1 rfl ty_23 (hA33.ev rfl) (hS10.bk 1 rfl) rfl) rfl rfl rfl rfl (by decide) fun a34 hA35 => ?_; clear hA33 a32
  refine stg hA35 (op_lenS rfl un_23 (hA35.ev rfl) (hS10.sk 4 rfl)) rfl rfl rfl rfl (by decide) fun a36 hA37 => ?_; clear hA35 a34
  refine stg hA37 (op_eql rfl (hA37.ev rfl) (hA37.ev rfl)) rfl rfl rfl rfl (by decide) fun a38 hA39 => ?_; clear hA37 a36
  refine st hA39 (op_pick_t rfl (hA39.ev rfl) (hA39.ev rfl)) rfl rfl (by decide) fun a40 hA41 => ?_; clear hA39 a38
  refine st hA41 (op_move rfl (hA41.ev rfl)) rfl rfl (by decide) fun a42 hA43 => ?_; clear hA41 a40
  by_cases hb44 : (rs.length : Int) = (d.samples.length : Int)
  ·skip
   rw [decide_eq_true hb44] at hA43
   refine stg hA43 (op_field rfl fd_75_1 (hA43.ev rfl)) rfl rfl rfl rfl (by decide) fun a45 hA46 => ?_; clear hA43 a42
   refine stg hA46 (op_load1 rfl ty_23 (hA46.ev rfl) (hS10.bk 0 rfl) rfl) rfl rfl rfl rfl (by decide) fun a47 hA48 => ?_; clear hA46 a45
   refine stg hA48 (op_move rfl (hA48.ev rfl)) rfl rfl rfl rfl (by decide) fun a49 hA50 => ?_; clear hA48 a47
   refine stwg hA50 (op_call rfl en_47 (ev2 (hA50.ev rfl) (hA50.ev rfl)) (all_int rs _ 71 #[] #[] (fun i => rdB (rs.getD i 0)) _ (hS10.sk 2 rfl) (by omega) ⟨en_71, fun i hi W hW => rd_ok _ W⟩)) rfl rfl rfl rfl (by decide) ?_
   rintro a51 _ w53 ⟨rfl, hE54⟩ hA52; have hS55 := hS10.step hE54; clear hE54 hA50 hS10 a49
   refine st hA52 (op_pick_t rfl (hA52.ev rfl) (hA52.ev rfl)) rfl rfl (by decide) fun a56 hA57 => ?_; clear hA52 a51
   refine st hA57 (op_assign rfl (hA57.ev rfl)) rfl rfl (by decide) fun a58 hA59 => ?_; clear hA57 a56
   refine wl_nil ?_
   refine then_n ?_
   refine c_ret ?_
   refine fin_run hA59 (.inl rfl) (run_results1 hA59 rfl (.tmp rfl)) ?_
   exact ⟨by simp [labB, tolB, *], hS55.ext⟩
  ·skip
   rw [decide_eq_false hb44] at hA43
   refine skp hA43 rfl rfl rfl rfl rfl (by decide) fun a60 hA61 => ?_; clear hA43 a42
   refine skp hA61 rfl rfl rfl rfl rfl (by decide) fun a62 hA63 => ?_; clear hA61 a60
   refine skp hA63 rfl rfl rfl rfl rfl (by decide) fun a64 hA65 => ?_; clear hA63 a62
   refine skp hA65 rfl rfl rfl rfl rfl (by decide) fun a66 hA67 => ?_; clear hA65 a64
   refine st hA67 (op_pick_f rfl (hA67.ev rfl) (evc _ _)) rfl rfl (by decide) fun a68 hA69 => ?_; clear hA67 a66
   refine st hA69 (op_assign rfl (hA69.ev rfl)) rfl rfl (by decide) fun a70 hA71 => ?_; clear hA69 a68
   refine wl_nil ?_
   refine then_n ?_
   refine c_ret ?_
   refine fin_run hA71 (.inl rfl) (run_results1 hA71 rfl (.tmp rfl)) ?_
   exact ⟨by simp [labB, tolB, *], hS10.ext⟩
 ·skip
  rw [hb24] at hA23
  have hq72 := hb24; simp only [Bool.and_eq_true, Bool.and_eq_false_iff, decide_eq_true_eq, decide_eq_false_iff_not] at hq72
  refine skp hA23 rfl rfl rfl rfl rfl (by decide) fun a73 hA74 => ?_; clear hA23 a22
  refine skp hA74 rfl rfl rfl rfl rfl (by decide) fun a75 hA76 => ?_; clear hA74 a73
  refine skp hA76 rfl rfl rfl rfl rfl (by decide) fun a77 hA78 => ?_; clear hA76 a75
  refine skp hA78 rfl rfl rfl rfl rfl (by decide) fun a79 hA80 => ?_; clear hA78 a77
  refine skp hA80 rfl rfl rfl rfl rfl (by decide) fun a81 hA82 => ?_; clear hA80 a79
  refine skp hA82 rfl rfl rfl rfl rfl (by decide) fun a83 hA84 => ?_; clear hA82 a81
  refine skp hA84 rfl rfl rfl rfl rfl (by decide) fun a85 hA86 => ?_; clear hA84 a83
  refine st hA86 (op_pick_f rfl (hA86.ev rfl) (evc _ _)) rfl rfl (by decide) fun a87 hA88 => ?_; clear hA86 a85
  refine st hA88 (op_move rfl (hA88.ev rfl)) rfl rfl (by decide) fun a89 hA90 => ?_; clear hA88 a87
  refine skp hA90 rfl rfl rfl rfl rfl (by decide) fun a91 hA92 => ?_; clear hA90 a89
  refine skp hA92 rfl rfl rfl rfl rfl (by decide) fun a93 hA94 => ?_; clear hA92 a91
  refine skp hA94 rfl rfl rfl rfl rfl (by decide) fun a95 hA96 => ?_; clear hA94 a93
  refine skp hA96 rfl rfl rfl rfl rfl (by decide) fun a97 hA98 => ?_; clear hA96 a95
  refine st hA98 (op_pick_f rfl (hA98.ev rfl) (evc _ _)) rfl rfl (by decide) fun a99 hA100 => ?_; clear hA98 a97
  refine st hA100 (op_assign rfl (hA100.ev rfl)) rfl rfl (by decide) fun a101 hA102 => ?_; clear hA100 a99
  refine wl_nil ?_
  refine then_n ?_
  refine c_ret ?_
  refine fin_run hA102 (.inl rfl) (run_results1 hA102 rfl (.tmp rfl)) ?_
  exact ⟨by simp [labB, tolB, *], hS10.ext⟩

theorem check_ok (vl vs vb : Value) (lv : List Value) (d : RD) (w : World) (hR : RoundAt w vl vs vb lv d) :
  Calls Try.prog 19 #[(Value.agg #[vl, vs, (Value.int .i64 d.spread), vb])] w (Ret fun v w' => v = .int .i64 (checkR d) ∧ Ext NoB w w') := by
 refine calls_enter Try.func19 rfl fun a0 hA0 => ?_
 replace hA0 : Fr 54 [] [(0, (Value.agg #[vl, vs, (Value.int .i64 d.spread), vb]))] a0 := hA0
 have hS0 : Sep NoB w w [(sl vl 2 d.lots.length (pairs d.lots)), (sl vs 1 d.samples.length (ints d.samples)), (sl vb 2 d.tols.length (vpairs (d.tols.zip lv))), (rdsR lv d.rds)] := sep_ro ⟨rfl, hR.lots, rfl, hR.samples, rfl, hR.labs, rfl, hR.rds, trivial⟩
 refine c_seq ?_
 refine c_region ?_
 refine stw hA0 (op_box hS0 rfl (hA0.ev rfl) (cs := [vl, vs, (Value.int .i64 d.spread), vb]) rfl) rfl rfl (by decide) ?_
 rintro a1 _ w3 ⟨b4, rfl, hS5⟩ hA2; clear hA0 hS0 a0
 refine st hA2 (op_assign rfl (evc _ _)) rfl rfl (by decide) fun a6 hA7 => ?_; clear hA2 a1
 refine wl_nil ?_
 refine then_n ?_
 refine c_seq ?_
 refine c_region ?_
 refine st hA7 (op_makeFunc rfl ev0 (ev1 (hA7.ev rfl))) rfl rfl (by decide) fun a8 hA9 => ?_; clear hA7 a6
 refine st hA9 (op_assign rfl (hA9.ev rfl)) rfl rfl (by decide) fun a10 hA11 => ?_; clear hA9 a8
 refine wl_nil ?_
 refine then_n ?_
 refine c_seq ?_
 refine c_block ?_
 refine c_seq ?_
 refine c_region ?_
 refine st hA11 (op_field rfl fd_34_0 (hA11.ev rfl)) rfl rfl (by decide) fun a12 hA13 => ?_; clear hA11 a10
 refine st hA13 (op_load1 rfl ty_31 (hA13.ev rfl) (hS5.bk 0 rfl) rfl) rfl rfl (by decide) fun a14 hA15 => ?_; clear hA13 a12
 refine st hA15 (op_lenS rfl un_31 (hA15.ev rfl) (hS5.sk 1 rfl)) rfl rfl (by decide) fun a16 hA17 => ?_; clear hA15 a14
 refine st hA17 (op_gtr rfl (hA17.ev rfl) (evc _ _)) rfl rfl (by decide) fun a18 hA19 => ?_; clear hA17 a16
 refine st hA19 (op_move rfl (hA19.ev rfl)) rfl rfl (by decide) fun a20 hA21 => ?_; clear hA19 a18
 by_cases hb22 : 4 < (d.lots.length : Int)
 ·skip
  rw [decide_eq_true hb22] at hA21
  refine skp hA21 rfl rfl rfl rfl rfl (by decide) fun a23 hA24 => ?_; clear hA21 a20
  refine skp hA24 rfl rfl rfl rfl rfl (by decide) fun a25 hA26 => ?_; clear hA24 a23
  refine skp hA26 rfl rfl rfl rfl rfl (by decide) fun a27 hA28 => ?_; clear hA26 a25
  refine skp hA28 rfl rfl rfl rfl rfl (by decide) fun a29 hA30 => ?_; clear hA28 a27
  refine st hA30 (op_pick_t rfl (hA30.ev rfl) (evc _ _)) rfl rfl (by decide) fun a31 hA32 => ?_; clear hA30 a29
  refine st hA32 (op_move rfl (hA32.ev rfl)) rfl rfl (by decide) fun a33 hA34 => ?_; clear hA32 a31
  refine skp hA34 rfl rfl rfl rfl rfl (by decide) fun a35 hA36 => ?_; clear hA34 a33
  refine skp hA36 rfl rfl rfl rfl rfl (by decide) fun a37 hA38 => ?_; clear hA36 a35
  refine skp hA38 rfl rfl rfl rfl rfl (by decide) fun a39 hA40 => ?_; clear hA38 a37
  refine skp hA40 rfl rfl rfl rfl rfl (by decide) fun a41 hA42 => ?_; clear hA40 a39
  refine st hA42 (op_pick_t rfl (hA42.ev rfl) (evc _ _)) rfl rfl (by decide) fun a43 hA44 => ?_; clear hA42 a41
  refine st hA44 (op_assign rfl (hA44.ev rfl)) rfl rfl (by decide) fun a45 hA46 => ?_; clear hA44 a43
  refine wl_nil ?_
  refine then_n ?_
  refine c_true hA46 rfl ?_
  refine c_seq ?_
  have hA47 := hA46.as [] rfl; clear hA46
  refine c_region ?_
  refine st hA47 (op_assign rfl (evc _ _)) rfl rfl (by decide) fun a48 hA49 => ?_; clear hA47 a45
  refine wl_nil ?_
  refine then_n ?_
  refine c_ret ?_
  refine blk_ret ?_
  refine then_ret ?_
  refine fin_run hA49 (.inl rfl) (run_results1 hA49 rfl (.tmp rfl)) ?_
  exact ⟨ret_int (checkR_3 (by omega)).symm, hS5.ext⟩
 ·skip
  rw [decide_eq_false hb22] at hA21
  refine stg hA21 (op_field rfl fd_34_1 (hA21.ev rfl)) rfl rfl rfl rfl (by decide) fun a50 hA51 => ?_; clear hA21 a20
  refine stg hA51 (op_load1 rfl ty_23 (hA51.ev rfl) (hS5.bk 0 rfl) rfl) rfl rfl rfl rfl (by decide) fun a52 hA53 => ?_; clear hA51 a50
  refine stg hA53 (op_lenS rfl un_23 (hA53.ev rfl) (hS5.sk 2 rfl)) rfl rfl rfl rfl (by decide) fun a54 hA55 => ?_; clear hA53 a52
  refine stg hA55 (op_gtr rfl (hA55.ev rfl) (evc _ _)) rfl rfl rfl rfl (by decide) fun a56 hA57 => ?_; clear hA55 a54
  refine st hA57 (op_pick_f rfl (hA57.ev rfl) (hA57.ev rfl)) rfl rfl (by decide) fun a58 hA59 => ?_; clear hA57 a56
  refine st hA59 (op_move rfl (hA59.ev rfl)) rfl rfl (by decide) fun a60 hA61 => ?_; clear hA59 a58
  by_cases hb62 : 8 < (d.samples.length : Int)
  ·skip
   rw [decide_eq_true hb62] at hA61
   refine skp hA61 rfl rfl rfl rfl rfl (by decide) fun a63 hA64 => ?_; clear hA61 a60
   refine skp hA64 rfl rfl rfl rfl rfl (by decide) fun a65 hA66 => ?_; clear hA64 a63
   refine skp hA66 rfl rfl rfl rfl rfl (by decide) fun a67 hA68 => ?_; clear hA66 a65
   refine skp hA68 rfl rfl rfl rfl rfl (by decide) fun a69 hA70 => ?_; clear hA68 a67
   refine st hA70 (op_pick_t rfl (hA70.ev rfl) (evc _ _)) rfl rfl (by decide) fun a71 hA72 => ?_; clear hA70 a69
   refine st hA72 (op_assign rfl (hA72.ev rfl)) rfl rfl (by decide) fun a73 hA74 => ?_; clear hA72 a71
   refine wl_nil ?_
   refine then_n ?_
   refine c_true hA74 rfl ?_
   refine c_seq ?_
   have hA75 := hA74.as [] rfl; clear hA74
   refine c_region ?_
   refine st hA75 (op_assign rfl (evc _ _)) rfl rfl (by decide) fun a76 hA77 => ?_; clear hA75 a73
   refine wl_nil ?_
   refine then_n ?_
   refine c_ret ?_
   refine blk_ret ?_
   refine then_ret ?_
   refine fin_run hA77 (.inl rfl) (run_results1 hA77 rfl (.tmp rfl)) ?_
   exact ⟨ret_int (checkR_3 (by omega)).symm, hS5.ext⟩
  ·skip
   rw [decide_eq_false hb62] at hA61
   refine stg hA61 (op_field rfl fd_34_3 (hA61.ev rfl)) rfl rfl rfl rfl (by decide) fun a78 hA79 => ?_; clear hA61 a60
   refine stg hA79 (op_load1 rfl ty_32 (hA79.ev rfl) (hS5.bk 0 rfl) rfl) rfl rfl rfl rfl (by decide) fun a80 hA81 => ?_; clear hA79 a78
   refine stg hA81 (op_lenS rfl un_32 (hA81.ev rfl) (hS5.sk 3 rfl)) rfl rfl rfl rfl (by decide) fun a82 hA83 => ?_; clear hA81 a80
   refine stg hA83 (op_gtr rfl (hA83.ev rfl) (evc _ _)) rfl rfl rfl rfl (by decide) fun a84 hA85 => ?_; clear hA83 a82
   refine st hA85 (op_pick_f rfl (hA85.ev rfl) (hA85.ev rfl)) rfl rfl (by decide) fun a86 hA87 => ?_; clear hA85 a84
   refine st hA87 (op_assign rfl (hA87.ev rfl)) rfl rfl (by decide) fun a88 hA89 => ?_; clear hA87 a86
   refine wl_nil ?_
   refine then_n ?_
   by_cases hb90 : 6 < (d.tols.length : Int)
   ·skip
    rw [decide_eq_true hb90] at hA89
    refine c_true hA89 rfl ?_
    refine c_seq ?_
    have hA91 := hA89.as [] rfl; clear hA89
    refine c_region ?_
    refine st hA91 (op_assign rfl (evc _ _)) rfl rfl (by decide) fun a92 hA93 => ?_; clear hA91 a88
    refine wl_nil ?_
    refine then_n ?_
    refine c_ret ?_
    refine blk_ret ?_
    refine then_ret ?_
    refine fin_run hA93 (.inl rfl) (run_results1 hA93 rfl (.tmp rfl)) ?_
    exact ⟨ret_int (checkR_3 (by omega)).symm, hS5.ext⟩
   ·skip
    rw [decide_eq_false hb90] at hA89
    refine c_false hA89 rfl ?_
    refine c_seq ?_
    have hA94 := hA89.as [(3, (Value.func (.func 43) #[] #[(bptr b4 0)])), (1, (bptr b4 0))] rfl; clear hA89
    refine c_region ?_
    refine st hA94 (op_field rfl fd_34_0 (hA94.ev rfl)) rfl rfl (by decide) fun a95 hA96 => ?_; clear hA94 a88
    refine st hA96 (op_load1 rfl ty_31 (hA96.ev rfl) (hS5.bk 0 rfl) rfl) rfl rfl (by decide) fun a97 hA98 => ?_; clear hA96 a95
    refine st hA98 (op_lenS rfl un_31 (hA98.ev rfl) (hS5.sk 1 rfl)) rfl rfl (by decide) fun a99 hA100 => ?_; clear hA98 a97
    refine st hA100 (op_eql rfl (hA100.ev rfl) (evc _ _)) rfl rfl (by decide) fun a101 hA102 => ?_; clear hA100 a99
    refine st hA102 (op_move rfl (hA102.ev rfl)) rfl rfl (by decide) fun a103 hA104 => ?_; clear hA102 a101
    by_cases hb105 : (d.lots.length : Int) = 0
    ·skip
     rw [decide_eq_true hb105] at hA104
     refine skp hA104 rfl rfl rfl rfl rfl (by decide) fun a106 hA107 => ?_; clear hA104 a103
     refine skp hA107 rfl rfl rfl rfl rfl (by decide) fun a108 hA109 => ?_; clear hA107 a106
     refine skp hA109 rfl rfl rfl rfl rfl (by decide) fun a110 hA111 => ?_; clear hA109 a108
     refine skp hA111 rfl rfl rfl rfl rfl (by decide) fun a112 hA113 => ?_; clear hA111 a110
     refine st hA113 (op_pick_t rfl (hA113.ev rfl) (evc _ _)) rfl rfl (by decide) fun a114 hA115 => ?_; clear hA113 a112
     refine st hA115 (op_move rfl (hA115.ev rfl)) rfl rfl (by decide) fun a116 hA117 => ?_; clear hA115 a114
     refine skp hA117 rfl rfl rfl rfl rfl (by decide) fun a118 hA119 => ?_; clear hA117 a116
     refine skp hA119 rfl rfl rfl rfl rfl (by decide) fun a120 hA121 => ?_; clear hA119 a118
     refine skp hA121 rfl rfl rfl rfl rfl (by decide) fun a122 hA123 => ?_; clear hA121 a120
     refine skp hA123 rfl rfl rfl rfl rfl (by decide) fun a124 hA125 => ?_; clear hA123 a122
     refine skp hA125 rfl rfl rfl rfl rfl (by decide) fun a126 hA127 => ?_; clear hA125 a124
     refine st hA127 (op_pick_t rfl (hA127.ev rfl) (evc _ _)) rfl rfl (by decide) fun a128 hA129 => ?_; clear hA127 a126
     refine st hA129 (op_move rfl (hA129.ev rfl)) rfl rfl (by decide) fun a130 hA131 => ?_; clear hA129 a128
     refine skp hA131 rfl rfl rfl rfl rfl (by decide) fun a132 hA133 => ?_; clear hA131 a130
     refine skp hA133 rfl rfl rfl rfl rfl (by decide) fun a134 hA135 => ?_; clear hA133 a132
     refine skp hA135 rfl rfl rfl rfl rfl (by decide) fun a136 hA137 => ?_; clear hA135 a134
     refine skp hA137 rfl rfl rfl rfl rfl (by decide) fun a138 hA139 => ?_; clear hA137 a136
     refine st hA139 (op_pick_t rfl (hA139.ev rfl) (evc _ _)) rfl rfl (by decide) fun a140 hA141 => ?_; clear hA139 a138
     refine st hA141 (op_move rfl (hA141.ev rfl)) rfl rfl (by decide) fun a142 hA143 => ?_; clear hA141 a140
     refine skp hA143 rfl rfl rfl rfl rfl (by decide) fun a144 hA145 => ?_; clear hA143 a142
     refine skp hA145 rfl rfl rfl rfl rfl (by decide) fun a146 hA147 => ?_; clear hA145 a144
     refine skp hA147 rfl rfl rfl rfl rfl (by decide) fun a148 hA149 => ?_; clear hA147 a146
     refine skp hA149 rfl rfl rfl rfl rfl (by decide) fun a150 hA151 => ?_; clear hA149 a148
     refine skp hA151 rfl rfl rfl rfl rfl (by decide) fun a152 hA153 => ?_; clear hA151 a150
     refine skp hA153 rfl rfl rfl rfl rfl (by decide) fun a154 hA155 => ?_; clear hA153 a152
     refine st hA155 (op_pick_t rfl (hA155.ev rfl) (evc _ _)) rfl rfl (by decide) fun a156 hA157 => ?_; clear hA155 a154
     refine st hA157 (op_assign rfl (hA157.ev rfl)) rfl rfl (by decide) fun a158 hA159 => ?_; clear hA157 a156
     refine wl_nil ?_
     refine then_n ?_
     refine c_true hA159 rfl ?_
     refine c_seq ?_
     have hA160 := hA159.as [] rfl; clear hA159
     refine c_region ?_
     refine st hA160 (op_assign rfl (evc _ _)) rfl rfl (by decide) fun a161 hA162 => ?_; clear hA160 a158
     refine wl_nil ?_
     refine then_n ?_
     refine c_ret ?_
     refine blk_ret ?_
     refine then_ret ?_
     refine fin_run hA162 (.inl rfl) (run_results1 hA162 rfl (.tmp rfl)) ?_
     exact ⟨ret_int (checkR_1 (by omega) (by first | (left; omega) | (right; left; assumption) | (right; right; left; assumption) | (right; right; right; left; assumption) | (right; right; right; right; rw [← zip_len hR.lvl]; assumption))).symm, hS5.ext⟩
    ·skip
     rw [decide_eq_false hb105] at hA104
     refine stg hA104 (op_field rfl fd_34_0 (hA104.ev rfl)) rfl rfl rfl rfl (by decide) fun a163 hA164 => ?_; clear hA104 a103
     refine stg hA164 (op_load1 rfl ty_31 (hA164.ev rfl) (hS5.bk 0 rfl) rfl) rfl rfl rfl rfl (by decide) fun a165 hA166 => ?_; clear hA164 a163
     refine stwg hA166 (op_call rfl en_45 (ev2 (hA166.ev rfl) (evf _ _)) (all_rng d.lots _ 46 #[] #[] (fun i => lotB (d.lots.getD i (0, 0))) _ (hS5.sk 1 rfl) (by omega) ⟨en_46, fun i hi W hW => lot_ok _ _ W⟩)) rfl rfl rfl rfl (by decide) ?_
     rintro a167 _ w169 ⟨rfl, hE170⟩ hA168; have hS171 := hS5.step hE170; clear hE170 hA166 hS5 a165
     refine stg hA168 (op_not rfl (hA168.ev rfl)) rfl rfl rfl rfl (by decide) fun a172 hA173 => ?_; clear hA168 a167
     refine st hA173 (op_pick_f rfl (hA173.ev rfl) (hA173.ev rfl)) rfl rfl (by decide) fun a174 hA175 => ?_; clear hA173 a172
     refine st hA175 (op_move rfl (hA175.ev rfl)) rfl rfl (by decide) fun a176 hA177 => ?_; clear hA175 a174
     rcases Bool.eq_false_or_eq_true (((List.range d.lots.length).all (fun i => lotB (d.lots.getD i (0, 0))))) with hb178 | hb178
     ·skip
      rw [hb178] at hA177
      refine stg hA177 (op_field rfl fd_34_1 (hA177.ev rfl)) rfl rfl rfl rfl (by decide) fun a179 hA180 => ?_; clear hA177 a176
      refine stg hA180 (op_load1 rfl ty_23 (hA180.ev rfl) (hS171.bk 0 rfl) rfl) rfl rfl rfl rfl (by decide) fun a181 hA182 => ?_; clear hA180 a179
      refine stg hA182 (op_move rfl (hA182.ev rfl)) rfl rfl rfl rfl (by decide) fun a183 hA184 => ?_; clear hA182 a181
      refine stwg hA184 (op_call rfl en_47 (ev2 (hA184.ev rfl) (hA184.ev rfl)) (all_int d.samples _ 43 #[] #[(bptr b4 0)] (fun i => smpB d.lots.length (d.samples.getD i 0)) _ (hS171.sk 2 rfl) (by omega) ⟨en_43, fun i hi W hW => smp_ok _ _ vl vs vb lv d W (hR.step (hS171.ext.trans hW)) _ _ _ ((hS171.step hW).bk 0 rfl) (by omega)⟩)) rfl rfl rfl rfl (by decide) ?_
      rintro a185 _ w187 ⟨rfl, hE188⟩ hA186; have hS189 := hS171.step hE188; clear hE188 hA184 hS171 a183
      refine stg hA186 (op_not rfl (hA186.ev rfl)) rfl rfl rfl rfl (by decide) fun a190 hA191 => ?_; clear hA186 a185
      refine st hA191 (op_pick_f rfl (hA191.ev rfl) (hA191.ev rfl)) rfl rfl (by decide) fun a192 hA193 => ?_; clear hA191 a190
      refine st hA193 (op_move rfl (hA193.ev rfl)) rfl rfl (by decide) fun a194 hA195 => ?_; clear hA193 a192
      rcases Bool.eq_false_or_eq_true (((List.range d.samples.length).all (fun i => smpB d.lots.length (d.samples.getD i 0)))) with hb196 | hb196
      ·skip
       rw [hb196] at hA195
       refine stg hA195 (op_field rfl fd_34_2 (hA195.ev rfl)) rfl rfl rfl rfl (by decide) fun a197 hA198 => ?_; clear hA195 a194
       refine stg hA198 (op_load1 rfl ty_3 (hA198.ev rfl) (hS189.bk 0 rfl) rfl) rfl rfl rfl rfl (by decide) fun a199 hA200 => ?_; clear hA198 a197
       refine stwg hA200 (op_call rfl en_48 (ev1 (hA200.ev rfl)) (tol_ok _ _)) rfl rfl rfl rfl (by decide) ?_
       rintro a201 _ _ ⟨rfl, rfl⟩ hA202; clear hA200 a199
       refine stg hA202 (op_not rfl (hA202.ev rfl)) rfl rfl rfl rfl (by decide) fun a204 hA205 => ?_; clear hA202 a201
       refine st hA205 (op_pick_f rfl (hA205.ev rfl) (hA205.ev rfl)) rfl rfl (by decide) fun a206 hA207 => ?_; clear hA205 a204
       refine st hA207 (op_move rfl (hA207.ev rfl)) rfl rfl (by decide) fun a208 hA209 => ?_; clear hA207 a206
       rcases Bool.eq_false_or_eq_true ((decide (0 ≤ d.spread) && decide (d.spread ≤ 100))) with hb210 | hb210
       ·skip
        rw [hb210] at hA209
        have hq211 := hb210; simp only [Bool.and_eq_true, Bool.and_eq_false_iff, decide_eq_true_eq, decide_eq_false_iff_not] at hq211
        refine stg hA209 (op_field rfl fd_34_3 (hA209.ev rfl)) rfl rfl rfl rfl (by decide) fun a212 hA213 => ?_; clear hA209 a208
        refine stg hA213 (op_load1 rfl ty_32 (hA213.ev rfl) (hS189.bk 0 rfl) rfl) rfl rfl rfl rfl (by decide) fun a214 hA215 => ?_; clear hA213 a212
        refine stg hA215 (op_loadA rfl ty_34 (hA215.ev rfl) (hS189.bk 0 rfl) (l := [vl, vs, (Value.int .i64 d.spread), vb]) rfl rfl) rfl rfl rfl rfl (by decide) fun a216 hA217 => ?_; clear hA215 a214
        refine stg hA217 (op_makeFunc rfl (ev1 (hA217.ev rfl)) ev0) rfl rfl rfl rfl (by decide) fun a218 hA219 => ?_; clear hA217 a216
        refine stwg hA219 (op_call rfl en_49 (ev2 (hA219.ev rfl) (hA219.ev rfl)) (all_lab (d.tols.zip lv) _ 50 #[(Value.agg #[vl, vs, (Value.int .i64 d.spread), vb])] #[] (fun i => labB d.samples.length (d.tols.getD i 0) (d.rds.getD i [])) _ (by rw [zip_len hR.lvl]; exact (hS189.sk 3 rfl)) (by rw [zip_len hR.lvl]; omega) ⟨en_50, fun i hi W hW => by
   rw [zip_len hR.lvl] at hi
   dsimp only
   rw [zip_getD hi hR.lvl]
   exact lab_ok vl vs vb lv d W (hR.step (hS189.ext.trans hW)) _ _ _ ((hR.step (hS189.ext.trans hW)).rds i (by rw [hR.rdl]; exact hi)) (by omega)⟩ (fun i hi => by
   rw [zip_len hR.lvl] at hi
   rw [zip_getD hi hR.lvl]
   exact SlAt.one (hR.rds i (by rw [hR.rdl]; exact hi))))) rfl rfl rfl rfl (by decide) ?_
        rintro a220 _ w222 ⟨rfl, hE223⟩ hA221; have hS224 := hS189.step hE223; clear hE223 hA219 hS189 a218
        refine stg hA221 (op_not rfl (hA221.ev rfl)) rfl rfl rfl rfl (by decide) fun a225 hA226 => ?_; clear hA221 a220
        refine st hA226 (op_pick_f rfl (hA226.ev rfl) (hA226.ev rfl)) rfl rfl (by decide) fun a227 hA228 => ?_; clear hA226 a225
        refine st hA228 (op_assign rfl (hA228.ev rfl)) rfl rfl (by decide) fun a229 hA230 => ?_; clear hA228 a227
        refine wl_nil ?_
        refine then_n ?_
        rcases Bool.eq_false_or_eq_true (((List.range (d.tols.zip lv).length).all (fun i => labB d.samples.length (d.tols.getD i 0) (d.rds.getD i [])))) with hb231 | hb231
        ·skip
         rw [hb231] at hA230
         refine c_false hA230 rfl ?_
         refine c_skip ?_
         refine blk_n ?_
         refine then_n ?_
         refine c_seq ?_
         have hA232 := hA230.as [] rfl; clear hA230
         refine c_region ?_
         refine st hA232 (op_assign rfl (evc _ _)) rfl rfl (by decide) fun a233 hA234 => ?_; clear hA232 a229
         refine wl_nil ?_
         refine then_n ?_
         refine c_ret ?_
         refine fin_run hA234 (.inl rfl) (run_results1 hA234 rfl (.tmp rfl)) ?_
         exact ⟨ret_int (checkR_0 (by omega) (by omega) (by assumption) (by assumption) (by assumption) (by rw [← zip_len hR.lvl]; assumption)).symm, hS224.ext⟩
        ·skip
         rw [hb231] at hA230
         refine c_true hA230 rfl ?_
         refine c_seq ?_
         have hA235 := hA230.as [] rfl; clear hA230
         refine c_region ?_
         refine st hA235 (op_assign rfl (evc _ _)) rfl rfl (by decide) fun a236 hA237 => ?_; clear hA235 a229
         refine wl_nil ?_
         refine then_n ?_
         refine c_ret ?_
         refine blk_ret ?_
         refine then_ret ?_
         refine fin_run hA237 (.inl rfl) (run_results1 hA237 rfl (.tmp rfl)) ?_
         exact ⟨ret_int (checkR_1 (by omega) (by first | (left; omega) | (right; left; assumption) | (right; right; left; assumption) | (right; right; right; left; assumption) | (right; right; right; right; rw [← zip_len hR.lvl]; assumption))).symm, hS224.ext⟩
       ·skip
        rw [hb210] at hA209
        have hq238 := hb210; simp only [Bool.and_eq_true, Bool.and_eq_false_iff, decide_eq_true_eq, decide_eq_false_iff_not] at hq238
        refine skp hA209 rfl rfl rfl rfl rfl (by decide) fun a239 hA240 => ?_; clear hA209 a208
        refine skp hA240 rfl rfl rfl rfl rfl (by decide) fun a241 hA242 => ?_; clear hA240 a239
        refine skp hA242 rfl rfl rfl rfl rfl (by decide) fun a243 hA244 => ?_; clear hA242 a241
        refine skp hA244 rfl rfl rfl rfl rfl (by decide) fun a245 hA246 => ?_; clear hA244 a243
        refine skp hA246 rfl rfl rfl rfl rfl (by decide) fun a247 hA248 => ?_; clear hA246 a245
        refine skp hA248 rfl rfl rfl rfl rfl (by decide) fun a249 hA250 => ?_; clear hA248 a247
        refine st hA250 (op_pick_t rfl (hA250.ev rfl) (evc _ _)) rfl rfl (by decide) fun a251 hA252 => ?_; clear hA250 a249
        refine st hA252 (op_assign rfl (hA252.ev rfl)) rfl rfl (by decide) fun a253 hA254 => ?_; clear hA252 a251
        refine wl_nil ?_
        refine then_n ?_
        refine c_true hA254 rfl ?_
        refine c_seq ?_
        have hA255 := hA254.as [] rfl; clear hA254
        refine c_region ?_
        refine st hA255 (op_assign rfl (evc _ _)) rfl rfl (by decide) fun a256 hA257 => ?_; clear hA255 a253
        refine wl_nil ?_
        refine then_n ?_
        refine c_ret ?_
        refine blk_ret ?_
        refine then_ret ?_
        refine fin_run hA257 (.inl rfl) (run_results1 hA257 rfl (.tmp rfl)) ?_
        exact ⟨ret_int (checkR_1 (by omega) (by first | (left; omega) | (right; left; assumption) | (right; right; left; assumption) | (right; right; right; left; assumption) | (right; right; right; right; rw [← zip_len hR.lvl]; assumption))).symm, hS189.ext⟩
      ·skip
       rw [hb196] at hA195
       refine skp hA195 rfl rfl rfl rfl rfl (by decide) fun a258 hA259 => ?_; clear hA195 a194
       refine skp hA259 rfl rfl rfl rfl rfl (by decide) fun a260 hA261 => ?_; clear hA259 a258
       refine skp hA261 rfl rfl rfl rfl rfl (by decide) fun a262 hA263 => ?_; clear hA261 a260
       refine skp hA263 rfl rfl rfl rfl rfl (by decide) fun a264 hA265 => ?_; clear hA263 a262
       refine st hA265 (op_pick_t rfl (hA265.ev rfl) (evc _ _)) rfl rfl (by decide) fun a266 hA267 => ?_; clear hA265 a264
       refine st hA267 (op_move rfl (hA267.ev rfl)) rfl rfl (by decide) fun a268 hA269 => ?_; clear hA267 a266
       refine skp hA269 rfl rfl rfl rfl rfl (by decide) fun a270 hA271 => ?_; clear hA269 a268
       refine skp hA271 rfl rfl rfl rfl rfl (by decide) fun a272 hA273 => ?_; clear hA271 a270
       refine skp hA273 rfl rfl rfl rfl rfl (by decide) fun a274 hA275 => ?_; clear hA273 a272
       refine skp hA275 rfl rfl rfl rfl rfl (by decide) fun a276 hA277 => ?_; clear hA275 a274
       refine skp hA277 rfl rfl rfl rfl rfl (by decide) fun a278 hA279 => ?_; clear hA277 a276
       refine skp hA279 rfl rfl rfl rfl rfl (by decide) fun a280 hA281 => ?_; clear hA279 a278
       refine st hA281 (op_pick_t rfl (hA281.ev rfl) (evc _ _)) rfl rfl (by decide) fun a282 hA283 => ?_; clear hA281 a280
       refine st hA283 (op_assign rfl (hA283.ev rfl)) rfl rfl (by decide) fun a284 hA285 => ?_; clear hA283 a282
       refine wl_nil ?_
       refine then_n ?_
       refine c_true hA285 rfl ?_
       refine c_seq ?_
       have hA286 := hA285.as [] rfl; clear hA285
       refine c_region ?_
       refine st hA286 (op_assign rfl (evc _ _)) rfl rfl (by decide) fun a287 hA288 => ?_; clear hA286 a284
       refine wl_nil ?_
       refine then_n ?_
       refine c_ret ?_
       refine blk_ret ?_
       refine then_ret ?_
       refine fin_run hA288 (.inl rfl) (run_results1 hA288 rfl (.tmp rfl)) ?_
       exact ⟨ret_int (checkR_1 (by omega) (by first | (left; omega) | (right; left; assumption) | (right; right; left; assumption) | (right; right; right; left; assumption) | (right; right; right; right; rw [← zip_len hR.lvl]; assumption))).symm, hS189.ext⟩
     ·skip
      rw [hb178] at hA177
      refine skp hA177 rfl rfl rfl rfl rfl (by decide) fun a289 hA290 => ?_; clear hA177 a176
      refine skp hA290 rfl rfl rfl rfl rfl (by decide) fun a291 hA292 => ?_; clear hA290 a289
      refine skp hA292 rfl rfl rfl rfl rfl (by decide) fun a293 hA294 => ?_; clear hA292 a291
      refine skp hA294 rfl rfl rfl rfl rfl (by decide) fun a295 hA296 => ?_; clear hA294 a293
      refine skp hA296 rfl rfl rfl rfl rfl (by decide) fun a297 hA298 => ?_; clear hA296 a295
      refine st hA298 (op_pick_t rfl (hA298.ev rfl) (evc _ _)) rfl rfl (by decide) fun a299 hA300 => ?_; clear hA298 a297
      refine st hA300 (op_move rfl (hA300.ev rfl)) rfl rfl (by decide) fun a301 hA302 => ?_; clear hA300 a299
      refine skp hA302 rfl rfl rfl rfl rfl (by decide) fun a303 hA304 => ?_; clear hA302 a301
      refine skp hA304 rfl rfl rfl rfl rfl (by decide) fun a305 hA306 => ?_; clear hA304 a303
      refine skp hA306 rfl rfl rfl rfl rfl (by decide) fun a307 hA308 => ?_; clear hA306 a305
      refine skp hA308 rfl rfl rfl rfl rfl (by decide) fun a309 hA310 => ?_; clear hA308 a307
      refine st hA310 (op_pick_t rfl (hA310.ev rfl) (evc _ _)) rfl rfl (by decide) fun a311 hA312 => ?_; clear hA310 a309
      refine st hA312 (op_move rfl (hA312.ev rfl)) rfl rfl (by decide) fun a313 hA314 => ?_; clear hA312 a311
      refine skp hA314 rfl rfl rfl rfl rfl (by decide) fun a315 hA316 => ?_; clear hA314 a313
      refine skp hA316 rfl rfl rfl rfl rfl (by decide) fun a317 hA318 => ?_; clear hA316 a315
      refine skp hA318 rfl rfl rfl rfl rfl (by decide) fun a319 hA320 => ?_; clear hA318 a317
      refine skp hA320 rfl rfl rfl rfl rfl (by decide) fun a321 hA322 => ?_; clear hA320 a319
      refine skp hA322 rfl rfl rfl rfl rfl (by decide) fun a323 hA324 => ?_; clear hA322 a321
      refine skp hA324 rfl rfl rfl rfl rfl (by decide) fun a325 hA326 => ?_; clear hA324 a323
      refine st hA326 (op_pick_t rfl (hA326.ev rfl) (evc _ _)) rfl rfl (by decide) fun a327 hA328 => ?_; clear hA326 a325
      refine st hA328 (op_assign rfl (hA328.ev rfl)) rfl rfl (by decide) fun a329 hA330 => ?_; clear hA328 a327
      refine wl_nil ?_
      refine then_n ?_
      refine c_true hA330 rfl ?_
      refine c_seq ?_
      have hA331 := hA330.as [] rfl; clear hA330
      refine c_region ?_
      refine st hA331 (op_assign rfl (evc _ _)) rfl rfl (by decide) fun a332 hA333 => ?_; clear hA331 a329
      refine wl_nil ?_
      refine then_n ?_
      refine c_ret ?_
      refine blk_ret ?_
      refine then_ret ?_
      refine fin_run hA333 (.inl rfl) (run_results1 hA333 rfl (.tmp rfl)) ?_
      exact ⟨ret_int (checkR_1 (by omega) (by first | (left; omega) | (right; left; assumption) | (right; right; left; assumption) | (right; right; right; left; assumption) | (right; right; right; right; rw [← zip_len hR.lvl]; assumption))).symm, hS171.ext⟩

end Go.Proofs.Ytfhmigoddaaljaa

namespace Go.Proofs.Ytfhmigoddaaljaa
open Go.RowKit Go.Shelf Go.Eng
theorem judge_bad (vl vs vb : Value) (lv : List Value) (d : RD) (w : World) (hR : RoundAt w vl vs vb lv d) (hc : checkR d ≠ 0) :
  Calls Try.prog 57 #[(Value.agg #[vl, vs, (Value.int .i64 d.spread), vb])] w (Ret fun v w' => v = .tuple #[.pointer none, .int .i64 (checkR d)] ∧ Ext NoB w w') := by
 refine calls_enter Try.func57 rfl fun a0 hA0 => ?_
 replace hA0 : Fr 14 [] [(0, (Value.agg #[vl, vs, (Value.int .i64 d.spread), vb]))] a0 := hA0
 have hS0 : Sep NoB w w [(sl vl 2 d.lots.length (pairs d.lots)), (sl vs 1 d.samples.length (ints d.samples)), (sl vb 2 d.tols.length (vpairs (d.tols.zip lv))), (rdsR lv d.rds)] := sep_ro ⟨rfl, hR.lots, rfl, hR.samples, rfl, hR.labs, rfl, hR.rds, trivial⟩
 refine c_seq ?_
 refine c_region ?_
 refine stw hA0 (op_box hS0 rfl (hA0.ev rfl) (cs := [vl, vs, (Value.int .i64 d.spread), vb]) rfl) rfl rfl (by decide) ?_
 rintro a1 _ w3 ⟨b4, rfl, hS5⟩ hA2; clear hA0 hS0 a0
 refine st hA2 (op_assign rfl (evc _ _)) rfl rfl (by decide) fun a6 hA7 => ?_; clear hA2 a1
 refine st hA7 (op_assign rfl (evc _ _)) rfl rfl (by decide) fun a8 hA9 => ?_; clear hA7 a6
 refine wl_nil ?_
 refine then_n ?_
 refine c_seq ?_
 refine c_seq ?_
 refine c_region ?_
 refine st hA9 (op_loadA rfl ty_34 (hA9.ev rfl) (hS5.bk 0 rfl) (l := [vl, vs, (Value.int .i64 d.spread), vb]) rfl rfl) rfl rfl (by decide) fun a10 hA11 => ?_; clear hA9 a8
 refine stw hA11 (op_call rfl en_19 (ev1 (hA11.ev rfl)) (check_ok vl vs vb lv d _ (hR.step hS5.ext))) rfl rfl (by decide) ?_
 rintro a12 _ w14 ⟨rfl, hE15⟩ hA13; have hS16 := hS5.step hE15; clear hE15 hA11 hS5 a10
 refine st hA13 (op_assign rfl (hA13.ev rfl)) rfl rfl (by decide) fun a17 hA18 => ?_; clear hA13 a12
 refine wl_nil ?_
 refine then_n ?_
 refine c_seq ?_
 refine c_region ?_
 refine st hA18 (op_move rfl (hA18.ev rfl)) rfl rfl (by decide) fun a19 hA20 => ?_; clear hA18 a17
 refine st hA20 (op_neq rfl (hA20.ev rfl) (evc _ _)) rfl rfl (by decide) fun a21 hA22 => ?_; clear hA20 a19
 have hd23 : ¬ ((checkR d) = 0) := hc
 rw [decide_eq_false hd23] at hA22
 refine wl_nil ?_
 refine then_n ?_
 refine c_true hA22 rfl ?_
 refine c_seq ?_
 have hA24 := hA22.as [(4, (Value.int .i64 (checkR d)))] rfl; clear hA22
 refine c_region ?_
 refine st hA24 (op_move rfl (hA24.ev rfl)) rfl rfl (by decide) fun a25 hA26 => ?_; clear hA24 a21
 refine st hA26 (op_assign rfl (evc _ _)) rfl rfl (by decide) fun a27 hA28 => ?_; clear hA26 a25
 refine st hA28 (op_assign rfl (hA28.ev rfl)) rfl rfl (by decide) fun a29 hA30 => ?_; clear hA28 a27
 refine wl_nil ?_
 refine then_n ?_
 refine c_ret ?_
 refine then_ret ?_
 refine fin_run hA30 (.inl rfl) (run_results2 hA30 rfl (.tmp rfl) (.tmp rfl)) ?_
 exact ⟨rfl, hS16.ext⟩

theorem judge_ok (vl vs vb : Value) (lv : List Value) (d : RD) (w : World) (hR : RoundAt w vl vs vb lv d) (hc : checkR d = 0) :
  Calls Try.prog 57 #[(Value.agg #[vl, vs, (Value.int .i64 d.spread), vb])] w (Ret fun v w' => ∃ bj bm, v = .tuple #[bptr bj 0, .int .i64 0] ∧ Sep NoB w w' [blk bj 107 [vl, vs, .int .i64 d.spread, vb, .map (some bm)], memo bm (KR d)]) := by
 refine calls_enter Try.func57 rfl fun a0 hA0 => ?_
 replace hA0 : Fr 14 [] [(0, (Value.agg #[vl, vs, (Value.int .i64 d.spread), vb]))] a0 := hA0
 have hS0 : Sep NoB w w [(sl vl 2 d.lots.length (pairs d.lots)), (sl vs 1 d.samples.length (ints d.samples)), (sl vb 2 d.tols.length (vpairs (d.tols.zip lv))), (rdsR lv d.rds)] := sep_ro ⟨rfl, hR.lots, rfl, hR.samples, rfl, hR.labs, rfl, hR.rds, trivial⟩
 refine c_seq ?_
 refine c_region ?_
 refine stw hA0 (op_box hS0 rfl (hA0.ev rfl) (cs := [vl, vs, (Value.int .i64 d.spread), vb]) rfl) rfl rfl (by decide) ?_
 rintro a1 _ w3 ⟨b4, rfl, hS5⟩ hA2; clear hA0 hS0 a0
 refine st hA2 (op_assign rfl (evc _ _)) rfl rfl (by decide) fun a6 hA7 => ?_; clear hA2 a1
 refine st hA7 (op_assign rfl (evc _ _)) rfl rfl (by decide) fun a8 hA9 => ?_; clear hA7 a6
 refine wl_nil ?_
 refine then_n ?_
 refine c_seq ?_
 refine c_seq ?_
 refine c_region ?_
 refine st hA9 (op_loadA rfl ty_34 (hA9.ev rfl) (hS5.bk 0 rfl) (l := [vl, vs, (Value.int .i64 d.spread), vb]) rfl rfl) rfl rfl (by decide) fun a10 hA11 => ?_; clear hA9 a8
 refine stw hA11 (op_call rfl en_19 (ev1 (hA11.ev rfl)) (check_ok vl vs vb lv d _ (hR.step hS5.ext))) rfl rfl (by decide) ?_
 rintro a12 _ w14 ⟨rfl, hE15⟩ hA13; have hS16 := hS5.step hE15; clear hE15 hA11 hS5 a10
 refine st hA13 (op_assign rfl (hA13.ev rfl)) rfl rfl (by decide) fun a17 hA18 => ?_; clear hA13 a12
 refine wl_nil ?_
 refine then_n ?_
 refine c_seq ?_
 refine c_region ?_
 refine st hA18 (op_move rfl (hA18.ev rfl)) rfl rfl (by decide) fun a19 hA20 => ?_; clear hA18 a17
 refine st hA20 (op_neq rfl (hA20.ev rfl) (evc _ _)) rfl rfl (by decide) fun a21 hA22 => ?_; clear hA20 a19
 have hd23 : (checkR d) = 0 := hc
 rw [decide_eq_true hd23] at hA22
 refine wl_nil ?_
 refine then_n ?_
 refine c_false hA22 rfl ?_
 refine c_skip ?_
 refine then_n ?_
 refine c_seq ?_
 have hA24 := hA22.as [(1, (bptr b4 0))] rfl; clear hA22
 refine c_region ?_
 refine st hA24 (op_loadA rfl ty_34 (hA24.ev rfl) (hS16.bk 0 rfl) (l := [vl, vs, (Value.int .i64 d.spread), vb]) rfl rfl) rfl rfl (by decide) fun a25 hA26 => ?_; clear hA24 a21
 refine stw hA26 (op_makeMap hS16 (KR d) rfl) rfl rfl (by decide) ?_
 rintro a27 _ w29 ⟨bm30, rfl, hS31⟩ hA28; clear hA26 hS16 a25
 refine st hA28 (op_build rfl (pv2 (hA28.ev rfl) (hA28.ev rfl)) (bd_107_0vviva_1m _ _ _ _ _)) rfl rfl (by decide) fun a32 hA33 => ?_; clear hA28 a27
 refine stw hA33 (op_box hS31 rfl (hA33.ev rfl) (cs := [vl, vs, (Value.int .i64 d.spread), vb, (Value.map (some bm30))]) rfl) rfl rfl (by decide) ?_
 rintro a34 _ w36 ⟨b37, rfl, hS38⟩ hA35; clear hA33 hS31 a32
 refine st hA35 (op_assign rfl (hA35.ev rfl)) rfl rfl (by decide) fun a39 hA40 => ?_; clear hA35 a34
 refine st hA40 (op_assign rfl (evc _ _)) rfl rfl (by decide) fun a41 hA42 => ?_; clear hA40 a39
 refine wl_nil ?_
 refine then_n ?_
 refine c_ret ?_
 refine fin_run hA42 (.inl rfl) (run_results2 hA42 rfl (.tmp rfl) (.tmp rfl)) ?_
 exact ⟨_, _, rfl, hS38.keep [0, 1] (by decide) _ rfl rfl⟩

theorem asked_bad (vl vs vb : Value) (lv : List Value) (d : RD) (w : World) (hR : RoundAt w vl vs vb lv d) (xl : Value) (l : List Int) (hx : SlAt w xl 1 l.length (ints l)) (hlen : l.length ≤ 1000000) (hc : checkR d ≠ 0) :
  Calls Try.prog 51 #[(Value.agg #[vl, vs, (Value.int .i64 d.spread), vb]), xl] w (Ret fun v w' => v = .tuple #[.pointer none, zero6, .int .i64 (checkR d)] ∧ Ext NoB w w') := by
 refine calls_enter Try.func51 rfl fun a0 hA0 => ?_
 replace hA0 : Fr 54 [] [(0, (Value.agg #[vl, vs, (Value.int .i64 d.spread), vb])), (1, xl)] a0 := hA0
 have hS0 : Sep NoB w w [(sl xl 1 l.length (ints l)), (sl vl 2 d.lots.length (pairs d.lots)), (sl vs 1 d.samples.length (ints d.samples)), (sl vb 2 d.tols.length (vpairs (d.tols.zip lv))), (rdsR lv d.rds)] := sep_ro ⟨rfl, hx, rfl, hR.lots, rfl, hR.samples, rfl, hR.labs, rfl, hR.rds, trivial⟩
 refine c_seq ?_
 refine c_region ?_
 refine stw hA0 (op_box hS0 rfl (hA0.ev rfl) (cs := [vl, vs, (Value.int .i64 d.spread), vb]) rfl) rfl rfl (by decide) ?_
 rintro a1 _ w3 ⟨b4, rfl, hS5⟩ hA2; clear hA0 hS0 a0
 refine st hA2 (op_assign rfl (evc _ _)) rfl rfl (by decide) fun a6 hA7 => ?_; clear hA2 a1
 refine stw hA7 (op_alloc hS5 rfl ze_85 (cs := [(Value.bool false), (Value.bool false), (Value.bool false), (Value.bool false), (Value.bool false), (Value.bool false)]) rfl) rfl rfl (by decide) ?_
 rintro a8 _ w10 ⟨b11, rfl, hS12⟩ hA9; clear hA7 hS5 a6
 refine st hA9 (op_assign rfl (evc _ _)) rfl rfl (by decide) fun a13 hA14 => ?_; clear hA9 a8
 refine wl_nil ?_
 refine then_n ?_
 refine c_seq ?_
 refine c_region ?_
 refine st hA14 (op_loadA rfl ty_34 (hA14.ev rfl) (hS12.bk 1 rfl) (l := [vl, vs, (Value.int .i64 d.spread), vb]) rfl rfl) rfl rfl (by decide) fun a15 hA16 => ?_; clear hA14 a13
 refine stw hA16 (op_call rfl en_57 (ev1 (hA16.ev rfl)) (judge_bad vl vs vb lv d _ (hR.step hS12.ext) hc)) rfl rfl (by decide) ?_
 rintro a17 _ w19 ⟨rfl, hE20⟩ hA18; have hS21 := hS12.step hE20; clear hE20 hA16 hS12 a15
 refine st hA18 (op_move rfl (hA18.ev rfl)) rfl rfl (by decide) fun a22 hA23 => ?_; clear hA18 a17
 refine st hA23 (op_extract rfl (hA23.ev rfl) rfl) rfl rfl (by decide) fun a24 hA25 => ?_; clear hA23 a22
 refine st hA25 (op_extract rfl (hA25.ev rfl) rfl) rfl rfl (by decide) fun a26 hA27 => ?_; clear hA25 a24
 refine st hA27 (op_assign rfl (hA27.ev rfl)) rfl rfl (by decide) fun a28 hA29 => ?_; clear hA27 a26
 refine st hA29 (op_assign rfl (hA29.ev rfl)) rfl rfl (by decide) fun a30 hA31 => ?_; clear hA29 a28
 refine wl_nil ?_
 refine then_n ?_
 refine c_seq ?_
 refine c_seq ?_
 have hA32 := hA31.as [(8, (Value.int .i64 (checkR d))), (7, (Value.pointer none)), (5, (bptr b11 0)), (2, (bptr b4 0)), (1, xl)] rfl; clear hA31
 refine c_region ?_
 refine st hA32 (op_move rfl (hA32.ev rfl)) rfl rfl (by decide) fun a33 hA34 => ?_; clear hA32 a30
 refine st hA34 (op_neq rfl (hA34.ev rfl) (evc _ _)) rfl rfl (by decide) fun a35 hA36 => ?_; clear hA34 a33
 have hd37 : ¬ ((checkR d) = 0) := hc
 rw [decide_eq_false hd37] at hA36
 refine wl_nil ?_
 refine then_n ?_
 refine c_true hA36 rfl ?_
 refine c_seq ?_
 refine c_region ?_
 refine st hA36 (op_build rfl pv0 bd_85_) rfl rfl (by decide) fun a38 hA39 => ?_; clear hA36 a35
 refine st hA39 (op_move rfl (hA39.ev rfl)) rfl rfl (by decide) fun a40 hA41 => ?_; clear hA39 a38
 refine st hA41 (op_assign rfl (evc _ _)) rfl rfl (by decide) fun a42 hA43 => ?_; clear hA41 a40
 refine sts hA43 (op_store hS21 rfl ty_85 (hA43.ev rfl) (hA43.ev rfl) (i := 0) rfl (vs := [(Value.bool false), (Value.bool false), (Value.bool false), (Value.bool false), (Value.bool false), (Value.bool false)]) rfl rfl rfl (Nat.le_of_ble_eq_true rfl)) rfl rfl ?_
 intro _ w44 hS45 hA46; clear hA43
 have hS47 : Sep NoB w w44 [(blk b11 85 [(Value.bool false), (Value.bool false), (Value.bool false), (Value.bool false), (Value.bool false), (Value.bool false)]), (blk b4 34 [vl, vs, (Value.int .i64 d.spread), vb]), (sl xl 1 l.length (ints l)), (sl vl 2 d.lots.length (pairs d.lots)), (sl vs 1 d.samples.length (ints d.samples)), (sl vb 2 d.tols.length (vpairs (d.tols.zip lv))), (rdsR lv d.rds)] := hS45; clear hS45 hS21
 refine st hA46 (op_assign rfl (hA46.ev rfl)) rfl rfl (by decide) fun a48 hA49 => ?_; clear hA46 a42
 refine wl_nil ?_
 refine then_n ?_
 refine c_ret ?_
 refine then_ret ?_
 refine fin_run hA49 (.inl rfl) (run_results3 hA49 rfl (.tmp rfl) (.cellA rfl ty_85 (hS47.bk 0 rfl) (l := [(Value.bool false), (Value.bool false), (Value.bool false), (Value.bool false), (Value.bool false), (Value.bool false)]) rfl rfl) (.tmp rfl)) ?_
 exact ⟨rfl, hS47.ext⟩

theorem asked_any (vl vs vb : Value) (lv : List Value) (d : RD) (w : World) (hR : RoundAt w vl vs vb lv d) (xl : Value) (l : List Int) (hx : SlAt w xl 1 l.length (ints l)) (hlen : l.length ≤ 1000000) (hc : checkR d = 0) (hV : d.tols.length ≤ 6) :
  Calls Try.prog 51 #[(Value.agg #[vl, vs, (Value.int .i64 d.spread), vb]), xl] w (Ret fun v w' => (riseB d.tols.length l = false ∧ v = .tuple #[.pointer none, zero6, .int .i64 2] ∧ Ext NoB w w') ∨ (riseB d.tols.length l = true ∧ ∃ bj bm, v = .tuple #[bptr bj 0, .agg (bools (offUpto l l.length)).toArray, .int .i64 0] ∧ Sep NoB w w' [blk bj 107 [vl, vs, .int .i64 d.spread, vb, .map (some bm)], memo bm (KR d)])) := by
 refine calls_enter Try.func51 rfl fun a0 hA0 => ?_
 replace hA0 : Fr 54 [] [(0, (Value.agg #[vl, vs, (Value.int .i64 d.spread), vb])), (1, xl)] a0 := hA0
 have hS0 : Sep NoB w w [(sl xl 1 l.length (ints l)), (sl vl 2 d.lots.length (pairs d.lots)), (sl vs 1 d.samples.length (ints d.samples)), (sl vb 2 d.tols.length (vpairs (d.tols.zip lv))), (rdsR lv d.rds)] := sep_ro ⟨rfl, hx, rfl, hR.lots, rfl, hR.samples, rfl, hR.labs, rfl, hR.rds, trivial⟩
 refine c_seq ?_
 refine c_region ?_
 refine stw hA0 (op_box hS0 rfl (hA0.ev rfl) (cs := [vl, vs, (Value.int .i64 d.spread), vb]) rfl) rfl rfl (by decide) ?_
 rintro a1 _ w3 ⟨b4, rfl, hS5⟩ hA2; clear hA0 hS0 a0
 refine st hA2 (op_assign rfl (evc _ _)) rfl rfl (by decide) fun a6 hA7 => ?_; clear hA2 a1
 refine stw hA7 (op_alloc hS5 rfl ze_85 (cs := [(Value.bool false), (Value.bool false), (Value.bool false), (Value.bool false), (Value.bool false), (Value.bool false)]) rfl) rfl rfl (by decide) ?_
 rintro a8 _ w10 ⟨b11, rfl, hS12⟩ hA9; clear hA7 hS5 a6
 refine st hA9 (op_assign rfl (evc _ _)) rfl rfl (by decide) fun a13 hA14 => ?_; clear hA9 a8
 refine wl_nil ?_
 refine then_n ?_
 refine c_seq ?_
 refine c_region ?_
 refine st hA14 (op_loadA rfl ty_34 (hA14.ev rfl) (hS12.bk 1 rfl) (l := [vl, vs, (Value.int .i64 d.spread), vb]) rfl rfl) rfl rfl (by decide) fun a15 hA16 => ?_; clear hA14 a13
 refine stw hA16 (op_call rfl en_57 (ev1 (hA16.ev rfl)) (judge_ok vl vs vb lv d _ (hR.step hS12.ext) hc)) rfl rfl (by decide) ?_
 rintro a17 _ w19 ⟨bj22, bm23, rfl, hT20⟩ hA18; have hS21 := hS12.callS hT20 rfl; clear hT20 hA16 hS12 a15
 refine st hA18 (op_move rfl (hA18.ev rfl)) rfl rfl (by decide) fun a24 hA25 => ?_; clear hA18 a17
 refine st hA25 (op_extract rfl (hA25.ev rfl) rfl) rfl rfl (by decide) fun a26 hA27 => ?_; clear hA25 a24
 refine st hA27 (op_extract rfl (hA27.ev rfl) rfl) rfl rfl (by decide) fun a28 hA29 => ?_; clear hA27 a26
 refine st hA29 (op_assign rfl (hA29.ev rfl)) rfl rfl (by decide) fun a30 hA31 => ?_; clear hA29 a28
 refine st hA31 (op_assign rfl (hA31.ev rfl)) rfl rfl (by decide) fun a32 hA33 => ?_; clear hA31 a30
 refine wl_nil ?_
 refine then_n ?_
 refine c_seq ?_
 refine c_seq ?_
 have hA34 := hA33.as [(8, (Value.int .i64 0)), (7, (bptr bj22 0)), (5, (bptr b11 0)), (2, (bptr b4 0)), (1, xl)] rfl; clear hA33
 refine c_region ?_
 refine st hA34 (op_move rfl (hA34.ev rfl)) rfl rfl (by decide) fun a35 hA36 => ?_; clear hA34 a32
 refine st hA36 (op_neq rfl (hA36.ev rfl) (evc _ _)) rfl rfl (by decide) fun a37 hA38 => ?_; clear hA36 a35
 refine wl_nil ?_
 refine then_n ?_
 refine c_false hA38 rfl ?_
 refine c_skip ?_
 refine then_n ?_
 refine c_seq ?_
 refine c_region ?_
 refine stw hA38 (op_alloc hS21 rfl ze_85 (cs := (bools (List.replicate 6 false))) rfl) rfl rfl (by decide) ?_
 rintro a39 _ w41 ⟨b42, rfl, hS43⟩ hA40; clear hA38 hS21 a37
 refine wl_nil ?_
 refine then_n ?_
 refine c_seq ?_
 refine c_seq ?_
 refine c_region ?_
 refine st hA40 (op_move rfl (hA40.ev rfl)) rfl rfl (by decide) fun a44 hA45 => ?_; clear hA40 a39
 refine st hA45 (op_lenS rfl un_23 (hA45.ev rfl) (hS43.sk 5 rfl)) rfl rfl (by decide) fun a46 hA47 => ?_; clear hA45 a44
 refine st hA47 (op_move rfl (evc _ _)) rfl rfl (by decide) fun a48 hA49 => ?_; clear hA47 a46
 refine wl_nil ?_
 refine then_n ?_
 refine c_block ?_
 have hA50 := hA49.as [(23, (Value.int .i64 0)), (22, (Value.int .i64 (l.length : Int))), (21, xl), (9, (bptr b42 0)), (7, (bptr bj22 0)), (5, (bptr b11 0)), (2, (bptr b4 0)), (1, xl)] rfl; clear hA49
 refine c_loop (G := Nat) (fun (k : Nat) a_ w_ => Fr 54 [] [(23, (Value.int .i64 (k : Int))), (22, (Value.int .i64 (l.length : Int))), (21, xl), (9, (bptr b42 0)), (7, (bptr bj22 0)), (5, (bptr b11 0)), (2, (bptr b4 0)), (1, xl)] a_ ∧ Sep NoB w w_ [(blk b42 85 (bools (offUpto l k))), (blk bj22 107 [vl, vs, (Value.int .i64 d.spread), vb, (Value.map (some bm23))]), (memo bm23 (KR d)), (blk b11 85 [(Value.bool false), (Value.bool false), (Value.bool false), (Value.bool false), (Value.bool false), (Value.bool false)]), (blk b4 34 [vl, vs, (Value.int .i64 d.spread), vb]), (sl xl 1 l.length (ints l)), (sl vl 2 d.lots.length (pairs d.lots)), (sl vs 1 d.samples.length (ints d.samples)), (sl vb 2 d.tols.length (vpairs (d.tols.zip lv))), (rdsR lv d.rds)] ∧ (k ≤ l.length) ∧ (∀ i, i < k → riseAt d.tols.length l i = true)) (fun k => l.length - k) 0 ⟨hA50.as _ rfl, (hS43.blk_say (i := 0) rfl (by simp [offUpto])), by omega, by omega⟩ ?_
 clear hA50 hS43 a48
 rintro k a51 w53 ⟨hA52, hS54, hk, hr⟩
 refine c_seq ?_
 refine c_region ?_
 refine st hA52 (op_lss rfl (hA52.ev rfl) (hA52.ev rfl)) rfl rfl (by decide) fun a55 hA56 => ?_; clear hA52 a51
 refine wl_nil ?_
 refine then_n ?_
 refine c_seq ?_
 by_cases hb57 : (k : Int) < (l.length : Int)
 ·skip
  rw [decide_eq_true hb57] at hA56
  refine c_true hA56 rfl ?_
  refine c_skip ?_
  refine then_n ?_
  refine c_seq ?_
  refine c_block ?_
  refine c_seq ?_
  refine c_region ?_
  refine st hA56 (op_move rfl (hA56.ev rfl)) rfl rfl (by decide) fun a58 hA59 => ?_; clear hA56 a55
  refine st hA59 (op_indexS rfl un_23 ty_3 (hA59.ev rfl) (i := k) (hA59.ev rfl) (hS54.sk 5 rfl) (by decide) (by omega)) rfl rfl (by decide) fun a60 hA61 => ?_; clear hA59 a58
  refine st hA61 (op_load1E rfl ty_3 (hA61.ev rfl) (hS54.sk 5 rfl) (ints_at (by omega))) rfl rfl (by decide) fun a62 hA63 => ?_; clear hA61 a60
  refine st hA63 (op_assign rfl (hA63.ev rfl)) rfl rfl (by decide) fun a64 hA65 => ?_; clear hA63 a62
  refine st hA65 (op_assign rfl (hA65.ev rfl)) rfl rfl (by decide) fun a66 hA67 => ?_; clear hA65 a64
  refine wl_nil ?_
  refine then_n ?_
  refine c_seq ?_
  refine c_seq ?_
  refine c_region ?_
  refine st hA67 (op_move rfl (hA67.ev rfl)) rfl rfl (by decide) fun a68 hA69 => ?_; clear hA67 a66
  refine st hA69 (op_field rfl fd_34_3 (hA69.ev rfl)) rfl rfl (by decide) fun a70 hA71 => ?_; clear hA69 a68
  refine st hA71 (op_load1 rfl ty_32 (hA71.ev rfl) (hS54.bk 4 rfl) rfl) rfl rfl (by decide) fun a72 hA73 => ?_; clear hA71 a70
  refine st hA73 (op_lenS rfl un_32 (hA73.ev rfl) (hS54.sk 8 rfl)) rfl rfl (by decide) fun a74 hA75 => ?_; clear hA73 a72
  refine st hA75 (op_sub rfl (hA75.ev rfl) (evc _ _) (by omega) (by omega)) rfl rfl (by decide) fun a76 hA77 => ?_; clear hA75 a74
  refine stw hA77 (op_call rfl en_44 (ev3 (hA77.ev rfl) (evc _ _) (hA77.ev rfl)) (within_ok _ _ _ _)) rfl rfl (by decide) ?_
  rintro a78 _ _ ⟨rfl, rfl⟩ hA79; clear hA77 a76
  refine st hA79 (op_not rfl (hA79.ev rfl)) rfl rfl (by decide) fun a81 hA82 => ?_; clear hA79 a78
  refine st hA82 (op_move rfl (hA82.ev rfl)) rfl rfl (by decide) fun a83 hA84 => ?_; clear hA82 a81
  rcases Bool.eq_false_or_eq_true ((decide (0 ≤ (l.getD k 0)) && decide ((l.getD k 0) ≤ ((d.tols.length : Int) - 1)))) with hb85 | hb85
  ·skip
   rw [hb85] at hA84
   have hq86 := hb85; simp only [Bool.and_eq_true, Bool.and_eq_false_iff, decide_eq_true_eq, decide_eq_false_iff_not] at hq86
   refine stg hA84 (op_move rfl (hA84.ev rfl)) rfl rfl rfl rfl (by decide) fun a87 hA88 => ?_; clear hA84 a83
   refine stg hA88 (op_gtr rfl (hA88.ev rfl) (evc _ _)) rfl rfl rfl rfl (by decide) fun a89 hA90 => ?_; clear hA88 a87
   refine stg hA90 (op_move rfl (hA90.ev rfl)) rfl rfl rfl rfl (by decide) fun a91 hA92 => ?_; clear hA90 a89
   by_cases hb93 : 0 < (k : Int)
   ·skip
    rw [decide_eq_true hb93] at hA92
    refine stg hA92 (op_move rfl (hA92.ev rfl)) rfl rfl rfl rfl (by decide) fun a94 hA95 => ?_; clear hA92 a91
    refine stg hA95 (op_move rfl (hA95.ev rfl)) rfl rfl rfl rfl (by decide) fun a96 hA97 => ?_; clear hA95 a94
    refine stg hA97 (op_move rfl (hA97.ev rfl)) rfl rfl rfl rfl (by decide) fun a98 hA99 => ?_; clear hA97 a96
    refine stg hA99 (op_sub rfl (hA99.ev rfl) (evc _ _) (by omega) (by omega)) rfl rfl rfl rfl (by decide) fun a100 hA101 => ?_; clear hA99 a98
    refine stg hA101 (op_indexS rfl un_23 ty_3 (hA101.ev rfl) (i := ((k : Int) - 1).toNat) ((hA101.ev rfl).trans (int_nat (by omega))) (hS54.sk 5 rfl) (by decide) (by omega)) rfl rfl rfl rfl (by decide) fun a102 hA103 => ?_; clear hA101 a100
    refine stg hA103 (op_load1E rfl ty_3 (hA103.ev rfl) (hS54.sk 5 rfl) (ints_at (by omega))) rfl rfl rfl rfl (by decide) fun a104 hA105 => ?_; clear hA103 a102
    refine stg hA105 (op_leq rfl (hA105.ev rfl) (hA105.ev rfl)) rfl rfl rfl rfl (by decide) fun a106 hA107 => ?_; clear hA105 a104
    refine stg hA107 (op_pick_t rfl (hA107.ev rfl) (hA107.ev rfl)) rfl rfl rfl rfl (by decide) fun a108 hA109 => ?_; clear hA107 a106
    refine st hA109 (op_pick_f rfl (hA109.ev rfl) (hA109.ev rfl)) rfl rfl (by decide) fun a110 hA111 => ?_; clear hA109 a108
    refine wl_nil ?_
    refine then_n ?_
    by_cases hb112 : (l.getD k 0) ≤ (l.getD (((k : Int) - 1).toNat) 0)
    ·skip
     rw [decide_eq_true hb112] at hA111
     refine c_true hA111 rfl ?_
     refine c_seq ?_
     have hA113 := hA111.as [(5, (bptr b11 0))] rfl; clear hA111
     refine c_region ?_
     refine st hA113 (op_build rfl pv0 bd_85_) rfl rfl (by decide) fun a114 hA115 => ?_; clear hA113 a110
     refine st hA115 (op_assign rfl (evc _ _)) rfl rfl (by decide) fun a116 hA117 => ?_; clear hA115 a114
     refine sts hA117 (op_store hS54 rfl ty_85 (hA117.ev rfl) (hA117.ev rfl) (i := 3) rfl (vs := [(Value.bool false), (Value.bool false), (Value.bool false), (Value.bool false), (Value.bool false), (Value.bool false)]) rfl rfl rfl (Nat.le_of_ble_eq_true rfl)) rfl rfl ?_
     intro _ w118 hS119 hA120; clear hA117
     have hS121 : Sep NoB w w118 [(blk b42 85 (bools (offUpto l k))), (blk bj22 107 [vl, vs, (Value.int .i64 d.spread), vb, (Value.map (some bm23))]), (memo bm23 (KR d)), (blk b11 85 [(Value.bool false), (Value.bool false), (Value.bool false), (Value.bool false), (Value.bool false), (Value.bool false)]), (blk b4 34 [vl, vs, (Value.int .i64 d.spread), vb]), (sl xl 1 l.length (ints l)), (sl vl 2 d.lots.length (pairs d.lots)), (sl vs 1 d.samples.length (ints d.samples)), (sl vb 2 d.tols.length (vpairs (d.tols.zip lv))), (rdsR lv d.rds)] := hS119; clear hS119 hS54
     refine st hA120 (op_assign rfl (evc _ _)) rfl rfl (by decide) fun a122 hA123 => ?_; clear hA120 a116
     refine wl_nil ?_
     refine then_n ?_
     refine c_ret ?_
     refine then_ret ?_
     refine blk_ret ?_
     refine then_ret ?_
     refine then_ret ?_
     refine blk_ret ?_
     refine then_ret ?_
     refine fin_run hA123 (.inl rfl) (run_results3 hA123 rfl (.tmp rfl) (.cellA rfl ty_85 (hS121.bk 3 rfl) (l := [(Value.bool false), (Value.bool false), (Value.bool false), (Value.bool false), (Value.bool false), (Value.bool false)]) rfl rfl) (.tmp rfl)) ?_
     exact .inl ⟨riseB_no (k := k) (by omega) (by first | exact rise_no1 (by assumption) | (rw [toNat_pred] at *; exact rise_no2 (by omega) (by omega))), rfl, hS121.ext⟩
    ·skip
     rw [decide_eq_false hb112] at hA111
     refine c_false hA111 rfl ?_
     refine c_skip ?_
     refine then_n ?_
     have hA124 := hA111.as [(11, (Value.int .i64 (l.getD k 0))), (23, (Value.int .i64 (k : Int))), (22, (Value.int .i64 (l.length : Int))), (21, xl), (9, (bptr b42 0)), (7, (bptr bj22 0)), (5, (bptr b11 0)), (2, (bptr b4 0)), (1, xl)] rfl; clear hA111
     refine c_region ?_
     refine st hA124 (op_move rfl (hA124.ev rfl)) rfl rfl (by decide) fun a125 hA126 => ?_; clear hA124 a110
     refine st hA126 (op_indexA rfl un_85 ty_4 (hA126.ev rfl) (i := (l.getD k 0).toNat) ((hA126.ev rfl).trans (int_nat (by omega))) (by omega)) rfl rfl (by decide) fun a127 hA128 => ?_; clear hA126 a125
     refine sts hA128 (op_store hS54 rfl ty_4 (hA128.ev rfl) (evc _ _) (i := 0) rfl (vs := [(Value.bool true)]) rfl rfl rfl (by simp only [bools_length, offUpto_length]; omega)) rfl rfl ?_
     intro _ w129 hS130 hA132; have hS131 := hS130.blk_say (i := 0) rfl (cs' := (bools ((offUpto l k).set ((l.getD k 0).toNat) true))) (by rw [setFrom_one, Nat.mul_one, Nat.zero_add, bools_set]); clear hS130 hA128 hS54
     refine wl_nil ?_
     refine blk_n ?_
     refine then_n ?_
     refine c_region ?_
     refine st hA132 (op_add rfl (hA132.ev rfl) (evc _ _) (by omega) (by omega)) rfl rfl (by decide) fun a133 hA134 => ?_; clear hA132 a127
     refine st hA134 (op_move rfl (hA134.ev rfl)) rfl rfl (by decide) fun a135 hA136 => ?_; clear hA134 a133
     refine wl_nil ?_
     exact then_n ⟨k + 1, ⟨hA136.as _ rfl, (hS131.blk_say (i := 0) rfl (by rw [offUpto_succ l k (by omega)])), by omega, (fun i hi => by rcases Nat.lt_succ_iff_lt_or_eq.1 hi with h | h; exact hr i h; subst h; first | exact rise_yes (by assumption) (.inl (by omega)) | (rw [toNat_pred] at *; exact rise_yes (by assumption) (.inr (by omega))))⟩, by omega⟩
   ·skip
    rw [decide_eq_false hb93] at hA92
    refine skp hA92 rfl rfl rfl rfl rfl (by decide) fun a137 hA138 => ?_; clear hA92 a91
    refine skp hA138 rfl rfl rfl rfl rfl (by decide) fun a139 hA140 => ?_; clear hA138 a137
    refine skp hA140 rfl rfl rfl rfl rfl (by decide) fun a141 hA142 => ?_; clear hA140 a139
    refine skp hA142 rfl rfl rfl rfl rfl (by decide) fun a143 hA144 => ?_; clear hA142 a141
    refine skp hA144 rfl rfl rfl rfl rfl (by decide) fun a145 hA146 => ?_; clear hA144 a143
    refine skp hA146 rfl rfl rfl rfl rfl (by decide) fun a147 hA148 => ?_; clear hA146 a145
    refine skp hA148 rfl rfl rfl rfl rfl (by decide) fun a149 hA150 => ?_; clear hA148 a147
    refine stg hA150 (op_pick_f rfl (hA150.ev rfl) (evc _ _)) rfl rfl rfl rfl (by decide) fun a151 hA152 => ?_; clear hA150 a149
    refine st hA152 (op_pick_f rfl (hA152.ev rfl) (hA152.ev rfl)) rfl rfl (by decide) fun a153 hA154 => ?_; clear hA152 a151
    refine wl_nil ?_
    refine then_n ?_
    refine c_false hA154 rfl ?_
    refine c_skip ?_
    refine then_n ?_
    have hA155 := hA154.as [(11, (Value.int .i64 (l.getD k 0))), (23, (Value.int .i64 (k : Int))), (22, (Value.int .i64 (l.length : Int))), (21, xl), (9, (bptr b42 0)), (7, (bptr bj22 0)), (5, (bptr b11 0)), (2, (bptr b4 0)), (1, xl)] rfl; clear hA154
    refine c_region ?_
    refine st hA155 (op_move rfl (hA155.ev rfl)) rfl rfl (by decide) fun a156 hA157 => ?_; clear hA155 a153
    refine st hA157 (op_indexA rfl un_85 ty_4 (hA157.ev rfl) (i := (l.getD k 0).toNat) ((hA157.ev rfl).trans (int_nat (by omega))) (by omega)) rfl rfl (by decide) fun a158 hA159 => ?_; clear hA157 a156
    refine sts hA159 (op_store hS54 rfl ty_4 (hA159.ev rfl) (evc _ _) (i := 0) rfl (vs := [(Value.bool true)]) rfl rfl rfl (by simp only [bools_length, offUpto_length]; omega)) rfl rfl ?_
    intro _ w160 hS161 hA163; have hS162 := hS161.blk_say (i := 0) rfl (cs' := (bools ((offUpto l k).set ((l.getD k 0).toNat) true))) (by rw [setFrom_one, Nat.mul_one, Nat.zero_add, bools_set]); clear hS161 hA159 hS54
    refine wl_nil ?_
    refine blk_n ?_
    refine then_n ?_
    refine c_region ?_
    refine st hA163 (op_add rfl (hA163.ev rfl) (evc _ _) (by omega) (by omega)) rfl rfl (by decide) fun a164 hA165 => ?_; clear hA163 a158
    refine st hA165 (op_move rfl (hA165.ev rfl)) rfl rfl (by decide) fun a166 hA167 => ?_; clear hA165 a164
    refine wl_nil ?_
    exact then_n ⟨k + 1, ⟨hA167.as _ rfl, (hS162.blk_say (i := 0) rfl (by rw [offUpto_succ l k (by omega)])), by omega, (fun i hi => by rcases Nat.lt_succ_iff_lt_or_eq.1 hi with h | h; exact hr i h; subst h; first | exact rise_yes (by assumption) (.inl (by omega)) | (rw [toNat_pred] at *; exact rise_yes (by assumption) (.inr (by omega))))⟩, by omega⟩
  ·skip
   rw [hb85] at hA84
   have hq168 := hb85; simp only [Bool.and_eq_true, Bool.and_eq_false_iff, decide_eq_true_eq, decide_eq_false_iff_not] at hq168
   refine skp hA84 rfl rfl rfl rfl rfl (by decide) fun a169 hA170 => ?_; clear hA84 a83
   refine skp hA170 rfl rfl rfl rfl rfl (by decide) fun a171 hA172 => ?_; clear hA170 a169
   refine skp hA172 rfl rfl rfl rfl rfl (by decide) fun a173 hA174 => ?_; clear hA172 a171
   refine skpU hA174 rfl rfl rfl rfl (by decide) fun a175 hA176 => ?_; clear hA174 a173
   refine skpU hA176 rfl rfl rfl rfl (by decide) fun a177 hA178 => ?_; clear hA176 a175
   refine skpU hA178 rfl rfl rfl rfl (by decide) fun a179 hA180 => ?_; clear hA178 a177
   refine skpU hA180 rfl rfl rfl rfl (by decide) fun a181 hA182 => ?_; clear hA180 a179
   refine skpU hA182 rfl rfl rfl rfl (by decide) fun a183 hA184 => ?_; clear hA182 a181
   refine skpU hA184 rfl rfl rfl rfl (by decide) fun a185 hA186 => ?_; clear hA184 a183
   refine skpU hA186 rfl rfl rfl rfl (by decide) fun a187 hA188 => ?_; clear hA186 a185
   refine skp hA188 rfl rfl rfl rfl rfl (by decide) fun a189 hA190 => ?_; clear hA188 a187
   refine st hA190 (op_pick_t rfl (hA190.ev rfl) (evc _ _)) rfl rfl (by decide) fun a191 hA192 => ?_; clear hA190 a189
   refine wl_nil ?_
   refine then_n ?_
   refine c_true hA192 rfl ?_
   refine c_seq ?_
   have hA193 := hA192.as [(5, (bptr b11 0))] rfl; clear hA192
   refine c_region ?_
   refine st hA193 (op_build rfl pv0 bd_85_) rfl rfl (by decide) fun a194 hA195 => ?_; clear hA193 a191
   refine st hA195 (op_assign rfl (evc _ _)) rfl rfl (by decide) fun a196 hA197 => ?_; clear hA195 a194
   refine sts hA197 (op_store hS54 rfl ty_85 (hA197.ev rfl) (hA197.ev rfl) (i := 3) rfl (vs := [(Value.bool false), (Value.bool false), (Value.bool false), (Value.bool false), (Value.bool false), (Value.bool false)]) rfl rfl rfl (Nat.le_of_ble_eq_true rfl)) rfl rfl ?_
   intro _ w198 hS199 hA200; clear hA197
   have hS201 : Sep NoB w w198 [(blk b42 85 (bools (offUpto l k))), (blk bj22 107 [vl, vs, (Value.int .i64 d.spread), vb, (Value.map (some bm23))]), (memo bm23 (KR d)), (blk b11 85 [(Value.bool false), (Value.bool false), (Value.bool false), (Value.bool false), (Value.bool false), (Value.bool false)]), (blk b4 34 [vl, vs, (Value.int .i64 d.spread), vb]), (sl xl 1 l.length (ints l)), (sl vl 2 d.lots.length (pairs d.lots)), (sl vs 1 d.samples.length (ints d.samples)), (sl vb 2 d.tols.length (vpairs (d.tols.zip lv))), (rdsR lv d.rds)] := hS199; clear hS199 hS54
   refine st hA200 (op_assign rfl (evc _ _)) rfl rfl (by decide) fun a202 hA203 => ?_; clear hA200 a196
   refine wl_nil ?_
   refine then_n ?_
   refine c_ret ?_
   refine then_ret ?_
   refine blk_ret ?_
   refine then_ret ?_
   refine then_ret ?_
   refine blk_ret ?_
   refine then_ret ?_
   refine fin_run hA203 (.inl rfl) (run_results3 hA203 rfl (.tmp rfl) (.cellA rfl ty_85 (hS201.bk 3 rfl) (l := [(Value.bool false), (Value.bool false), (Value.bool false), (Value.bool false), (Value.bool false), (Value.bool false)]) rfl rfl) (.tmp rfl)) ?_
   exact .inl ⟨riseB_no (k := k) (by omega) (by first | exact rise_no1 (by assumption) | (rw [toNat_pred] at *; exact rise_no2 (by omega) (by omega))), rfl, hS201.ext⟩
 ·skip
  rw [decide_eq_false hb57] at hA56
  refine c_false hA56 rfl ?_
  refine c_exit ?_
  refine then_exit ?_
  refine then_exit ?_
  refine blk_hit ?_
  refine then_n ?_
  refine c_seq ?_
  have hA204 := hA56.as [(9, (bptr b42 0)), (7, (bptr bj22 0)), (5, (bptr b11 0))] rfl; clear hA56
  have hA205 := hA204.as [(9, (bptr b42 0)), (7, (bptr bj22 0)), (5, (bptr b11 0))] rfl; clear hA204
  refine c_drawn mixed hA205 hS54 3 [[], [], [0]] [(Yd.val (bptr bj22 0)), (Yd.val (Value.agg (bools (offUpto l k)).toArray)), (Yd.val (bptr bj22 0))] (by decide +kernel) rfl rfl ?_ ?_
  ·skip
   refine ⟨fun a w hA hS hd => ?_, ?_⟩
   ·skip
    exact opG_of rfl (dv (op_move rfl (hA.ev rfl)) hS rfl)
   refine ⟨fun a w hA hS hd => ?_, ?_⟩
   ·skip
    exact opG_of rfl (dv (op_loadA rfl ty_85 (hA.ev rfl) (hS.bk 0 rfl) (l := (bools (offUpto l k))) (drop_take_all _ _ (by simp [bools_length, offUpto_length])) (by simp [bools_length, offUpto_length])) hS rfl)
   refine ⟨fun a w hA hS hd => ?_, ?_⟩
   ·skip
    have e0 := has_ev (hd 0 (by decide)) rfl (fun _ h => h)
    exact opG_of rfl (dv (op_assign rfl (tmp_ev e0)) hS rfl)
   trivial
  intro a206 w207 hA208 hS209 hH210; clear hA205 hS54
  have hA212 := hA208.add (has_ev (hH210 1 (by decide)) rfl (fun _ h => h)); clear hA208
  have hA213 := hA212.add (has_ev (hH210 2 (by decide)) rfl (fun _ h => h)); clear hA212
  clear hH210
  refine sts hA213 (op_store hS209 rfl ty_85 (hA213.ev rfl) (hA213.ev rfl) (i := 3) rfl (vs := (bools (offUpto l k))) rfl (by simp [bools_length, offUpto_length]) (bools_one _) (by decide)) rfl rfl ?_
  intro _ w214 hS215 hA217; have hS216 := hS215.blk_say (i := 3) rfl (cs' := (bools (offUpto l k))) (setFrom_all _ _ (Eq.symm (by simp [bools_length, offUpto_length]))); clear hS215 hA213 hS209
  refine st hA217 (op_assign rfl (evc _ _)) rfl rfl (by decide) fun a218 hA219 => ?_; clear hA217 a206
  refine wl_nil ?_
  refine then_n ?_
  refine c_ret ?_
  refine fin_run hA219 (.inl rfl) (run_results3 hA219 rfl (.tmp rfl) (.cellA rfl ty_85 (hS216.bk 3 rfl) (l := (bools (offUpto l k))) (drop_take_all _ _ (by simp [bools_length, offUpto_length])) (by simp [bools_length, offUpto_length])) (.tmp rfl)) ?_
  exact .inr ⟨riseB_yes (fun i hi => hr i (by omega)), _, _, by rw [show l.length = k by omega], hS216.keep [1, 2] (by decide) _ rfl rfl⟩

end Go.Proofs.Ytfhmigoddaaljaa
