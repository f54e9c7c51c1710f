/-
  How the arguments of the statements are read: a round, a list, words.
-/
import Derived.Test.YtfhmigoddaaljaaEngW
import Derived.Test.YtfhmigoddaaljaaPlain
import Derived.Test.YtfhmigoddaaljaaRows
set_option linter.unusedSimpArgs false
set_option linter.unusedVariables false
namespace Go.Proofs.Ytfhmigoddaaljaa
open Go.RowKit Go.Eng Go.ChangeShapes Go.WideShapes Go.ChangeAt Go.Joins Go.Deep

theorem Try.own : ownKnob Try.prog.godebug = none := by kernel_rfl
theorem Try.laidOut : laidOutB Try.prog = true := by kernel_rfl
theorem cells3 : Try.prog.cellsOf 3 = 1 := by kernel_rfl
theorem cells23 : Try.prog.cellsOf 23 = 1 := by kernel_rfl
theorem cells26 : Try.prog.cellsOf 26 = 4 := by kernel_rfl
theorem cells44 : Try.prog.cellsOf 44 = 2 := by kernel_rfl
theorem cells62 : Try.prog.cellsOf 62 = 2 := by kernel_rfl

section
variable {H : Type} {enc : TypeId × Value → H} {W : World} {r : Reach} {b0 : Nat}
set_option maxRecDepth 100000 in
theorem rd_round {v : Value} {y : DataW H} {p : List MemPlace} (hv : Value.okWide Try.prog W r b0 26 v) (h : DataW.Trod enc Try.prog W 0 (fun _ => true) true 26 v y p) :
    ∃ rl rs rb rlv d, v = .agg #[rl, rs, .int .i64 d.spread, rb] ∧ RoundAt W rl rs rb rlv d := by
  obtain ⟨v0, v1, v2, v3, y0, y1, y2, y3, n, rfl, _, _, h0, h1, h2, h3⟩ := open_agg4 Try.underlying26 (by kernel_rfl) cells26 hv h
  obtain ⟨lots, hl⟩ := rd_pairs Try.underlying22 Try.underlying44 cells44 rfl rfl cells3 cells3 Try.underlying3 Try.underlying3 h0
  obtain ⟨samples, hs⟩ := rd_ints Try.underlying23 Try.underlying3 cells3 h1
  obtain ⟨k, e2, _⟩ := DataW.trod_int Try.underlying3 h2
  simp only [List.cons.injEq, and_true] at e2
  subst e2
  obtain ⟨tols, lv, rds, hb, h5, h6, h7⟩ := rd_lists Try.underlying24 Try.underlying62 cells62 rfl rfl cells3 cells23 Try.underlying3 Try.underlying23 Try.underlying3 cells3 h3
  exact ⟨v0, v1, v3, lv, ⟨lots, samples, k, tols, rds⟩, rfl, ⟨hl, hs, hb, h7, h5, h6⟩⟩
set_option maxRecDepth 100000 in
theorem rd_list {v : Value} {y : DataW H} {p : List MemPlace} (hv : Value.okWide Try.prog W r b0 23 v) (h : DataW.Trod enc Try.prog W 0 (fun _ => true) true 23 v y p) : ∃ l : List Int, SlAt W v 1 l.length (ints l) := by
  obtain ⟨a0, len, cap, rfl⟩ := okWide_slice Try.underlying23 hv
  obtain ⟨n, h⟩ := h
  exact rd_ints Try.underlying23 Try.underlying3 cells3 h
set_option maxRecDepth 100000 in
theorem rd_words {v : Value} {y : DataW H} {p : List MemPlace} (hv : Value.okWide Try.prog W r b0 68 v) (h : DataW.Trod enc Try.prog W 0 (fun _ => true) true 68 v y p) : ∃ l : List Int, SlAt W v 1 l.length (l.map (Value.int .u16)) ∧ ∀ x ∈ l, 0 ≤ x ∧ x ≤ 65535 := by
  obtain ⟨a0, len, cap, rfl⟩ := okWide_slice Try.underlying68 hv
  obtain ⟨n, h⟩ := h
  obtain ⟨xs, h1, h2⟩ := rd_kind Try.underlying68 Try.underlying59 (by kernel_rfl) h
  refine ⟨xs, h1, fun x hx => ?_⟩
  have := h2 x hx
  simpa [Lit.wf, IntKind.min, IntKind.max, IntKind.signed, IntKind.bits] using this
theorem wf_u8 {n : Int} (h : (Lit.int .u8 n).wf = true) : 0 ≤ n ∧ n ≤ 255 := by simpa [Lit.wf, IntKind.min, IntKind.max, IntKind.signed, IntKind.bits] using h
theorem wf_u16 {n : Int} (h : (Lit.int .u16 n).wf = true) : 0 ≤ n ∧ n ≤ 65535 := by simpa [Lit.wf, IntKind.min, IntKind.max, IntKind.signed, IntKind.bits] using h
theorem wf_i16 {n : Int} (h : (Lit.int .i16 n).wf = true) : -32768 ≤ n ∧ n ≤ 32767 := by simpa [Lit.wf, IntKind.min, IntKind.max, IntKind.signed, IntKind.bits] using h
theorem wf_i64 {n : Int} (h : (Lit.int .i64 n).wf = true) : -9223372036854775808 ≤ n ∧ n ≤ 9223372036854775807 := by simpa [Lit.wf, IntKind.min, IntKind.max, IntKind.signed, IntKind.bits] using h
end
end Go.Proofs.Ytfhmigoddaaljaa
