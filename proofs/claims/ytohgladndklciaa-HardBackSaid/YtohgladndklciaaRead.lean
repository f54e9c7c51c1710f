/-
  How the arguments of the statements are read: a book, readings, one table, words.
  What the form says of the bytes of a book's lists.
-/
import Derived.Test.YtohgladndklciaaEngW
import Derived.Test.YtohgladndklciaaBa
import Derived.Test.YtohgladndklciaaRows
import Derived.SizedLaws
set_option linter.unusedSimpArgs false
set_option linter.unusedVariables false
namespace Go.Proofs.Ytohgladndklciaa
open Go.RowKit Go.Eng Go.Hard Go.ChangeShapes Go.WideShapes Go.ChangeAt Go.Joins Go.Deep
theorem Try.own : ownKnob Try.prog.godebug = none := by kernel_rfl
theorem Try.laidOut : laidOutB Try.prog = true := by kernel_rfl
theorem cells3 : Try.prog.cellsOf 3 = 1 := by kernel_rfl
theorem cells43 : Try.prog.cellsOf 43 = 1 := by kernel_rfl
theorem cells44 : Try.prog.cellsOf 44 = 1 := by kernel_rfl
theorem cells46 : Try.prog.cellsOf 46 = 5 := by kernel_rfl
theorem cells75 : Try.prog.cellsOf 75 = 2 := by kernel_rfl
section
variable {H : Type} {enc : TypeId × Value → H} {P : Program} {w : World} {held : Bool}
end
section
variable {H : Type} {enc : TypeId × Value → H} {W : World} {held : Bool}
end
section
variable {H : Type} {enc : TypeId × Value → H} {W : World} {r : Reach} {b0 : Nat}
theorem wf_u16 {n : Int} (h : (Lit.int .u16 n).wf = true) : 0 ≤ n ∧ n ≤ 65535 := by simpa [Lit.wf, IntKind.min, IntKind.max, IntKind.signed, IntKind.bits] using h
end
end Go.Proofs.Ytohgladndklciaa

namespace Go.Proofs.Ytohgladndklciaa
open Go.RowKit Go.Eng Go.Hard Go.ChangeShapes Go.WideShapes Go.ChangeAt Go.Joins Go.Deep
section
variable {H : Type} {enc : TypeId × Value → H} {W : World}
end
section
variable {H : Type} {enc : TypeId × Value → H} {W : World} {r : Reach} {b0 : Nat}
set_option maxRecDepth 100000 in
theorem rd_table {v : Value} {y : DataW H} {p : List MemPlace} (hv : Value.okWide Try.prog W r b0 46 v) (h : DataW.Trod enc Try.prog W 0 (fun _ => true) true 46 v y p) : ∃ (t : TabD) (vr vb : Value), v = .agg #[.int .i64 t.frm, .int .i64 t.dst, vr, vb, .int .i64 t.err] ∧ SlAt W vr 2 t.rows.length (pairs t.rows) ∧ SlAt W vb 1 t.brk.length (ints t.brk) := by
  obtain ⟨cs, rfl, hsz⟩ := okWide_struct Try.underlying46 hv
  rw [cells46] at hsz
  obtain ⟨l⟩ := cs
  match l, hsz with
  | [v0, v1, v2, v3, v4], _ =>
    obtain ⟨fuel, hf⟩ := h
    obtain ⟨xs, n, _, _, hl, hlen, hg⟩ := DataW.trod_struct Try.underlying46 hf
    match xs, hlen with
    | [y0, y1, y2, y3, y4], _ =>
      have q0 := hg 0 _ rfl
      have q1 := hg 1 _ rfl
      have q2 := hg 2 _ rfl
      have q3 := hg 3 _ rfl
      have q4 := hg 4 _ rfl
      simp [Value.cells, cells3, cells43, cells44] at q0 q1 q2 q3 q4
      obtain ⟨k0, e0, _⟩ := DataW.trod_int Try.underlying3 q0
      obtain ⟨k1, e1, _⟩ := DataW.trod_int Try.underlying3 q1
      obtain ⟨k4, e4, _⟩ := DataW.trod_int Try.underlying3 q4
      obtain ⟨rs, hr⟩ := rd_pairs (v := v2) Try.underlying43 Try.underlying75 cells75 rfl rfl cells3 cells3 Try.underlying3 Try.underlying3 q2
      obtain ⟨bs, hb⟩ := rd_ints (v := v3) Try.underlying44 Try.underlying3 cells3 q3
      simp only [List.cons.injEq, and_true] at e0 e1 e4
      exact ⟨⟨k0, k1, rs, bs, k4⟩, v2, v3, by rw [e0, e1, e4], hr, hb⟩
end
end Go.Proofs.Ytohgladndklciaa
