/-
  How the arguments of the statements are read: a material, runs, a plan, words.
-/
import Derived.Test.YtkkglkdnnfegkaaEngW
import Derived.Test.YtkkglkdnnfegkaaBa
import Derived.Test.YtkkglkdnnfegkaaRows
import Derived.SizedLaws
set_option linter.unusedSimpArgs false
set_option linter.unusedVariables false
namespace Go.Proofs.Ytkkglkdnnfegkaa
open Go.RowKit Go.Eng Go.ChangeShapes Go.WideShapes Go.ChangeAt Go.Joins Go.Deep
theorem Try.own : ownKnob Try.prog.godebug = none := by kernel_rfl
theorem Try.laidOut : laidOutB Try.prog = true := by kernel_rfl
theorem cells3 : Try.prog.cellsOf 3 = 1 := by kernel_rfl
theorem cells22 : Try.prog.cellsOf 22 = 1 := by kernel_rfl
theorem cells24 : Try.prog.cellsOf 24 = 1 := by kernel_rfl
theorem cells48 : Try.prog.cellsOf 48 = 2 := by kernel_rfl
theorem cells51 : Try.prog.cellsOf 51 = 1 := by kernel_rfl
theorem cells54 : Try.prog.cellsOf 54 = 3 := by kernel_rfl
theorem cells56 : Try.prog.cellsOf 56 = 3 := by kernel_rfl
section
variable {H : Type} {enc : TypeId × Value → H} {W : World} {r : Reach} {b0 : Nat}
set_option maxRecDepth 100000 in
theorem rd_mat {v : Value} {y : DataW H} {p : List MemPlace} (hv : Value.okWide Try.prog W r b0 24 v) (h : DataW.Trod enc Try.prog W 0 (fun _ => true) true 24 v y p) :
    ∃ u R, v = .agg #[u] ∧ SlAt W u 2 (List.length R) (pairs R) := by
  obtain ⟨cs, rfl, hsz⟩ := okWide_struct Try.underlying24 hv
  rw [cells24] at hsz
  obtain ⟨l⟩ := cs
  match l, hsz with
  | [u], _ =>
    obtain ⟨fuel, hf⟩ := h
    obtain ⟨xs, n, _, _, hl, hlen, hg⟩ := DataW.trod_struct Try.underlying24 hf
    match xs, hlen with
    | [y0], _ =>
      have g0 := hg 0 _ rfl
      obtain ⟨R, hR⟩ := rd_pairs (v := u) Try.underlying22 Try.underlying48 cells48 rfl rfl cells3 cells3 Try.underlying3 Try.underlying3 (by simpa [Value.cells, cells22] using g0)
      exact ⟨u, R, rfl, hR⟩
set_option maxRecDepth 100000 in
theorem rd_runs {v : Value} {y : DataW H} {p : List MemPlace} (hv : Value.okWide Try.prog W r b0 25 v) (h : DataW.Trod enc Try.prog W 0 (fun _ => true) true 25 v y p) : ∃ lv rs, RunsAt W v lv rs := by
  obtain ⟨a0, len0, cap0, rfl⟩ := okWide_slice Try.underlying25 hv
  obtain ⟨n, h⟩ := h
  rcases open_w12 Try.underlying25 Try.underlying54 cells54 rfl rfl cells51 cells48 Try.underlying48 rfl rfl cells3 cells3 Try.underlying3 Try.underlying3 h with e | ⟨a, len, cap, m, V, K1, K2, Y, e, hl, hm, hx⟩
  · rw [e]; exact ⟨[], [], slAt_nil W 3, rfl, fun i hi => by simp at hi⟩
  · rw [e]
    have each : ∀ i, i < len → ∃ xs : List Seg, SlAt W (V i) 3 xs.length (trips xs) := fun i hi =>
      rd_trips Try.underlying51 Try.underlying56 cells56 rfl rfl cells3 cells48 Try.underlying48 rfl rfl cells3 cells3 Try.underlying3 Try.underlying3 Try.underlying3 (hx i hi).2.2.2
    obtain ⟨sg, hsg⟩ := choose_lt each
    have hlv : ((List.range len).map V).length = ((List.range len).map fun i => (⟨sg i, K1 i, K2 i⟩ : RunD)).length := by simp
    have g1 : ∀ i, i < len → ((List.range len).map V).getD i nilS = V i := fun i hi => by simp [List.getD, hi]
    have g2 : ∀ i, i < len → ((List.range len).map fun i => (⟨sg i, K1 i, K2 i⟩ : RunD)).getD i run0 = ⟨sg i, K1 i, K2 i⟩ := fun i hi => by simp [List.getD, hi]
    refine ⟨(List.range len).map V, (List.range len).map fun i => ⟨sg i, K1 i, K2 i⟩, ⟨by rw [vtrips_length, runV_len hlv], some a, cap, by simp, by simpa using hl, hm, fun _ => ⟨a, rfl, fun j u hu => ?_⟩⟩, hlv, fun i hi => ?_⟩
    · have hj := (List.getElem?_eq_some_iff.1 hu).1
      rw [vtrips_length, runV_len hlv, List.length_map, List.length_range] at hj
      obtain ⟨i, hi, hji⟩ : ∃ i, i < len ∧ (j = i * 3 ∨ j = i * 3 + 1 ∨ j = i * 3 + 2) := ⟨j / 3, by omega, by omega⟩
      obtain ⟨h1, h2, h3, _⟩ := hx i hi
      have hi2 : i < ((List.range len).map fun i => (⟨sg i, K1 i, K2 i⟩ : RunD)).length := by simpa using hi
      rcases hji with rfl | rfl | rfl
      · rw [runs_at0 hlv hi2, g1 i hi] at hu; cases hu; exact h1
      · rw [runs_at1 hlv hi2, g2 i hi] at hu; cases hu; exact h2
      · rw [runs_at2 hlv hi2, g2 i hi] at hu; cases hu; exact h3
    · have hi' : i < len := by simpa using hi
      rw [g1 i hi', g2 i hi']; exact hsg i hi'
end
end Go.Proofs.Ytkkglkdnnfegkaa
