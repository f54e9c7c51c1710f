/-
  The engine, part W: from the row's reading of the arguments to what the walks ask, and from the walk to the row: a law returns true and leaves its arguments.
  The engine, part OO: slices of structs of a cell and a struct of two ints, read off a row's argument.
-/
import Derived.Test.YtohgladndklciaaEnga
import Derived.ProofKit
import Derived.Lib.SmallJoins
import Derived.Deep.SlicePairs
import Derived.Carry
set_option linter.unusedSimpArgs false
set_option linter.unusedVariables false
namespace Go.Eng
open Go.RowKit Go.ChangeShapes Go.WideShapes Go.ChangeAt Go.Deep
section
variable {H : Type} {enc : TypeId × Value → H} {P : Program} {w : World} {held : Bool}
theorem rd_ints {t e : TypeId} {n : Nat} {v : Value} {y : DataW H × List MemPlace} (ht : P.underlying t = some (.slice e)) (he : P.underlying e = some (.int .i64)) (hc : P.cellsOf e = 1)
    (h : DataW.trod enc P w 0 (fun _ => true) held n t [v] = some y) : ∃ xs : List Int, SlAt w v 1 xs.length (ints xs) := by
  rcases open_ints ht he hc h with ⟨h0, _⟩ | ⟨a, len, cap, zs, h0, _, hl, hm, hz, _, hcell, _⟩
  · simp only [List.cons.injEq, and_true] at h0; subst h0
    exact ⟨[], slAt_nil w 1⟩
  · simp only [List.cons.injEq, and_true] at h0; subst h0
    simp only [if_true] at hz
    have hlen : (zs.take len).length = len := by rw [List.length_take]; omega
    refine ⟨zs.take len, by rw [ints_length]; omega, some a, cap, by rw [hlen], by omega, hm, fun _ => ⟨a, rfl, fun j u hu => ?_⟩⟩
    have hj := (List.getElem?_eq_some_iff.1 hu).1
    rw [ints_length, hlen] at hj
    have e : (ints (zs.take len))[j]? = some (.int .i64 (zs.getD j 0)) := by
      simp [ints, List.getElem?_take, hj, List.getD, show j < zs.length by omega]
    rw [e] at hu; cases hu
    exact hcell j (by omega)
def numV : Value → Int
  | .int _ n => n
  | _ => 0
theorem rd_pairs {t e : TypeId} {f0 f1 : Field} {n : Nat} {v : Value} {y : DataW H × List MemPlace} (ht : P.underlying t = some (.slice e)) (he : P.underlying e = some (.struct #[f0, f1])) (ce : P.cellsOf e = 2) (o0 : f0.offset = 0) (o1 : f1.offset = 1) (c0 : P.cellsOf f0.type = 1) (c1 : P.cellsOf f1.type = 1)
    (t0 : P.underlying f0.type = some (.int .i64)) (t1 : P.underlying f1.type = some (.int .i64)) (h : DataW.trod enc P w 0 (fun _ => true) held n t [v] = some y) : ∃ xs : List (Int × Int), SlAt w v 2 xs.length (pairs xs) := by
  rcases open_slice_pairs ht he ce o0 o1 c0 c1 h with ⟨h0, _⟩ | ⟨a, len, cap, m, n', V0, V1, D0, D1, P0, P1, h0, _, hl, hm, hmm, _, hx⟩
  · simp only [List.cons.injEq, and_true] at h0; subst h0
    exact ⟨[], slAt_nil w 2⟩
  · simp only [List.cons.injEq, and_true] at h0; subst h0
    simp only [if_true] at hmm
    refine ⟨(List.range len).map fun i => (numV (V0 i), numV (V1 i)), by rw [a_7], some a, cap, by simp, by simpa using hl, hm, fun _ => ⟨a, rfl, fun j u hu => ?_⟩⟩
    have hj := (List.getElem?_eq_some_iff.1 hu).1
    rw [a_7, List.length_map, List.length_range] at hj
    obtain ⟨i, hi, hji⟩ : ∃ i, i < len ∧ (j = i * 2 ∨ j = i * 2 + 1) := ⟨j / 2, by omega, by omega⟩
    obtain ⟨h1, h2, h3, h4⟩ := hx i (by omega)
    obtain ⟨k0, e0, _⟩ := DataW.trod_int t0 h3
    obtain ⟨k1, e1, _⟩ := DataW.trod_int t1 h4
    simp only [List.cons.injEq, and_true] at e0 e1
    have hg : ((List.range len).map fun i => (numV (V0 i), numV (V1 i))).getD i (0, 0) = (k0, k1) := by
      simp [List.getD, hi, e0, e1, numV]
    rcases hji with rfl | rfl
    · have := j_4 (xs := (List.range len).map fun i => (numV (V0 i), numV (V1 i))) (i := i) (by simpa using hi)
      rw [this, hg] at hu; cases hu
      rw [h1, e0]
    · have := i_6 (xs := (List.range len).map fun i => (numV (V0 i), numV (V1 i))) (i := i) (by simpa using hi)
      rw [this, hg] at hu; cases hu
      rw [h2, e1]
theorem trodAll_below {W W' : World} (hl : laidOutB P = true) (hb : Below W.heap.size W W') : ∀ {ts : List TypeId} {vs : List Value} {ds : List (DataW H)} {ps : List MemPlace}, ts.all (fun t => P.readableRec t && decide (t < P.types.size)) = true →
    DataW.TrodAll enc P W 0 (fun _ => true) true ts vs ds ps → (∀ x ∈ ps, x.block < W.heap.size) → DataW.TrodAll enc P W' 0 (fun b => decide (b < W.heap.size)) true ts vs ds ps
  | [], [], [], _, _, h, _ => h
  | t :: ts, v :: vs, d :: ds, ps, hr, h, hlt => by
    obtain ⟨p, q, h1, h2, rfl⟩ := h
    simp only [List.all_cons, Bool.and_eq_true, decide_eq_true_eq] at hr
    exact ⟨p, q, Below.trod hl hr.1.1 hr.1.2 h1 hb (fun x hx => hlt x (List.mem_append_left _ hx)), trodAll_below hl hb hr.2 h2 (fun x hx => hlt x (List.mem_append_right _ hx)), rfl⟩
  | [], _ :: _, _, _, _, h, _ => by cases h
  | [], [], _ :: _, _, _, h, _ => by cases h
  | _ :: _, [], _, _, _, h, _ => by cases h
  | _ :: _, _ :: _, [], _, _, h, _ => by cases h
theorem law_post {f : Func} {s : ChangeSpec} {W W' : World} {args : Array Value} {ds : List (DataW H)} {before : List MemPlace} {tb : TypeId} (hl : laidOutB P = true) (hr : f.params.toList.all (fun t => P.readableRec t && decide (t < P.types.size)) = true)
    (hs : s.vars = []) (hW : DataW.Whole enc P f.params.toList s.vars false W args.toList ds [] before) (hfn : s.fn H (ds ++ []) = { results := [.lit (.bool true)], args := ds }) (hrt : f.resultTypes = #[tb]) (hb4 : P.underlying tb = some .bool) (hE : Ext NoB W W') :
    s.post enc P f false true false false W args (.bool true) W' := by
  have hW0 := hW
  obtain ⟨p, q, hA, hV, rfl, hz, hn⟩ := hW
  have hlt : ∀ x ∈ p ++ q, x.block < W.heap.size := fun x hx => hW0.lt x hx
  have hb := hE.below
  rw [hs] at hV
  obtain ⟨_, rfl⟩ := trodVars_none hV
  refine ⟨ds, [], p ++ [], [], p, [], hW0, ?_, ?_, ?_, World.keptBut_mono (fun x hx => ⟨hx, .inr (.inl (by simpa using hx))⟩) (hb.frame (· ∈ p ++ [])), fun h => by cases h⟩
  · rw [hfn, hrt]
    exact trodAll_mk1 (shut_bool hb4 true)
  · rw [hfn]
    exact trodAll_below hl hb hr hA (fun x hx => hlt x (List.mem_append_left _ hx))
  · rw [hfn, hs]; rfl
end
end Go.Eng

namespace Go.Eng
open Go.RowKit Go.ChangeShapes Go.WideShapes Go.ChangeAt Go.Deep
section
variable {H : Type} {enc : TypeId × Value → H} {P : Program} {w : World} {held : Bool}
end
end Go.Eng
