/-
  The engine, part W: from the row's reading of the arguments to what the walks ask, and from the walk to the row: a law returns true and leaves its arguments.
  The engine, part OO: slices of structs of a cell and a struct of two ints, read off a row's argument.
-/
import Derived.Test.YtkkglkdnnfegkaaEnga
import Derived.ProofKit
import Derived.Lib.SmallJoins
import Derived.Deep.SlicePairs
import Derived.Carry
set_option linter.unusedSimpArgs false
set_option linter.unusedVariables false
namespace Go.Eng
open Go.RowKit Go.ChangeShapes Go.WideShapes Go.ChangeAt Go.Deep
section
variable {H : Type} {enc : TypeId × Value → H} {P : Program} {w : World} {held : Bool}
def numV : Value → Int
  | .int _ n => n
  | _ => 0
theorem rd_pairs {t e : TypeId} {f0 f1 : Field} {n : Nat} {v : Value} {y : DataW H × List MemPlace} (ht : P.underlying t = some (.slice e)) (he : P.underlying e = some (.struct #[f0, f1])) (ce : P.cellsOf e = 2) (o0 : f0.offset = 0) (o1 : f1.offset = 1) (c0 : P.cellsOf f0.type = 1) (c1 : P.cellsOf f1.type = 1)
    (t0 : P.underlying f0.type = some (.int .i64)) (t1 : P.underlying f1.type = some (.int .i64)) (h : DataW.trod enc P w 0 (fun _ => true) held n t [v] = some y) : ∃ xs : List (Int × Int), SlAt w v 2 xs.length (pairs xs) := by
  rcases open_slice_pairs ht he ce o0 o1 c0 c1 h with ⟨h0, _⟩ | ⟨a, len, cap, m, n', V0, V1, D0, D1, P0, P1, h0, _, hl, hm, hmm, _, hx⟩
  · simp only [List.cons.injEq, and_true] at h0; subst h0
    exact ⟨[], slAt_nil w 2⟩
  · simp only [List.cons.injEq, and_true] at h0; subst h0
    simp only [if_true] at hmm
    refine ⟨(List.range len).map fun i => (numV (V0 i), numV (V1 i)), by rw [pairs_length], some a, cap, by simp, by simpa using hl, hm, fun _ => ⟨a, rfl, fun j u hu => ?_⟩⟩
    have hj := (List.getElem?_eq_some_iff.1 hu).1
    rw [pairs_length, List.length_map, List.length_range] at hj
    obtain ⟨i, hi, hji⟩ : ∃ i, i < len ∧ (j = i * 2 ∨ j = i * 2 + 1) := ⟨j / 2, by omega, by omega⟩
    obtain ⟨h1, h2, h3, h4⟩ := hx i (by omega)
    obtain ⟨k0, e0, _⟩ := DataW.trod_int t0 h3
    obtain ⟨k1, e1, _⟩ := DataW.trod_int t1 h4
    simp only [List.cons.injEq, and_true] at e0 e1
    have hg : ((List.range len).map fun i => (numV (V0 i), numV (V1 i))).getD i (0, 0) = (k0, k1) := by
      simp [List.getD, hi, e0, e1, numV]
    rcases hji with rfl | rfl
    · have := pairs_at0 (xs := (List.range len).map fun i => (numV (V0 i), numV (V1 i))) (i := i) (by simpa using hi)
      rw [this, hg] at hu; cases hu
      rw [h1, e0]
    · have := pairs_at1 (xs := (List.range len).map fun i => (numV (V0 i), numV (V1 i))) (i := i) (by simpa using hi)
      rw [this, hg] at hu; cases hu
      rw [h2, e1]
theorem trodAll_below {W W' : World} (hl : laidOutB P = true) (hb : Below W.heap.size W W') : ∀ {ts : List TypeId} {vs : List Value} {ds : List (DataW H)} {ps : List MemPlace}, ts.all (fun t => P.readableRec t && decide (t < P.types.size)) = true →
    DataW.TrodAll enc P W 0 (fun _ => true) true ts vs ds ps → (∀ x ∈ ps, x.block < W.heap.size) → DataW.TrodAll enc P W' 0 (fun b => decide (b < W.heap.size)) true ts vs ds ps
  | [], [], [], _, _, h, _ => h
  | t :: ts, v :: vs, d :: ds, ps, hr, h, hlt => by
    obtain ⟨p, q, h1, h2, rfl⟩ := h
    simp only [List.all_cons, Bool.and_eq_true, decide_eq_true_eq] at hr
    exact ⟨p, q, Below.trod hl hr.1.1 hr.1.2 h1 hb (fun x hx => hlt x (List.mem_append_left _ hx)), trodAll_below hl hb hr.2 h2 (fun x hx => hlt x (List.mem_append_right _ hx)), rfl⟩
  | [], _ :: _, _, _, _, h, _ => by cases h
  | [], [], _ :: _, _, _, h, _ => by cases h
  | _ :: _, [], _, _, _, h, _ => by cases h
  | _ :: _, _ :: _, [], _, _, h, _ => by cases h
theorem law_post {f : Func} {s : ChangeSpec} {W W' : World} {args : Array Value} {ds : List (DataW H)} {before : List MemPlace} {tb : TypeId} (hl : laidOutB P = true) (hr : f.params.toList.all (fun t => P.readableRec t && decide (t < P.types.size)) = true)
    (hs : s.vars = []) (hW : DataW.Whole enc P f.params.toList s.vars false W args.toList ds [] before) (hfn : s.fn H (ds ++ []) = { results := [.lit (.bool true)], args := ds }) (hrt : f.resultTypes = #[tb]) (hb4 : P.underlying tb = some .bool) (hE : Ext NoB W W') :
    s.post enc P f false true false false W args (.bool true) W' := by
  have hW0 := hW
  obtain ⟨p, q, hA, hV, rfl, hz, hn⟩ := hW
  have hlt : ∀ x ∈ p ++ q, x.block < W.heap.size := fun x hx => hW0.lt x hx
  have hb := hE.below
  rw [hs] at hV
  obtain ⟨_, rfl⟩ := trodVars_none hV
  refine ⟨ds, [], p ++ [], [], p, [], hW0, ?_, ?_, ?_, World.keptBut_mono (fun x hx => ⟨hx, .inr (.inl (by simpa using hx))⟩) (hb.frame (· ∈ p ++ [])), fun h => by cases h⟩
  · rw [hfn, hrt]
    exact trodAll_mk1 (shut_bool hb4 true)
  · rw [hfn]
    exact trodAll_below hl hb hr hA (fun x hx => hlt x (List.mem_append_left _ hx))
  · rw [hfn, hs]; rfl
end
end Go.Eng

namespace Go.Eng
open Go.RowKit Go.ChangeShapes Go.WideShapes Go.ChangeAt Go.Deep
section
variable {H : Type} {enc : TypeId × Value → H} {P : Program} {w : World} {held : Bool}
theorem open_w12 {t e : TypeId} {f0 f1 g0 g1 : Field} {n : Nat} {v : Value} {y : DataW H × List MemPlace} (ht : P.underlying t = some (.slice e)) (he : P.underlying e = some (.struct #[f0, f1])) (ce : P.cellsOf e = 3) (o0 : f0.offset = 0) (o1 : f1.offset = 1) (c0 : P.cellsOf f0.type = 1) (c1 : P.cellsOf f1.type = 2)
    (hs : P.underlying f1.type = some (.struct #[g0, g1])) (p0 : g0.offset = 0) (p1 : g1.offset = 1) (d0 : P.cellsOf g0.type = 1) (d1 : P.cellsOf g1.type = 1) (t0 : P.underlying g0.type = some (.int .i64)) (t1 : P.underlying g1.type = some (.int .i64))
    (h : DataW.trod enc P w 0 (fun _ => true) held n t [v] = some y) :
    v = .slice none 0 0 ∨ ∃ (a : Addr) (len cap m : Nat) (V : Nat → Value) (K1 K2 : Nat → Int) (Y : Nat → DataW H × List MemPlace), v = .slice (some a) len cap ∧ len ≤ cap ∧ cap ≤ maxLen ∧
      ∀ i, i < len → w.cell? (a.add (i * 3)) = some (V i) ∧ w.cell? (a.add (i * 3 + 1)) = some (.int .i64 (K1 i)) ∧ w.cell? (a.add (i * 3 + 2)) = some (.int .i64 (K2 i)) ∧ DataW.trod enc P w 0 (fun _ => true) held m f0.type [V i] = some (Y i) := by
  rcases open_slice ht h with ⟨h0, _⟩ | ⟨a, len, cap, m, n, D, Pl, h0, hb, hl, hm, hmm, _, hx⟩
  · simp only [List.cons.injEq, and_true] at h0; exact .inl h0
  right
  simp only [List.cons.injEq, and_true] at h0
  simp only [if_true] at hmm
  have each : ∀ i, i < len → ∃ q : Value × (Int × Int) × (DataW H × List MemPlace), w.cell? (a.add (i * 3)) = some q.1 ∧ w.cell? (a.add (i * 3 + 1)) = some (.int .i64 q.2.1.1) ∧ w.cell? (a.add (i * 3 + 2)) = some (.int .i64 q.2.1.2) ∧ DataW.trod enc P w 0 (fun _ => true) held (n - 1) f0.type [q.1] = some q.2.2 := by
    intro i hi
    obtain ⟨cs', h1, h2⟩ := hx i (by omega)
    rw [ce] at h1
    obtain ⟨_, hlen, hcell⟩ := World.cells?_some h1
    obtain ⟨xs, k, hk, _, _, hxl, hf⟩ := DataW.trod_struct he h2
    have hk' : k = n - 1 := by omega
    subst hk'
    match xs, hxl, cs', hlen with
    | [y0, y1], _, [v0, v1, v2], _ =>
      have q0 := hf 0 f0 rfl
      have q1 := hf 1 f1 rfl
      simp [o0, o1, c0, c1] at q0 q1
      obtain ⟨zs, k2, _, _, _, hzl, hg⟩ := DataW.trod_struct hs q1
      match zs, hzl with
      | [z0, z1], _ =>
        have r0 := hg 0 g0 rfl
        have r1 := hg 1 g1 rfl
        simp [p0, p1, d0, d1] at r0 r1
        obtain ⟨k0, e0, _⟩ := DataW.trod_int t0 r0
        obtain ⟨k1, e1, _⟩ := DataW.trod_int t1 r1
        simp only [List.cons.injEq, and_true] at e0 e1
        have u0 := hcell 0 (by omega)
        have u1 := hcell 1 (by omega)
        have u2 := hcell 2 (by omega)
        rw [add_add] at u0 u1 u2
        exact ⟨(v0, (k0, k1), y0), by simpa using u0, by simpa [e0] using u1, by simpa [e1] using u2, q0⟩
  obtain ⟨q, hq⟩ := choose_lt each
  exact ⟨a, len, cap, n - 1, fun i => (q i).1, fun i => (q i).2.1.1, fun i => (q i).2.1.2, fun i => (q i).2.2, h0, hl, hm, hq⟩
theorem rd_trips {t e : TypeId} {f0 f1 g0 g1 : Field} {n : Nat} {v : Value} {y : DataW H × List MemPlace} (ht : P.underlying t = some (.slice e)) (he : P.underlying e = some (.struct #[f0, f1])) (ce : P.cellsOf e = 3) (o0 : f0.offset = 0) (o1 : f1.offset = 1) (c0 : P.cellsOf f0.type = 1) (c1 : P.cellsOf f1.type = 2)
    (hs : P.underlying f1.type = some (.struct #[g0, g1])) (p0 : g0.offset = 0) (p1 : g1.offset = 1) (d0 : P.cellsOf g0.type = 1) (d1 : P.cellsOf g1.type = 1) (t0 : P.underlying g0.type = some (.int .i64)) (t1 : P.underlying g1.type = some (.int .i64)) (tf : P.underlying f0.type = some (.int .i64))
    (h : DataW.trod enc P w 0 (fun _ => true) held n t [v] = some y) : ∃ xs : List (Int × Int × Int), SlAt w v 3 xs.length (trips xs) := by
  rcases open_w12 ht he ce o0 o1 c0 c1 hs p0 p1 d0 d1 t0 t1 h with rfl | ⟨a, len, cap, m, V, K1, K2, Y, rfl, hl, hm, hx⟩
  · exact ⟨[], slAt_nil w 3⟩
  · refine ⟨(List.range len).map fun i => (numV (V i), K1 i, K2 i), by rw [trips_length], some a, cap, by simp, by simpa using hl, hm, fun _ => ⟨a, rfl, fun j u hu => ?_⟩⟩
    have hj := (List.getElem?_eq_some_iff.1 hu).1
    rw [trips_length, List.length_map, List.length_range] at hj
    obtain ⟨i, hi, hji⟩ : ∃ i, i < len ∧ (j = i * 3 ∨ j = i * 3 + 1 ∨ j = i * 3 + 2) := ⟨j / 3, by omega, by omega⟩
    obtain ⟨h1, h2, h3, h4⟩ := hx i hi
    obtain ⟨k0, e0, _⟩ := DataW.trod_int tf h4
    simp only [List.cons.injEq, and_true] at e0
    have hg : ((List.range len).map fun i => (numV (V i), K1 i, K2 i)).getD i (0, 0, 0) = (k0, K1 i, K2 i) := by
      simp [List.getD, hi, e0, numV]
    rcases hji with rfl | rfl | rfl
    · have := trips_at0 (xs := (List.range len).map fun i => (numV (V i), K1 i, K2 i)) (i := i) (by simpa using hi)
      rw [this, hg] at hu; cases hu
      rw [h1, e0]
    · have := trips_at1 (xs := (List.range len).map fun i => (numV (V i), K1 i, K2 i)) (i := i) (by simpa using hi)
      rw [this, hg] at hu; cases hu
      exact h2
    · have := trips_at2 (xs := (List.range len).map fun i => (numV (V i), K1 i, K2 i)) (i := i) (by simpa using hi)
      rw [this, hg] at hu; cases hu
      exact h3
end
end Go.Eng
