/-
  How the arguments of the statement are read: a plate, words, a plan for a lot, words of 64 bits.
-/
import Derived.Test.YtphkmnaohimdbaaEngW
import Derived.Test.YtphkmnaohimdbaaBa
import Derived.Test.YtphkmnaohimdbaaRows
import Derived.SizedLaws
set_option linter.unusedSimpArgs false
set_option linter.unusedVariables false
namespace Go.Proofs.Ytphkmnaohimdbaa
open Go.RowKit Go.Eng Go.Top Go.ChangeShapes Go.WideShapes Go.ChangeAt Go.Joins Go.Deep
theorem Try.own : ownKnob Try.prog.godebug = none := by kernel_rfl
theorem Try.laidOut : laidOutB Try.prog = true := by kernel_rfl
theorem cells3 : Try.prog.cellsOf 3 = 1 := by kernel_rfl
theorem cells4 : Try.prog.cellsOf 4 = 1 := by kernel_rfl
theorem cells22 : Try.prog.cellsOf 22 = 1 := by kernel_rfl
theorem cells24 : Try.prog.cellsOf 24 = 4 := by kernel_rfl
theorem cells26 : Try.prog.cellsOf 26 = 1 := by kernel_rfl
theorem cells28 : Try.prog.cellsOf 28 = 2 := by kernel_rfl
theorem cells45 : Try.prog.cellsOf 45 = 3 := by kernel_rfl
theorem cells49 : Try.prog.cellsOf 49 = 2 := by kernel_rfl
theorem cells51 : Try.prog.cellsOf 51 = 8 := by kernel_rfl
section
variable {H : Type} {enc : TypeId × Value → H} {P : Program} {w : World} {held : Bool}
theorem rd_recs {α : Type} [Inhabited α] {t e sz n : Nat} {v : Value} {y : DataW H × List MemPlace} (ht : P.underlying t = some (.slice e)) (ce : P.cellsOf e = sz) (hsz : 0 < sz) (cell : α → List Value) (hlen : ∀ d, (cell d).length = sz)
    (hel : ∀ (n : Nat) (cs : List Value) (x : DataW H × List MemPlace), cs.length = sz → DataW.trod enc P w 0 (fun _ => true) held n e cs = some x → ∃ d, cs = cell d)
    (h : DataW.trod enc P w 0 (fun _ => true) held n t [v] = some y) : ∃ xs : List α, SlAt w v sz xs.length (recC cell xs) := by
  rcases open_slice ht h with ⟨h0, _⟩ | ⟨a, len, cap, m, n, D, Pl, h0, hb, hl, hm, hmm, _, hx⟩
  · simp only [List.cons.injEq, and_true] at h0; subst h0
    exact ⟨[], slAt_nil w sz⟩
  · simp only [List.cons.injEq, and_true] at h0; subst h0
    simp only [if_true] at hmm
    have each : ∀ i, i < len → ∃ d : α, ∀ j, j < sz → w.cell? (a.add (i * sz + j)) = (cell d)[j]? := by
      intro i hi
      obtain ⟨cs', h1, h2⟩ := hx i (by omega)
      rw [ce] at h1
      obtain ⟨_, hcl, hcell⟩ := World.cells?_some h1
      obtain ⟨d, e1⟩ := hel _ _ _ hcl h2
      subst e1
      refine ⟨d, fun j hj => ?_⟩
      have := hcell j (by omega)
      rw [add_add] at this; exact this
    obtain ⟨f, hf⟩ := choose_lt each
    have hr : recC cell ((List.range len).map f) = r_1 len fun i => cell (f i) := by
      unfold recC r_1; rw [List.flatMap_map]
    refine ⟨(List.range len).map f, ?_⟩
    rw [hr, List.length_map, List.length_range]
    refine ⟨by rw [flatI_len fun i => hlen (f i)], some a, cap, rfl, hl, hm, fun _ => ⟨a, rfl, fun j u hu => ?_⟩⟩
    have hj := (List.getElem?_eq_some_iff.1 hu).1
    rw [flatI_len fun i => hlen (f i)] at hj
    obtain ⟨i, k, hi, hk, rfl⟩ : ∃ i k, i < len ∧ k < sz ∧ j = i * sz + k := ⟨j / sz, j % sz, Nat.div_lt_of_lt_mul (by rw [Nat.mul_comm]; exact hj), Nat.mod_lt _ hsz, by rw [Nat.mul_comm]; exact (Nat.div_add_mod j sz).symm⟩
    rw [flatI_at (fun i => hlen (f i)) hi hk] at hu
    rw [hf i hi k hk]; exact hu
end
section
variable {H : Type} {enc : TypeId × Value → H} {W : World} {held : Bool}
set_option maxRecDepth 100000 in
theorem rd_stages {n : Nat} {v : Value} {y : DataW H × List MemPlace} (h : DataW.trod enc Try.prog W 0 (fun _ => true) held n 26 [v] = some y) : ∃ xs : List g_1, SlAt W v 3 xs.length (recC d_9 xs) := by
  haveI : Inhabited g_1 := ⟨s0⟩
  exact rd_recs (α := g_1) Try.underlying26 cells45 (by decide) d_9 (fun _ => rfl) (fun n cs x hl hx => by
    obtain ⟨xs, k, _, _, _, hxl, hf⟩ := DataW.trod_struct Try.underlying45 hx
    match xs, hxl, cs, hl with
    | [y0, y1, y2], _, [v0, v1, v2], _ =>
      have q0 := hf 0 _ rfl
      have q1 := hf 1 _ rfl
      have q2 := hf 2 _ rfl
      simp [cells3] at q0 q1 q2
      obtain ⟨k0, e0, _⟩ := DataW.trod_int Try.underlying3 q0
      obtain ⟨k1, e1, _⟩ := DataW.trod_int Try.underlying3 q1
      obtain ⟨k2, e2, _⟩ := DataW.trod_int Try.underlying3 q2
      simp only [List.cons.injEq, and_true] at e0 e1 e2
      exact ⟨⟨k0, k1, k2⟩, by rw [e0, e1, e2]; rfl⟩) h
set_option maxRecDepth 100000 in
theorem rd_range {n : Nat} {v1 v2 : Value} {y : DataW H × List MemPlace} (h : DataW.trod enc Try.prog W 0 (fun _ => true) held n 49 [v1, v2] = some y) : ∃ r1 r2 : Int, v1 = .int .i64 r1 ∧ v2 = .int .i64 r2 := by
  obtain ⟨xs, k, _, _, _, hxl, hf⟩ := DataW.trod_struct Try.underlying49 h
  match xs, hxl with
  | [y0, y1], _ =>
    have q0 := hf 0 _ rfl
    have q1 := hf 1 _ rfl
    simp [cells3] at q0 q1
    obtain ⟨k0, e0, _⟩ := DataW.trod_int Try.underlying3 q0
    obtain ⟨k1, e1, _⟩ := DataW.trod_int Try.underlying3 q1
    simp only [List.cons.injEq, and_true] at e0 e1
    exact ⟨k0, k1, e0, e1⟩
set_option maxRecDepth 100000 in
theorem rd_wants {n : Nat} {v : Value} {y : DataW H × List MemPlace} (h : DataW.trod enc Try.prog W 0 (fun _ => true) held n 22 [v] = some y) : ∃ xs : List p_1, SlAt W v 8 xs.length (recC d_6 xs) := by
  haveI : Inhabited p_1 := ⟨w0⟩
  exact rd_recs (α := p_1) Try.underlying22 cells51 (by decide) d_6 (fun _ => rfl) (fun n cs x hl hx => by
    obtain ⟨xs, k, _, _, _, hxl, hf⟩ := DataW.trod_struct Try.underlying51 hx
    match xs, hxl, cs, hl with
    | [y0, y1, y2, y3, y4, y5], _, [v0, v1, v2, v3, v4, v5, v6, v7], _ =>
      have q0 := hf 0 _ rfl
      have q1 := hf 1 _ rfl
      have q2 := hf 2 _ rfl
      have q3 := hf 3 _ rfl
      have q4 := hf 4 _ rfl
      have q5 := hf 5 _ rfl
      simp [cells3, cells4, cells49] at q0 q1 q2 q3 q4 q5
      obtain ⟨k0, e0, _⟩ := DataW.trod_int Try.underlying3 q0
      obtain ⟨k1, e1, _⟩ := DataW.trod_int Try.underlying3 q1
      obtain ⟨k2, e2, _⟩ := DataW.trod_bool Try.underlying4 q2
      obtain ⟨k3, e3, _⟩ := DataW.trod_int Try.underlying3 q3
      obtain ⟨k4, k5, e4, e5⟩ := rd_range q4
      obtain ⟨k6, k7, e6, e7⟩ := rd_range q5
      simp only [List.cons.injEq, and_true] at e0 e1 e2 e3
      exact ⟨⟨k0, k1, k2, k3, k4, k5, k6, k7⟩, by rw [e0, e1, e2, e3, e4, e5, e6, e7]; rfl⟩) h
end
section
variable {H : Type} {enc : TypeId × Value → H} {W : World} {r : Reach} {b0 : Nat}
set_option maxRecDepth 100000 in
theorem rd_plate {v : Value} {y : DataW H} {p : List MemPlace} (hv : Value.okWide Try.prog W r b0 24 v) (h : DataW.Trod enc Try.prog W 0 (fun _ => true) true 24 v y p) :
    ∃ (d : g_2) (vw : Value), v = .agg #[.int .i64 d.wide, .int .i64 d.long, .int .i64 d.saw, vw] ∧ SlAt W vw 8 d.wants.length (recC d_6 d.wants) := by
  obtain ⟨cs, rfl, hsz⟩ := okWide_struct Try.underlying24 hv
  rw [cells24] at hsz
  obtain ⟨l⟩ := cs
  match l, hsz with
  | [u0, u1, u2, u3], _ =>
    obtain ⟨fuel, hf⟩ := h
    obtain ⟨xs, n, _, _, hl, hlen, hg⟩ := DataW.trod_struct Try.underlying24 hf
    match xs, hlen with
    | [y0, y1, y2, y3], _ =>
      have q0 := hg 0 _ rfl
      have q1 := hg 1 _ rfl
      have q2 := hg 2 _ rfl
      have q3 := hg 3 _ rfl
      simp [Value.cells, cells3, cells22] at q0 q1 q2 q3
      obtain ⟨k0, e0, _⟩ := DataW.trod_int Try.underlying3 q0
      obtain ⟨k1, e1, _⟩ := DataW.trod_int Try.underlying3 q1
      obtain ⟨k2, e2, _⟩ := DataW.trod_int Try.underlying3 q2
      obtain ⟨ws, hs⟩ := rd_wants q3
      simp only [List.cons.injEq, and_true] at e0 e1 e2
      exact ⟨⟨k0, k1, k2, ws⟩, u3, by rw [e0, e1, e2], hs⟩
set_option maxRecDepth 100000 in
theorem rd_plan {v : Value} {y : DataW H} {p : List MemPlace} (hv : Value.okWide Try.prog W r b0 28 v) (h : DataW.Trod enc Try.prog W 0 (fun _ => true) true 28 v y p) :
    ∃ (q : PlD) (vs : Value), v = .agg #[.int .i64 q.lot, vs] ∧ SlAt W vs 3 q.stages.length (recC d_9 q.stages) := by
  obtain ⟨cs, rfl, hsz⟩ := okWide_struct Try.underlying28 hv
  rw [cells28] at hsz
  obtain ⟨l⟩ := cs
  match l, hsz with
  | [u0, u1], _ =>
    obtain ⟨fuel, hf⟩ := h
    obtain ⟨xs, n, _, _, hl, hlen, hg⟩ := DataW.trod_struct Try.underlying28 hf
    match xs, hlen with
    | [y0, y1], _ =>
      have q0 := hg 0 _ rfl
      have q1 := hg 1 _ rfl
      simp [Value.cells, cells3, cells26] at q0 q1
      obtain ⟨k0, e0, _⟩ := DataW.trod_int Try.underlying3 q0
      obtain ⟨ss, hs⟩ := rd_stages q1
      simp only [List.cons.injEq, and_true] at e0
      exact ⟨⟨k0, ss⟩, u1, by rw [e0], hs⟩
set_option maxRecDepth 100000 in
theorem rd_words {v : Value} {y : DataW H} {p : List MemPlace} (hv : Value.okWide Try.prog W r b0 25 v) (h : DataW.Trod enc Try.prog W 0 (fun _ => true) true 25 v y p) : ∃ l : List Int, SlAt W v 1 l.length (l.map (Value.int .u16)) ∧ WordsV l := by
  obtain ⟨a0, len, cap, rfl⟩ := okWide_slice Try.underlying25 hv
  obtain ⟨n, h⟩ := h
  obtain ⟨xs, h1, h2⟩ := rd_kind Try.underlying25 Try.underlying70 (by kernel_rfl) h
  refine ⟨xs, h1, fun x hx => ?_⟩
  have := h2 x hx
  simpa [Lit.wf, IntKind.min, IntKind.max, IntKind.signed, IntKind.bits] using this
theorem wf_u64 {n : Int} (h : (Lit.int .u64 n).wf = true) : ∃ x : Nat, n = (x : Int) ∧ x < 18446744073709551616 := by
  have : 0 ≤ n ∧ n ≤ 18446744073709551615 := by simpa [Lit.wf, IntKind.min, IntKind.max, IntKind.signed, IntKind.bits] using h
  exact ⟨n.toNat, by omega, by omega⟩
end
end Go.Proofs.Ytphkmnaohimdbaa
