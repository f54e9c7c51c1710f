/-
  How the arguments of the statements are read: a book, readings, one table, words.
  What the form says of the bytes of a book's lists.
-/
import Derived.Test.YtohgladndklciaaEngW
import Derived.Test.YtohgladndklciaaBa
import Derived.Test.YtohgladndklciaaRows
import Derived.SizedLaws
set_option linter.unusedSimpArgs false
set_option linter.unusedVariables false
namespace Go.Proofs.Ytohgladndklciaa
open Go.RowKit Go.Eng Go.Hard Go.ChangeShapes Go.WideShapes Go.ChangeAt Go.Joins Go.Deep
theorem Try.own : ownKnob Try.prog.godebug = none := by kernel_rfl
theorem Try.laidOut : laidOutB Try.prog = true := by kernel_rfl
theorem cells3 : Try.prog.cellsOf 3 = 1 := by kernel_rfl
theorem cells22 : Try.prog.cellsOf 22 = 1 := by kernel_rfl
theorem cells23 : Try.prog.cellsOf 23 = 1 := by kernel_rfl
theorem cells25 : Try.prog.cellsOf 25 = 3 := by kernel_rfl
theorem cells27 : Try.prog.cellsOf 27 = 2 := by kernel_rfl
theorem cells43 : Try.prog.cellsOf 43 = 1 := by kernel_rfl
theorem cells44 : Try.prog.cellsOf 44 = 1 := by kernel_rfl
theorem cells46 : Try.prog.cellsOf 46 = 5 := by kernel_rfl
theorem cells59 : Try.prog.cellsOf 59 = 1 := by kernel_rfl
theorem cells61 : Try.prog.cellsOf 61 = 2 := by kernel_rfl
theorem cells63 : Try.prog.cellsOf 63 = 3 := by kernel_rfl
theorem cells67 : Try.prog.cellsOf 67 = 2 := by kernel_rfl
theorem cells75 : Try.prog.cellsOf 75 = 2 := by kernel_rfl
section
variable {H : Type} {enc : TypeId × Value → H} {P : Program} {w : World} {held : Bool}
theorem rd_each {α : Type} [Inhabited α] {t e sz n : Nat} {v : Value} {y : DataW H × List MemPlace} (ht : P.underlying t = some (.slice e)) (ce : P.cellsOf e = sz) (hsz : 0 < sz) (cell : α → List Value) (Pd : α → Prop) (hlen : ∀ d, (cell d).length = sz)
    (hel : ∀ (n : Nat) (cs : List Value) (x : DataW H × List MemPlace), cs.length = sz → DataW.trod enc P w 0 (fun _ => true) held n e cs = some x → ∃ d, cs = cell d ∧ Pd d)
    (h : DataW.trod enc P w 0 (fun _ => true) held n t [v] = some y) : ∃ (len : Nat) (f : Nat → α), (∀ i, i < len → Pd (f i)) ∧ SlAt w v sz len (y_2 len fun i => cell (f i)) := by
  rcases open_slice ht h with ⟨h0, _⟩ | ⟨a, len, cap, m, n, D, Pl, h0, hb, hl, hm, hmm, _, hx⟩
  · simp only [List.cons.injEq, and_true] at h0; subst h0
    exact ⟨0, fun _ => default, fun i hi => absurd hi (Nat.not_lt_zero _), q_1 w sz⟩
  · simp only [List.cons.injEq, and_true] at h0; subst h0
    simp only [if_true] at hmm
    have each : ∀ i, i < len → ∃ d : α, Pd d ∧ ∀ j, j < sz → w.cell? (a.add (i * sz + j)) = (cell d)[j]? := by
      intro i hi
      obtain ⟨cs', h1, h2⟩ := hx i (by omega)
      rw [ce] at h1
      obtain ⟨_, hcl, hcell⟩ := World.cells?_some h1
      obtain ⟨d, e1, e2⟩ := hel _ _ _ hcl h2
      subst e1
      refine ⟨d, e2, fun j hj => ?_⟩
      have := hcell j (by omega)
      rw [add_add] at this; exact this
    obtain ⟨f, hf⟩ := choose_lt each
    refine ⟨len, f, fun i hi => (hf i hi).1, by rw [s_9 fun i => hlen (f i)], some a, cap, rfl, hl, hm, fun _ => ⟨a, rfl, fun j u hu => ?_⟩⟩
    have hj := (List.getElem?_eq_some_iff.1 hu).1
    rw [s_9 fun i => hlen (f i)] at hj
    obtain ⟨i, k, hi, hk, rfl⟩ : ∃ i k, i < len ∧ k < sz ∧ j = i * sz + k := ⟨j / sz, j % sz, Nat.div_lt_of_lt_mul (by rw [Nat.mul_comm]; exact hj), Nat.mod_lt _ hsz, by rw [Nat.mul_comm]; exact (Nat.div_add_mod j sz).symm⟩
    rw [flatI_at (fun i => hlen (f i)) hi hk] at hu
    rw [(hf i hi).2 k hk]; exact hu
theorem trips_flat (f : Nat → Int × Int × Int) : ∀ n, trips ((List.range n).map f) = y_2 n fun i => [.int .i64 (f i).1, .int .i64 (f i).2.1, .int .i64 (f i).2.2]
  | 0 => rfl
  | n + 1 => by rw [List.range_succ, List.map_append, trips_append, trips_flat f n, k_9]; rfl
end
section
variable {H : Type} {enc : TypeId × Value → H} {W : World} {held : Bool}
set_option maxRecDepth 100000 in
theorem rd_blocks {n : Nat} {v : Value} {y : DataW H × List MemPlace} (h : DataW.trod enc Try.prog W 0 (fun _ => true) held n 59 [v] = some y) : ∃ xs : List (Int × Int × Int), SlAt W v 3 xs.length (trips xs) := by
  obtain ⟨len, f, _, hs⟩ := rd_each (α := Int × Int × Int) Try.underlying59 cells63 (by decide) (fun d => [.int .i64 d.1, .int .i64 d.2.1, .int .i64 d.2.2]) (fun _ => True) (fun _ => rfl) (fun n cs x hl hx => by
    obtain ⟨xs, k, _, _, _, hxl, hf⟩ := DataW.trod_struct Try.underlying63 hx
    match xs, hxl, cs, hl with
    | [y0, y1], _, [v0, v1, v2], _ =>
      have q0 := hf 0 _ rfl
      have q1 := hf 1 _ rfl
      simp [cells27, cells3] at q0 q1
      obtain ⟨zs, k2, _, _, _, hzl, hg⟩ := DataW.trod_struct Try.underlying27 q0
      match zs, hzl with
      | [z0, z1], _ =>
        have r0 := hg 0 _ rfl
        have r1 := hg 1 _ rfl
        simp [cells3] at r0 r1
        obtain ⟨k0, e0, _⟩ := DataW.trod_int Try.underlying3 r0
        obtain ⟨k1, e1, _⟩ := DataW.trod_int Try.underlying3 r1
        obtain ⟨k2, e2, _⟩ := DataW.trod_int Try.underlying3 q1
        simp only [List.cons.injEq, and_true] at e0 e1 e2
        exact ⟨(k0, k1, k2), by rw [e0, e1, e2], trivial⟩) h
  refine ⟨(List.range len).map f, ?_⟩
  rw [trips_flat, List.length_map, List.length_range]; exact hs
set_option maxRecDepth 100000 in
theorem rd_tables {n : Nat} {v : Value} {y : DataW H × List MemPlace} (h : DataW.trod enc Try.prog W 0 (fun _ => true) held n 22 [v] = some y) : ∃ lr lb ts, j_1 W v lr lb ts := by
  haveI : Inhabited TabD := ⟨tab0⟩
  obtain ⟨len, f, hP, hs⟩ := rd_each (α := TabD × Value × Value) Try.underlying22 cells46 (by decide) (fun d => [.int .i64 d.1.frm, .int .i64 d.1.dst, d.2.1, d.2.2, .int .i64 d.1.err]) (fun d => SlAt W d.2.1 2 d.1.rows.length (pairs d.1.rows) ∧ SlAt W d.2.2 1 d.1.brk.length (ints d.1.brk)) (fun _ => rfl) (fun n cs x hl hx => by
    obtain ⟨xs, k, _, _, _, hxl, hf⟩ := DataW.trod_struct Try.underlying46 hx
    match xs, hxl, cs, hl with
    | [y0, y1, y2, y3, y4], _, [v0, v1, v2, v3, v4], _ =>
      have q0 := hf 0 _ rfl
      have q1 := hf 1 _ rfl
      have q2 := hf 2 _ rfl
      have q3 := hf 3 _ rfl
      have q4 := hf 4 _ rfl
      simp [cells3, cells43, cells44] at q0 q1 q2 q3 q4
      obtain ⟨k0, e0, _⟩ := DataW.trod_int Try.underlying3 q0
      obtain ⟨k1, e1, _⟩ := DataW.trod_int Try.underlying3 q1
      obtain ⟨k4, e4, _⟩ := DataW.trod_int Try.underlying3 q4
      obtain ⟨rs, hr⟩ := rd_pairs (v := v2) Try.underlying43 Try.underlying75 cells75 rfl rfl cells3 cells3 Try.underlying3 Try.underlying3 q2
      obtain ⟨bs, hb⟩ := rd_ints (v := v3) Try.underlying44 Try.underlying3 cells3 q3
      simp only [List.cons.injEq, and_true] at e0 e1 e4
      exact ⟨(⟨k0, k1, rs, bs, k4⟩, v2, v3), by rw [e0, e1, e4], hr, hb⟩) h
  have g : ∀ i, i < len → ((List.range len).map fun i => (f i).1).getD i tab0 = (f i).1 := fun i hi => by simp [List.getD, hi]
  refine ⟨fun i => (f i).2.1, fun i => (f i).2.2, (List.range len).map fun i => (f i).1, ?_, fun i hi => ?_, fun i hi => ?_⟩
  · rw [List.length_map, List.length_range]
    unfold j_5
    rw [List.length_map, List.length_range, n_6 (g := fun i => [.int .i64 (f i).1.frm, .int .i64 (f i).1.dst, (f i).2.1, (f i).2.2, .int .i64 (f i).1.err]) (fun i hi => by unfold tabC; rw [g i hi])]
    exact hs
  · rw [List.length_map, List.length_range] at hi
    unfold j_9 j_8; rw [g i hi]; exact (hP i hi).1
  · rw [List.length_map, List.length_range] at hi
    unfold brkN brkC; rw [g i hi]; exact (hP i hi).2
set_option maxRecDepth 100000 in
theorem rd_machines {n : Nat} {v : Value} {y : DataW H × List MemPlace} (h : DataW.trod enc Try.prog W 0 (fun _ => true) held n 23 [v] = some y) : ∃ lk ms, k_3 W v lk ms := by
  haveI : Inhabited MacD := ⟨mac0⟩
  obtain ⟨len, f, hP, hs⟩ := rd_each (α := MacD × Value) Try.underlying23 cells61 (by decide) (fun d => [.int .i64 d.1.scale, d.2]) (fun d => SlAt W d.2 3 d.1.blocks.length (trips d.1.blocks)) (fun _ => rfl) (fun n cs x hl hx => by
    obtain ⟨xs, k, _, _, _, hxl, hf⟩ := DataW.trod_struct Try.underlying61 hx
    match xs, hxl, cs, hl with
    | [y0, y1], _, [v0, v1], _ =>
      have q0 := hf 0 _ rfl
      have q1 := hf 1 _ rfl
      simp [cells3, cells59] at q0 q1
      obtain ⟨k0, e0, _⟩ := DataW.trod_int Try.underlying3 q0
      obtain ⟨bs, hb⟩ := rd_blocks q1
      simp only [List.cons.injEq, and_true] at e0
      exact ⟨(⟨k0, bs⟩, v1), by rw [e0], hb⟩) h
  have g : ∀ i, i < len → ((List.range len).map fun i => (f i).1).getD i mac0 = (f i).1 := fun i hi => by simp [List.getD, hi]
  refine ⟨fun i => (f i).2, (List.range len).map fun i => (f i).1, ?_, fun i hi => ?_⟩
  · rw [List.length_map, List.length_range]
    unfold l_1
    rw [List.length_map, List.length_range, n_6 (g := fun i => [.int .i64 (f i).1.scale, (f i).2]) (fun i hi => by unfold macC; rw [g i hi])]
    exact hs
  · rw [List.length_map, List.length_range] at hi
    unfold blkN blkC; rw [g i hi]; exact hP i hi
end
section
variable {H : Type} {enc : TypeId × Value → H} {W : World} {r : Reach} {b0 : Nat}
set_option maxRecDepth 100000 in
theorem rd_book {v : Value} {y : DataW H} {p : List MemPlace} (hv : Value.okWide Try.prog W r b0 25 v) (h : DataW.Trod enc Try.prog W 0 (fun _ => true) true 25 v y p) :
    ∃ (b : g_3) (vt vm : Value) (lr lb lk : Nat → Value), v = .agg #[.int .i64 b.scales, vt, vm] ∧ j_1 W vt lr lb b.tabs ∧ k_3 W vm lk b.macs := by
  obtain ⟨cs, rfl, hsz⟩ := okWide_struct Try.underlying25 hv
  rw [cells25] at hsz
  obtain ⟨l⟩ := cs
  match l, hsz with
  | [u0, u1, u2], _ =>
    obtain ⟨fuel, hf⟩ := h
    obtain ⟨xs, n, _, _, hl, hlen, hg⟩ := DataW.trod_struct Try.underlying25 hf
    match xs, hlen with
    | [y0, y1, y2], _ =>
      have q0 := hg 0 _ rfl
      have q1 := hg 1 _ rfl
      have q2 := hg 2 _ rfl
      simp [Value.cells, cells3, cells22, cells23] at q0 q1 q2
      obtain ⟨k0, e0, _⟩ := DataW.trod_int Try.underlying3 q0
      obtain ⟨lr, lb, ts, ht⟩ := rd_tables q1
      obtain ⟨lk, ms, hm⟩ := rd_machines q2
      simp only [List.cons.injEq, and_true] at e0
      exact ⟨⟨k0, ts, ms⟩, u1, u2, lr, lb, lk, by rw [e0], ht, hm⟩
set_option maxRecDepth 100000 in
theorem rd_reads {v : Value} {y : DataW H} {p : List MemPlace} (hv : Value.okWide Try.prog W r b0 49 v) (h : DataW.Trod enc Try.prog W 0 (fun _ => true) true 49 v y p) : ∃ l : List (Int × Int), SlAt W v 2 l.length (pairs l) := by
  obtain ⟨a0, len, cap, rfl⟩ := okWide_slice Try.underlying49 hv
  obtain ⟨n, h⟩ := h
  exact rd_pairs Try.underlying49 Try.underlying67 cells67 rfl rfl cells3 cells3 Try.underlying3 Try.underlying3 h
theorem wf_u8 {n : Int} (h : (Lit.int .u8 n).wf = true) : 0 ≤ n ∧ n ≤ 255 := by simpa [Lit.wf, IntKind.min, IntKind.max, IntKind.signed, IntKind.bits] using h
end
end Go.Proofs.Ytohgladndklciaa

namespace Go.Proofs.Ytohgladndklciaa
open Go.RowKit Go.Eng Go.Hard Go.ChangeShapes Go.WideShapes Go.ChangeAt Go.Joins Go.Deep
section
variable {H : Type} {enc : TypeId × Value → H} {W : World}
def Light (t : TypeId) (y : DataW H) : Prop := ∀ n ∈ y.weights Try.prog t, n ≤ reachBytes
theorem light_each {ts : List TypeId} {ds : List (DataW H)} {j : Nat} {t : TypeId} {y : DataW H} (hsz : (DataW.weightsEach Try.prog ts ds).all (· ≤ reachBytes) = true) (ht : ts[j]? = some t) (hd : ds[j]? = some y) : Light t y := fun n hn => by
  simpa using List.all_eq_true.1 hsz _ (DataW.weights_mem_each ht hd n hn)
theorem weightsAll_mem {e : TypeId} {n : Nat} {d : DataW H} (hn : n ∈ d.weights Try.prog e) : ∀ l : List (DataW H), d ∈ l → n ∈ DataW.weightsAll Try.prog e l
  | [], h => by cases h
  | x :: r, h => by
    simp only [DataW.weightsAll, List.mem_append]
    rcases List.mem_cons.1 h with rfl | h
    · exact .inl hn
    · exact .inr (weightsAll_mem hn r h)
theorem light_elem {t e : TypeId} {elems spare : List (DataW H)} {d : DataW H} (hu : Try.prog.underlying t = some (.slice e)) (hl : Light t (.slice elems spare)) (hd : d ∈ elems) : Light e d := fun n hn =>
  hl n (by simp only [DataW.weights, hu]; exact List.mem_cons_of_mem _ (List.mem_append_left _ (weightsAll_mem hn _ hd)))
theorem light_field {t tf : TypeId} {fs : Array Field} {parts : List (DataW H)} {y : DataW H} {j : Nat} (hu : Try.prog.underlying t = some (.struct fs)) (hl : Light t (.agg parts)) (ht : (fs.toList.map (·.type))[j]? = some tf) (hd : parts[j]? = some y) : Light tf y := fun n hn =>
  hl n (by simp only [DataW.weights, hu]; exact DataW.weights_mem_each ht hd n hn)
theorem light_sl {t e : TypeId} {fuel sz n : Nat} {v : Value} {cs : List Value} {y : DataW H × List MemPlace} (hu : Try.prog.underlying t = some (.slice e)) (h : DataW.trod enc Try.prog W 0 (fun _ => true) true fuel t [v] = some y) (hl : Light t y.1) (hs : SlAt W v sz n cs) : n * Try.prog.bytesOf e ≤ reachBytes := by
  obtain ⟨_, A, cap, rfl, _, _, _⟩ := hs
  rcases open_slice hu h with ⟨h0, _⟩ | ⟨a, len, cap', m, n', D, Pl, h0, hb, hl', hm, hmm, hx, _⟩
  · simp only [List.cons.injEq, Value.slice.injEq, and_true] at h0
    rw [h0.2.1]; simp
  · simp only [List.cons.injEq, Value.slice.injEq, and_true] at h0
    have h1 := hl (((List.range len).map D).length * Try.prog.bytesOf e + ((List.range (m - len)).map fun j => D (len + j)).length * Try.prog.bytesOf e) (by rw [hx]; simp only [DataW.weights, hu, Nat.add_mul]; exact List.mem_cons_self ..)
    simp only [List.length_map, List.length_range] at h1
    rw [h0.2.1]; omega
theorem light_top {t e : TypeId} {sz n : Nat} {v : Value} {cs : List Value} {y : DataW H} {p : List MemPlace} (hu : Try.prog.underlying t = some (.slice e)) (h : DataW.Trod enc Try.prog W 0 (fun _ => true) true t v y p) (hl : Light t y) (hs : SlAt W v sz n cs) : n * Try.prog.bytesOf e ≤ reachBytes := by
  obtain ⟨fuel, hf⟩ := h
  obtain ⟨hc, A, cap, rfl, h4⟩ := hs
  exact light_sl hu (y := (y, p)) (by simpa [Value.cells] using hf) hl ⟨hc, A, cap, rfl, h4⟩
set_option maxRecDepth 100000 in
theorem rd_sizes {b : g_3} {vt vm : Value} {lr lb lk : Nat → Value} {y : DataW H} {p : List MemPlace} (hl : Light 25 y) (h : DataW.Trod enc Try.prog W 0 (fun _ => true) true 25 (.agg #[.int .i64 b.scales, vt, vm]) y p) (hT : j_1 W vt lr lb b.tabs) (hM : k_3 W vm lk b.macs) :
    b.tabs.length * Try.prog.bytesOf 46 ≤ reachBytes ∧ b.macs.length * Try.prog.bytesOf 61 ≤ reachBytes ∧ ∀ i, (b.macs.getD i mac0).blocks.length * Try.prog.bytesOf 63 ≤ reachBytes := by
  obtain ⟨fuel, hf⟩ := h
  obtain ⟨xs, n, _, hxe, _, hlen, hg⟩ := DataW.trod_struct Try.underlying25 hf
  match xs, hlen with
  | [y0, y1, y2], _ =>
    have q1 := hg 1 _ rfl
    have q2 := hg 2 _ rfl
    simp [Value.cells, cells22, cells23] at q1 q2
    have hy : y = .agg [y0.1, y1.1, y2.1] := by
      have := congrArg Prod.fst hxe
      exact this
    subst hy
    have l1 : Light 22 y1.1 := light_field (j := 1) Try.underlying25 hl rfl rfl
    have l2 : Light 23 y2.1 := light_field (j := 2) Try.underlying25 hl rfl rfl
    refine ⟨light_sl Try.underlying22 q1 l1 hT.tabs, light_sl Try.underlying23 q2 l2 hM.macs, fun i => ?_⟩
    by_cases hi : i < b.macs.length
    · obtain ⟨hcl, A, cap, hv, _, _, hA⟩ := hM.macs
      have hne : l_1 lk b.macs ≠ [] := by
        intro e
        rw [e] at hcl
        simp at hcl
        omega
      obtain ⟨ad, rfl, hc⟩ := hA hne
      subst hv
      rcases open_slice Try.underlying23 q2 with ⟨h0, _⟩ | ⟨a, len, cap', m, n', D, Pl, h0, hb, hl', hm, hmm, hx, hel⟩
      · simp at h0
      · simp only [List.cons.injEq, Value.slice.injEq, Option.some.injEq, and_true] at h0
        obtain ⟨rfl, rfl, rfl⟩ := h0
        simp only [if_true] at hmm
        obtain ⟨cs', h1, h2⟩ := hel i (by omega)
        rw [cells61] at h1
        obtain ⟨_, hcsl, hcell⟩ := World.cells?_some h1
        have hk := hcell 1 (by omega)
        rw [add_add, hc (i * 2 + 1) (lk i) (macs_at1 hi)] at hk
        match cs', hcsl with
        | [u0, u1], _ =>
          simp only [List.getElem?_cons_succ, List.getElem?_cons_zero, Option.some.injEq] at hk
          subst hk
          obtain ⟨zs, n2, _, hze, _, hzl, hz⟩ := DataW.trod_struct Try.underlying61 h2
          match zs, hzl with
          | [z0, z1], _ =>
            have r1 := hz 1 _ rfl
            simp [cells59] at r1
            have hD : D i = .agg [z0.1, z1.1] := congrArg Prod.fst hze
            have hy2 : y2.1 = .slice ((List.range b.macs.length).map D) ((List.range (m - b.macs.length)).map fun j => D (b.macs.length + j)) := congrArg Prod.fst hx
            rw [hy2] at l2
            have l3 : Light 61 (D i) := light_elem Try.underlying23 l2 (List.mem_map.2 ⟨i, List.mem_range.2 hi, rfl⟩)
            rw [hD] at l3
            have l4 : Light 59 z1.1 := light_field (j := 1) Try.underlying61 l3 rfl rfl
            exact light_sl Try.underlying59 r1 l4 (hM.blks i hi)
    · rw [show b.macs.getD i mac0 = mac0 from by simp [List.getD, show b.macs.length ≤ i by omega]]
      simp [mac0]
end
section
variable {H : Type} {enc : TypeId × Value → H} {W : World} {r : Reach} {b0 : Nat}
set_option maxRecDepth 100000 in
theorem rd_reading {v : Value} {y : DataW H} {p : List MemPlace} (hv : Value.okWide Try.prog W r b0 67 v) (h : DataW.Trod enc Try.prog W 0 (fun _ => true) true 67 v y p) : ∃ r1 r2 : Int, v = .agg #[.int .i64 r1, .int .i64 r2] := by
  obtain ⟨cs, rfl, hsz⟩ := okWide_struct Try.underlying67 hv
  rw [cells67] at hsz
  obtain ⟨l⟩ := cs
  match l, hsz with
  | [u0, u1], _ =>
    obtain ⟨fuel, hf⟩ := h
    obtain ⟨xs, n, _, _, hl, hlen, hg⟩ := DataW.trod_struct Try.underlying67 hf
    match xs, hlen with
    | [y0, y1], _ =>
      have q0 := hg 0 _ rfl
      have q1 := hg 1 _ rfl
      simp [Value.cells, cells3] at q0 q1
      obtain ⟨k0, e0, _⟩ := DataW.trod_int Try.underlying3 q0
      obtain ⟨k1, e1, _⟩ := DataW.trod_int Try.underlying3 q1
      simp only [List.cons.injEq, and_true] at e0 e1
      exact ⟨k0, k1, by rw [e0, e1]⟩
set_option maxRecDepth 100000 in
theorem rd_table {v : Value} {y : DataW H} {p : List MemPlace} (hv : Value.okWide Try.prog W r b0 46 v) (h : DataW.Trod enc Try.prog W 0 (fun _ => true) true 46 v y p) : ∃ (t : TabD) (vr vb : Value), v = .agg #[.int .i64 t.frm, .int .i64 t.dst, vr, vb, .int .i64 t.err] ∧ SlAt W vr 2 t.rows.length (pairs t.rows) ∧ SlAt W vb 1 t.brk.length (ints t.brk) := by
  obtain ⟨cs, rfl, hsz⟩ := okWide_struct Try.underlying46 hv
  rw [cells46] at hsz
  obtain ⟨l⟩ := cs
  match l, hsz with
  | [v0, v1, v2, v3, v4], _ =>
    obtain ⟨fuel, hf⟩ := h
    obtain ⟨xs, n, _, _, hl, hlen, hg⟩ := DataW.trod_struct Try.underlying46 hf
    match xs, hlen with
    | [y0, y1, y2, y3, y4], _ =>
      have q0 := hg 0 _ rfl
      have q1 := hg 1 _ rfl
      have q2 := hg 2 _ rfl
      have q3 := hg 3 _ rfl
      have q4 := hg 4 _ rfl
      simp [Value.cells, cells3, cells43, cells44] at q0 q1 q2 q3 q4
      obtain ⟨k0, e0, _⟩ := DataW.trod_int Try.underlying3 q0
      obtain ⟨k1, e1, _⟩ := DataW.trod_int Try.underlying3 q1
      obtain ⟨k4, e4, _⟩ := DataW.trod_int Try.underlying3 q4
      obtain ⟨rs, hr⟩ := rd_pairs (v := v2) Try.underlying43 Try.underlying75 cells75 rfl rfl cells3 cells3 Try.underlying3 Try.underlying3 q2
      obtain ⟨bs, hb⟩ := rd_ints (v := v3) Try.underlying44 Try.underlying3 cells3 q3
      simp only [List.cons.injEq, and_true] at e0 e1 e4
      exact ⟨⟨k0, k1, rs, bs, k4⟩, v2, v3, by rw [e0, e1, e4], hr, hb⟩
set_option maxRecDepth 100000 in
theorem rd_block {v : Value} {y : DataW H} {p : List MemPlace} (hv : Value.okWide Try.prog W r b0 63 v) (h : DataW.Trod enc Try.prog W 0 (fun _ => true) true 63 v y p) : ∃ r1 r2 r3 : Int, v = .agg #[.int .i64 r1, .int .i64 r2, .int .i64 r3] := by
  obtain ⟨cs, rfl, hsz⟩ := okWide_struct Try.underlying63 hv
  rw [cells63] at hsz
  obtain ⟨l⟩ := cs
  match l, hsz with
  | [u0, u1, u2], _ =>
    obtain ⟨fuel, hf⟩ := h
    obtain ⟨xs, n, _, _, hl, hlen, hg⟩ := DataW.trod_struct Try.underlying63 hf
    match xs, hlen with
    | [y0, y1], _ =>
      have q0 := hg 0 _ rfl
      have q1 := hg 1 _ rfl
      simp [Value.cells, cells27, cells3] at q0 q1
      obtain ⟨zs, k2, _, _, _, hzl, hz⟩ := DataW.trod_struct Try.underlying27 q0
      match zs, hzl with
      | [z0, z1], _ =>
        have r0 := hz 0 _ rfl
        have r1 := hz 1 _ rfl
        simp [cells3] at r0 r1
        obtain ⟨k0, e0, _⟩ := DataW.trod_int Try.underlying3 r0
        obtain ⟨k1, e1, _⟩ := DataW.trod_int Try.underlying3 r1
        obtain ⟨k2, e2, _⟩ := DataW.trod_int Try.underlying3 q1
        simp only [List.cons.injEq, and_true] at e0 e1 e2
        exact ⟨k0, k1, k2, by rw [e0, e1, e2]⟩
end
end Go.Proofs.Ytohgladndklciaa
