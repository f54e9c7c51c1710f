/-
  The engine, part Y: appends onto an empty slice that was just built (its capacity is 0): always new memory, or nothing is done.
  Rounds taken apart, lot by lot: plain.
  One more laboratory; rounds that are kinder; lists of the fewest, told by what they are: plain.
-/
import Derived.Test.YtfhmigoddaaljaaEng
import Derived.Test.YtfhmigoddaaljaaPlain
import Derived.Test.YtfhmigoddaaljaaFg
set_option linter.unusedSimpArgs false
set_option linter.unusedVariables false
namespace Go.Eng

section
variable {r : Option Nat} {P : Program} {o : Oper} {a : Act} {w w0 : World} {X : Nat → Prop} {L : List Res} {y : List Res → Value → Prop}

theorem op_append0 {t e : TypeId} {s x : Operand} {z : Value} {sz bytes : Nat} {b : Addr} {vx : Value} {m : Nat} {news : List Value}
    (ho : o.op = .call { callee := .builtin .append, args := #[s, x], argTypes := #[t, t] }) (ht : P.underlying t = some (.slice e)) (he : elK P e = some (z, sz, bytes))
    (hs : a.eval s = .slice (some b) 0 0) (hx : a.eval x = vx) (hsrc : SlAt w vx sz m news) (h1 : news.all (·.oneCell') = true)
    (h63 : m ≤ maxLen) (hbytes : m * bytes ≤ 140737488355328) (hm : 0 < m) :
    OpY r P o a w (fun v' w' => Ext NoB w w' ∧ w'.ownsRow w.heap.size e sz v' m news) := by
  unfold elK at he
  cases hi0 : P.info? e with
  | none => simp [hi0] at he
  | some ti =>
    simp only [hi0] at he
    cases hz : ti.zero with
    | none => simp [hz] at he
    | some z' =>
      simp only [hz] at he
      split at he
      case isFalse => cases he
      rename_i hcond
      simp only [Option.some.injEq, Prod.mk.injEq] at he
      obtain ⟨rfl, rfl, rfl⟩ := he
      obtain ⟨hl, A, cap', rfl, hc1, hc2, h3⟩ := hsrc
      have hne : news ≠ [] := by
        rintro rfl
        have := Nat.mul_pos hm hcond.2; simp at hl; omega
      obtain ⟨ad, rfl, hcells⟩ := h3 hne
      have hnil : w.ownsRow w.heap.size e ti.size (.slice none 0 0) 0 [] := ⟨by simp, .inl ⟨rfl, rfl⟩⟩
      obtain ⟨v', w', hrun, h2, h4, _, h5⟩ := run_append_own_at (P := P) w w.heap.size t o.type e ti z' ti.size ti.bytes ht hi0 hz rfl rfl hcond.1 hcond.2 (.slice none 0 0) 0 [] hnil ad m cap' news hl hcells (fun u hu => List.all_eq_true.1 h1 u hu) (by omega) (by rw [Nat.zero_add]; exact hbytes) (Nat.le_refl _)
      refine opY_value (v := v') (w' := w') (by rw [ho]; rfl) ?_ ⟨(Ext.of_grownBy h4).mono (fun b hb => by cases hb), by rw [Nat.zero_add, List.nil_append] at h2; exact h2⟩
      have hgo : ∀ R W, (Builtin.append_ #[t, t] o.type #[.slice (some b) 0 0, .slice (some ad) m cap']).run P w = .ok R W → (execOp a.eval o).run P w = .ok (.value R) W := fun R W hr => by
        simp only [execOp, ho, resolve, invoke, builtin, Sem.run_bind, Sem.run_pure, Result.andThen_ok, List.map_toArray, List.map_cons, List.map_nil, hs, hx, hr]
      refine hgo _ _ ?_
      have r1 := run_append_grow (P := P) w t o.type e ti z' ht hi0 hz b 0 0 [] (by simp) (by simp) ad m cap' news hl hcells (by omega) (by simp only [maxLen] at h63; omega) (growslice_fits (by omega) (by rw [Nat.zero_add]; exact hbytes))
      have r2 := run_append_nil (P := P) w t o.type e ti z' ht hi0 hz ad m cap' news hl hcells hm (by simp only [maxLen] at h63; omega) (by omega)
      rw [r2] at hrun
      cases hrun
      rw [r1]; simp

/-- Nothing is appended. -/
theorem op_appendZ {t e : TypeId} {s x : Operand} {z : Value} {sz bytes : Nat} {b : Addr} {vx : Value} {m : Nat} {news : List Value}
    (ho : o.op = .call { callee := .builtin .append, args := #[s, x], argTypes := #[t, t] }) (ht : P.underlying t = some (.slice e)) (he : elK P e = some (z, sz, bytes))
    (hs : a.eval s = .slice (some b) 0 0) (hx : a.eval x = vx) (hsrc : SlAt w vx sz m news) (hm : m = 0) :
    OpY r P o a w (fun v' w' => v' = .slice (some b) 0 0 ∧ w' = w) := by
  unfold elK at he
  cases hi0 : P.info? e with
  | none => simp [hi0] at he
  | some ti =>
    obtain ⟨hl, A, cap', rfl, hc1, hc2, h3⟩ := hsrc
    subst hm
    refine opY_value (v := .slice (some b) 0 0) (w' := w) (by rw [ho]; rfl) ?_ ⟨rfl, rfl⟩
    simp only [execOp, ho, resolve, invoke, builtin, Sem.run_bind, Sem.run_pure, Result.andThen_ok, List.map_toArray, List.map_cons, List.map_nil, hs, hx]
    cases A <;> simp [Builtin.append_, run_underlying ht, sizeOf, typeInfo, hi0, Builtin.lenOf, Builtin.firstCells, storeCells, loadCells, loadCellsFrom]

theorem vblz {t e : TypeId} {sz : Nat} {g : Bool} {parts : Array (Nat × Operand)} {ps : Array (Nat × Value)} {z : Value}
    (ho : o.op = .buildSlice t 0 parts) (hp : (parts.map fun (i, x) => (i, a.eval x)) = ps) (ht : P.underlying t = some (.slice e)) (he : tyK P e = some (g, sz)) (hz : (P.info? e).bind (·.zero) = some z)
    (hf : Instr.fill (fun i => some (i * sz, sz)) ((Array.range (0 * sz)).map (z.cells[· % z.cells.size]!)) ps.toList = some ([] : List Value).toArray) (hy : ∀ b, y [blk b e []] (.slice (some ⟨b, 0, none⟩) 0 0)) :
    OpY r P o a w (fun v w'' => Ext NoB w w'' ∧ ∃ rs, y rs v ∧ Sep NoB w w'' rs ∧ rs.all (·.own) = true) :=
  vn (op_buildSlice (X := NoB) (w0 := w) (L := []) (Sep.start _ _) ho hp ht he hz (by omega) hf) fun v w' ⟨b, h1, h2⟩ => by
    subst h1
    exact ⟨_, hy b, h2, rfl⟩
theorem vap0 {e sz m : Nat} {news : List Value} (h : OpY r P o a w (fun v' w' => Ext NoB w w' ∧ w'.ownsRow w.heap.size e sz v' m news)) (hy : ∀ v, y [row v e sz m news] v) :
    OpY r P o a w (fun v w'' => Ext NoB w w'' ∧ ∃ rs, y rs v ∧ Sep NoB w w'' rs ∧ rs.all (·.own) = true) :=
  vn h fun v w' hv => ⟨_, hy v, (Sep.start NoB _).new_row hv.1 hv.2, rfl⟩
end
end Go.Eng

namespace Go.Proofs.Ytfhmigoddaaljaa
open Go.RowKit Go.Eng

/-- The readings of laboratory k, those of the first j samples struck out that are of another lot than i. -/
def apUpto (d : RD) (i k : Nat) : Nat → List Int
  | 0 => d.rds.getD k []
  | j + 1 => if d.samples.getD j 0 = (i : Int) then apUpto d i k j else (apUpto d i k j).set j (-1)
def apRow (d : RD) (i k : Nat) : List Int := apUpto d i k d.samples.length
def apartD (d : RD) (i : Nat) : RD := { d with rds := (List.range d.tols.length).map fun k => apRow d i k }
section
variable {d : RD} {i : Nat}
theorem apUpto_yes {k j : Nat} (h : d.samples.getD j 0 = (i : Int)) : apUpto d i k (j + 1) = apUpto d i k j := by rw [apUpto, if_pos h]
theorem apUpto_no {k j : Nat} (h : ¬ d.samples.getD j 0 = (i : Int)) : apUpto d i k (j + 1) = (apUpto d i k j).set j (-1) := by rw [apUpto, if_neg h]
theorem apUpto_len (k : Nat) : ∀ j, (apUpto d i k j).length = (d.rds.getD k []).length
  | 0 => rfl
  | j + 1 => by
    unfold apUpto; split
    · exact apUpto_len k j
    · rw [List.length_set]; exact apUpto_len k j
theorem apUpto_at (k : Nat) : ∀ j t, t < (d.rds.getD k []).length → (apUpto d i k j).getD t 0 = if t < j ∧ d.samples.getD t 0 ≠ (i : Int) then -1 else (d.rds.getD k []).getD t 0
  | 0, t, _ => by rw [if_neg (by omega)]; rfl
  | j + 1, t, ht => by
    have ih := apUpto_at k j t ht
    unfold apUpto; split
    · rename_i h
      rw [ih]
      by_cases e : t = j
      · subst e; rw [if_neg (by omega), if_neg (fun e => e.2 h)]
      · simp only [show (t < j + 1) ↔ t < j by omega]
    · rename_i h
      by_cases e : t = j
      · subst e
        rw [if_pos ⟨by omega, h⟩]
        have : t < (apUpto d i k t).length := by rw [apUpto_len]; exact ht
        simp [List.getD, this]
      · have e2 : ((apUpto d i k j).set j (-1)).getD t 0 = (apUpto d i k j).getD t 0 := by
          simp only [List.getD]; rw [List.getElem?_set_ne (fun e' => e e'.symm)]
        rw [e2, ih]
        simp only [show (t < j + 1) ↔ t < j by omega]
theorem apart_rds {q : Nat} (hq : q < d.tols.length) : (apartD d i).rds.getD q [] = apRow d i q := by
  simp [apartD, List.getD, hq]
theorem apart_rd (hV : Valid d) {q t : Nat} (hq : q < d.tols.length) (ht : t < d.samples.length) : rdv (apartD d i) q t = if d.samples.getD t 0 = (i : Int) then rdv d q t else -1 := by
  unfold rdv; rw [apart_rds hq]; unfold apRow
  rw [apUpto_at q _ t (by rw [hV.rdl q hq]; exact ht)]
  by_cases h : d.samples.getD t 0 = (i : Int)
  · rw [if_neg (fun e => e.2 h), if_pos h]
  · rw [if_pos ⟨ht, h⟩, if_neg h]
theorem apart_valid (hV : Valid d) : Valid (apartD d i) := by
  refine ⟨hV.nl, hV.ns, hV.nb, hV.lots, hV.samples, hV.spread, hV.tols, fun q hq => ?_, fun q hq j hj => ?_⟩
  · rw [apart_rds (d := d) hq]; unfold apRow; rw [apUpto_len]; exact hV.rdl q hq
  · have := hV.rds q hq j hj
    show -1 ≤ rdv (apartD d i) q j ∧ rdv (apartD d i) q j ≤ 1000
    rw [apart_rd hV hq hj]
    split
    · exact this
    · omega
theorem apart_check (hV : Valid d) : checkR (apartD d i) = 0 := check_of (apart_valid hV)
theorem apart_thin (hV : Valid d) : (apartD d i).lots.length ≤ 6 ∧ (apartD d i).samples.length ≤ 10 ∧ (apartD d i).tols.length ≤ 8 ∧ ∀ k, k < (apartD d i).tols.length → ((apartD d i).rds.getD k []).length ≤ 10 := by
  have h := apart_valid (i := i) hV
  have h1 := h.nl; have h2 := h.ns; have h3 := h.nb
  exact ⟨by omega, by omega, by omega, fun k hk => by have := h.rdl k hk; omega⟩
theorem apart_rdl : (apartD d i).rds.length = d.tols.length := by simp [apartD]
end
/-- A round is explained if each lot of it is. -/
theorem apart_all {d : RD} (hV : Valid d) {off : List Bool} : explB d off = (List.range d.lots.length).all fun i => explB (apartD d i) off := by
  rw [Bool.eq_iff_iff, List.all_eq_true, explB_iff hV]
  constructor
  · rintro ⟨L, v, h⟩ i _
    refine (explB_iff (apart_valid hV)).2 ⟨L, v, h.lots, h.near, fun k hk q hq ho hr => ?_⟩
    have hrd := apart_rd (i := i) hV hq hk
    rw [hrd] at hr ⊢
    split at hr
    · rename_i e
      rw [if_pos e]
      exact h.agree k hk q hq ho hr
    · exact absurd rfl hr
  · intro h
    have hi : ∀ i, ∃ L v, i < d.lots.length → Truth (apartD d i) off (-1) 0 L v := fun i => by
      by_cases hi : i < d.lots.length
      · obtain ⟨L, v, hT⟩ := (explB_iff (apart_valid hV)).1 (h i (List.mem_range.2 hi))
        exact ⟨L, v, fun _ => hT⟩
      · exact ⟨fun _ => 0, fun _ => 0, fun e => absurd e hi⟩
    let L : Nat → Nat → Int := fun i => Classical.choose (hi i)
    have hL := fun i => Classical.choose_spec (hi i)
    let v : Nat → Nat → Int := fun i => Classical.choose (hL i)
    have hv : ∀ i, i < d.lots.length → Truth (apartD d i) off (-1) 0 (L i) (v i) := fun i => Classical.choose_spec (hL i)
    refine ⟨fun i => L i i, fun k => v (lotOf d k) k, fun i hi => (hv i hi).lots i hi, fun k hk => ?_, fun k hk q hq ho hr => ?_⟩
    · have hs := hV.samples k hk
      exact (hv (lotOf d k) (by unfold lotOf; omega)).near k hk
    · have hs := hV.samples k hk
      have hT := hv (lotOf d k) (by unfold lotOf; omega)
      have hrd := apart_rd (i := lotOf d k) hV hq hk
      rw [if_pos (by unfold lotOf; omega)] at hrd
      have := hT.agree k hk q hq ho (by rw [hrd]; exact hr)
      rw [hrd] at this
      exact this
def apAll (d : RD) (off : List Bool) (n : Nat) : Bool := (List.range n).all fun i => explB (apartD d i) off
theorem apAll_succ (d : RD) (off : List Bool) (n : Nat) : apAll d off (n + 1) = (apAll d off n && explB (apartD d n) off) := by
  unfold apAll; rw [List.range_succ, List.all_append]; simp
end Go.Proofs.Ytfhmigoddaaljaa

namespace Go.Proofs.Ytfhmigoddaaljaa
open Go.RowKit Go.Eng

/-! ### One more laboratory -/
def endsRow (d : RD) (k : Nat) (n : Int) : List Int := (List.replicate d.samples.length (-1)).set k n
def endsD (d : RD) (k : Nat) (n : Int) : RD := { d with tols := d.tols ++ [0], rds := d.rds ++ [endsRow d k n] }
section
variable {d : RD} {k : Nat} {n : Int}
theorem getD_snocI (l : List Int) (a : Int) (q : Nat) : (l ++ [a]).getD q 0 = if q < l.length then l.getD q 0 else if q = l.length then a else 0 := by
  simp only [List.getD, List.getElem?_append]
  split
  · rfl
  · rename_i h
    split
    · rename_i e; subst e; simp
    · rw [List.getElem?_eq_none (by simp; omega)]; rfl
theorem getD_snocL (l : List (List Int)) (a : List Int) (q : Nat) : (l ++ [a]).getD q [] = if q < l.length then l.getD q [] else if q = l.length then a else [] := by
  simp only [List.getD, List.getElem?_append]
  split
  · rfl
  · rename_i h
    split
    · rename_i e; subst e; simp
    · rw [List.getElem?_eq_none (by simp; omega)]; rfl
theorem ends_rds (hr : d.rds.length = d.tols.length) (q : Nat) : (endsD d k n).rds.getD q [] = if q < d.tols.length then d.rds.getD q [] else if q = d.tols.length then endsRow d k n else [] := by
  show (d.rds ++ [endsRow d k n]).getD q [] = _
  rw [getD_snocL, hr]
theorem endsRow_at {i : Nat} (hi : i < d.samples.length) : (endsRow d k n).getD i 0 = if i = k then n else -1 := by
  unfold endsRow
  simp only [List.getD, List.getElem?_set]
  by_cases e : k = i
  · subst e; simp [hi]
  · rw [if_neg e, if_neg (fun h => e h.symm)]; simp [hi]
theorem endsRow_len : (endsRow d k n).length = d.samples.length := by simp [endsRow]
theorem ends_len : (endsD d k n).tols.length = d.tols.length + 1 := by simp [endsD]
theorem ends_tol {q : Nat} (hq : q < d.tols.length) : (endsD d k n).tols.getD q 0 = d.tols.getD q 0 := by
  show (d.tols ++ [0]).getD q 0 = _
  rw [getD_snocI, if_pos hq]
theorem ends_tolN : (endsD d k n).tols.getD d.tols.length 0 = 0 := by
  show (d.tols ++ [0]).getD _ 0 = _
  rw [getD_snocI, if_neg (by omega), if_pos rfl]
theorem ends_rd (hr : d.rds.length = d.tols.length) {q i : Nat} (hq : q < d.tols.length) : rdv (endsD d k n) q i = rdv d q i := by
  unfold rdv; rw [ends_rds hr, if_pos hq]
theorem ends_rdN (hr : d.rds.length = d.tols.length) {i : Nat} (hi : i < d.samples.length) : rdv (endsD d k n) d.tols.length i = if i = k then n else -1 := by
  unfold rdv; rw [ends_rds hr, if_neg (by omega), if_pos rfl, endsRow_at hi]
theorem ends_valid (hV : Valid d) (hr : d.rds.length = d.tols.length) (h5 : d.tols.length ≤ 5) (hn : 0 ≤ n ∧ n ≤ 1000) : Valid (endsD d k n) := by
  refine ⟨hV.nl, hV.ns, by rw [ends_len]; omega, hV.lots, hV.samples, hV.spread, fun q hq => ?_, fun q hq => ?_, fun q hq j hj => ?_⟩
  · rw [ends_len] at hq
    by_cases e : q < d.tols.length
    · rw [ends_tol e]; exact hV.tols q e
    · rw [show q = d.tols.length by omega, ends_tolN]; omega
  · rw [ends_len] at hq
    rw [ends_rds hr]
    by_cases e : q < d.tols.length
    · rw [if_pos e]; exact hV.rdl q e
    · rw [if_neg e, if_pos (by omega)]; exact endsRow_len
  · rw [ends_len] at hq
    have hj' : j < d.samples.length := hj
    show -1 ≤ rdv (endsD d k n) q j ∧ rdv (endsD d k n) q j ≤ 1000
    by_cases e : q < d.tols.length
    · rw [ends_rd hr e]; exact hV.rds q e j hj'
    · rw [show q = d.tols.length by omega, ends_rdN hr hj']; split <;> omega
theorem ends_thin (hV : Valid d) (hr : d.rds.length = d.tols.length) (h5 : d.tols.length ≤ 5) (hn : 0 ≤ n ∧ n ≤ 1000) : (endsD d k n).lots.length ≤ 6 ∧ (endsD d k n).samples.length ≤ 10 ∧ (endsD d k n).tols.length ≤ 8 ∧ ∀ q, q < (endsD d k n).tols.length → ((endsD d k n).rds.getD q []).length ≤ 10 := by
  have h := ends_valid (k := k) hV hr h5 hn
  have h1 := h.nl; have h2 := h.ns; have h3 := h.nb
  exact ⟨by omega, by omega, by omega, fun q hq => by have := h.rdl q hq; omega⟩
theorem ends_rdl (hr : d.rds.length = d.tols.length) : (endsD d k n).rds.length = (endsD d k n).tols.length := by simp [endsD, hr]
theorem ends_iff (hV : Valid d) (hr : d.rds.length = d.tols.length) (h5 : d.tols.length ≤ 5) (hn : 0 ≤ n ∧ n ≤ 1000) {off : List Bool} (hoff : off.getD d.tols.length false = false) (hok : explB d off = true) (hk : k < d.samples.length) :
    explB (endsD d k n) off = (decide (((spansF d off (-1) 0).1.getD k (0, 0)).1 ≤ n) && decide (n ≤ ((spansF d off (-1) 0).1.getD k (0, 0)).2)) := by
  rw [Bool.eq_iff_iff, explB_iff (ends_valid hV hr h5 hn)]
  simp only [Bool.and_eq_true, decide_eq_true_eq]
  rw [span_iff hV hok hk n]
  constructor
  · rintro ⟨L, v, h⟩
    refine ⟨L, v, ⟨h.lots, h.near, fun i hi q hq ho hrd => ?_⟩, ?_⟩
    · have := h.agree i hi q (by rw [ends_len]; omega) ho (by rw [ends_rd hr hq]; exact hrd)
      rw [ends_rd hr hq, ends_tol hq] at this; exact this
    · have e : rdv (endsD d k n) d.tols.length k = n := by rw [ends_rdN hr hk, if_pos rfl]
      have := h.agree k hk d.tols.length (by rw [ends_len]; omega) hoff (by rw [e]; omega)
      rw [e, ends_tolN] at this
      split at this <;> omega
  · rintro ⟨L, v, h, e⟩
    refine ⟨L, v, h.lots, h.near, fun i hi q hq ho hrd => ?_⟩
    have hi' : i < d.samples.length := hi
    rw [ends_len] at hq
    by_cases hq' : q < d.tols.length
    · rw [ends_rd hr hq'] at hrd ⊢
      rw [ends_tol hq']
      exact h.agree i hi q hq' ho hrd
    · have eq : q = d.tols.length := by omega
      subst eq
      rw [ends_rdN hr hi'] at hrd ⊢
      rw [ends_tolN]
      by_cases ei : i = k
      · subst ei; rw [if_pos rfl, e]; split <;> omega
      · rw [if_neg ei] at hrd; exact absurd rfl hrd
theorem offB_out {nb x : Nat} (h : nb < 6) : (offB nb x).getD nb false = false := by
  unfold offB
  rw [off_has (chosen_rise nb x) h, Bool.eq_false_iff]
  intro e
  rw [hasB_iff, mem_chosen] at e
  obtain ⟨q, h1, _, h2⟩ := e
  omega
theorem rise_more {nb : Nat} {l : List Int} (h : riseB nb l = true) : riseB (nb + 1) l = true := by
  unfold riseB at *
  rw [List.all_eq_true] at *
  intro i hi
  have := h i hi
  unfold riseAt at *
  simp only [Bool.and_eq_true, decide_eq_true_eq] at *
  exact ⟨⟨this.1.1, by omega⟩, this.2⟩
theorem ends_explains (hV : Valid d) (hr : d.rds.length = d.tols.length) (h5 : d.tols.length ≤ 5) (hn : 0 ≤ n ∧ n ≤ 1000) {x : Nat} (hok : explB d (offB d.tols.length x) = true) (hk : k < d.samples.length) :
    explainsF (endsD d k n) (chosenF d.tols.length x) = ((decide (((spansF d (offB d.tols.length x) (-1) 0).1.getD k (0, 0)).1 ≤ n) && decide (n ≤ ((spansF d (offB d.tols.length x) (-1) 0).1.getD k (0, 0)).2)), 0) := by
  rw [explainsF_yes (check_of (ends_valid hV hr h5 hn)) (by rw [ends_len]; exact rise_more (chosen_rise _ _))]
  rw [← ends_iff hV hr h5 hn (offB_out (by omega)) hok hk]; rfl
end

/-! ### Lists of the fewest -/
theorem fromL_mem (d : RD) : ∀ (m : Nat) (l : List Int) (off : List Bool) (next : Nat) (z : List Int), z ∈ fromL d m l off next →
    ∃ ys, z = l ++ ys ∧ ys.length = m ∧ (∀ y ∈ ys, (next : Int) ≤ y ∧ y ≤ (d.tols.length : Int) - 1) ∧ ys.Pairwise (· < ·) ∧ explB d (ys.foldl (fun bs n => bs.set n.toNat true) off) = true
  | 0, l, off, next, z, h => by
    rw [fromL] at h
    split at h
    · rename_i he
      rw [List.mem_singleton] at h
      exact ⟨[], by rw [h, List.append_nil], rfl, by simp, List.Pairwise.nil, he⟩
    · cases h
  | m + 1, l, off, next, z, h => by
    rw [fromL, List.mem_flatMap] at h
    obtain ⟨k, hk, hz⟩ := h
    rw [List.mem_range'_1] at hk
    obtain ⟨ys, e, hl, hb, hp, hx⟩ := fromL_mem d m (l ++ [(k : Int)]) (off.set k true) (k + 1) z hz
    refine ⟨(k : Int) :: ys, by rw [e, List.append_assoc]; rfl, by simp [hl], fun y hy => ?_, List.pairwise_cons.2 ⟨fun y hy => by have := hb y hy; omega, hp⟩, hx⟩
    rcases List.mem_cons.1 hy with rfl | hy
    · omega
    · have := hb y hy; omega
theorem fewUpto_spec (d : RD) : ∀ k, (fewUpto d k = [] ∧ ∀ j, j < k → fromL d j [] off0 0 = []) ∨ ∃ m, m < k ∧ fewUpto d k = fromL d m [] off0 0 ∧ fewUpto d k ≠ [] ∧ ∀ j, j < m → fromL d j [] off0 0 = []
  | 0 => .inl ⟨rfl, fun j h => absurd h (Nat.not_lt_zero _)⟩
  | k + 1 => by
    simp only [fewUpto]
    rcases fewUpto_spec d k with ⟨h1, h2⟩ | ⟨m, h1, h2, h3, h4⟩
    · rw [if_pos h1]
      by_cases hk : fromL d k [] off0 0 = []
      · refine .inl ⟨hk, fun j hj => ?_⟩
        rcases Nat.lt_succ_iff_lt_or_eq.1 hj with h | h
        · exact h2 j h
        · subst h; exact hk
      · exact .inr ⟨k, by omega, rfl, hk, h2⟩
    · rw [if_neg h3]
      exact .inr ⟨m, by omega, h2, h3, h4⟩
theorem fewest_spec {d : RD} (hV : Valid d) : ∃ m, m ≤ d.tols.length ∧ fewestF d = fromL d m [] off0 0 ∧ ∀ j, j < m → fromL d j [] off0 0 = [] := by
  rcases fewUpto_spec d (d.tols.length + 1) with ⟨h1, _⟩ | ⟨m, h1, h2, _, h4⟩
  · exact absurd h1 (fewest_ne hV)
  · exact ⟨m, by omega, h2, h4⟩
/-- What a list of the fewest is. -/
structure Few (d : RD) (ys : List Int) : Prop where
  b : ∀ y ∈ ys, (0 : Int) ≤ y ∧ y ≤ (d.tols.length : Int) - 1
  p : ys.Pairwise (· < ·)
  x : explB d (offUpto ys ys.length) = true
theorem off_fold (ys : List Int) : offUpto ys ys.length = ys.foldl (fun bs n => bs.set n.toNat true) off0 := by unfold offUpto off0; rw [List.take_length]
theorem few_of {d : RD} {m : Nat} {ys : List Int} (h : ys ∈ fromL d m [] off0 0) : Few d ys ∧ ys.length = m := by
  obtain ⟨zs, e, hl, hb, hp, hx⟩ := fromL_mem d m [] off0 0 ys h
  rw [List.nil_append] at e; subst e
  exact ⟨⟨fun y hy => by have := hb y hy; omega, hp, by rw [off_fold]; exact hx⟩, hl⟩
theorem Few.mem {d : RD} {ys : List Int} (h : Few d ys) : ys ∈ fromL d ys.length [] off0 0 := mem_from0 h.b h.p h.x
theorem Few.nodup {d : RD} {ys : List Int} (h : Few d ys) : ys.Nodup := h.p.imp (fun h => by omega)
theorem Few.len {d : RD} {ys : List Int} (h : Few d ys) : ys.length ≤ d.tols.length := by
  have : ys ⊆ (List.range d.tols.length).map fun (k : Nat) => (k : Int) := fun y hy => by
    have := h.b y hy
    exact List.mem_map.2 ⟨y.toNat, List.mem_range.2 (by omega), by omega⟩
  have := h.nodup.length_le_of_subset this
  simpa using this
theorem fewest_few {d : RD} (hV : Valid d) {ys : List Int} (h : ys ∈ fewestF d) : Few d ys := by
  obtain ⟨m, _, e, _⟩ := fewest_spec hV
  rw [e] at h; exact (few_of h).1
theorem fewest_len {d : RD} (hV : Valid d) {ys : List Int} (h : ys ∈ fewestF d) : ys.length = ((fewestF d).getD 0 []).length := by
  obtain ⟨m, _, e, _⟩ := fewest_spec hV
  have h0 : (fewestF d).getD 0 [] ∈ fewestF d := by
    have := fewest_pos hV
    simp only [List.getD, List.getElem?_eq_getElem this, Option.getD_some]; exact List.getElem_mem this
  rw [e] at h
  have h1 : (fewestF d).getD 0 [] ∈ fromL d m [] off0 0 := by rw [← e]; exact h0
  rw [(few_of h).2, (few_of h1).2]
theorem fewest_first {d : RD} (hV : Valid d) : (fewestF d).getD 0 [] ∈ fewestF d := by
  have := fewest_pos hV
  simp only [List.getD, List.getElem?_eq_getElem this, Option.getD_some]; exact List.getElem_mem this

/-! ### Kinder rounds -/
structure Kinder (d x : RD) : Prop where
  nl : x.lots.length = d.lots.length
  sm : x.samples = d.samples
  nb : x.tols.length = d.tols.length
  lots : ∀ i, i < d.lots.length → (x.lots.getD i (0, 0)).1 ≤ (d.lots.getD i (0, 0)).1 ∧ (d.lots.getD i (0, 0)).2 ≤ (x.lots.getD i (0, 0)).2
  sp : d.spread ≤ x.spread
  tols : ∀ i, i < d.tols.length → d.tols.getD i 0 ≤ x.tols.getD i 0
  rds : ∀ q, q < d.tols.length → ∀ i, i < d.samples.length → rdv x q i = rdv d q i ∨ rdv x q i = -1
theorem Kinder.truth {d x : RD} (h : Kinder d x) {off : List Bool} {L v : Nat → Int} (hT : Truth d off (-1) 0 L v) : Truth x off (-1) 0 L v := by
  refine ⟨fun i hi => ?_, fun k hk => ?_, fun k hk q hq ho hr => ?_⟩
  · rw [h.nl] at hi
    have := h.lots i hi; have := hT.lots i hi; omega
  · rw [h.sm] at hk
    have := hT.near k hk; have hs := h.sp
    have e : lotOf x k = lotOf d k := by unfold lotOf; rw [h.sm]
    rw [e]; omega
  · rw [h.sm] at hk; rw [h.nb] at hq
    have ht := h.tols q hq
    rcases h.rds q hq k hk with e | e
    · rw [e] at hr ⊢
      have := hT.agree k hk q hq ho hr
      omega
    · exact absurd e hr
theorem Kinder.expl {d x : RD} (h : Kinder d x) (hV : Valid d) (hX : Valid x) {off : List Bool} (he : explB d off = true) : explB x off = true := by
  obtain ⟨L, v, hT⟩ := (explB_iff hV).1 he
  exact (explB_iff hX).2 ⟨L, v, h.truth hT⟩
theorem Kinder.least {d x : RD} (h : Kinder d x) (hV : Valid d) (hX : Valid x) : ((fewestF x).getD 0 []).length ≤ ((fewestF d).getD 0 []).length := by
  have hf := fewest_few hV (fewest_first hV)
  have hx : Few x ((fewestF d).getD 0 []) := ⟨by rw [h.nb]; exact hf.b, hf.p, h.expl hV hX hf.x⟩
  exact (fewest_le hx.len hx.mem).1
theorem Kinder.refl (d : RD) : Kinder d d := ⟨rfl, rfl, rfl, fun _ _ => ⟨Int.le_refl _, Int.le_refl _⟩, Int.le_refl _, fun _ _ => Int.le_refl _, fun _ _ _ _ => .inl rfl⟩
/-- The round that RoundKinder plays: one change. -/
def kindLot (p : Int × Int) (n : Int) : Int × Int := (max 0 (p.1 - n), min 1000 (p.2 + n.tmod 7))
def kindSp (d : RD) (n : Int) : RD := { d with spread := min 100 (d.spread + n) }
def kindLots (d : RD) (i : Nat) (n : Int) : RD := { d with lots := d.lots.set i (kindLot (d.lots.getD i (0, 0)) n) }
def kindTol (d : RD) (i : Nat) (n : Int) : RD := { d with tols := d.tols.set i (min 100 (d.tols.getD i 0 + n)) }
def kindRd (d : RD) (i j : Nat) : RD := { d with rds := d.rds.set i ((d.rds.getD i []).set j (-1)) }
theorem getD_setI (l : List Int) (i j : Nat) (p : Int) : (l.set i p).getD j 0 = if i = j ∧ j < l.length then p else l.getD j 0 := by
  simp only [List.getD, List.getElem?_set]
  by_cases e : i = j
  · subst e
    by_cases h : i < l.length
    · simp [h]
    · simp [h]
  · simp [e]
theorem getD_setL (l : List (List Int)) (i j : Nat) (p : List Int) : (l.set i p).getD j [] = if i = j ∧ j < l.length then p else l.getD j [] := by
  simp only [List.getD, List.getElem?_set]
  by_cases e : i = j
  · subst e
    by_cases h : i < l.length
    · simp [h]
    · simp [h]
  · simp [e]
section
variable {d : RD} {n : Int}
theorem kindSp_valid (hV : Valid d) (hn : 0 ≤ n) : Valid (kindSp d n) ∧ Kinder d (kindSp d n) := by
  have hs := hV.spread
  have e : (kindSp d n).spread = min 100 (d.spread + n) := rfl
  exact ⟨⟨hV.nl, hV.ns, hV.nb, hV.lots, hV.samples, by rw [e]; omega, hV.tols, hV.rdl, hV.rds⟩, ⟨rfl, rfl, rfl, fun _ _ => ⟨Int.le_refl _, Int.le_refl _⟩, by rw [e]; omega, fun _ _ => Int.le_refl _, fun _ _ _ _ => .inl rfl⟩⟩
theorem kindLots_valid (hV : Valid d) (hn : 0 ≤ n) (i : Nat) : Valid (kindLots d i n) ∧ Kinder d (kindLots d i n) := by
  have hl : (kindLots d i n).lots.length = d.lots.length := by simp [kindLots]
  have hg : ∀ j, (kindLots d i n).lots.getD j (0, 0) = if i = j ∧ j < d.lots.length then kindLot (d.lots.getD i (0, 0)) n else d.lots.getD j (0, 0) := fun j => by
    show (d.lots.set i _).getD j (0, 0) = _
    rw [getD_setP]
  have h7 := Int.tmod_nonneg 7 hn
  refine ⟨⟨by rw [hl]; exact hV.nl, hV.ns, hV.nb, fun j hj => ?_, by rw [hl]; exact hV.samples, hV.spread, hV.tols, hV.rdl, hV.rds⟩, ⟨hl, rfl, rfl, fun j hj => ?_, Int.le_refl _, fun _ _ => Int.le_refl _, fun _ _ _ _ => .inl rfl⟩⟩
  · rw [hl] at hj
    have := hV.lots j hj
    rw [hg]; split
    · rename_i e; rw [e.1]; unfold kindLot; dsimp only; omega
    · exact this
  · have := hV.lots j hj
    rw [hg]; split
    · rename_i e; rw [e.1]; unfold kindLot; dsimp only; omega
    · exact ⟨Int.le_refl _, Int.le_refl _⟩
theorem kindTol_valid (hV : Valid d) (hn : 0 ≤ n) (i : Nat) : Valid (kindTol d i n) ∧ Kinder d (kindTol d i n) := by
  have hl : (kindTol d i n).tols.length = d.tols.length := by simp [kindTol]
  have hg : ∀ j, (kindTol d i n).tols.getD j 0 = if i = j ∧ j < d.tols.length then min 100 (d.tols.getD i 0 + n) else d.tols.getD j 0 := fun j => by
    show (d.tols.set i _).getD j 0 = _
    rw [getD_setI]
  refine ⟨⟨hV.nl, hV.ns, by rw [hl]; exact hV.nb, hV.lots, hV.samples, hV.spread, fun j hj => ?_, fun j hj => hV.rdl j (by rw [hl] at hj; exact hj), fun j hj => hV.rds j (by rw [hl] at hj; exact hj)⟩, ⟨rfl, rfl, hl, fun _ _ => ⟨Int.le_refl _, Int.le_refl _⟩, Int.le_refl _, fun j hj => ?_, fun _ _ _ _ => .inl rfl⟩⟩
  · rw [hl] at hj
    have := hV.tols j hj
    rw [hg]; split
    · rename_i e; rw [e.1]; omega
    · exact this
  · have := hV.tols j hj
    rw [hg]; split
    · rename_i e; rw [e.1]; omega
    · exact Int.le_refl _
theorem kindRd_valid (hV : Valid d) (i j : Nat) : Valid (kindRd d i j) ∧ Kinder d (kindRd d i j) := by
  have hg : ∀ q, (kindRd d i j).rds.getD q [] = if i = q ∧ q < d.rds.length then (d.rds.getD i []).set j (-1) else d.rds.getD q [] := fun q => by
    show (d.rds.set i _).getD q [] = _
    rw [getD_setL]
  have hrd : ∀ q t, rdv (kindRd d i j) q t = rdv d q t ∨ rdv (kindRd d i j) q t = -1 := fun q t => by
    unfold rdv; rw [hg]; split
    · rename_i e; rw [e.1, getD_setI]; split
      · exact .inr rfl
      · exact .inl rfl
    · exact .inl rfl
  refine ⟨⟨hV.nl, hV.ns, hV.nb, hV.lots, hV.samples, hV.spread, hV.tols, fun q hq => ?_, fun q hq t ht => ?_⟩, ⟨rfl, rfl, rfl, fun _ _ => ⟨Int.le_refl _, Int.le_refl _⟩, Int.le_refl _, fun _ _ => Int.le_refl _, fun q _ t _ => hrd q t⟩⟩
  · rw [hg]; split
    · rename_i e; rw [List.length_set, e.1]; exact hV.rdl q hq
    · exact hV.rdl q hq
  · have := hV.rds q hq t ht
    show -1 ≤ rdv (kindRd d i j) q t ∧ rdv (kindRd d i j) q t ≤ 1000
    rcases hrd q t with e | e
    · rw [e]; exact this
    · rw [e]; omega
end
theorem valid_thin {d : RD} (h : Valid d) : d.lots.length ≤ 6 ∧ d.samples.length ≤ 10 ∧ d.tols.length ≤ 8 ∧ ∀ k, k < d.tols.length → (d.rds.getD k []).length ≤ 10 := by
  have h1 := h.nl; have h2 := h.ns; have h3 := h.nb
  exact ⟨by omega, by omega, by omega, fun k hk => by have := h.rdl k hk; omega⟩
/-! ### Rounds in memory -/
theorem labs_one {w : World} {vl vs vb : Value} {lv : List Value} {d : RD} (h : RoundAt w vl vs vb lv d) : (vpairs (d.tols.zip lv)).all (·.oneCell') = true := by
  have h1 : ∀ v ∈ lv, v.oneCell' = true := fun v hv => by
    obtain ⟨i, hi, rfl⟩ := List.getElem_of_mem hv
    have := (h.rds i (by rw [h.rdl, ← h.lvl]; exact hi)).one
    simpa [List.getD, hi] using this
  rw [List.all_eq_true]
  intro u hu
  unfold vpairs at hu
  rw [List.mem_flatMap] at hu
  obtain ⟨p, hp, hu⟩ := hu
  have h2 := (List.of_mem_zip (a := p.1) (b := p.2) hp).2
  simp only [List.mem_cons, List.not_mem_nil, or_false] at hu
  rcases hu with rfl | rfl
  · rfl
  · exact h1 _ h2
theorem rdsAt_snoc {w : World} {lv : List Value} {rds : List (List Int)} {v : Value} {l : List Int} (h : RdsAt w lv rds) (hl : lv.length = rds.length) (hv : SlAt w v 1 l.length (ints l)) : RdsAt w (lv ++ [v]) (rds ++ [l]) := by
  intro i hi
  rw [List.length_append, List.length_singleton] at hi
  by_cases e : i < rds.length
  · have h1 : (rds ++ [l]).getD i [] = rds.getD i [] := by simp [List.getD, List.getElem?_append_left e]
    have h2 : (lv ++ [v]).getD i nilS = lv.getD i nilS := by simp [List.getD, List.getElem?_append_left (show i < lv.length by omega)]
    rw [h1, h2]; exact h i e
  · have ei : i = rds.length := by omega
    have h1 : (rds ++ [l]).getD i [] = l := by subst ei; simp [List.getD]
    have h2 : (lv ++ [v]).getD i nilS = v := by rw [ei, ← hl]; simp [List.getD]
    rw [h1, h2]; exact hv
theorem ends_zip {d : RD} {k : Nat} {n : Int} {lv : List Value} {v : Value} (hl : lv.length = d.tols.length) : (endsD d k n).tols.zip (lv ++ [v]) = d.tols.zip lv ++ [(0, v)] := zip_snoc hl.symm 0 v
theorem ends_zip0 {d : RD} {k : Nat} {n : Int} {lv : List Value} {v : Value} (hl : lv.length = d.tols.length) (h0 : ¬ 0 < d.tols.length) : (endsD d k n).tols.zip (lv ++ [v]) = [(0, v)] := by
  rw [ends_zip hl, List.eq_nil_of_length_eq_zero (show d.tols.length = 0 by omega)]; rfl
end Go.Proofs.Ytfhmigoddaaljaa

namespace Go.Proofs.Ytfhmigoddaaljaa
open Go.RowKit Go.Shelf Go.Eng
set_option maxHeartbeats 4000000 in
theorem RoundEnds_a (rl rs rb : Value) (rlv : List Value) (d : RD) (w : World) (hR : RoundAt w rl rs rb rlv d) (x : Nat) (hxb : x < 256) (y : Nat) (hyb : y < 256) (m : Int) (hm : 0 ≤ m ∧ m ≤ 65535) (hf : readyB d = false) :
  Calls Try.prog 8 #[(Value.agg #[rl, rs, (Value.int .i64 d.spread), rb]), (Value.int .u8 (x : Int)), (Value.int .u8 (y : Int)), (Value.int .u16 m)] w (Ret fun v w' => v = .bool true ∧ Ext NoB w w') := by
 refine calls_enter Try.func8 rfl fun a0 hA0 => ?_
 replace hA0 : Fr 157 [] [(0, (Value.agg #[rl, rs, (Value.int .i64 d.spread), rb])), (1, (Value.int .u8 (x : Int))), (2, (Value.int .u8 (y : Int))), (3, (Value.int .u16 m))] a0 := hA0
 have hS0 : Sep NoB w w [(rndR false rl rs rb rlv d)] := sep_ro ⟨rfl, hR, trivial⟩
 refine c_seq ?_
 refine c_region ?_
 refine stw hA0 (op_box hS0 rfl (hA0.ev rfl) (cs := [rl, rs, (Value.int .i64 d.spread), rb]) rfl) rfl rfl (by decide) ?_
 rintro a1 _ w3 ⟨b4, rfl, hS5⟩ hA2; clear hA0 hS0 a0
 refine st hA2 (op_assign rfl (evc _ _)) rfl rfl (by decide) fun a6 hA7 => ?_; clear hA2 a1
 refine wl_nil ?_
 refine then_n ?_
 refine c_seq ?_
 refine c_seq ?_
 refine c_region ?_
 refine st hA7 (op_loadA rfl ty_26 (hA7.ev rfl) (hS5.bk 0 rfl) (l := [rl, rs, (Value.int .i64 d.spread), rb]) rfl rfl) rfl rfl (by decide) fun a8 hA9 => ?_; clear hA7 a6
 refine stw hA9 (op_call rfl en_35 (ev1 (hA9.ev rfl)) (ready_ok rl rs rb rlv d _ (rnd_at (hS5.ok 1 _ rfl)))) rfl rfl (by decide) ?_
 rintro a10 _ w12 ⟨rfl, hE13⟩ hA11; have hS14 := hS5.step hE13; clear hE13 hA9 hS5 a8
 rw [hf] at hA11
 refine st hA11 (op_not rfl (hA11.ev rfl)) rfl rfl (by decide) fun a15 hA16 => ?_; clear hA11 a10
 refine st hA16 (op_move rfl (hA16.ev rfl)) rfl rfl (by decide) fun a17 hA18 => ?_; clear hA16 a15
 refine skp hA18 rfl rfl rfl rfl rfl (by decide) fun a19 hA20 => ?_; clear hA18 a17
 refine skp hA20 rfl rfl rfl rfl rfl (by decide) fun a21 hA22 => ?_; clear hA20 a19
 refine skp hA22 rfl rfl rfl rfl rfl (by decide) fun a23 hA24 => ?_; clear hA22 a21
 refine skp hA24 rfl rfl rfl rfl rfl (by decide) fun a25 hA26 => ?_; clear hA24 a23
 refine st hA26 (op_pick_t rfl (hA26.ev rfl) (evc _ _)) rfl rfl (by decide) fun a27 hA28 => ?_; clear hA26 a25
 refine st hA28 (op_move rfl (hA28.ev rfl)) rfl rfl (by decide) fun a29 hA30 => ?_; clear hA28 a27
 refine skp hA30 rfl rfl rfl rfl rfl (by decide) fun a31 hA32 => ?_; clear hA30 a29
 refine skp hA32 rfl rfl rfl rfl rfl (by decide) fun a33 hA34 => ?_; clear hA32 a31
 refine skp hA34 rfl rfl rfl rfl rfl (by decide) fun a35 hA36 => ?_; clear hA34 a33
 refine skp hA36 rfl rfl rfl rfl rfl (by decide) fun a37 hA38 => ?_; clear hA36 a35
 refine st hA38 (op_pick_t rfl (hA38.ev rfl) (evc _ _)) rfl rfl (by decide) fun a39 hA40 => ?_; clear hA38 a37
 refine wl_nil ?_
 refine then_n ?_
 refine c_true hA40 rfl ?_
 refine c_seq ?_
 have hA41 := hA40.as [] rfl; clear hA40
 refine c_region ?_
 refine stw hA41 (op_call rfl en_18 ev0 (wakes_ok _)) rfl rfl (by decide) ?_
 rintro a42 _ w44 ⟨rfl, hE45⟩ hA43; have hS46 := hS14.step hE45; clear hE45 hA41 hS14 a39
 refine st hA43 (op_assign rfl (hA43.ev rfl)) rfl rfl (by decide) fun a47 hA48 => ?_; clear hA43 a42
 refine wl_nil ?_
 refine then_n ?_
 refine c_ret ?_
 refine then_ret ?_
 refine fin_run hA48 (.inl rfl) (run_results1 hA48 rfl (.tmp rfl)) ?_
 exact ⟨rfl, hS46.ext⟩

set_option maxHeartbeats 4000000 in
theorem RoundEnds_b (rl rs rb : Value) (rlv : List Value) (d : RD) (w : World) (hR : RoundAt w rl rs rb rlv d) (x : Nat) (hxb : x < 256) (y : Nat) (hyb : y < 256) (m : Int) (hm : 0 ≤ m ∧ m ≤ 65535) (hf : readyB d = true) (h5 : 5 < d.tols.length) :
  Calls Try.prog 8 #[(Value.agg #[rl, rs, (Value.int .i64 d.spread), rb]), (Value.int .u8 (x : Int)), (Value.int .u8 (y : Int)), (Value.int .u16 m)] w (Ret fun v w' => v = .bool true ∧ Ext NoB w w') := by
 refine calls_enter Try.func8 rfl fun a0 hA0 => ?_
 replace hA0 : Fr 157 [] [(0, (Value.agg #[rl, rs, (Value.int .i64 d.spread), rb])), (1, (Value.int .u8 (x : Int))), (2, (Value.int .u8 (y : Int))), (3, (Value.int .u16 m))] a0 := hA0
 have hth := thin_of (ready_of hf).1; have hc := (ready_of hf).2; have hV := valid_of hc; have hnb := hV.nb; have hns := hV.ns; have hnl := hV.nl; have hsp := hV.spread
 have hS0 : Sep NoB w w [(rndR false rl rs rb rlv d)] := sep_ro ⟨rfl, hR, trivial⟩
 refine c_seq ?_
 refine c_region ?_
 refine stw hA0 (op_box hS0 rfl (hA0.ev rfl) (cs := [rl, rs, (Value.int .i64 d.spread), rb]) rfl) rfl rfl (by decide) ?_
 rintro a1 _ w3 ⟨b4, rfl, hS5⟩ hA2; clear hA0 hS0 a0
 refine st hA2 (op_assign rfl (evc _ _)) rfl rfl (by decide) fun a6 hA7 => ?_; clear hA2 a1
 refine wl_nil ?_
 refine then_n ?_
 refine c_seq ?_
 refine c_seq ?_
 refine c_region ?_
 refine st hA7 (op_loadA rfl ty_26 (hA7.ev rfl) (hS5.bk 0 rfl) (l := [rl, rs, (Value.int .i64 d.spread), rb]) rfl rfl) rfl rfl (by decide) fun a8 hA9 => ?_; clear hA7 a6
 refine stw hA9 (op_call rfl en_35 (ev1 (hA9.ev rfl)) (ready_ok rl rs rb rlv d _ (rnd_at (hS5.ok 1 _ rfl)))) rfl rfl (by decide) ?_
 rintro a10 _ w12 ⟨rfl, hE13⟩ hA11; have hS14 := hS5.step hE13; clear hE13 hA9 hS5 a8
 rw [hf] at hA11
 refine st hA11 (op_not rfl (hA11.ev rfl)) rfl rfl (by decide) fun a15 hA16 => ?_; clear hA11 a10
 refine st hA16 (op_move rfl (hA16.ev rfl)) rfl rfl (by decide) fun a17 hA18 => ?_; clear hA16 a15
 refine stg hA18 (op_field rfl fd_26_3 (hA18.ev rfl)) rfl rfl rfl rfl (by decide) fun a19 hA20 => ?_; clear hA18 a17
 refine stg hA20 (op_load1 rfl ty_24 (hA20.ev rfl) (hS14.bk 0 rfl) rfl) rfl rfl rfl rfl (by decide) fun a21 hA22 => ?_; clear hA20 a19
 refine stg hA22 (op_lenS rfl un_24 (hA22.ev rfl) (rnd_at (hS14.ok 1 _ rfl)).labs) rfl rfl rfl rfl (by decide) fun a23 hA24 => ?_; clear hA22 a21
 refine stg hA24 (op_gtr rfl (hA24.ev rfl) (evc _ _)) rfl rfl rfl rfl (by decide) fun a25 hA26 => ?_; clear hA24 a23
 have hd27 : 5 < (d.tols.length : Int) := (by omega)
 rw [decide_eq_true hd27] at hA26
 refine st hA26 (op_pick_f rfl (hA26.ev rfl) (hA26.ev rfl)) rfl rfl (by decide) fun a28 hA29 => ?_; clear hA26 a25
 refine st hA29 (op_move rfl (hA29.ev rfl)) rfl rfl (by decide) fun a30 hA31 => ?_; clear hA29 a28
 refine skp hA31 rfl rfl rfl rfl rfl (by decide) fun a32 hA33 => ?_; clear hA31 a30
 refine skp hA33 rfl rfl rfl rfl rfl (by decide) fun a34 hA35 => ?_; clear hA33 a32
 refine skp hA35 rfl rfl rfl rfl rfl (by decide) fun a36 hA37 => ?_; clear hA35 a34
 refine skp hA37 rfl rfl rfl rfl rfl (by decide) fun a38 hA39 => ?_; clear hA37 a36
 refine st hA39 (op_pick_t rfl (hA39.ev rfl) (evc _ _)) rfl rfl (by decide) fun a40 hA41 => ?_; clear hA39 a38
 refine wl_nil ?_
 refine then_n ?_
 refine c_true hA41 rfl ?_
 refine c_seq ?_
 have hA42 := hA41.as [] rfl; clear hA41
 refine c_region ?_
 refine stw hA42 (op_call rfl en_18 ev0 (wakes_ok _)) rfl rfl (by decide) ?_
 rintro a43 _ w45 ⟨rfl, hE46⟩ hA44; have hS47 := hS14.step hE46; clear hE46 hA42 hS14 a40
 refine st hA44 (op_assign rfl (hA44.ev rfl)) rfl rfl (by decide) fun a48 hA49 => ?_; clear hA44 a43
 refine wl_nil ?_
 refine then_n ?_
 refine c_ret ?_
 refine then_ret ?_
 refine fin_run hA49 (.inl rfl) (run_results1 hA49 rfl (.tmp rfl)) ?_
 exact ⟨rfl, hS47.ext⟩

set_option maxHeartbeats 4000000 in
theorem RoundEnds_c (rl rs rb : Value) (rlv : List Value) (d : RD) (w : World) (hR : RoundAt w rl rs rb rlv d) (x : Nat) (hxb : x < 256) (y : Nat) (hyb : y < 256) (m : Int) (hm : 0 ≤ m ∧ m ≤ 65535) (hf : readyB d = true) (h5 : d.tols.length ≤ 5) (h0 : d.samples.length = 0) :
  Calls Try.prog 8 #[(Value.agg #[rl, rs, (Value.int .i64 d.spread), rb]), (Value.int .u8 (x : Int)), (Value.int .u8 (y : Int)), (Value.int .u16 m)] w (Ret fun v w' => v = .bool true ∧ Ext NoB w w') := by
 refine calls_enter Try.func8 rfl fun a0 hA0 => ?_
 replace hA0 : Fr 157 [] [(0, (Value.agg #[rl, rs, (Value.int .i64 d.spread), rb])), (1, (Value.int .u8 (x : Int))), (2, (Value.int .u8 (y : Int))), (3, (Value.int .u16 m))] a0 := hA0
 have hth := thin_of (ready_of hf).1; have hc := (ready_of hf).2; have hV := valid_of hc; have hnb := hV.nb; have hns := hV.ns; have hnl := hV.nl; have hsp := hV.spread
 have hS0 : Sep NoB w w [(rndR false rl rs rb rlv d)] := sep_ro ⟨rfl, hR, trivial⟩
 refine c_seq ?_
 refine c_region ?_
 refine stw hA0 (op_box hS0 rfl (hA0.ev rfl) (cs := [rl, rs, (Value.int .i64 d.spread), rb]) rfl) rfl rfl (by decide) ?_
 rintro a1 _ w3 ⟨b4, rfl, hS5⟩ hA2; clear hA0 hS0 a0
 refine st hA2 (op_assign rfl (evc _ _)) rfl rfl (by decide) fun a6 hA7 => ?_; clear hA2 a1
 refine wl_nil ?_
 refine then_n ?_
 refine c_seq ?_
 refine c_seq ?_
 refine c_region ?_
 refine st hA7 (op_loadA rfl ty_26 (hA7.ev rfl) (hS5.bk 0 rfl) (l := [rl, rs, (Value.int .i64 d.spread), rb]) rfl rfl) rfl rfl (by decide) fun a8 hA9 => ?_; clear hA7 a6
 refine stw hA9 (op_call rfl en_35 (ev1 (hA9.ev rfl)) (ready_ok rl rs rb rlv d _ (rnd_at (hS5.ok 1 _ rfl)))) rfl rfl (by decide) ?_
 rintro a10 _ w12 ⟨rfl, hE13⟩ hA11; have hS14 := hS5.step hE13; clear hE13 hA9 hS5 a8
 rw [hf] at hA11
 refine st hA11 (op_not rfl (hA11.ev rfl)) rfl rfl (by decide) fun a15 hA16 => ?_; clear hA11 a10
 refine st hA16 (op_move rfl (hA16.ev rfl)) rfl rfl (by decide) fun a17 hA18 => ?_; clear hA16 a15
 refine stg hA18 (op_field rfl fd_26_3 (hA18.ev rfl)) rfl rfl rfl rfl (by decide) fun a19 hA20 => ?_; clear hA18 a17
 refine stg hA20 (op_load1 rfl ty_24 (hA20.ev rfl) (hS14.bk 0 rfl) rfl) rfl rfl rfl rfl (by decide) fun a21 hA22 => ?_; clear hA20 a19
 refine stg hA22 (op_lenS rfl un_24 (hA22.ev rfl) (rnd_at (hS14.ok 1 _ rfl)).labs) rfl rfl rfl rfl (by decide) fun a23 hA24 => ?_; clear hA22 a21
 refine stg hA24 (op_gtr rfl (hA24.ev rfl) (evc _ _)) rfl rfl rfl rfl (by decide) fun a25 hA26 => ?_; clear hA24 a23
 have hd27 : ¬ (5 < (d.tols.length : Int)) := (by omega)
 rw [decide_eq_false hd27] at hA26
 refine st hA26 (op_pick_f rfl (hA26.ev rfl) (hA26.ev rfl)) rfl rfl (by decide) fun a28 hA29 => ?_; clear hA26 a25
 refine st hA29 (op_move rfl (hA29.ev rfl)) rfl rfl (by decide) fun a30 hA31 => ?_; clear hA29 a28
 refine stg hA31 (op_field rfl fd_26_1 (hA31.ev rfl)) rfl rfl rfl rfl (by decide) fun a32 hA33 => ?_; clear hA31 a30
 refine stg hA33 (op_load1 rfl ty_23 (hA33.ev rfl) (hS14.bk 0 rfl) rfl) rfl rfl rfl rfl (by decide) fun a34 hA35 => ?_; clear hA33 a32
 refine stg hA35 (op_lenS rfl un_23 (hA35.ev rfl) (rnd_at (hS14.ok 1 _ rfl)).samples) rfl rfl rfl rfl (by decide) fun a36 hA37 => ?_; clear hA35 a34
 refine stg hA37 (op_eql rfl (hA37.ev rfl) (evc _ _)) rfl rfl rfl rfl (by decide) fun a38 hA39 => ?_; clear hA37 a36
 have hd40 : (d.samples.length : Int) = 0 := (by omega)
 rw [decide_eq_true hd40] at hA39
 refine st hA39 (op_pick_f rfl (hA39.ev rfl) (hA39.ev rfl)) rfl rfl (by decide) fun a41 hA42 => ?_; clear hA39 a38
 refine wl_nil ?_
 refine then_n ?_
 refine c_true hA42 rfl ?_
 refine c_seq ?_
 have hA43 := hA42.as [] rfl; clear hA42
 refine c_region ?_
 refine stw hA43 (op_call rfl en_18 ev0 (wakes_ok _)) rfl rfl (by decide) ?_
 rintro a44 _ w46 ⟨rfl, hE47⟩ hA45; have hS48 := hS14.step hE47; clear hE47 hA43 hS14 a41
 refine st hA45 (op_assign rfl (hA45.ev rfl)) rfl rfl (by decide) fun a49 hA50 => ?_; clear hA45 a44
 refine wl_nil ?_
 refine then_n ?_
 refine c_ret ?_
 refine then_ret ?_
 refine fin_run hA50 (.inl rfl) (run_results1 hA50 rfl (.tmp rfl)) ?_
 exact ⟨rfl, hS48.ext⟩

set_option maxHeartbeats 4000000 in
theorem RoundEnds_d (rl rs rb : Value) (rlv : List Value) (d : RD) (w : World) (hR : RoundAt w rl rs rb rlv d) (x : Nat) (hxb : x < 256) (y : Nat) (hyb : y < 256) (m : Int) (hm : 0 ≤ m ∧ m ≤ 65535) (hf : readyB d = true) (h5 : d.tols.length ≤ 5) (h0 : 0 < d.samples.length) (hs1 : spansR d (chosenF d.tols.length x) = ([], 9)) :
  Calls Try.prog 8 #[(Value.agg #[rl, rs, (Value.int .i64 d.spread), rb]), (Value.int .u8 (x : Int)), (Value.int .u8 (y : Int)), (Value.int .u16 m)] w (Ret fun v w' => v = .bool true ∧ Ext NoB w w') := by
 refine calls_enter Try.func8 rfl fun a0 hA0 => ?_
 replace hA0 : Fr 157 [] [(0, (Value.agg #[rl, rs, (Value.int .i64 d.spread), rb])), (1, (Value.int .u8 (x : Int))), (2, (Value.int .u8 (y : Int))), (3, (Value.int .u16 m))] a0 := hA0
 have hth := thin_of (ready_of hf).1; have hc := (ready_of hf).2; have hV := valid_of hc; have hnb := hV.nb; have hns := hV.ns; have hnl := hV.nl; have hsp := hV.spread; have hkb := tmod_nn (a := (y : Int)) (by omega) (show (0 : Int) < (d.samples.length : Int) by omega)
 have hS0 : Sep NoB w w [(rndR false rl rs rb rlv d)] := sep_ro ⟨rfl, hR, trivial⟩
 refine c_seq ?_
 refine c_region ?_
 refine stw hA0 (op_box hS0 rfl (hA0.ev rfl) (cs := [rl, rs, (Value.int .i64 d.spread), rb]) rfl) rfl rfl (by decide) ?_
 rintro a1 _ w3 ⟨b4, rfl, hS5⟩ hA2; clear hA0 hS0 a0
 refine st hA2 (op_assign rfl (evc _ _)) rfl rfl (by decide) fun a6 hA7 => ?_; clear hA2 a1
 refine wl_nil ?_
 refine then_n ?_
 refine c_seq ?_
 refine c_seq ?_
 refine c_region ?_
 refine st hA7 (op_loadA rfl ty_26 (hA7.ev rfl) (hS5.bk 0 rfl) (l := [rl, rs, (Value.int .i64 d.spread), rb]) rfl rfl) rfl rfl (by decide) fun a8 hA9 => ?_; clear hA7 a6
 refine stw hA9 (op_call rfl en_35 (ev1 (hA9.ev rfl)) (ready_ok rl rs rb rlv d _ (rnd_at (hS5.ok 1 _ rfl)))) rfl rfl (by decide) ?_
 rintro a10 _ w12 ⟨rfl, hE13⟩ hA11; have hS14 := hS5.step hE13; clear hE13 hA9 hS5 a8
 rw [hf] at hA11
 refine st hA11 (op_not rfl (hA11.ev rfl)) rfl rfl (by decide) fun a15 hA16 => ?_; clear hA11 a10
 refine st hA16 (op_move rfl (hA16.ev rfl)) rfl rfl (by decide) fun a17 hA18 => ?_; clear hA16 a15
 refine stg hA18 (op_field rfl fd_26_3 (hA18.ev rfl)) rfl rfl rfl rfl (by decide) fun a19 hA20 => ?_; clear hA18 a17
 refine stg hA20 (op_load1 rfl ty_24 (hA20.ev rfl) (hS14.bk 0 rfl) rfl) rfl rfl rfl rfl (by decide) fun a21 hA22 => ?_; clear hA20 a19
 refine stg hA22 (op_lenS rfl un_24 (hA22.ev rfl) (rnd_at (hS14.ok 1 _ rfl)).labs) rfl rfl rfl rfl (by decide) fun a23 hA24 => ?_; clear hA22 a21
 refine stg hA24 (op_gtr rfl (hA24.ev rfl) (evc _ _)) rfl rfl rfl rfl (by decide) fun a25 hA26 => ?_; clear hA24 a23
 have hd27 : ¬ (5 < (d.tols.length : Int)) := (by omega)
 rw [decide_eq_false hd27] at hA26
 refine st hA26 (op_pick_f rfl (hA26.ev rfl) (hA26.ev rfl)) rfl rfl (by decide) fun a28 hA29 => ?_; clear hA26 a25
 refine st hA29 (op_move rfl (hA29.ev rfl)) rfl rfl (by decide) fun a30 hA31 => ?_; clear hA29 a28
 refine stg hA31 (op_field rfl fd_26_1 (hA31.ev rfl)) rfl rfl rfl rfl (by decide) fun a32 hA33 => ?_; clear hA31 a30
 refine stg hA33 (op_load1 rfl ty_23 (hA33.ev rfl) (hS14.bk 0 rfl) rfl) rfl rfl rfl rfl (by decide) fun a34 hA35 => ?_; clear hA33 a32
 refine stg hA35 (op_lenS rfl un_23 (hA35.ev rfl) (rnd_at (hS14.ok 1 _ rfl)).samples) rfl rfl rfl rfl (by decide) fun a36 hA37 => ?_; clear hA35 a34
 refine stg hA37 (op_eql rfl (hA37.ev rfl) (evc _ _)) rfl rfl rfl rfl (by decide) fun a38 hA39 => ?_; clear hA37 a36
 have hd40 : ¬ ((d.samples.length : Int) = 0) := (by omega)
 rw [decide_eq_false hd40] at hA39
 refine st hA39 (op_pick_f rfl (hA39.ev rfl) (hA39.ev rfl)) rfl rfl (by decide) fun a41 hA42 => ?_; clear hA39 a38
 refine wl_nil ?_
 refine then_n ?_
 refine c_false hA42 rfl ?_
 refine c_skip ?_
 refine then_n ?_
 refine c_seq ?_
 have hA43 := hA42.as [(4, (bptr b4 0)), (1, (Value.int .u8 (x : Int))), (2, (Value.int .u8 (y : Int))), (3, (Value.int .u16 m))] rfl; clear hA42
 have hA44 := hA43.as [(4, (bptr b4 0)), (1, (Value.int .u8 (x : Int))), (2, (Value.int .u8 (y : Int))), (3, (Value.int .u16 m))] rfl; clear hA43
 refine c_drawV mixed hA44 hS14 10 [[], [], [0, 1], [], [3], [], [5], [6], [4, 7], [2]] [(fun (vs45 : Nat → Value) (v_ : Value) (rs_ : List Res) => v_ = (Value.agg #[rl, rs, (Value.int .i64 d.spread), rb]) ∧ rs_ = []), (fun (vs45 : Nat → Value) (v_ : Value) (rs_ : List Res) => v_ = (Value.int .u8 (x : Int)) ∧ rs_ = []), (fun (vs45 : Nat → Value) (v_ : Value) (rs_ : List Res) => True ∧ rs_ = [(row v_ 3 1 ((chosenF d.tols.length x).length) (ints (chosenF d.tols.length x)))]), (fun (vs45 : Nat → Value) (v_ : Value) (rs_ : List Res) => v_ = (Value.int .u8 (y : Int)) ∧ rs_ = []), (fun (vs45 : Nat → Value) (v_ : Value) (rs_ : List Res) => v_ = (Value.int .i64 (y : Int)) ∧ rs_ = []), (fun (vs45 : Nat → Value) (v_ : Value) (rs_ : List Res) => v_ = (bptr b4 1) ∧ rs_ = []), (fun (vs45 : Nat → Value) (v_ : Value) (rs_ : List Res) => v_ = rs ∧ rs_ = []), (fun (vs45 : Nat → Value) (v_ : Value) (rs_ : List Res) => v_ = (Value.int .i64 (d.samples.length : Int)) ∧ rs_ = []), (fun (vs45 : Nat → Value) (v_ : Value) (rs_ : List Res) => v_ = (Value.int .i64 (((y : Int)).tmod (d.samples.length : Int))) ∧ rs_ = []), (fun (vs45 : Nat → Value) (v_ : Value) (rs_ : List Res) => v_ = (vs45 2) ∧ rs_ = [])] (by decide +kernel) (by decide +kernel) rfl rfl ⟨(fun _ _ _ _ _ h_ => h_), (fun _ _ _ _ _ h_ => h_), (fun _ _ _ _ _ h_ => h_), (fun _ _ _ _ _ h_ => h_), (fun _ _ _ _ _ h_ => h_), (fun _ _ _ _ _ h_ => h_), (fun _ _ _ _ _ h_ => h_), (fun _ _ _ _ _ h_ => h_), (fun _ _ _ _ _ h_ => h_), (fun _ _ _ _ he_ h_ => by dsimp only at h_ ⊢; rw [← he_ 2 (by decide)]; exact h_), trivial⟩ ?_ ?_
 ·skip
  refine ⟨fun a w vs45 hA hS hd => ?_, ?_⟩
  ·skip
   exact opG_of rfl (vv (op_loadA rfl ty_26 (hA.ev rfl) (hS.bk 0 rfl) (l := [rl, rs, (Value.int .i64 d.spread), rb]) rfl rfl) (And.intro rfl rfl))
  refine ⟨fun a w vs45 hA hS hd => ?_, ?_⟩
  ·skip
   exact opG_of rfl (vv (op_move rfl (hA.ev rfl)) (And.intro rfl rfl))
  refine ⟨fun a w vs45 hA hS hd => ?_, ?_⟩
  ·skip
   obtain ⟨e0, rs0, hy0, hp0⟩ := hd 0 (by decide)
   obtain ⟨hv0, hr0⟩ := hy0; subst hr0
   rw [hv0] at e0
   obtain ⟨e1, rs1, hy1, hp1⟩ := hd 1 (by decide)
   obtain ⟨hv1, hr1⟩ := hy1; subst hr1
   rw [hv1] at e1
   exact opG_of rfl (vn (op_call rfl en_36 (ev2 (tmp_ev (slot_ev e0 rfl)) (tmp_ev (slot_ev e1 rfl))) (chosen_ok rl rs rb rlv d _ (rnd_at (hS.ok 1 _ rfl)) x (by omega))) (fun v w' h => ⟨_, And.intro trivial rfl, (Sep.start NoB _).new_row h.1 h.2, rfl⟩))
  refine ⟨fun a w vs45 hA hS hd => ?_, ?_⟩
  ·skip
   exact opG_of rfl (vv (op_move rfl (hA.ev rfl)) (And.intro rfl rfl))
  refine ⟨fun a w vs45 hA hS hd => ?_, ?_⟩
  ·skip
   obtain ⟨e3, rs3, hy3, hp3⟩ := hd 3 (by decide)
   obtain ⟨hv3, hr3⟩ := hy3; subst hr3
   rw [hv3] at e3
   exact opG_of rfl (vv (op_conv un_5 un_3 rfl (tmp_ev (slot_ev e3 rfl)) (v := (y : Int)) (wrap_i64 (by omega) (by omega))) (And.intro rfl rfl))
  refine ⟨fun a w vs45 hA hS hd => ?_, ?_⟩
  ·skip
   exact opG_of rfl (vv (op_field rfl fd_26_1 (hA.ev rfl)) (And.intro rfl rfl))
  refine ⟨fun a w vs45 hA hS hd => ?_, ?_⟩
  ·skip
   obtain ⟨e5, rs5, hy5, hp5⟩ := hd 5 (by decide)
   obtain ⟨hv5, hr5⟩ := hy5; subst hr5
   rw [hv5] at e5
   exact opG_of rfl (vv (op_load1 rfl ty_23 (tmp_ev (slot_ev e5 rfl)) (hS.bk 0 rfl) rfl) (And.intro rfl rfl))
  refine ⟨fun a w vs45 hA hS hd => ?_, ?_⟩
  ·skip
   obtain ⟨e6, rs6, hy6, hp6⟩ := hd 6 (by decide)
   obtain ⟨hv6, hr6⟩ := hy6; subst hr6
   rw [hv6] at e6
   exact opG_of rfl (vv (op_lenS rfl un_23 (tmp_ev (slot_ev e6 rfl)) (rnd_at (hS.ok 1 _ rfl)).samples) (And.intro rfl rfl))
  refine ⟨fun a w vs45 hA hS hd => ?_, ?_⟩
  ·skip
   obtain ⟨e4, rs4, hy4, hp4⟩ := hd 4 (by decide)
   obtain ⟨hv4, hr4⟩ := hy4; subst hr4
   rw [hv4] at e4
   obtain ⟨e7, rs7, hy7, hp7⟩ := hd 7 (by decide)
   obtain ⟨hv7, hr7⟩ := hy7; subst hr7
   rw [hv7] at e7
   exact opG_of rfl (vv (op_rem rfl (tmp_ev (slot_ev e4 rfl)) (tmp_ev (slot_ev e7 rfl)) (by omega)) (And.intro rfl rfl))
  refine ⟨fun a w vs45 hA hS hd => ?_, ?_⟩
  ·skip
   obtain ⟨e2, rs2, hy2, hp2⟩ := hd 2 (by decide)
   obtain ⟨hv2, hr2⟩ := hy2; subst hr2
   have hp2_0 := hp2 _ (List.mem_of_getElem? (i := 0) rfl)
   exact opG_of rfl (vv (op_assign rfl (tmp_ev (slot_ev e2 rfl))) (And.intro rfl rfl))
  trivial
 intro a46 w47 vs45 rsf51 hA48 hH50 hS49; clear hA44 hS14
 obtain ⟨hs_0, hy_0⟩ := hH50 0 (by decide)
 obtain ⟨hv_0, hr_0⟩ := hy_0
 obtain ⟨hs_1, hy_1⟩ := hH50 1 (by decide)
 obtain ⟨hv_1, hr_1⟩ := hy_1
 obtain ⟨hs_2, hy_2⟩ := hH50 2 (by decide)
 obtain ⟨hv_2, hr_2⟩ := hy_2
 obtain ⟨hs_3, hy_3⟩ := hH50 3 (by decide)
 obtain ⟨hv_3, hr_3⟩ := hy_3
 obtain ⟨hs_4, hy_4⟩ := hH50 4 (by decide)
 obtain ⟨hv_4, hr_4⟩ := hy_4
 obtain ⟨hs_5, hy_5⟩ := hH50 5 (by decide)
 obtain ⟨hv_5, hr_5⟩ := hy_5
 obtain ⟨hs_6, hy_6⟩ := hH50 6 (by decide)
 obtain ⟨hv_6, hr_6⟩ := hy_6
 obtain ⟨hs_7, hy_7⟩ := hH50 7 (by decide)
 obtain ⟨hv_7, hr_7⟩ := hy_7
 obtain ⟨hs_8, hy_8⟩ := hH50 8 (by decide)
 obtain ⟨hv_8, hr_8⟩ := hy_8
 obtain ⟨hs_9, hy_9⟩ := hH50 9 (by decide)
 obtain ⟨hv_9, hr_9⟩ := hy_9
 have hS52 : Sep NoB w w47 [(row (vs45 2) 3 1 ((chosenF d.tols.length x).length) (ints (chosenF d.tols.length x))), (blk b4 26 [rl, rs, (Value.int .i64 d.spread), rb]), (rndR false rl rs rb rlv d)] := by rw [show catR rsf51 0 10 = ([(row (vs45 2) 3 1 ((chosenF d.tols.length x).length) (ints (chosenF d.tols.length x)))] : List Res) by (try simp only [catR, hr_0, hr_1, hr_2, hr_3, hr_4, hr_5, hr_6, hr_7, hr_8, hr_9]); (try rfl)] at hS49; exact hS49
 rw [hv_8] at hs_8
 have hA53 : Fr 157 [] [(45, (Value.int .i64 (((y : Int)).tmod (d.samples.length : Int)))), (4, (bptr b4 0)), (1, (Value.int .u8 (x : Int))), (2, (Value.int .u8 (y : Int))), (3, (Value.int .u16 m))] a46 := hA48.add (slot_ev hs_8 rfl); clear hA48
 rw [hv_9] at hs_9
 have hA54 : Fr 157 [] [(9, (vs45 2)), (45, (Value.int .i64 (((y : Int)).tmod (d.samples.length : Int)))), (4, (bptr b4 0)), (1, (Value.int .u8 (x : Int))), (2, (Value.int .u8 (y : Int))), (3, (Value.int .u16 m))] a46 := hA53.add (slot_ev hs_9 rfl); clear hA53
 clear hH50 hS49 hs_0 hs_1 hs_2 hs_3 hs_4 hs_5 hs_6 hs_7 hs_8 hs_9
 clear hr_0
 clear hv_0
 clear hr_1
 clear hv_1
 clear hr_2
 clear hv_2
 clear hr_3
 clear hv_3
 clear hr_4
 clear hv_4
 clear hr_5
 clear hv_5
 clear hr_6
 clear hv_6
 clear hr_7
 clear hv_7
 clear hr_8
 clear hv_8
 clear hr_9
 clear hv_9
 refine st hA54 (op_assign rfl (hA54.ev rfl)) rfl rfl (by decide) fun a55 hA56 => ?_; clear hA54 a46
 refine wl_nil ?_
 refine then_n ?_
 refine c_seq ?_
 refine c_region ?_
 refine st hA56 (op_loadA rfl ty_26 (hA56.ev rfl) (hS52.bk 1 rfl) (l := [rl, rs, (Value.int .i64 d.spread), rb]) rfl rfl) rfl rfl (by decide) fun a57 hA58 => ?_; clear hA56 a55
 refine stw hA58 (op_call rfl en_20 (ev1 (hA58.ev rfl)) (Round_ok rl rs rb rlv d _ (rnd_at (hS52.ok 2 _ rfl)) hth)) rfl rfl (by decide) ?_
 rintro a59 _ w61 ⟨vl62, vs63, vb64, lv65, rfl, hT66⟩ hA60; have hS67 := hS52.callS hT66 rfl; clear hT66 hA58 hS52 a57
 refine st hA60 (op_move rfl (hA60.ev rfl)) rfl rfl (by decide) fun a68 hA69 => ?_; clear hA60 a59
 refine stw hA69 (op_call rfl en_22 (ev1 (hA69.ev rfl)) (list_ok (chosenF d.tols.length x) _ _ (SlAt.of_row (hS67.ok_row 1 rfl)) (Nat.le_trans (chosenF_len _ _) (by omega)))) rfl rfl (by decide) ?_
 rintro a70 v76 w72 ⟨hE73, hO74⟩ hA71; have hS75 := hS67.new_row hE73 hO74; clear hE73 hO74 hA69 hS67 a68
 refine stw hA71 (op_call rfl en_26 (ev2 (hA71.ev rfl) (hA71.ev rfl)) (by have h := (spansE_ok vl62 vs63 vb64 lv65 d _ (rnd_at (hS75.ok 1 _ rfl)) _ (chosenF d.tols.length x) (SlAt.of_row (hS75.ok_row 0 rfl)) (Nat.le_trans (chosenF_len _ _) (by omega))); rw [hs1] at h; exact h)) rfl rfl (by decide) ?_
 rintro a77 _ w79 ⟨u83, rfl, hE80, hO81⟩ hA78; clear hA71 a70
 have hS82 : Sep NoB w w79 [(row u83 46 2 ([].length) (pairs ([]))), (row v76 3 1 ((chosenF d.tols.length x).length) (ints (chosenF d.tols.length x))), (rndR true vl62 vs63 vb64 lv65 d), (row (vs45 2) 3 1 ((chosenF d.tols.length x).length) (ints (chosenF d.tols.length x))), (blk b4 26 [rl, rs, (Value.int .i64 d.spread), rb]), (rndR false rl rs rb rlv d)] := hS75.new_row hE80 hO81; clear hE80 hO81 hS75
 refine st hA78 (op_move rfl (hA78.ev rfl)) rfl rfl (by decide) fun a84 hA85 => ?_; clear hA78 a77
 refine st hA85 (op_extract rfl (hA85.ev rfl) rfl) rfl rfl (by decide) fun a86 hA87 => ?_; clear hA85 a84
 refine st hA87 (op_extract rfl (hA87.ev rfl) rfl) rfl rfl (by decide) fun a88 hA89 => ?_; clear hA87 a86
 refine st hA89 (op_assign rfl (hA89.ev rfl)) rfl rfl (by decide) fun a90 hA91 => ?_; clear hA89 a88
 refine st hA91 (op_assign rfl (hA91.ev rfl)) rfl rfl (by decide) fun a92 hA93 => ?_; clear hA91 a90
 refine wl_nil ?_
 refine then_n ?_
 refine c_seq ?_
 refine c_seq ?_
 have hA94 := hA93.as [(12, (Value.int .i64 9)), (11, u83), (10, (Value.int .i64 (((y : Int)).tmod (d.samples.length : Int)))), (9, (vs45 2)), (4, (bptr b4 0)), (3, (Value.int .u16 m))] rfl; clear hA93
 refine c_region ?_
 refine st hA94 (op_move rfl (hA94.ev rfl)) rfl rfl (by decide) fun a95 hA96 => ?_; clear hA94 a92
 refine st hA96 (op_neq rfl (hA96.ev rfl) (evc _ _)) rfl rfl (by decide) fun a97 hA98 => ?_; clear hA96 a95
 refine wl_nil ?_
 refine then_n ?_
 refine c_true hA98 rfl ?_
 refine c_seq ?_
 have hA99 := hA98.as [(12, (Value.int .i64 9))] rfl; clear hA98
 refine c_region ?_
 refine st hA99 (op_move rfl (hA99.ev rfl)) rfl rfl (by decide) fun a100 hA101 => ?_; clear hA99 a97
 refine st hA101 (op_eql rfl (hA101.ev rfl) (evc _ _)) rfl rfl (by decide) fun a102 hA103 => ?_; clear hA101 a100
 refine st hA103 (op_move rfl (hA103.ev rfl)) rfl rfl (by decide) fun a104 hA105 => ?_; clear hA103 a102
 refine stwg hA105 (op_call rfl en_18 ev0 (wakes_ok _)) rfl rfl rfl rfl (by decide) ?_
 rintro a106 _ w108 ⟨rfl, hE109⟩ hA107; have hS110 := hS82.step hE109; clear hE109 hA105 hS82 a104
 refine st hA107 (op_pick_t rfl (hA107.ev rfl) (hA107.ev rfl)) rfl rfl (by decide) fun a111 hA112 => ?_; clear hA107 a106
 refine st hA112 (op_assign rfl (hA112.ev rfl)) rfl rfl (by decide) fun a113 hA114 => ?_; clear hA112 a111
 refine wl_nil ?_
 refine then_n ?_
 refine c_ret ?_
 refine then_ret ?_
 refine fin_run hA114 (.inl rfl) (run_results1 hA114 rfl (.tmp rfl)) ?_
 exact ⟨rfl, hS110.ext⟩

set_option maxHeartbeats 4000000 in
theorem RoundEnds_e (rl rs rb : Value) (rlv : List Value) (d : RD) (w : World) (hR : RoundAt w rl rs rb rlv d) (x : Nat) (hxb : x < 256) (y : Nat) (hyb : y < 256) (m : Int) (hm : 0 ≤ m ∧ m ≤ 65535) (hf : readyB d = true) (h5 : d.tols.length ≤ 5) (h0 : 0 < d.samples.length) (S1 : List (Int × Int)) (hs1 : spansR d (chosenF d.tols.length x) = (S1, 0)) (hl1 : S1.length = d.samples.length) (hb : -100 ≤ (S1.getD (((y : Int)).tmod (d.samples.length : Int)).toNat (0, 0)).1 ∧ (S1.getD (((y : Int)).tmod (d.samples.length : Int)).toNat (0, 0)).2 ≤ 1100 ∧ (S1.getD (((y : Int)).tmod (d.samples.length : Int)).toNat (0, 0)).1 ≤ (S1.getD (((y : Int)).tmod (d.samples.length : Int)).toNat (0, 0)).2) (he : ∀ n, 0 ≤ n → n ≤ 1000 → explainsF (endsD d (((y : Int)).tmod (d.samples.length : Int)).toNat n) (chosenF d.tols.length x) = ((decide ((S1.getD (((y : Int)).tmod (d.samples.length : Int)).toNat (0, 0)).1 ≤ n) && decide (n ≤ (S1.getD (((y : Int)).tmod (d.samples.length : Int)).toNat (0, 0)).2)), 0)) :
  Calls Try.prog 8 #[(Value.agg #[rl, rs, (Value.int .i64 d.spread), rb]), (Value.int .u8 (x : Int)), (Value.int .u8 (y : Int)), (Value.int .u16 m)] w (Ret fun v w' => v = .bool true ∧ Ext NoB w w') := by
 refine calls_enter Try.func8 rfl fun a0 hA0 => ?_
 replace hA0 : Fr 157 [] [(0, (Value.agg #[rl, rs, (Value.int .i64 d.spread), rb])), (1, (Value.int .u8 (x : Int))), (2, (Value.int .u8 (y : Int))), (3, (Value.int .u16 m))] a0 := hA0
 have hth := thin_of (ready_of hf).1; have hc := (ready_of hf).2; have hV := valid_of hc; have hnb := hV.nb; have hns := hV.ns; have hnl := hV.nl; have hsp := hV.spread; have hkb := tmod_nn (a := (y : Int)) (by omega) (show (0 : Int) < (d.samples.length : Int) by omega); have hm2 := tmod_nn hm.1 (show (0 : Int) < 1001 by decide); have hrl8 := hR.rdl
 have hS0 : Sep NoB w w [(rndR false rl rs rb rlv d)] := sep_ro ⟨rfl, hR, trivial⟩
 refine c_seq ?_
 refine c_region ?_
 refine stw hA0 (op_box hS0 rfl (hA0.ev rfl) (cs := [rl, rs, (Value.int .i64 d.spread), rb]) rfl) rfl rfl (by decide) ?_
 rintro a1 _ w3 ⟨b4, rfl, hS5⟩ hA2; clear hA0 hS0 a0
 refine st hA2 (op_assign rfl (evc _ _)) rfl rfl (by decide) fun a6 hA7 => ?_; clear hA2 a1
 refine wl_nil ?_
 refine then_n ?_
 refine c_seq ?_
 refine c_seq ?_
 refine c_region ?_
 refine st hA7 (op_loadA rfl ty_26 (hA7.ev rfl) (hS5.bk 0 rfl) (l := [rl, rs, (Value.int .i64 d.spread), rb]) rfl rfl) rfl rfl (by decide) fun a8 hA9 => ?_; clear hA7 a6
 refine stw hA9 (op_call rfl en_35 (ev1 (hA9.ev rfl)) (ready_ok rl rs rb rlv d _ (rnd_at (hS5.ok 1 _ rfl)))) rfl rfl (by decide) ?_
 rintro a10 _ w12 ⟨rfl, hE13⟩ hA11; have hS14 := hS5.step hE13; clear hE13 hA9 hS5 a8
 rw [hf] at hA11
 refine st hA11 (op_not rfl (hA11.ev rfl)) rfl rfl (by decide) fun a15 hA16 => ?_; clear hA11 a10
 refine st hA16 (op_move rfl (hA16.ev rfl)) rfl rfl (by decide) fun a17 hA18 => ?_; clear hA16 a15
 refine stg hA18 (op_field rfl fd_26_3 (hA18.ev rfl)) rfl rfl rfl rfl (by decide) fun a19 hA20 => ?_; clear hA18 a17
 refine stg hA20 (op_load1 rfl ty_24 (hA20.ev rfl) (hS14.bk 0 rfl) rfl) rfl rfl rfl rfl (by decide) fun a21 hA22 => ?_; clear hA20 a19
 refine stg hA22 (op_lenS rfl un_24 (hA22.ev rfl) (rnd_at (hS14.ok 1 _ rfl)).labs) rfl rfl rfl rfl (by decide) fun a23 hA24 => ?_; clear hA22 a21
 refine stg hA24 (op_gtr rfl (hA24.ev rfl) (evc _ _)) rfl rfl rfl rfl (by decide) fun a25 hA26 => ?_; clear hA24 a23
 have hd27 : ¬ (5 < (d.tols.length : Int)) := (by omega)
 rw [decide_eq_false hd27] at hA26
 refine st hA26 (op_pick_f rfl (hA26.ev rfl) (hA26.ev rfl)) rfl rfl (by decide) fun a28 hA29 => ?_; clear hA26 a25
 refine st hA29 (op_move rfl (hA29.ev rfl)) rfl rfl (by decide) fun a30 hA31 => ?_; clear hA29 a28
 refine stg hA31 (op_field rfl fd_26_1 (hA31.ev rfl)) rfl rfl rfl rfl (by decide) fun a32 hA33 => ?_; clear hA31 a30
 refine stg hA33 (op_load1 rfl ty_23 (hA33.ev rfl) (hS14.bk 0 rfl) rfl) rfl rfl rfl rfl (by decide) fun a34 hA35 => ?_; clear hA33 a32
 refine stg hA35 (op_lenS rfl un_23 (hA35.ev rfl) (rnd_at (hS14.ok 1 _ rfl)).samples) rfl rfl rfl rfl (by decide) fun a36 hA37 => ?_; clear hA35 a34
 refine stg hA37 (op_eql rfl (hA37.ev rfl) (evc _ _)) rfl rfl rfl rfl (by decide) fun a38 hA39 => ?_; clear hA37 a36
 have hd40 : ¬ ((d.samples.length : Int) = 0) := (by omega)
 rw [decide_eq_false hd40] at hA39
 refine st hA39 (op_pick_f rfl (hA39.ev rfl) (hA39.ev rfl)) rfl rfl (by decide) fun a41 hA42 => ?_; clear hA39 a38
 refine wl_nil ?_
 refine then_n ?_
 refine c_false hA42 rfl ?_
 refine c_skip ?_
 refine then_n ?_
 refine c_seq ?_
 have hA43 := hA42.as [(4, (bptr b4 0)), (1, (Value.int .u8 (x : Int))), (2, (Value.int .u8 (y : Int))), (3, (Value.int .u16 m))] rfl; clear hA42
 have hA44 := hA43.as [(4, (bptr b4 0)), (1, (Value.int .u8 (x : Int))), (2, (Value.int .u8 (y : Int))), (3, (Value.int .u16 m))] rfl; clear hA43
 refine c_drawV mixed hA44 hS14 10 [[], [], [0, 1], [], [3], [], [5], [6], [4, 7], [2]] [(fun (vs45 : Nat → Value) (v_ : Value) (rs_ : List Res) => v_ = (Value.agg #[rl, rs, (Value.int .i64 d.spread), rb]) ∧ rs_ = []), (fun (vs45 : Nat → Value) (v_ : Value) (rs_ : List Res) => v_ = (Value.int .u8 (x : Int)) ∧ rs_ = []), (fun (vs45 : Nat → Value) (v_ : Value) (rs_ : List Res) => True ∧ rs_ = [(row v_ 3 1 ((chosenF d.tols.length x).length) (ints (chosenF d.tols.length x)))]), (fun (vs45 : Nat → Value) (v_ : Value) (rs_ : List Res) => v_ = (Value.int .u8 (y : Int)) ∧ rs_ = []), (fun (vs45 : Nat → Value) (v_ : Value) (rs_ : List Res) => v_ = (Value.int .i64 (y : Int)) ∧ rs_ = []), (fun (vs45 : Nat → Value) (v_ : Value) (rs_ : List Res) => v_ = (bptr b4 1) ∧ rs_ = []), (fun (vs45 : Nat → Value) (v_ : Value) (rs_ : List Res) => v_ = rs ∧ rs_ = []), (fun (vs45 : Nat → Value) (v_ : Value) (rs_ : List Res) => v_ = (Value.int .i64 (d.samples.length : Int)) ∧ rs_ = []), (fun (vs45 : Nat → Value) (v_ : Value) (rs_ : List Res) => v_ = (Value.int .i64 (((y : Int)).tmod (d.samples.length : Int))) ∧ rs_ = []), (fun (vs45 : Nat → Value) (v_ : Value) (rs_ : List Res) => v_ = (vs45 2) ∧ rs_ = [])] (by decide +kernel) (by decide +kernel) rfl rfl ⟨(fun _ _ _ _ _ h_ => h_), (fun _ _ _ _ _ h_ => h_), (fun _ _ _ _ _ h_ => h_), (fun _ _ _ _ _ h_ => h_), (fun _ _ _ _ _ h_ => h_), (fun _ _ _ _ _ h_ => h_), (fun _ _ _ _ _ h_ => h_), (fun _ _ _ _ _ h_ => h_), (fun _ _ _ _ _ h_ => h_), (fun _ _ _ _ he_ h_ => by dsimp only at h_ ⊢; rw [← he_ 2 (by decide)]; exact h_), trivial⟩ ?_ ?_
 ·skip
  refine ⟨fun a w vs45 hA hS hd => ?_, ?_⟩
  ·skip
   exact opG_of rfl (vv (op_loadA rfl ty_26 (hA.ev rfl) (hS.bk 0 rfl) (l := [rl, rs, (Value.int .i64 d.spread), rb]) rfl rfl) (And.intro rfl rfl))
  refine ⟨fun a w vs45 hA hS hd => ?_, ?_⟩
  ·skip
   exact opG_of rfl (vv (op_move rfl (hA.ev rfl)) (And.intro rfl rfl))
  refine ⟨fun a w vs45 hA hS hd => ?_, ?_⟩
  ·skip
   obtain ⟨e0, rs0, hy0, hp0⟩ := hd 0 (by decide)
   obtain ⟨hv0, hr0⟩ := hy0; subst hr0
   rw [hv0] at e0
   obtain ⟨e1, rs1, hy1, hp1⟩ := hd 1 (by decide)
   obtain ⟨hv1, hr1⟩ := hy1; subst hr1
   rw [hv1] at e1
   exact opG_of rfl (vn (op_call rfl en_36 (ev2 (tmp_ev (slot_ev e0 rfl)) (tmp_ev (slot_ev e1 rfl))) (chosen_ok rl rs rb rlv d _ (rnd_at (hS.ok 1 _ rfl)) x (by omega))) (fun v w' h => ⟨_, And.intro trivial rfl, (Sep.start NoB _).new_row h.1 h.2, rfl⟩))
  refine ⟨fun a w vs45 hA hS hd => ?_, ?_⟩
  ·skip
   exact opG_of rfl (vv (op_move rfl (hA.ev rfl)) (And.intro rfl rfl))
  refine ⟨fun a w vs45 hA hS hd => ?_, ?_⟩
  ·skip
   obtain ⟨e3, rs3, hy3, hp3⟩ := hd 3 (by decide)
   obtain ⟨hv3, hr3⟩ := hy3; subst hr3
   rw [hv3] at e3
   exact opG_of rfl (vv (op_conv un_5 un_3 rfl (tmp_ev (slot_ev e3 rfl)) (v := (y : Int)) (wrap_i64 (by omega) (by omega))) (And.intro rfl rfl))
  refine ⟨fun a w vs45 hA hS hd => ?_, ?_⟩
  ·skip
   exact opG_of rfl (vv (op_field rfl fd_26_1 (hA.ev rfl)) (And.intro rfl rfl))
  refine ⟨fun a w vs45 hA hS hd => ?_, ?_⟩
  ·skip
   obtain ⟨e5, rs5, hy5, hp5⟩ := hd 5 (by decide)
   obtain ⟨hv5, hr5⟩ := hy5; subst hr5
   rw [hv5] at e5
   exact opG_of rfl (vv (op_load1 rfl ty_23 (tmp_ev (slot_ev e5 rfl)) (hS.bk 0 rfl) rfl) (And.intro rfl rfl))
  refine ⟨fun a w vs45 hA hS hd => ?_, ?_⟩
  ·skip
   obtain ⟨e6, rs6, hy6, hp6⟩ := hd 6 (by decide)
   obtain ⟨hv6, hr6⟩ := hy6; subst hr6
   rw [hv6] at e6
   exact opG_of rfl (vv (op_lenS rfl un_23 (tmp_ev (slot_ev e6 rfl)) (rnd_at (hS.ok 1 _ rfl)).samples) (And.intro rfl rfl))
  refine ⟨fun a w vs45 hA hS hd => ?_, ?_⟩
  ·skip
   obtain ⟨e4, rs4, hy4, hp4⟩ := hd 4 (by decide)
   obtain ⟨hv4, hr4⟩ := hy4; subst hr4
   rw [hv4] at e4
   obtain ⟨e7, rs7, hy7, hp7⟩ := hd 7 (by decide)
   obtain ⟨hv7, hr7⟩ := hy7; subst hr7
   rw [hv7] at e7
   exact opG_of rfl (vv (op_rem rfl (tmp_ev (slot_ev e4 rfl)) (tmp_ev (slot_ev e7 rfl)) (by omega)) (And.intro rfl rfl))
  refine ⟨fun a w vs45 hA hS hd => ?_, ?_⟩
  ·skip
   obtain ⟨e2, rs2, hy2, hp2⟩ := hd 2 (by decide)
   obtain ⟨hv2, hr2⟩ := hy2; subst hr2
   have hp2_0 := hp2 _ (List.mem_of_getElem? (i := 0) rfl)
   exact opG_of rfl (vv (op_assign rfl (tmp_ev (slot_ev e2 rfl))) (And.intro rfl rfl))
  trivial
 intro a46 w47 vs45 rsf51 hA48 hH50 hS49; clear hA44 hS14
 obtain ⟨hs_0, hy_0⟩ := hH50 0 (by decide)
 obtain ⟨hv_0, hr_0⟩ := hy_0
 obtain ⟨hs_1, hy_1⟩ := hH50 1 (by decide)
 obtain ⟨hv_1, hr_1⟩ := hy_1
 obtain ⟨hs_2, hy_2⟩ := hH50 2 (by decide)
 obtain ⟨hv_2, hr_2⟩ := hy_2
 obtain ⟨hs_3, hy_3⟩ := hH50 3 (by decide)
 obtain ⟨hv_3, hr_3⟩ := hy_3
 obtain ⟨hs_4, hy_4⟩ := hH50 4 (by decide)
 obtain ⟨hv_4, hr_4⟩ := hy_4
 obtain ⟨hs_5, hy_5⟩ := hH50 5 (by decide)
 obtain ⟨hv_5, hr_5⟩ := hy_5
 obtain ⟨hs_6, hy_6⟩ := hH50 6 (by decide)
 obtain ⟨hv_6, hr_6⟩ := hy_6
 obtain ⟨hs_7, hy_7⟩ := hH50 7 (by decide)
 obtain ⟨hv_7, hr_7⟩ := hy_7
 obtain ⟨hs_8, hy_8⟩ := hH50 8 (by decide)
 obtain ⟨hv_8, hr_8⟩ := hy_8
 obtain ⟨hs_9, hy_9⟩ := hH50 9 (by decide)
 obtain ⟨hv_9, hr_9⟩ := hy_9
 have hS52 : Sep NoB w w47 [(row (vs45 2) 3 1 ((chosenF d.tols.length x).length) (ints (chosenF d.tols.length x))), (blk b4 26 [rl, rs, (Value.int .i64 d.spread), rb]), (rndR false rl rs rb rlv d)] := by rw [show catR rsf51 0 10 = ([(row (vs45 2) 3 1 ((chosenF d.tols.length x).length) (ints (chosenF d.tols.length x)))] : List Res) by (try simp only [catR, hr_0, hr_1, hr_2, hr_3, hr_4, hr_5, hr_6, hr_7, hr_8, hr_9]); (try rfl)] at hS49; exact hS49
 rw [hv_8] at hs_8
 have hA53 : Fr 157 [] [(45, (Value.int .i64 (((y : Int)).tmod (d.samples.length : Int)))), (4, (bptr b4 0)), (1, (Value.int .u8 (x : Int))), (2, (Value.int .u8 (y : Int))), (3, (Value.int .u16 m))] a46 := hA48.add (slot_ev hs_8 rfl); clear hA48
 rw [hv_9] at hs_9
 have hA54 : Fr 157 [] [(9, (vs45 2)), (45, (Value.int .i64 (((y : Int)).tmod (d.samples.length : Int)))), (4, (bptr b4 0)), (1, (Value.int .u8 (x : Int))), (2, (Value.int .u8 (y : Int))), (3, (Value.int .u16 m))] a46 := hA53.add (slot_ev hs_9 rfl); clear hA53
 clear hH50 hS49 hs_0 hs_1 hs_2 hs_3 hs_4 hs_5 hs_6 hs_7 hs_8 hs_9
 clear hr_0
 clear hv_0
 clear hr_1
 clear hv_1
 clear hr_2
 clear hv_2
 clear hr_3
 clear hv_3
 clear hr_4
 clear hv_4
 clear hr_5
 clear hv_5
 clear hr_6
 clear hv_6
 clear hr_7
 clear hv_7
 clear hr_8
 clear hv_8
 clear hr_9
 clear hv_9
 refine st hA54 (op_assign rfl (hA54.ev rfl)) rfl rfl (by decide) fun a55 hA56 => ?_; clear hA54 a46
 refine wl_nil ?_
 refine then_n ?_
 refine c_seq ?_
 refine c_region ?_
 refine st hA56 (op_loadA rfl ty_26 (hA56.ev rfl) (hS52.bk 1 rfl) (l := [rl, rs, (Value.int .i64 d.spread), rb]) rfl rfl) rfl rfl (by decide) fun a57 hA58 => ?_; clear hA56 a55
 refine stw hA58 (op_call rfl en_20 (ev1 (hA58.ev rfl)) (Round_ok rl rs rb rlv d _ (rnd_at (hS52.ok 2 _ rfl)) hth)) rfl rfl (by decide) ?_
 rintro a59 _ w61 ⟨vl62, vs63, vb64, lv65, rfl, hT66⟩ hA60; have hS67 := hS52.callS hT66 rfl; clear hT66 hA58 hS52 a57
 refine st hA60 (op_move rfl (hA60.ev rfl)) rfl rfl (by decide) fun a68 hA69 => ?_; clear hA60 a59
 refine stw hA69 (op_call rfl en_22 (ev1 (hA69.ev rfl)) (list_ok (chosenF d.tols.length x) _ _ (SlAt.of_row (hS67.ok_row 1 rfl)) (Nat.le_trans (chosenF_len _ _) (by omega)))) rfl rfl (by decide) ?_
 rintro a70 v76 w72 ⟨hE73, hO74⟩ hA71; have hS75 := hS67.new_row hE73 hO74; clear hE73 hO74 hA69 hS67 a68
 refine stw hA71 (op_call rfl en_26 (ev2 (hA71.ev rfl) (hA71.ev rfl)) (by have h := (spansE_ok vl62 vs63 vb64 lv65 d _ (rnd_at (hS75.ok 1 _ rfl)) _ (chosenF d.tols.length x) (SlAt.of_row (hS75.ok_row 0 rfl)) (Nat.le_trans (chosenF_len _ _) (by omega))); rw [hs1] at h; exact h)) rfl rfl (by decide) ?_
 rintro a77 _ w79 ⟨u83, rfl, hE80, hO81⟩ hA78; clear hA71 a70
 have hS82 : Sep NoB w w79 [(row u83 46 2 S1.length (pairs S1)), (row v76 3 1 ((chosenF d.tols.length x).length) (ints (chosenF d.tols.length x))), (rndR true vl62 vs63 vb64 lv65 d), (row (vs45 2) 3 1 ((chosenF d.tols.length x).length) (ints (chosenF d.tols.length x))), (blk b4 26 [rl, rs, (Value.int .i64 d.spread), rb]), (rndR false rl rs rb rlv d)] := hS75.new_row hE80 hO81; clear hE80 hO81 hS75
 refine st hA78 (op_move rfl (hA78.ev rfl)) rfl rfl (by decide) fun a84 hA85 => ?_; clear hA78 a77
 refine st hA85 (op_extract rfl (hA85.ev rfl) rfl) rfl rfl (by decide) fun a86 hA87 => ?_; clear hA85 a84
 refine st hA87 (op_extract rfl (hA87.ev rfl) rfl) rfl rfl (by decide) fun a88 hA89 => ?_; clear hA87 a86
 refine st hA89 (op_assign rfl (hA89.ev rfl)) rfl rfl (by decide) fun a90 hA91 => ?_; clear hA89 a88
 refine st hA91 (op_assign rfl (hA91.ev rfl)) rfl rfl (by decide) fun a92 hA93 => ?_; clear hA91 a90
 refine wl_nil ?_
 refine then_n ?_
 refine c_seq ?_
 refine c_seq ?_
 have hA94 := hA93.as [(12, (Value.int .i64 0)), (11, u83), (10, (Value.int .i64 (((y : Int)).tmod (d.samples.length : Int)))), (9, (vs45 2)), (4, (bptr b4 0)), (3, (Value.int .u16 m))] rfl; clear hA93
 refine c_region ?_
 refine st hA94 (op_move rfl (hA94.ev rfl)) rfl rfl (by decide) fun a95 hA96 => ?_; clear hA94 a92
 refine st hA96 (op_neq rfl (hA96.ev rfl) (evc _ _)) rfl rfl (by decide) fun a97 hA98 => ?_; clear hA96 a95
 refine wl_nil ?_
 refine then_n ?_
 refine c_false hA98 rfl ?_
 refine c_skip ?_
 refine then_n ?_
 refine c_seq ?_
 refine c_seq ?_
 refine c_region ?_
 refine st hA98 (op_move rfl (hA98.ev rfl)) rfl rfl (by decide) fun a99 hA100 => ?_; clear hA98 a97
 refine st hA100 (op_lenS rfl un_31 (hA100.ev rfl) (SlAt.of_row (hS82.ok_row 0 rfl))) rfl rfl (by decide) fun a101 hA102 => ?_; clear hA100 a99
 refine st hA102 (op_field rfl fd_26_1 (hA102.ev rfl)) rfl rfl (by decide) fun a103 hA104 => ?_; clear hA102 a101
 refine st hA104 (op_load1 rfl ty_23 (hA104.ev rfl) (hS82.bk 4 rfl) rfl) rfl rfl (by decide) fun a105 hA106 => ?_; clear hA104 a103
 refine st hA106 (op_lenS rfl un_23 (hA106.ev rfl) (rnd_at (hS82.ok 5 _ rfl)).samples) rfl rfl (by decide) fun a107 hA108 => ?_; clear hA106 a105
 refine st hA108 (op_neq rfl (hA108.ev rfl) (hA108.ev rfl)) rfl rfl (by decide) fun a109 hA110 => ?_; clear hA108 a107
 have hd111 : (S1.length : Int) = (d.samples.length : Int) := (by omega)
 rw [decide_eq_true hd111] at hA110
 refine wl_nil ?_
 refine then_n ?_
 refine c_false hA110 rfl ?_
 refine c_skip ?_
 refine then_n ?_
 refine c_seq ?_
 have hA112 := hA110.as [(11, u83), (10, (Value.int .i64 (((y : Int)).tmod (d.samples.length : Int)))), (9, (vs45 2)), (4, (bptr b4 0)), (3, (Value.int .u16 m))] rfl; clear hA110
 have hA113 := hA112.as [(11, u83), (10, (Value.int .i64 (((y : Int)).tmod (d.samples.length : Int)))), (9, (vs45 2)), (4, (bptr b4 0)), (3, (Value.int .u16 m))] rfl; clear hA112
 refine c_drawV mixed hA113 hS82 27 [[], [], [0, 1], [2], [3], [], [], [5, 6], [7], [8], [], [], [10, 11], [12], [13], [14], [], [], [16, 17], [18], [19], [20], [], [22], [23], [4, 9, 15, 21, 24], []] [(fun (vs114 : Nat → Value) (v_ : Value) (rs_ : List Res) => v_ = u83 ∧ rs_ = []), (fun (vs114 : Nat → Value) (v_ : Value) (rs_ : List Res) => v_ = (Value.int .i64 (((y : Int)).tmod (d.samples.length : Int))) ∧ rs_ = []), (fun (vs114 : Nat → Value) (v_ : Value) (rs_ : List Res) => v_ = (eptr u83 ((((y : Int)).tmod (d.samples.length : Int)).toNat * 2)) ∧ rs_ = []), (fun (vs114 : Nat → Value) (v_ : Value) (rs_ : List Res) => v_ = (eptr u83 ((((y : Int)).tmod (d.samples.length : Int)).toNat * 2 + 0)) ∧ rs_ = []), (fun (vs114 : Nat → Value) (v_ : Value) (rs_ : List Res) => v_ = (Value.int .i64 ((S1.getD ((((y : Int)).tmod (d.samples.length : Int)).toNat) (0, 0)).1)) ∧ rs_ = []), (fun (vs114 : Nat → Value) (v_ : Value) (rs_ : List Res) => v_ = u83 ∧ rs_ = []), (fun (vs114 : Nat → Value) (v_ : Value) (rs_ : List Res) => v_ = (Value.int .i64 (((y : Int)).tmod (d.samples.length : Int))) ∧ rs_ = []), (fun (vs114 : Nat → Value) (v_ : Value) (rs_ : List Res) => v_ = (eptr u83 ((((y : Int)).tmod (d.samples.length : Int)).toNat * 2)) ∧ rs_ = []), (fun (vs114 : Nat → Value) (v_ : Value) (rs_ : List Res) => v_ = (eptr u83 ((((y : Int)).tmod (d.samples.length : Int)).toNat * 2 + 1)) ∧ rs_ = []), (fun (vs114 : Nat → Value) (v_ : Value) (rs_ : List Res) => v_ = (Value.int .i64 ((S1.getD ((((y : Int)).tmod (d.samples.length : Int)).toNat) (0, 0)).2)) ∧ rs_ = []), (fun (vs114 : Nat → Value) (v_ : Value) (rs_ : List Res) => v_ = u83 ∧ rs_ = []), (fun (vs114 : Nat → Value) (v_ : Value) (rs_ : List Res) => v_ = (Value.int .i64 (((y : Int)).tmod (d.samples.length : Int))) ∧ rs_ = []), (fun (vs114 : Nat → Value) (v_ : Value) (rs_ : List Res) => v_ = (eptr u83 ((((y : Int)).tmod (d.samples.length : Int)).toNat * 2)) ∧ rs_ = []), (fun (vs114 : Nat → Value) (v_ : Value) (rs_ : List Res) => v_ = (eptr u83 ((((y : Int)).tmod (d.samples.length : Int)).toNat * 2 + 0)) ∧ rs_ = []), (fun (vs114 : Nat → Value) (v_ : Value) (rs_ : List Res) => v_ = (Value.int .i64 ((S1.getD ((((y : Int)).tmod (d.samples.length : Int)).toNat) (0, 0)).1)) ∧ rs_ = []), (fun (vs114 : Nat → Value) (v_ : Value) (rs_ : List Res) => v_ = (Value.int .i64 (((S1.getD ((((y : Int)).tmod (d.samples.length : Int)).toNat) (0, 0)).1) - 1)) ∧ rs_ = []), (fun (vs114 : Nat → Value) (v_ : Value) (rs_ : List Res) => v_ = u83 ∧ rs_ = []), (fun (vs114 : Nat → Value) (v_ : Value) (rs_ : List Res) => v_ = (Value.int .i64 (((y : Int)).tmod (d.samples.length : Int))) ∧ rs_ = []), (fun (vs114 : Nat → Value) (v_ : Value) (rs_ : List Res) => v_ = (eptr u83 ((((y : Int)).tmod (d.samples.length : Int)).toNat * 2)) ∧ rs_ = []), (fun (vs114 : Nat → Value) (v_ : Value) (rs_ : List Res) => v_ = (eptr u83 ((((y : Int)).tmod (d.samples.length : Int)).toNat * 2 + 1)) ∧ rs_ = []), (fun (vs114 : Nat → Value) (v_ : Value) (rs_ : List Res) => v_ = (Value.int .i64 ((S1.getD ((((y : Int)).tmod (d.samples.length : Int)).toNat) (0, 0)).2)) ∧ rs_ = []), (fun (vs114 : Nat → Value) (v_ : Value) (rs_ : List Res) => v_ = (Value.int .i64 (((S1.getD ((((y : Int)).tmod (d.samples.length : Int)).toNat) (0, 0)).2) + 1)) ∧ rs_ = []), (fun (vs114 : Nat → Value) (v_ : Value) (rs_ : List Res) => v_ = (Value.int .u16 m) ∧ rs_ = []), (fun (vs114 : Nat → Value) (v_ : Value) (rs_ : List Res) => v_ = (Value.int .i64 m) ∧ rs_ = []), (fun (vs114 : Nat → Value) (v_ : Value) (rs_ : List Res) => v_ = (Value.int .i64 ((m).tmod 1001)) ∧ rs_ = []), (fun (vs114 : Nat → Value) (v_ : Value) (rs_ : List Res) => v_ = (Value.agg #[(Value.int .i64 ((S1.getD ((((y : Int)).tmod (d.samples.length : Int)).toNat) (0, 0)).1)), (Value.int .i64 ((S1.getD ((((y : Int)).tmod (d.samples.length : Int)).toNat) (0, 0)).2)), (Value.int .i64 (((S1.getD ((((y : Int)).tmod (d.samples.length : Int)).toNat) (0, 0)).1) - 1)), (Value.int .i64 (((S1.getD ((((y : Int)).tmod (d.samples.length : Int)).toNat) (0, 0)).2) + 1)), (Value.int .i64 ((m).tmod 1001))]) ∧ rs_ = []), (fun (vs114 : Nat → Value) (v_ : Value) (rs_ : List Res) => ∃ (b26_ : Nat), v_ = (bptr b26_ 0) ∧ rs_ = [(blk b26_ 60 [(Value.int .i64 0), (Value.int .i64 0), (Value.int .i64 0), (Value.int .i64 0), (Value.int .i64 0)])])] (by decide +kernel) (by decide +kernel) rfl rfl ⟨(fun _ _ _ _ _ h_ => h_), (fun _ _ _ _ _ h_ => h_), (fun _ _ _ _ _ h_ => h_), (fun _ _ _ _ _ h_ => h_), (fun _ _ _ _ _ h_ => h_), (fun _ _ _ _ _ h_ => h_), (fun _ _ _ _ _ h_ => h_), (fun _ _ _ _ _ h_ => h_), (fun _ _ _ _ _ h_ => h_), (fun _ _ _ _ _ h_ => h_), (fun _ _ _ _ _ h_ => h_), (fun _ _ _ _ _ h_ => h_), (fun _ _ _ _ _ h_ => h_), (fun _ _ _ _ _ h_ => h_), (fun _ _ _ _ _ h_ => h_), (fun _ _ _ _ _ h_ => h_), (fun _ _ _ _ _ h_ => h_), (fun _ _ _ _ _ h_ => h_), (fun _ _ _ _ _ h_ => h_), (fun _ _ _ _ _ h_ => h_), (fun _ _ _ _ _ h_ => h_), (fun _ _ _ _ _ h_ => h_), (fun _ _ _ _ _ h_ => h_), (fun _ _ _ _ _ h_ => h_), (fun _ _ _ _ _ h_ => h_), (fun _ _ _ _ _ h_ => h_), (fun _ _ _ _ _ h_ => h_), trivial⟩ ?_ ?_
 ·skip
  refine ⟨fun a w vs114 hA hS hd => ?_, ?_⟩
  ·skip
   exact opG_of rfl (vv (op_move rfl (hA.ev rfl)) (And.intro rfl rfl))
  refine ⟨fun a w vs114 hA hS hd => ?_, ?_⟩
  ·skip
   exact opG_of rfl (vv (op_move rfl (hA.ev rfl)) (And.intro rfl rfl))
  refine ⟨fun a w vs114 hA hS hd => ?_, ?_⟩
  ·skip
   obtain ⟨e0, rs0, hy0, hp0⟩ := hd 0 (by decide)
   obtain ⟨hv0, hr0⟩ := hy0; subst hr0
   rw [hv0] at e0
   obtain ⟨e1, rs1, hy1, hp1⟩ := hd 1 (by decide)
   obtain ⟨hv1, hr1⟩ := hy1; subst hr1
   rw [hv1] at e1
   exact opG_of rfl (vv (op_indexS rfl un_31 ty_46 (tmp_ev (slot_ev e0 rfl)) (i := (((y : Int)).tmod (d.samples.length : Int)).toNat) ((tmp_ev (slot_ev e1 rfl)).trans (int_nat (by omega))) (SlAt.of_row (hS.ok_row 0 rfl)) (by decide) (by omega)) (And.intro rfl rfl))
  refine ⟨fun a w vs114 hA hS hd => ?_, ?_⟩
  ·skip
   obtain ⟨e2, rs2, hy2, hp2⟩ := hd 2 (by decide)
   obtain ⟨hv2, hr2⟩ := hy2; subst hr2
   rw [hv2] at e2
   exact opG_of rfl (vv (op_fieldS rfl fd_46_0 (tmp_ev (slot_ev e2 rfl)) (SlAt.of_row (hS.ok_row 0 rfl)) (by rw [((SlAt.of_row (hS.ok_row 0 rfl))).1]; omega)) (And.intro rfl rfl))
  refine ⟨fun a w vs114 hA hS hd => ?_, ?_⟩
  ·skip
   obtain ⟨e3, rs3, hy3, hp3⟩ := hd 3 (by decide)
   obtain ⟨hv3, hr3⟩ := hy3; subst hr3
   rw [hv3] at e3
   exact opG_of rfl (vv (op_load1E rfl ty_3 (tmp_ev (slot_ev e3 rfl)) (SlAt.of_row (hS.ok_row 0 rfl)) (pairs_at0 (by omega))) (And.intro rfl rfl))
  refine ⟨fun a w vs114 hA hS hd => ?_, ?_⟩
  ·skip
   exact opG_of rfl (vv (op_move rfl (hA.ev rfl)) (And.intro rfl rfl))
  refine ⟨fun a w vs114 hA hS hd => ?_, ?_⟩
  ·skip
   exact opG_of rfl (vv (op_move rfl (hA.ev rfl)) (And.intro rfl rfl))
  refine ⟨fun a w vs114 hA hS hd => ?_, ?_⟩
  ·skip
   obtain ⟨e5, rs5, hy5, hp5⟩ := hd 5 (by decide)
   obtain ⟨hv5, hr5⟩ := hy5; subst hr5
   rw [hv5] at e5
   obtain ⟨e6, rs6, hy6, hp6⟩ := hd 6 (by decide)
   obtain ⟨hv6, hr6⟩ := hy6; subst hr6
   rw [hv6] at e6
   exact opG_of rfl (vv (op_indexS rfl un_31 ty_46 (tmp_ev (slot_ev e5 rfl)) (i := (((y : Int)).tmod (d.samples.length : Int)).toNat) ((tmp_ev (slot_ev e6 rfl)).trans (int_nat (by omega))) (SlAt.of_row (hS.ok_row 0 rfl)) (by decide) (by omega)) (And.intro rfl rfl))
  refine ⟨fun a w vs114 hA hS hd => ?_, ?_⟩
  ·skip
   obtain ⟨e7, rs7, hy7, hp7⟩ := hd 7 (by decide)
   obtain ⟨hv7, hr7⟩ := hy7; subst hr7
   rw [hv7] at e7
   exact opG_of rfl (vv (op_fieldS rfl fd_46_1 (tmp_ev (slot_ev e7 rfl)) (SlAt.of_row (hS.ok_row 0 rfl)) (by rw [((SlAt.of_row (hS.ok_row 0 rfl))).1]; omega)) (And.intro rfl rfl))
  refine ⟨fun a w vs114 hA hS hd => ?_, ?_⟩
  ·skip
   obtain ⟨e8, rs8, hy8, hp8⟩ := hd 8 (by decide)
   obtain ⟨hv8, hr8⟩ := hy8; subst hr8
   rw [hv8] at e8
   exact opG_of rfl (vv (op_load1E rfl ty_3 (tmp_ev (slot_ev e8 rfl)) (SlAt.of_row (hS.ok_row 0 rfl)) (pairs_at1 (by omega))) (And.intro rfl rfl))
  refine ⟨fun a w vs114 hA hS hd => ?_, ?_⟩
  ·skip
   exact opG_of rfl (vv (op_move rfl (hA.ev rfl)) (And.intro rfl rfl))
  refine ⟨fun a w vs114 hA hS hd => ?_, ?_⟩
  ·skip
   exact opG_of rfl (vv (op_move rfl (hA.ev rfl)) (And.intro rfl rfl))
  refine ⟨fun a w vs114 hA hS hd => ?_, ?_⟩
  ·skip
   obtain ⟨e10, rs10, hy10, hp10⟩ := hd 10 (by decide)
   obtain ⟨hv10, hr10⟩ := hy10; subst hr10
   rw [hv10] at e10
   obtain ⟨e11, rs11, hy11, hp11⟩ := hd 11 (by decide)
   obtain ⟨hv11, hr11⟩ := hy11; subst hr11
   rw [hv11] at e11
   exact opG_of rfl (vv (op_indexS rfl un_31 ty_46 (tmp_ev (slot_ev e10 rfl)) (i := (((y : Int)).tmod (d.samples.length : Int)).toNat) ((tmp_ev (slot_ev e11 rfl)).trans (int_nat (by omega))) (SlAt.of_row (hS.ok_row 0 rfl)) (by decide) (by omega)) (And.intro rfl rfl))
  refine ⟨fun a w vs114 hA hS hd => ?_, ?_⟩
  ·skip
   obtain ⟨e12, rs12, hy12, hp12⟩ := hd 12 (by decide)
   obtain ⟨hv12, hr12⟩ := hy12; subst hr12
   rw [hv12] at e12
   exact opG_of rfl (vv (op_fieldS rfl fd_46_0 (tmp_ev (slot_ev e12 rfl)) (SlAt.of_row (hS.ok_row 0 rfl)) (by rw [((SlAt.of_row (hS.ok_row 0 rfl))).1]; omega)) (And.intro rfl rfl))
  refine ⟨fun a w vs114 hA hS hd => ?_, ?_⟩
  ·skip
   obtain ⟨e13, rs13, hy13, hp13⟩ := hd 13 (by decide)
   obtain ⟨hv13, hr13⟩ := hy13; subst hr13
   rw [hv13] at e13
   exact opG_of rfl (vv (op_load1E rfl ty_3 (tmp_ev (slot_ev e13 rfl)) (SlAt.of_row (hS.ok_row 0 rfl)) (pairs_at0 (by omega))) (And.intro rfl rfl))
  refine ⟨fun a w vs114 hA hS hd => ?_, ?_⟩
  ·skip
   obtain ⟨e14, rs14, hy14, hp14⟩ := hd 14 (by decide)
   obtain ⟨hv14, hr14⟩ := hy14; subst hr14
   rw [hv14] at e14
   exact opG_of rfl (vv (op_sub rfl (tmp_ev (slot_ev e14 rfl)) (evc _ _) (by omega) (by omega)) (And.intro rfl rfl))
  refine ⟨fun a w vs114 hA hS hd => ?_, ?_⟩
  ·skip
   exact opG_of rfl (vv (op_move rfl (hA.ev rfl)) (And.intro rfl rfl))
  refine ⟨fun a w vs114 hA hS hd => ?_, ?_⟩
  ·skip
   exact opG_of rfl (vv (op_move rfl (hA.ev rfl)) (And.intro rfl rfl))
  refine ⟨fun a w vs114 hA hS hd => ?_, ?_⟩
  ·skip
   obtain ⟨e16, rs16, hy16, hp16⟩ := hd 16 (by decide)
   obtain ⟨hv16, hr16⟩ := hy16; subst hr16
   rw [hv16] at e16
   obtain ⟨e17, rs17, hy17, hp17⟩ := hd 17 (by decide)
   obtain ⟨hv17, hr17⟩ := hy17; subst hr17
   rw [hv17] at e17
   exact opG_of rfl (vv (op_indexS rfl un_31 ty_46 (tmp_ev (slot_ev e16 rfl)) (i := (((y : Int)).tmod (d.samples.length : Int)).toNat) ((tmp_ev (slot_ev e17 rfl)).trans (int_nat (by omega))) (SlAt.of_row (hS.ok_row 0 rfl)) (by decide) (by omega)) (And.intro rfl rfl))
  refine ⟨fun a w vs114 hA hS hd => ?_, ?_⟩
  ·skip
   obtain ⟨e18, rs18, hy18, hp18⟩ := hd 18 (by decide)
   obtain ⟨hv18, hr18⟩ := hy18; subst hr18
   rw [hv18] at e18
   exact opG_of rfl (vv (op_fieldS rfl fd_46_1 (tmp_ev (slot_ev e18 rfl)) (SlAt.of_row (hS.ok_row 0 rfl)) (by rw [((SlAt.of_row (hS.ok_row 0 rfl))).1]; omega)) (And.intro rfl rfl))
  refine ⟨fun a w vs114 hA hS hd => ?_, ?_⟩
  ·skip
   obtain ⟨e19, rs19, hy19, hp19⟩ := hd 19 (by decide)
   obtain ⟨hv19, hr19⟩ := hy19; subst hr19
   rw [hv19] at e19
   exact opG_of rfl (vv (op_load1E rfl ty_3 (tmp_ev (slot_ev e19 rfl)) (SlAt.of_row (hS.ok_row 0 rfl)) (pairs_at1 (by omega))) (And.intro rfl rfl))
  refine ⟨fun a w vs114 hA hS hd => ?_, ?_⟩
  ·skip
   obtain ⟨e20, rs20, hy20, hp20⟩ := hd 20 (by decide)
   obtain ⟨hv20, hr20⟩ := hy20; subst hr20
   rw [hv20] at e20
   exact opG_of rfl (vv (op_add rfl (tmp_ev (slot_ev e20 rfl)) (evc _ _) (by omega) (by omega)) (And.intro rfl rfl))
  refine ⟨fun a w vs114 hA hS hd => ?_, ?_⟩
  ·skip
   exact opG_of rfl (vv (op_move rfl (hA.ev rfl)) (And.intro rfl rfl))
  refine ⟨fun a w vs114 hA hS hd => ?_, ?_⟩
  ·skip
   obtain ⟨e22, rs22, hy22, hp22⟩ := hd 22 (by decide)
   obtain ⟨hv22, hr22⟩ := hy22; subst hr22
   rw [hv22] at e22
   exact opG_of rfl (vv (op_conv un_59 un_3 rfl (tmp_ev (slot_ev e22 rfl)) (v := m) (wrap_i64 (by omega) (by omega))) (And.intro rfl rfl))
  refine ⟨fun a w vs114 hA hS hd => ?_, ?_⟩
  ·skip
   obtain ⟨e23, rs23, hy23, hp23⟩ := hd 23 (by decide)
   obtain ⟨hv23, hr23⟩ := hy23; subst hr23
   rw [hv23] at e23
   exact opG_of rfl (vv (op_rem rfl (tmp_ev (slot_ev e23 rfl)) (evc _ _) (by omega)) (And.intro rfl rfl))
  refine ⟨fun a w vs114 hA hS hd => ?_, ?_⟩
  ·skip
   obtain ⟨e4, rs4, hy4, hp4⟩ := hd 4 (by decide)
   obtain ⟨hv4, hr4⟩ := hy4; subst hr4
   rw [hv4] at e4
   obtain ⟨e9, rs9, hy9, hp9⟩ := hd 9 (by decide)
   obtain ⟨hv9, hr9⟩ := hy9; subst hr9
   rw [hv9] at e9
   obtain ⟨e15, rs15, hy15, hp15⟩ := hd 15 (by decide)
   obtain ⟨hv15, hr15⟩ := hy15; subst hr15
   rw [hv15] at e15
   obtain ⟨e21, rs21, hy21, hp21⟩ := hd 21 (by decide)
   obtain ⟨hv21, hr21⟩ := hy21; subst hr21
   rw [hv21] at e21
   obtain ⟨e24, rs24, hy24, hp24⟩ := hd 24 (by decide)
   obtain ⟨hv24, hr24⟩ := hy24; subst hr24
   rw [hv24] at e24
   exact opG_of rfl (vv (op_build rfl (pv5 (tmp_ev (slot_ev e4 rfl)) (tmp_ev (slot_ev e9 rfl)) (tmp_ev (slot_ev e15 rfl)) (tmp_ev (slot_ev e21 rfl)) (tmp_ev (slot_ev e24 rfl))) (bd_60_0i_1i_2i_3i_4i _ _ _ _ _)) (And.intro rfl rfl))
  refine ⟨fun a w vs114 hA hS hd => ?_, ?_⟩
  ·skip
   exact opG_of rfl (valloc rfl ze_60 (cs := [(Value.int .i64 0), (Value.int .i64 0), (Value.int .i64 0), (Value.int .i64 0), (Value.int .i64 0)]) rfl (fun b_ => ⟨b_, rfl, rfl⟩))
  trivial
 intro a115 w116 vs114 rsf120 hA117 hH119 hS118; clear hA113 hS82
 obtain ⟨hs_0, hy_0⟩ := hH119 0 (by decide)
 obtain ⟨hv_0, hr_0⟩ := hy_0
 obtain ⟨hs_1, hy_1⟩ := hH119 1 (by decide)
 obtain ⟨hv_1, hr_1⟩ := hy_1
 obtain ⟨hs_2, hy_2⟩ := hH119 2 (by decide)
 obtain ⟨hv_2, hr_2⟩ := hy_2
 obtain ⟨hs_3, hy_3⟩ := hH119 3 (by decide)
 obtain ⟨hv_3, hr_3⟩ := hy_3
 obtain ⟨hs_4, hy_4⟩ := hH119 4 (by decide)
 obtain ⟨hv_4, hr_4⟩ := hy_4
 obtain ⟨hs_5, hy_5⟩ := hH119 5 (by decide)
 obtain ⟨hv_5, hr_5⟩ := hy_5
 obtain ⟨hs_6, hy_6⟩ := hH119 6 (by decide)
 obtain ⟨hv_6, hr_6⟩ := hy_6
 obtain ⟨hs_7, hy_7⟩ := hH119 7 (by decide)
 obtain ⟨hv_7, hr_7⟩ := hy_7
 obtain ⟨hs_8, hy_8⟩ := hH119 8 (by decide)
 obtain ⟨hv_8, hr_8⟩ := hy_8
 obtain ⟨hs_9, hy_9⟩ := hH119 9 (by decide)
 obtain ⟨hv_9, hr_9⟩ := hy_9
 obtain ⟨hs_10, hy_10⟩ := hH119 10 (by decide)
 obtain ⟨hv_10, hr_10⟩ := hy_10
 obtain ⟨hs_11, hy_11⟩ := hH119 11 (by decide)
 obtain ⟨hv_11, hr_11⟩ := hy_11
 obtain ⟨hs_12, hy_12⟩ := hH119 12 (by decide)
 obtain ⟨hv_12, hr_12⟩ := hy_12
 obtain ⟨hs_13, hy_13⟩ := hH119 13 (by decide)
 obtain ⟨hv_13, hr_13⟩ := hy_13
 obtain ⟨hs_14, hy_14⟩ := hH119 14 (by decide)
 obtain ⟨hv_14, hr_14⟩ := hy_14
 obtain ⟨hs_15, hy_15⟩ := hH119 15 (by decide)
 obtain ⟨hv_15, hr_15⟩ := hy_15
 obtain ⟨hs_16, hy_16⟩ := hH119 16 (by decide)
 obtain ⟨hv_16, hr_16⟩ := hy_16
 obtain ⟨hs_17, hy_17⟩ := hH119 17 (by decide)
 obtain ⟨hv_17, hr_17⟩ := hy_17
 obtain ⟨hs_18, hy_18⟩ := hH119 18 (by decide)
 obtain ⟨hv_18, hr_18⟩ := hy_18
 obtain ⟨hs_19, hy_19⟩ := hH119 19 (by decide)
 obtain ⟨hv_19, hr_19⟩ := hy_19
 obtain ⟨hs_20, hy_20⟩ := hH119 20 (by decide)
 obtain ⟨hv_20, hr_20⟩ := hy_20
 obtain ⟨hs_21, hy_21⟩ := hH119 21 (by decide)
 obtain ⟨hv_21, hr_21⟩ := hy_21
 obtain ⟨hs_22, hy_22⟩ := hH119 22 (by decide)
 obtain ⟨hv_22, hr_22⟩ := hy_22
 obtain ⟨hs_23, hy_23⟩ := hH119 23 (by decide)
 obtain ⟨hv_23, hr_23⟩ := hy_23
 obtain ⟨hs_24, hy_24⟩ := hH119 24 (by decide)
 obtain ⟨hv_24, hr_24⟩ := hy_24
 obtain ⟨hs_25, hy_25⟩ := hH119 25 (by decide)
 obtain ⟨hv_25, hr_25⟩ := hy_25
 obtain ⟨hs_26, hy_26⟩ := hH119 26 (by decide)
 obtain ⟨b26_, hv_26, hr_26⟩ := hy_26
 have hS121 : Sep NoB w w116 [(blk b26_ 60 [(Value.int .i64 0), (Value.int .i64 0), (Value.int .i64 0), (Value.int .i64 0), (Value.int .i64 0)]), (row u83 46 2 S1.length (pairs S1)), (row v76 3 1 ((chosenF d.tols.length x).length) (ints (chosenF d.tols.length x))), (rndR true vl62 vs63 vb64 lv65 d), (row (vs45 2) 3 1 ((chosenF d.tols.length x).length) (ints (chosenF d.tols.length x))), (blk b4 26 [rl, rs, (Value.int .i64 d.spread), rb]), (rndR false rl rs rb rlv d)] := by rw [show catR rsf120 0 27 = ([(blk b26_ 60 [(Value.int .i64 0), (Value.int .i64 0), (Value.int .i64 0), (Value.int .i64 0), (Value.int .i64 0)])] : List Res) by (try simp only [catR, hr_0, hr_1, hr_2, hr_3, hr_4, hr_5, hr_6, hr_7, hr_8, hr_9, hr_10, hr_11, hr_12, hr_13, hr_14, hr_15, hr_16, hr_17, hr_18, hr_19, hr_20, hr_21, hr_22, hr_23, hr_24, hr_25, hr_26]); (try rfl)] at hS118; exact hS118
 rw [hv_25] at hs_25
 have hA122 : Fr 157 [] [(92, (Value.agg #[(Value.int .i64 ((S1.getD ((((y : Int)).tmod (d.samples.length : Int)).toNat) (0, 0)).1)), (Value.int .i64 ((S1.getD ((((y : Int)).tmod (d.samples.length : Int)).toNat) (0, 0)).2)), (Value.int .i64 (((S1.getD ((((y : Int)).tmod (d.samples.length : Int)).toNat) (0, 0)).1) - 1)), (Value.int .i64 (((S1.getD ((((y : Int)).tmod (d.samples.length : Int)).toNat) (0, 0)).2) + 1)), (Value.int .i64 ((m).tmod 1001))])), (11, u83), (10, (Value.int .i64 (((y : Int)).tmod (d.samples.length : Int)))), (9, (vs45 2)), (4, (bptr b4 0)), (3, (Value.int .u16 m))] a115 := hA117.add (slot_ev hs_25 rfl); clear hA117
 rw [hv_26] at hs_26
 have hA123 : Fr 157 [] [(13, (bptr b26_ 0)), (92, (Value.agg #[(Value.int .i64 ((S1.getD ((((y : Int)).tmod (d.samples.length : Int)).toNat) (0, 0)).1)), (Value.int .i64 ((S1.getD ((((y : Int)).tmod (d.samples.length : Int)).toNat) (0, 0)).2)), (Value.int .i64 (((S1.getD ((((y : Int)).tmod (d.samples.length : Int)).toNat) (0, 0)).1) - 1)), (Value.int .i64 (((S1.getD ((((y : Int)).tmod (d.samples.length : Int)).toNat) (0, 0)).2) + 1)), (Value.int .i64 ((m).tmod 1001))])), (11, u83), (10, (Value.int .i64 (((y : Int)).tmod (d.samples.length : Int)))), (9, (vs45 2)), (4, (bptr b4 0)), (3, (Value.int .u16 m))] a115 := hA122.add (slot_ev hs_26 rfl); clear hA122
 clear hH119 hS118 hs_0 hs_1 hs_2 hs_3 hs_4 hs_5 hs_6 hs_7 hs_8 hs_9 hs_10 hs_11 hs_12 hs_13 hs_14 hs_15 hs_16 hs_17 hs_18 hs_19 hs_20 hs_21 hs_22 hs_23 hs_24 hs_25 hs_26
 clear hr_0
 clear hv_0
 clear hr_1
 clear hv_1
 clear hr_2
 clear hv_2
 clear hr_3
 clear hv_3
 clear hr_4
 clear hv_4
 clear hr_5
 clear hv_5
 clear hr_6
 clear hv_6
 clear hr_7
 clear hv_7
 clear hr_8
 clear hv_8
 clear hr_9
 clear hv_9
 clear hr_10
 clear hv_10
 clear hr_11
 clear hv_11
 clear hr_12
 clear hv_12
 clear hr_13
 clear hv_13
 clear hr_14
 clear hv_14
 clear hr_15
 clear hv_15
 clear hr_16
 clear hv_16
 clear hr_17
 clear hv_17
 clear hr_18
 clear hv_18
 clear hr_19
 clear hv_19
 clear hr_20
 clear hv_20
 clear hr_21
 clear hv_21
 clear hr_22
 clear hv_22
 clear hr_23
 clear hv_23
 clear hr_24
 clear hv_24
 clear hr_25
 clear hv_25
 clear hr_26
 clear hv_26
 refine sts hA123 (op_store hS121 rfl ty_60 (hA123.ev rfl) (hA123.ev rfl) (i := 0) rfl (vs := [(Value.int .i64 ((S1.getD ((((y : Int)).tmod (d.samples.length : Int)).toNat) (0, 0)).1)), (Value.int .i64 ((S1.getD ((((y : Int)).tmod (d.samples.length : Int)).toNat) (0, 0)).2)), (Value.int .i64 (((S1.getD ((((y : Int)).tmod (d.samples.length : Int)).toNat) (0, 0)).1) - 1)), (Value.int .i64 (((S1.getD ((((y : Int)).tmod (d.samples.length : Int)).toNat) (0, 0)).2) + 1)), (Value.int .i64 ((m).tmod 1001))]) rfl rfl rfl (Nat.le_of_ble_eq_true rfl)) rfl rfl ?_
 intro _ w124 hS125 hA126; clear hA123
 have hS127 : Sep NoB w w124 [(blk b26_ 60 [(Value.int .i64 ((S1.getD ((((y : Int)).tmod (d.samples.length : Int)).toNat) (0, 0)).1)), (Value.int .i64 ((S1.getD ((((y : Int)).tmod (d.samples.length : Int)).toNat) (0, 0)).2)), (Value.int .i64 (((S1.getD ((((y : Int)).tmod (d.samples.length : Int)).toNat) (0, 0)).1) - 1)), (Value.int .i64 (((S1.getD ((((y : Int)).tmod (d.samples.length : Int)).toNat) (0, 0)).2) + 1)), (Value.int .i64 ((m).tmod 1001))]), (row u83 46 2 S1.length (pairs S1)), (row v76 3 1 ((chosenF d.tols.length x).length) (ints (chosenF d.tols.length x))), (rndR true vl62 vs63 vb64 lv65 d), (row (vs45 2) 3 1 ((chosenF d.tols.length x).length) (ints (chosenF d.tols.length x))), (blk b4 26 [rl, rs, (Value.int .i64 d.spread), rb]), (rndR false rl rs rb rlv d)] := hS125; clear hS125 hS121
 refine wl_nil ?_
 refine then_n ?_
 refine c_seq ?_
 refine c_seq ?_
 refine c_region ?_
 refine st hA126 (op_assign rfl (evc _ _)) rfl rfl (by decide) fun a128 hA129 => ?_; clear hA126 a115
 refine wl_nil ?_
 refine then_n ?_
 refine c_block ?_
 have hA130 := hA129.as [(14, (Value.int .i64 0)), (13, (bptr b26_ 0)), (11, u83), (10, (Value.int .i64 (((y : Int)).tmod (d.samples.length : Int)))), (9, (vs45 2)), (4, (bptr b4 0))] rfl; clear hA129
 refine c_loop (G := Nat) (fun (i5 : Nat) a_ w_ => Fr 157 [] [(14, (Value.int .i64 (i5 : Int))), (13, (bptr b26_ 0)), (11, u83), (10, (Value.int .i64 (((y : Int)).tmod (d.samples.length : Int)))), (9, (vs45 2)), (4, (bptr b4 0))] a_ ∧ Sep NoB w w_ [(blk b26_ 60 [(Value.int .i64 ((S1.getD ((((y : Int)).tmod (d.samples.length : Int)).toNat) (0, 0)).1)), (Value.int .i64 ((S1.getD ((((y : Int)).tmod (d.samples.length : Int)).toNat) (0, 0)).2)), (Value.int .i64 (((S1.getD ((((y : Int)).tmod (d.samples.length : Int)).toNat) (0, 0)).1) - 1)), (Value.int .i64 (((S1.getD ((((y : Int)).tmod (d.samples.length : Int)).toNat) (0, 0)).2) + 1)), (Value.int .i64 ((m).tmod 1001))]), (row u83 46 2 S1.length (pairs S1)), (row v76 3 1 ((chosenF d.tols.length x).length) (ints (chosenF d.tols.length x))), (rndR true vl62 vs63 vb64 lv65 d), (row (vs45 2) 3 1 ((chosenF d.tols.length x).length) (ints (chosenF d.tols.length x))), (blk b4 26 [rl, rs, (Value.int .i64 d.spread), rb]), (rndR false rl rs rb rlv d)] ∧ (i5 ≤ 5)) (fun i5 => 5 - i5) 0 ⟨hA130.as _ rfl, hS127, by omega⟩ ?_
 clear hA130 hS127 a128
 rintro i5 a131 w133 ⟨hA132, hS134, hki5⟩
 refine c_seq ?_
 refine c_seq ?_
 refine c_region ?_
 refine st hA132 (op_move rfl (hA132.ev rfl)) rfl rfl (by decide) fun a135 hA136 => ?_; clear hA132 a131
 refine st hA136 (op_lss rfl (hA136.ev rfl) (evc _ _)) rfl rfl (by decide) fun a137 hA138 => ?_; clear hA136 a135
 refine wl_nil ?_
 refine then_n ?_
 by_cases hb139 : (i5 : Int) < 5
 ·skip
  rw [decide_eq_true hb139] at hA138
  refine c_true hA138 rfl ?_
  refine c_skip ?_
  refine then_n ?_
  refine c_seq ?_
  refine c_block ?_
  refine c_seq ?_
  refine c_region ?_
  refine st hA138 (op_move rfl (hA138.ev rfl)) rfl rfl (by decide) fun a140 hA141 => ?_; clear hA138 a137
  refine st hA141 (op_indexA rfl un_60 ty_3 (hA141.ev rfl) (i := i5) (hA141.ev rfl) (by omega)) rfl rfl (by decide) fun a142 hA143 => ?_; clear hA141 a140
  refine st hA143 (op_load1 rfl ty_3 (hA143.ev rfl) (hS134.bk 0 rfl) (by rw [Nat.zero_add]; exact ints_at (xs := [(S1.getD ((((y : Int)).tmod (d.samples.length : Int)).toNat) (0, 0)).1, (S1.getD ((((y : Int)).tmod (d.samples.length : Int)).toNat) (0, 0)).2, ((S1.getD ((((y : Int)).tmod (d.samples.length : Int)).toNat) (0, 0)).1) - 1, ((S1.getD ((((y : Int)).tmod (d.samples.length : Int)).toNat) (0, 0)).2) + 1, (m).tmod 1001]) (by simp only [List.length_cons, List.length_nil]; omega))) rfl rfl (by decide) fun a144 hA145 => ?_; clear hA143 a142
  refine st hA145 (op_assign rfl (hA145.ev rfl)) rfl rfl (by decide) fun a146 hA147 => ?_; clear hA145 a144
  obtain ⟨nv, hnv⟩ : ∃ n : Int, [(S1.getD ((((y : Int)).tmod (d.samples.length : Int)).toNat) (0, 0)).1, (S1.getD ((((y : Int)).tmod (d.samples.length : Int)).toNat) (0, 0)).2, ((S1.getD ((((y : Int)).tmod (d.samples.length : Int)).toNat) (0, 0)).1) - 1, ((S1.getD ((((y : Int)).tmod (d.samples.length : Int)).toNat) (0, 0)).2) + 1, (m).tmod 1001].getD i5 0 = n := ⟨_, rfl⟩; rw [hnv] at hA147; clear hnv
  refine wl_nil ?_
  refine then_n ?_
  refine c_seq ?_
  refine c_seq ?_
  refine c_region ?_
  refine st hA147 (op_move rfl (hA147.ev rfl)) rfl rfl (by decide) fun a148 hA149 => ?_; clear hA147 a146
  refine stw hA149 (op_call rfl en_33 (ev3 (hA149.ev rfl) (evc _ _) (evc _ _)) (In_ok _ _ _ _)) rfl rfl (by decide) ?_
  rintro a150 _ _ ⟨rfl, rfl⟩ hA151; clear hA149 a148
  refine st hA151 (op_not rfl (hA151.ev rfl)) rfl rfl (by decide) fun a153 hA154 => ?_; clear hA151 a150
  refine wl_nil ?_
  refine then_n ?_
  rcases Bool.eq_false_or_eq_true ((decide (0 ≤ nv) && decide (nv ≤ 1000))) with hb155 | hb155
  ·skip
   rw [hb155] at hA154
   have hq156 := hb155; simp only [Bool.and_eq_true, Bool.and_eq_false_iff, decide_eq_true_eq, decide_eq_false_iff_not] at hq156
   refine c_false hA154 rfl ?_
   refine c_skip ?_
   refine then_n ?_
   refine c_seq ?_
   have hA157 := hA154.as [(15, (Value.int .i64 nv)), (14, (Value.int .i64 (i5 : Int))), (13, (bptr b26_ 0)), (11, u83), (10, (Value.int .i64 (((y : Int)).tmod (d.samples.length : Int)))), (9, (vs45 2)), (4, (bptr b4 0))] rfl; clear hA154
   refine c_region ?_
   refine st hA157 (op_loadA rfl ty_26 (hA157.ev rfl) (hS134.bk 5 rfl) (l := [rl, rs, (Value.int .i64 d.spread), rb]) rfl rfl) rfl rfl (by decide) fun a158 hA159 => ?_; clear hA157 a153
   refine stw hA159 (op_alloc hS134 rfl ze_26 (cs := [(Value.slice none 0 0), (Value.slice none 0 0), (Value.int .i64 0), (Value.slice none 0 0)]) rfl) rfl rfl (by decide) ?_
   rintro a160 _ w162 ⟨b163, rfl, hS164⟩ hA161; clear hA159 hS134 a158
   refine sts hA161 (op_store hS164 rfl ty_26 (hA161.ev rfl) (hA161.ev rfl) (i := 0) rfl (vs := [rl, rs, (Value.int .i64 d.spread), rb]) rfl rfl (all_c (SlAt.one (rnd_at (hS164.ok 7 _ rfl)).lots) (all_c (SlAt.one (rnd_at (hS164.ok 7 _ rfl)).samples) (all_c rfl (all_c (SlAt.one (rnd_at (hS164.ok 7 _ rfl)).labs) all_n)))) (Nat.le_of_ble_eq_true rfl)) rfl rfl ?_
   intro _ w165 hS166 hA167; clear hA161
   have hS168 : Sep NoB w w165 [(blk b163 26 [rl, rs, (Value.int .i64 d.spread), rb]), (blk b26_ 60 [(Value.int .i64 ((S1.getD ((((y : Int)).tmod (d.samples.length : Int)).toNat) (0, 0)).1)), (Value.int .i64 ((S1.getD ((((y : Int)).tmod (d.samples.length : Int)).toNat) (0, 0)).2)), (Value.int .i64 (((S1.getD ((((y : Int)).tmod (d.samples.length : Int)).toNat) (0, 0)).1) - 1)), (Value.int .i64 (((S1.getD ((((y : Int)).tmod (d.samples.length : Int)).toNat) (0, 0)).2) + 1)), (Value.int .i64 ((m).tmod 1001))]), (row u83 46 2 S1.length (pairs S1)), (row v76 3 1 ((chosenF d.tols.length x).length) (ints (chosenF d.tols.length x))), (rndR true vl62 vs63 vb64 lv65 d), (row (vs45 2) 3 1 ((chosenF d.tols.length x).length) (ints (chosenF d.tols.length x))), (blk b4 26 [rl, rs, (Value.int .i64 d.spread), rb]), (rndR false rl rs rb rlv d)] := hS166; clear hS166 hS164
   refine wl_nil ?_
   refine then_n ?_
   refine c_seq ?_
   refine c_region ?_
   refine st hA167 (op_build rfl pv0 bd_62_) rfl rfl (by decide) fun a169 hA170 => ?_; clear hA167 a160
   refine stw hA170 (op_alloc hS168 rfl ze_62 (cs := [(Value.int .i64 0), (Value.slice none 0 0)]) rfl) rfl rfl (by decide) ?_
   rintro a171 _ w173 ⟨b174, rfl, hS175⟩ hA172; clear hA170 hS168 a169
   refine sts hA172 (op_store hS175 rfl ty_62 (hA172.ev rfl) (hA172.ev rfl) (i := 0) rfl (vs := [(Value.int .i64 0), (Value.slice none 0 0)]) rfl rfl (all_c rfl (all_c rfl all_n)) (Nat.le_of_ble_eq_true rfl)) rfl rfl ?_
   intro _ w176 hS177 hA178; clear hA172
   have hS179 : Sep NoB w w176 [(blk b174 62 [(Value.int .i64 0), (Value.slice none 0 0)]), (blk b163 26 [rl, rs, (Value.int .i64 d.spread), rb]), (blk b26_ 60 [(Value.int .i64 ((S1.getD ((((y : Int)).tmod (d.samples.length : Int)).toNat) (0, 0)).1)), (Value.int .i64 ((S1.getD ((((y : Int)).tmod (d.samples.length : Int)).toNat) (0, 0)).2)), (Value.int .i64 (((S1.getD ((((y : Int)).tmod (d.samples.length : Int)).toNat) (0, 0)).1) - 1)), (Value.int .i64 (((S1.getD ((((y : Int)).tmod (d.samples.length : Int)).toNat) (0, 0)).2) + 1)), (Value.int .i64 ((m).tmod 1001))]), (row u83 46 2 S1.length (pairs S1)), (row v76 3 1 ((chosenF d.tols.length x).length) (ints (chosenF d.tols.length x))), (rndR true vl62 vs63 vb64 lv65 d), (row (vs45 2) 3 1 ((chosenF d.tols.length x).length) (ints (chosenF d.tols.length x))), (blk b4 26 [rl, rs, (Value.int .i64 d.spread), rb]), (rndR false rl rs rb rlv d)] := hS177; clear hS177 hS175
   refine wl_nil ?_
   refine then_n ?_
   refine c_seq ?_
   refine c_seq ?_
   refine c_region ?_
   refine st hA178 (op_assign rfl (evc _ _)) rfl rfl (by decide) fun a180 hA181 => ?_; clear hA178 a171
   refine wl_nil ?_
   refine then_n ?_
   refine c_block ?_
   have hS182 := hS179.nil_row 3 1; clear hS179
   have hA183 := hA181.as [(18, (Value.int .i64 0)), (17, (bptr b174 0)), (16, (bptr b163 0)), (15, (Value.int .i64 nv)), (14, (Value.int .i64 (i5 : Int))), (13, (bptr b26_ 0)), (11, u83), (10, (Value.int .i64 (((y : Int)).tmod (d.samples.length : Int)))), (9, (vs45 2)), (4, (bptr b4 0))] rfl; clear hA181
   refine c_loop (G := Nat) (fun (j2 : Nat) a_ w_ => ∃ vr_ : Value, Fr 157 [] [(18, (Value.int .i64 (j2 : Int))), (17, (bptr b174 0)), (16, (bptr b163 0)), (15, (Value.int .i64 nv)), (14, (Value.int .i64 (i5 : Int))), (13, (bptr b26_ 0)), (11, u83), (10, (Value.int .i64 (((y : Int)).tmod (d.samples.length : Int)))), (9, (vs45 2)), (4, (bptr b4 0))] a_ ∧ Sep NoB w w_ [(row vr_ 3 1 ((List.replicate j2 (-1 : Int)).length) (ints (List.replicate j2 (-1 : Int)))), (blk b174 62 [(Value.int .i64 0), vr_]), (blk b163 26 [rl, rs, (Value.int .i64 d.spread), rb]), (blk b26_ 60 [(Value.int .i64 ((S1.getD ((((y : Int)).tmod (d.samples.length : Int)).toNat) (0, 0)).1)), (Value.int .i64 ((S1.getD ((((y : Int)).tmod (d.samples.length : Int)).toNat) (0, 0)).2)), (Value.int .i64 (((S1.getD ((((y : Int)).tmod (d.samples.length : Int)).toNat) (0, 0)).1) - 1)), (Value.int .i64 (((S1.getD ((((y : Int)).tmod (d.samples.length : Int)).toNat) (0, 0)).2) + 1)), (Value.int .i64 ((m).tmod 1001))]), (row u83 46 2 S1.length (pairs S1)), (row v76 3 1 ((chosenF d.tols.length x).length) (ints (chosenF d.tols.length x))), (rndR true vl62 vs63 vb64 lv65 d), (row (vs45 2) 3 1 ((chosenF d.tols.length x).length) (ints (chosenF d.tols.length x))), (blk b4 26 [rl, rs, (Value.int .i64 d.spread), rb]), (rndR false rl rs rb rlv d)] ∧ (j2 ≤ d.samples.length)) (fun j2 => d.samples.length - j2) 0 ⟨(Value.slice none 0 0), hA183.as _ rfl, hS182, by omega⟩ ?_
   clear hA183 hS182 a180
   rintro j2 a184 w186 ⟨vr_, hA185, hS187, hkj2⟩
   have hrl := (List.length_replicate : (List.replicate j2 (-1 : Int)).length = j2)
   refine c_seq ?_
   refine c_seq ?_
   refine c_region ?_
   refine st hA185 (op_move rfl (hA185.ev rfl)) rfl rfl (by decide) fun a188 hA189 => ?_; clear hA185 a184
   refine st hA189 (op_field rfl fd_26_1 (hA189.ev rfl)) rfl rfl (by decide) fun a190 hA191 => ?_; clear hA189 a188
   refine st hA191 (op_load1 rfl ty_23 (hA191.ev rfl) (hS187.bk 8 rfl) rfl) rfl rfl (by decide) fun a192 hA193 => ?_; clear hA191 a190
   refine st hA193 (op_lenS rfl un_23 (hA193.ev rfl) (rnd_at (hS187.ok 9 _ rfl)).samples) rfl rfl (by decide) fun a194 hA195 => ?_; clear hA193 a192
   refine st hA195 (op_lss rfl (hA195.ev rfl) (hA195.ev rfl)) rfl rfl (by decide) fun a196 hA197 => ?_; clear hA195 a194
   refine wl_nil ?_
   refine then_n ?_
   by_cases hb198 : (j2 : Int) < (d.samples.length : Int)
   ·skip
    rw [decide_eq_true hb198] at hA197
    refine c_true hA197 rfl ?_
    refine c_skip ?_
    refine then_n ?_
    refine c_seq ?_
    refine c_block ?_
    refine c_region ?_
    refine st hA197 (op_field rfl fd_62_1 (hA197.ev rfl)) rfl rfl (by decide) fun a199 hA200 => ?_; clear hA197 a196
    refine st hA200 (op_load1 rfl ty_23 (hA200.ev rfl) (hS187.bk 1 rfl) rfl) rfl rfl (by decide) fun a201 hA202 => ?_; clear hA200 a199
    refine stw hA202 (op_buildSlice hS187 rfl (pv1 (evc _ _)) un_23 ty_3 ze_3 (by decide) (cs := [(Value.int .i64 (-1))]) (bs_3_1_0i _)) rfl rfl (by decide) ?_
    rintro a203 _ w205 ⟨b206, rfl, hS207⟩ hA204; clear hA202 hS187 a201
    refine stw hA204 (op_append hS207 rfl un_23 el_3 (hA204.ev rfl) (hA204.ev rfl) (i := 1) rfl (SlAt.of_blk (hS207.bk 0 rfl) rfl (Nat.le_of_ble_eq_true rfl)) rfl (by simp only [maxLen]; omega) (by omega)) rfl rfl (by decide) ?_
    intro a208 v211 w210 hS212 hA209
    have hS213 := hS212.row_say (i := 1) rfl (n' := ((List.replicate j2 (-1 : Int)) ++ [-1]).length) (xs' := (ints ((List.replicate j2 (-1 : Int)) ++ [-1]))) (by simp) (by simp [ints]); clear hS212 hA204 hS207 a203
    refine st hA209 (op_field rfl fd_62_1 (hA209.ev rfl)) rfl rfl (by decide) fun a214 hA215 => ?_; clear hA209 a208
    refine sts hA215 (op_store hS213 rfl ty_23 (hA215.ev rfl) (hA215.ev rfl) (i := 2) rfl (vs := [v211]) (isSl_cells (SlAt.isSl (SlAt.of_row (hS213.ok_row 1 rfl)))) rfl (all_c (SlAt.one (SlAt.of_row (hS213.ok_row 1 rfl))) all_n) (Nat.le_of_ble_eq_true rfl)) rfl rfl ?_
    intro _ w216 hS217 hA218; clear hA215
    have hS219 : Sep NoB w w216 [(blk b206 3 [(Value.int .i64 (-1))]), (row v211 3 1 (((List.replicate j2 (-1 : Int)) ++ [-1]).length) (ints ((List.replicate j2 (-1 : Int)) ++ [-1]))), (blk b174 62 [(Value.int .i64 0), v211]), (blk b163 26 [rl, rs, (Value.int .i64 d.spread), rb]), (blk b26_ 60 [(Value.int .i64 ((S1.getD ((((y : Int)).tmod (d.samples.length : Int)).toNat) (0, 0)).1)), (Value.int .i64 ((S1.getD ((((y : Int)).tmod (d.samples.length : Int)).toNat) (0, 0)).2)), (Value.int .i64 (((S1.getD ((((y : Int)).tmod (d.samples.length : Int)).toNat) (0, 0)).1) - 1)), (Value.int .i64 (((S1.getD ((((y : Int)).tmod (d.samples.length : Int)).toNat) (0, 0)).2) + 1)), (Value.int .i64 ((m).tmod 1001))]), (row u83 46 2 S1.length (pairs S1)), (row v76 3 1 ((chosenF d.tols.length x).length) (ints (chosenF d.tols.length x))), (rndR true vl62 vs63 vb64 lv65 d), (row (vs45 2) 3 1 ((chosenF d.tols.length x).length) (ints (chosenF d.tols.length x))), (blk b4 26 [rl, rs, (Value.int .i64 d.spread), rb]), (rndR false rl rs rb rlv d)] := hS217; clear hS217 hS213
    refine wl_nil ?_
    refine blk_n ?_
    refine then_n ?_
    have hA220 := hA218.as [(18, (Value.int .i64 (j2 : Int))), (17, (bptr b174 0)), (16, (bptr b163 0)), (15, (Value.int .i64 nv)), (14, (Value.int .i64 (i5 : Int))), (13, (bptr b26_ 0)), (11, u83), (10, (Value.int .i64 (((y : Int)).tmod (d.samples.length : Int)))), (9, (vs45 2)), (4, (bptr b4 0))] rfl; clear hA218
    refine c_region ?_
    refine st hA220 (op_move rfl (hA220.ev rfl)) rfl rfl (by decide) fun a221 hA222 => ?_; clear hA220 a214
    refine st hA222 (op_add rfl (hA222.ev rfl) (evc _ _) (by omega) (by omega)) rfl rfl (by decide) fun a223 hA224 => ?_; clear hA222 a221
    refine st hA224 (op_assign rfl (hA224.ev rfl)) rfl rfl (by decide) fun a225 hA226 => ?_; clear hA224 a223
    refine wl_nil ?_
    have hS227 : Sep NoB w w216 [(row v211 3 1 (((List.replicate j2 (-1 : Int)) ++ [-1]).length) (ints ((List.replicate j2 (-1 : Int)) ++ [-1]))), (blk b174 62 [(Value.int .i64 0), v211]), (blk b163 26 [rl, rs, (Value.int .i64 d.spread), rb]), (blk b26_ 60 [(Value.int .i64 ((S1.getD ((((y : Int)).tmod (d.samples.length : Int)).toNat) (0, 0)).1)), (Value.int .i64 ((S1.getD ((((y : Int)).tmod (d.samples.length : Int)).toNat) (0, 0)).2)), (Value.int .i64 (((S1.getD ((((y : Int)).tmod (d.samples.length : Int)).toNat) (0, 0)).1) - 1)), (Value.int .i64 (((S1.getD ((((y : Int)).tmod (d.samples.length : Int)).toNat) (0, 0)).2) + 1)), (Value.int .i64 ((m).tmod 1001))]), (row u83 46 2 S1.length (pairs S1)), (row v76 3 1 ((chosenF d.tols.length x).length) (ints (chosenF d.tols.length x))), (rndR true vl62 vs63 vb64 lv65 d), (row (vs45 2) 3 1 ((chosenF d.tols.length x).length) (ints (chosenF d.tols.length x))), (blk b4 26 [rl, rs, (Value.int .i64 d.spread), rb]), (rndR false rl rs rb rlv d)] := hS219.keep [1, 2, 3, 4, 5, 6, 7, 8, 9, 10] (by decide) _ rfl rfl; clear hS219
    exact then_n ⟨j2 + 1, ⟨v211, hA226.as _ rfl, (hS227.row_say (i := 0) rfl (by rw [List.replicate_succ']) (by rw [List.replicate_succ'])), by omega⟩, by omega⟩
   ·skip
    rw [decide_eq_false hb198] at hA197
    refine c_false hA197 rfl ?_
    refine c_exit ?_
    refine then_exit ?_
    refine then_exit ?_
    refine blk_hit ?_
    refine then_n ?_
    refine c_seq ?_
    have hA228 := hA197.as [(17, (bptr b174 0)), (16, (bptr b163 0)), (15, (Value.int .i64 nv)), (14, (Value.int .i64 (i5 : Int))), (13, (bptr b26_ 0)), (11, u83), (10, (Value.int .i64 (((y : Int)).tmod (d.samples.length : Int)))), (9, (vs45 2)), (4, (bptr b4 0))] rfl; clear hA197
    refine c_region ?_
    refine st hA228 (op_field rfl fd_62_1 (hA228.ev rfl)) rfl rfl (by decide) fun a229 hA230 => ?_; clear hA228 a196
    refine st hA230 (op_load1 rfl ty_23 (hA230.ev rfl) (hS187.bk 1 rfl) rfl) rfl rfl (by decide) fun a231 hA232 => ?_; clear hA230 a229
    refine st hA232 (op_move rfl (hA232.ev rfl)) rfl rfl (by decide) fun a233 hA234 => ?_; clear hA232 a231
    refine st hA234 (op_move rfl (hA234.ev rfl)) rfl rfl (by decide) fun a235 hA236 => ?_; clear hA234 a233
    refine st hA236 (op_indexS rfl un_23 ty_3 (hA236.ev rfl) (i := (((y : Int)).tmod (d.samples.length : Int)).toNat) ((hA236.ev rfl).trans (int_nat (by omega))) (SlAt.of_row (hS187.ok_row 0 rfl)) (by decide) (by omega)) rfl rfl (by decide) fun a237 hA238 => ?_; clear hA236 a235
    refine sts hA238 (op_storeE hS187 rfl ty_3 (hA238.ev rfl) (hA238.ev rfl) (i := 0) rfl (vs := [(Value.int .i64 nv)]) rfl rfl rfl (by simp only [ints, List.length_map, List.length_replicate]; omega) (by decide)) rfl rfl ?_
    intro _ w239 hS240 hA242; have hS241 := hS240.row_say (i := 0) rfl (n' := ((List.replicate j2 (-1 : Int)).set ((((y : Int)).tmod (d.samples.length : Int)).toNat) nv).length) (xs' := (ints ((List.replicate j2 (-1 : Int)).set ((((y : Int)).tmod (d.samples.length : Int)).toNat) nv))) (by simp) (by simp [setFrom, ints, List.map_set]); clear hS240 hA238 hS187
    refine wl_nil ?_
    refine then_n ?_
    refine c_seq ?_
    have hA243 := hA242.as [(17, (bptr b174 0)), (16, (bptr b163 0)), (15, (Value.int .i64 nv)), (14, (Value.int .i64 (i5 : Int))), (13, (bptr b26_ 0)), (11, u83), (10, (Value.int .i64 (((y : Int)).tmod (d.samples.length : Int)))), (9, (vs45 2)), (4, (bptr b4 0))] rfl; clear hA242
    by_cases hb245 : 0 < d.tols.length
    ·skip
     have hA246 := hA243.as [(17, (bptr b174 0)), (16, (bptr b163 0)), (15, (Value.int .i64 nv)), (14, (Value.int .i64 (i5 : Int))), (13, (bptr b26_ 0)), (11, u83), (10, (Value.int .i64 (((y : Int)).tmod (d.samples.length : Int)))), (9, (vs45 2)), (4, (bptr b4 0))] rfl; clear hA243
     refine c_drawV mixed hA246 hS241 6 [[], [], [1], [0, 2], [], [4]] [(fun (vs247 : Nat → Value) (v_ : Value) (rs_ : List Res) => ∃ (b0_ : Nat), v_ = (Value.slice (some ⟨b0_, 0, none⟩) 0 0) ∧ rs_ = [(blk b0_ 62 [])]), (fun (vs247 : Nat → Value) (v_ : Value) (rs_ : List Res) => v_ = (bptr b4 3) ∧ rs_ = []), (fun (vs247 : Nat → Value) (v_ : Value) (rs_ : List Res) => v_ = rb ∧ rs_ = []), (fun (vs247 : Nat → Value) (v_ : Value) (rs_ : List Res) => True ∧ rs_ = [(row v_ 62 2 d.tols.length (vpairs (d.tols.zip rlv)))]), (fun (vs247 : Nat → Value) (v_ : Value) (rs_ : List Res) => v_ = (Value.agg #[(Value.int .i64 0), vr_]) ∧ rs_ = []), (fun (vs247 : Nat → Value) (v_ : Value) (rs_ : List Res) => True ∧ rs_ = [(row v_ 62 2 1 [(Value.int .i64 0), vr_])])] (by decide +kernel) (by decide +kernel) rfl rfl ⟨(fun _ _ _ _ _ h_ => h_), (fun _ _ _ _ _ h_ => h_), (fun _ _ _ _ _ h_ => h_), (fun _ _ _ _ _ h_ => h_), (fun _ _ _ _ _ h_ => h_), (fun _ _ _ _ _ h_ => h_), trivial⟩ ?_ ?_
     ·skip
      refine ⟨fun a w vs247 hA hS hd => ?_, ?_⟩
      ·skip
       exact opG_of rfl (vblz rfl pv0 un_24 ty_62 ze_62 bs_62_0_ (fun b_ => ⟨b_, rfl, rfl⟩))
      refine ⟨fun a w vs247 hA hS hd => ?_, ?_⟩
      ·skip
       exact opG_of rfl (vv (op_field rfl fd_26_3 (hA.ev rfl)) (And.intro rfl rfl))
      refine ⟨fun a w vs247 hA hS hd => ?_, ?_⟩
      ·skip
       obtain ⟨e1, rs1, hy1, hp1⟩ := hd 1 (by decide)
       obtain ⟨hv1, hr1⟩ := hy1; subst hr1
       rw [hv1] at e1
       exact opG_of rfl (vv (op_load1 rfl ty_24 (tmp_ev (slot_ev e1 rfl)) (hS.bk 8 rfl) rfl) (And.intro rfl rfl))
      refine ⟨fun a w vs247 hA hS hd => ?_, ?_⟩
      ·skip
       obtain ⟨e0, rs0, hy0, hp0⟩ := hd 0 (by decide)
       obtain ⟨b0_, hv0, hr0⟩ := hy0; subst hr0
       rw [hv0] at e0
       have hp0_0 := hp0 _ (List.mem_of_getElem? (i := 0) rfl)
       obtain ⟨e2, rs2, hy2, hp2⟩ := hd 2 (by decide)
       obtain ⟨hv2, hr2⟩ := hy2; subst hr2
       rw [hv2] at e2
       exact opG_of rfl (vap0 (op_append0 rfl un_24 el_62 (tmp_ev (slot_ev e0 rfl)) (tmp_ev (slot_ev e2 rfl)) (rnd_at (hS.ok 9 _ rfl)).labs (labs_one (rnd_at (hS.ok 9 _ rfl))) (by simp only [maxLen]; omega) (by omega) hb245) (fun _ => And.intro trivial rfl))
      refine ⟨fun a w vs247 hA hS hd => ?_, ?_⟩
      ·skip
       exact opG_of rfl (vv (op_loadA rfl ty_62 (hA.ev rfl) (hS.bk 1 rfl) (l := [(Value.int .i64 0), vr_]) rfl rfl) (And.intro rfl rfl))
      refine ⟨fun a w vs247 hA hS hd => ?_, ?_⟩
      ·skip
       obtain ⟨e4, rs4, hy4, hp4⟩ := hd 4 (by decide)
       obtain ⟨hv4, hr4⟩ := hy4; subst hr4
       rw [hv4] at e4
       exact opG_of rfl (vblt rfl (pv1 (tmp_ev (slot_ev e4 rfl))) un_24 ty_62 ze_62 (by decide) (cs := [(Value.int .i64 0), vr_]) (bs_62_1_0iva _ _) rfl (by decide) (fun _ => And.intro trivial rfl))
      trivial
     intro a248 w249 vs247 rsf253 hA250 hH252 hS251; clear hA246 hS241
     obtain ⟨hs_0, hy_0⟩ := hH252 0 (by decide)
     obtain ⟨b0_, hv_0, hr_0⟩ := hy_0
     obtain ⟨hs_1, hy_1⟩ := hH252 1 (by decide)
     obtain ⟨hv_1, hr_1⟩ := hy_1
     obtain ⟨hs_2, hy_2⟩ := hH252 2 (by decide)
     obtain ⟨hv_2, hr_2⟩ := hy_2
     obtain ⟨hs_3, hy_3⟩ := hH252 3 (by decide)
     obtain ⟨hv_3, hr_3⟩ := hy_3
     obtain ⟨hs_4, hy_4⟩ := hH252 4 (by decide)
     obtain ⟨hv_4, hr_4⟩ := hy_4
     obtain ⟨hs_5, hy_5⟩ := hH252 5 (by decide)
     obtain ⟨hv_5, hr_5⟩ := hy_5
     have hS254 : Sep NoB w w249 [(blk b0_ 62 []), (row (vs247 3) 62 2 d.tols.length (vpairs (d.tols.zip rlv))), (row (vs247 5) 62 2 1 [(Value.int .i64 0), vr_]), (row vr_ 3 1 (((List.replicate j2 (-1 : Int)).set ((((y : Int)).tmod (d.samples.length : Int)).toNat) nv).length) (ints ((List.replicate j2 (-1 : Int)).set ((((y : Int)).tmod (d.samples.length : Int)).toNat) nv))), (blk b174 62 [(Value.int .i64 0), vr_]), (blk b163 26 [rl, rs, (Value.int .i64 d.spread), rb]), (blk b26_ 60 [(Value.int .i64 ((S1.getD ((((y : Int)).tmod (d.samples.length : Int)).toNat) (0, 0)).1)), (Value.int .i64 ((S1.getD ((((y : Int)).tmod (d.samples.length : Int)).toNat) (0, 0)).2)), (Value.int .i64 (((S1.getD ((((y : Int)).tmod (d.samples.length : Int)).toNat) (0, 0)).1) - 1)), (Value.int .i64 (((S1.getD ((((y : Int)).tmod (d.samples.length : Int)).toNat) (0, 0)).2) + 1)), (Value.int .i64 ((m).tmod 1001))]), (row u83 46 2 S1.length (pairs S1)), (row v76 3 1 ((chosenF d.tols.length x).length) (ints (chosenF d.tols.length x))), (rndR true vl62 vs63 vb64 lv65 d), (row (vs45 2) 3 1 ((chosenF d.tols.length x).length) (ints (chosenF d.tols.length x))), (blk b4 26 [rl, rs, (Value.int .i64 d.spread), rb]), (rndR false rl rs rb rlv d)] := by rw [show catR rsf253 0 6 = ([(blk b0_ 62 []), (row (vs247 3) 62 2 d.tols.length (vpairs (d.tols.zip rlv))), (row (vs247 5) 62 2 1 [(Value.int .i64 0), vr_])] : List Res) by (try simp only [catR, hr_0, hr_1, hr_2, hr_3, hr_4, hr_5]); (try rfl)] at hS251; exact hS251
     have hA255 : Fr 157 [] [(125, (vs247 3)), (17, (bptr b174 0)), (16, (bptr b163 0)), (15, (Value.int .i64 nv)), (14, (Value.int .i64 (i5 : Int))), (13, (bptr b26_ 0)), (11, u83), (10, (Value.int .i64 (((y : Int)).tmod (d.samples.length : Int)))), (9, (vs45 2)), (4, (bptr b4 0))] a248 := hA250.add (slot_ev hs_3 rfl); clear hA250
     have hA256 : Fr 157 [] [(127, (vs247 5)), (125, (vs247 3)), (17, (bptr b174 0)), (16, (bptr b163 0)), (15, (Value.int .i64 nv)), (14, (Value.int .i64 (i5 : Int))), (13, (bptr b26_ 0)), (11, u83), (10, (Value.int .i64 (((y : Int)).tmod (d.samples.length : Int)))), (9, (vs45 2)), (4, (bptr b4 0))] a248 := hA255.add (slot_ev hs_5 rfl); clear hA255
     clear hH252 hS251 hs_0 hs_1 hs_2 hs_3 hs_4 hs_5
     clear hr_0
     clear hv_0
     clear hr_1
     clear hv_1
     clear hr_2
     clear hv_2
     clear hr_3
     clear hv_3
     clear hr_4
     clear hv_4
     clear hr_5
     clear hv_5
     refine stw hA256 (op_append hS254 rfl un_24 el_62 (hA256.ev rfl) (hA256.ev rfl) (i := 1) rfl (SlAt.of_row (hS254.ok_row 2 rfl)) (all_c rfl (all_c (SlAt.one (SlAt.of_row (hS254.ok_row 3 rfl))) all_n)) (by simp only [maxLen]; omega) (by omega)) rfl rfl (by decide) ?_
     intro a257 v260 w259 hS261 hA258
     have hS262 := hS261.row_say (i := 1) rfl (n' := (d.tols.length + 1)) (xs' := (vpairs ((d.tols.zip rlv) ++ [(0, vr_)]))) rfl (by simp [vpairs]); clear hS261 hA256 hS254 a248
     refine st hA258 (op_field rfl fd_26_3 (hA258.ev rfl)) rfl rfl (by decide) fun a263 hA264 => ?_; clear hA258 a257
     refine sts hA264 (op_store hS262 rfl ty_24 (hA264.ev rfl) (hA264.ev rfl) (i := 5) rfl (vs := [v260]) (isSl_cells (SlAt.isSl (SlAt.of_row (hS262.ok_row 1 rfl)))) rfl (all_c (SlAt.one (SlAt.of_row (hS262.ok_row 1 rfl))) all_n) (Nat.le_of_ble_eq_true rfl)) rfl rfl ?_
     intro _ w265 hS266 hA267; clear hA264
     have hS268 : Sep NoB w w265 [(blk b0_ 62 []), (row v260 62 2 (d.tols.length + 1) (vpairs ((d.tols.zip rlv) ++ [(0, vr_)]))), (row (vs247 5) 62 2 1 [(Value.int .i64 0), vr_]), (row vr_ 3 1 (((List.replicate j2 (-1 : Int)).set ((((y : Int)).tmod (d.samples.length : Int)).toNat) nv).length) (ints ((List.replicate j2 (-1 : Int)).set ((((y : Int)).tmod (d.samples.length : Int)).toNat) nv))), (blk b174 62 [(Value.int .i64 0), vr_]), (blk b163 26 [rl, rs, (Value.int .i64 d.spread), v260]), (blk b26_ 60 [(Value.int .i64 ((S1.getD ((((y : Int)).tmod (d.samples.length : Int)).toNat) (0, 0)).1)), (Value.int .i64 ((S1.getD ((((y : Int)).tmod (d.samples.length : Int)).toNat) (0, 0)).2)), (Value.int .i64 (((S1.getD ((((y : Int)).tmod (d.samples.length : Int)).toNat) (0, 0)).1) - 1)), (Value.int .i64 (((S1.getD ((((y : Int)).tmod (d.samples.length : Int)).toNat) (0, 0)).2) + 1)), (Value.int .i64 ((m).tmod 1001))]), (row u83 46 2 S1.length (pairs S1)), (row v76 3 1 ((chosenF d.tols.length x).length) (ints (chosenF d.tols.length x))), (rndR true vl62 vs63 vb64 lv65 d), (row (vs45 2) 3 1 ((chosenF d.tols.length x).length) (ints (chosenF d.tols.length x))), (blk b4 26 [rl, rs, (Value.int .i64 d.spread), rb]), (rndR false rl rs rb rlv d)] := hS266; clear hS266 hS262
     refine wl_nil ?_
     refine then_n ?_
     refine c_seq ?_
     have hS269 := (hS268.row_say (i := 1) rfl (n' := (endsD d (((y : Int)).tmod (d.samples.length : Int)).toNat nv).tols.length) (xs' := vpairs ((endsD d (((y : Int)).tmod (d.samples.length : Int)).toNat nv).tols.zip (rlv ++ [vr_]))) (by rw [ends_len] <;> omega) (by first | exact (congrArg vpairs (ends_zip (rnd_at (hS268.ok 12 _ rfl)).lvl)).symm | exact (congrArg vpairs (ends_zip0 (rnd_at (hS268.ok 12 _ rfl)).lvl (by assumption))).symm)).row_say (i := 3) rfl (n' := (endsRow d (((y : Int)).tmod (d.samples.length : Int)).toNat nv).length) (xs' := ints (endsRow d (((y : Int)).tmod (d.samples.length : Int)).toNat nv)) (by rw [show j2 = d.samples.length by omega]; rfl) (by rw [show j2 = d.samples.length by omega]; rfl); clear hS268
     refine c_region ?_
     refine st hA267 (op_loadA rfl ty_26 (hA267.ev rfl) (hS269.bk 5 rfl) (l := [rl, rs, (Value.int .i64 d.spread), v260]) rfl rfl) rfl rfl (by decide) fun a270 hA271 => ?_; clear hA267 a263
     refine stw hA271 (op_call rfl en_20 (ev1 (hA271.ev rfl)) (Round_ok rl rs v260 (rlv ++ [vr_]) (endsD d (((y : Int)).tmod (d.samples.length : Int)).toNat nv) _ (show RoundAt _ rl rs v260 (rlv ++ [vr_]) (endsD d (((y : Int)).tmod (d.samples.length : Int)).toNat nv) from ⟨(rnd_at (hS269.ok 12 _ rfl)).lots, (rnd_at (hS269.ok 12 _ rfl)).samples, SlAt.of_row (hS269.ok_row 1 rfl), rdsAt_snoc (rnd_at (hS269.ok 12 _ rfl)).rds ((rnd_at (hS269.ok 12 _ rfl)).lvl.trans (rnd_at (hS269.ok 12 _ rfl)).rdl.symm) (SlAt.of_row (hS269.ok_row 3 rfl)), (by rw [ends_len, List.length_append, (rnd_at (hS269.ok 12 _ rfl)).lvl]; rfl), ends_rdl (rnd_at (hS269.ok 12 _ rfl)).rdl⟩) (ends_thin hV hrl8 h5 (by omega)))) rfl rfl (by decide) ?_
     rintro a272 _ w274 ⟨vl275, vs276, vb277, lv278, rfl, hT279⟩ hA273; have hS280 := hS269.callS hT279 rfl; clear hT279 hA271 hS269 a270
     refine st hA273 (op_move rfl (hA273.ev rfl)) rfl rfl (by decide) fun a281 hA282 => ?_; clear hA273 a272
     refine stw hA282 (op_call rfl en_22 (ev1 (hA282.ev rfl)) (list_ok (chosenF d.tols.length x) _ _ (SlAt.of_row (hS280.ok_row 11 rfl)) (Nat.le_trans (chosenF_len _ _) (by omega)))) rfl rfl (by decide) ?_
     rintro a283 v289 w285 ⟨hE286, hO287⟩ hA284; have hS288 := hS280.new_row hE286 hO287; clear hE286 hO287 hA282 hS280 a281
     refine stw hA284 (op_call rfl en_21 (ev2 (hA284.ev rfl) (hA284.ev rfl)) (by have h := (explains_ok vl275 vs276 vb277 lv278 (endsD d (((y : Int)).tmod (d.samples.length : Int)).toNat nv) _ (rnd_at (hS288.ok 1 _ rfl)) _ (chosenF d.tols.length x) (SlAt.of_row (hS288.ok_row 0 rfl)) (Nat.le_trans (chosenF_len _ _) (by omega))); rw [(he nv (by omega) (by omega))] at h; exact h)) rfl rfl (by decide) ?_
     rintro a290 _ w292 ⟨rfl, hE293⟩ hA291; have hS294 := hS288.step hE293; clear hE293 hA284 hS288 a283
     refine st hA291 (op_move rfl (hA291.ev rfl)) rfl rfl (by decide) fun a295 hA296 => ?_; clear hA291 a290
     refine st hA296 (op_extract rfl (hA296.ev rfl) rfl) rfl rfl (by decide) fun a297 hA298 => ?_; clear hA296 a295
     refine st hA298 (op_extract rfl (hA298.ev rfl) rfl) rfl rfl (by decide) fun a299 hA300 => ?_; clear hA298 a297
     refine st hA300 (op_assign rfl (hA300.ev rfl)) rfl rfl (by decide) fun a301 hA302 => ?_; clear hA300 a299
     refine st hA302 (op_assign rfl (hA302.ev rfl)) rfl rfl (by decide) fun a303 hA304 => ?_; clear hA302 a301
     refine wl_nil ?_
     refine then_n ?_
     refine c_seq ?_
     have hA305 := hA304.as [(20, (Value.int .i64 0)), (19, (Value.bool (decide (((S1.getD ((((y : Int)).tmod (d.samples.length : Int)).toNat) (0, 0)).1) ≤ nv) && decide (nv ≤ ((S1.getD ((((y : Int)).tmod (d.samples.length : Int)).toNat) (0, 0)).2))))), (15, (Value.int .i64 nv)), (14, (Value.int .i64 (i5 : Int))), (13, (bptr b26_ 0)), (11, u83), (10, (Value.int .i64 (((y : Int)).tmod (d.samples.length : Int)))), (9, (vs45 2)), (4, (bptr b4 0))] rfl; clear hA304
     have hA306 := hA305.as [(20, (Value.int .i64 0)), (19, (Value.bool (decide (((S1.getD ((((y : Int)).tmod (d.samples.length : Int)).toNat) (0, 0)).1) ≤ nv) && decide (nv ≤ ((S1.getD ((((y : Int)).tmod (d.samples.length : Int)).toNat) (0, 0)).2))))), (15, (Value.int .i64 nv)), (14, (Value.int .i64 (i5 : Int))), (13, (bptr b26_ 0)), (11, u83), (10, (Value.int .i64 (((y : Int)).tmod (d.samples.length : Int)))), (9, (vs45 2)), (4, (bptr b4 0))] rfl; clear hA305
     refine c_drawV mixed hA306 hS294 16 [[], [0], [1], [2], [2], [2], [2], [2, 5, 6], [2, 7], [2, 8], [2], [2], [2, 10, 11], [2, 12], [2, 13], [2, 4, 9, 14]] [(fun (vs307 : Nat → Value) (v_ : Value) (rs_ : List Res) => v_ = (Value.int .i64 0) ∧ rs_ = []), (fun (vs307 : Nat → Value) (v_ : Value) (rs_ : List Res) => v_ = (Value.bool false) ∧ rs_ = []), (fun (vs307 : Nat → Value) (v_ : Value) (rs_ : List Res) => v_ = (Value.bool false) ∧ rs_ = []), (fun (vs307 : Nat → Value) (v_ : Value) (rs_ : List Res) => v_ = (Value.bool (decide (((S1.getD ((((y : Int)).tmod (d.samples.length : Int)).toNat) (0, 0)).1) ≤ nv) && decide (nv ≤ ((S1.getD ((((y : Int)).tmod (d.samples.length : Int)).toNat) (0, 0)).2)))) ∧ rs_ = []), (fun (vs307 : Nat → Value) (v_ : Value) (rs_ : List Res) => v_ = (Value.int .i64 nv) ∧ rs_ = []), (fun (vs307 : Nat → Value) (v_ : Value) (rs_ : List Res) => v_ = u83 ∧ rs_ = []), (fun (vs307 : Nat → Value) (v_ : Value) (rs_ : List Res) => v_ = (Value.int .i64 (((y : Int)).tmod (d.samples.length : Int))) ∧ rs_ = []), (fun (vs307 : Nat → Value) (v_ : Value) (rs_ : List Res) => v_ = (eptr u83 ((((y : Int)).tmod (d.samples.length : Int)).toNat * 2)) ∧ rs_ = []), (fun (vs307 : Nat → Value) (v_ : Value) (rs_ : List Res) => v_ = (eptr u83 ((((y : Int)).tmod (d.samples.length : Int)).toNat * 2 + 0)) ∧ rs_ = []), (fun (vs307 : Nat → Value) (v_ : Value) (rs_ : List Res) => v_ = (Value.int .i64 ((S1.getD ((((y : Int)).tmod (d.samples.length : Int)).toNat) (0, 0)).1)) ∧ rs_ = []), (fun (vs307 : Nat → Value) (v_ : Value) (rs_ : List Res) => v_ = u83 ∧ rs_ = []), (fun (vs307 : Nat → Value) (v_ : Value) (rs_ : List Res) => v_ = (Value.int .i64 (((y : Int)).tmod (d.samples.length : Int))) ∧ rs_ = []), (fun (vs307 : Nat → Value) (v_ : Value) (rs_ : List Res) => v_ = (eptr u83 ((((y : Int)).tmod (d.samples.length : Int)).toNat * 2)) ∧ rs_ = []), (fun (vs307 : Nat → Value) (v_ : Value) (rs_ : List Res) => v_ = (eptr u83 ((((y : Int)).tmod (d.samples.length : Int)).toNat * 2 + 1)) ∧ rs_ = []), (fun (vs307 : Nat → Value) (v_ : Value) (rs_ : List Res) => v_ = (Value.int .i64 ((S1.getD ((((y : Int)).tmod (d.samples.length : Int)).toNat) (0, 0)).2)) ∧ rs_ = []), (fun (vs307 : Nat → Value) (v_ : Value) (rs_ : List Res) => v_ = (Value.bool (decide (((S1.getD ((((y : Int)).tmod (d.samples.length : Int)).toNat) (0, 0)).1) ≤ nv) && decide (nv ≤ ((S1.getD ((((y : Int)).tmod (d.samples.length : Int)).toNat) (0, 0)).2)))) ∧ rs_ = [])] (by decide +kernel) (by decide +kernel) rfl rfl ⟨(fun _ _ _ _ _ h_ => h_), (fun _ _ _ _ _ h_ => h_), (fun _ _ _ _ _ h_ => h_), (fun _ _ _ _ _ h_ => h_), (fun _ _ _ _ _ h_ => h_), (fun _ _ _ _ _ h_ => h_), (fun _ _ _ _ _ h_ => h_), (fun _ _ _ _ _ h_ => h_), (fun _ _ _ _ _ h_ => h_), (fun _ _ _ _ _ h_ => h_), (fun _ _ _ _ _ h_ => h_), (fun _ _ _ _ _ h_ => h_), (fun _ _ _ _ _ h_ => h_), (fun _ _ _ _ _ h_ => h_), (fun _ _ _ _ _ h_ => h_), (fun _ _ _ _ _ h_ => h_), trivial⟩ ?_ ?_
     ·skip
      refine ⟨fun a w vs307 hA hS hd => ?_, ?_⟩
      ·skip
       exact opG_of rfl (vv (op_move rfl (hA.ev rfl)) (And.intro rfl rfl))
      refine ⟨fun a w vs307 hA hS hd => ?_, ?_⟩
      ·skip
       obtain ⟨e0, rs0, hy0, hp0⟩ := hd 0 (by decide)
       obtain ⟨hv0, hr0⟩ := hy0; subst hr0
       rw [hv0] at e0
       exact opG_of rfl (vv (op_neq rfl (tmp_ev (slot_ev e0 rfl)) (evc _ _)) (And.intro rfl rfl))
      refine ⟨fun a w vs307 hA hS hd => ?_, ?_⟩
      ·skip
       obtain ⟨e1, rs1, hy1, hp1⟩ := hd 1 (by decide)
       obtain ⟨hv1, hr1⟩ := hy1; subst hr1
       rw [hv1] at e1
       exact opG_of rfl (vv (op_move rfl (tmp_ev (slot_ev e1 rfl))) (And.intro rfl rfl))
      refine ⟨fun a w vs307 hA hS hd => ?_, ?_⟩
      ·skip
       obtain ⟨e2, rs2, hy2, hp2⟩ := hd 2 (by decide)
       obtain ⟨hv2, hr2⟩ := hy2; subst hr2
       rw [hv2] at e2
       exact opG_yes rfl rfl (slot_ev e2 rfl) (vv (op_move rfl (hA.ev rfl)) (And.intro rfl rfl))
      refine ⟨fun a w vs307 hA hS hd => ?_, ?_⟩
      ·skip
       obtain ⟨e2, rs2, hy2, hp2⟩ := hd 2 (by decide)
       obtain ⟨hv2, hr2⟩ := hy2; subst hr2
       rw [hv2] at e2
       exact opG_yes rfl rfl (slot_ev e2 rfl) (vv (op_move rfl (hA.ev rfl)) (And.intro rfl rfl))
      refine ⟨fun a w vs307 hA hS hd => ?_, ?_⟩
      ·skip
       obtain ⟨e2, rs2, hy2, hp2⟩ := hd 2 (by decide)
       obtain ⟨hv2, hr2⟩ := hy2; subst hr2
       rw [hv2] at e2
       exact opG_yes rfl rfl (slot_ev e2 rfl) (vv (op_move rfl (hA.ev rfl)) (And.intro rfl rfl))
      refine ⟨fun a w vs307 hA hS hd => ?_, ?_⟩
      ·skip
       obtain ⟨e2, rs2, hy2, hp2⟩ := hd 2 (by decide)
       obtain ⟨hv2, hr2⟩ := hy2; subst hr2
       rw [hv2] at e2
       exact opG_yes rfl rfl (slot_ev e2 rfl) (vv (op_move rfl (hA.ev rfl)) (And.intro rfl rfl))
      refine ⟨fun a w vs307 hA hS hd => ?_, ?_⟩
      ·skip
       obtain ⟨e2, rs2, hy2, hp2⟩ := hd 2 (by decide)
       obtain ⟨hv2, hr2⟩ := hy2; subst hr2
       rw [hv2] at e2
       obtain ⟨e5, rs5, hy5, hp5⟩ := hd 5 (by decide)
       obtain ⟨hv5, hr5⟩ := hy5; subst hr5
       rw [hv5] at e5
       obtain ⟨e6, rs6, hy6, hp6⟩ := hd 6 (by decide)
       obtain ⟨hv6, hr6⟩ := hy6; subst hr6
       rw [hv6] at e6
       exact opG_yes rfl rfl (slot_ev e2 rfl) (vv (op_indexS rfl un_31 ty_46 (tmp_ev (slot_ev e5 rfl)) (i := (((y : Int)).tmod (d.samples.length : Int)).toNat) ((tmp_ev (slot_ev e6 rfl)).trans (int_nat (by omega))) (SlAt.of_row (hS.ok_row 9 rfl)) (by decide) (by omega)) (And.intro rfl rfl))
      refine ⟨fun a w vs307 hA hS hd => ?_, ?_⟩
      ·skip
       obtain ⟨e2, rs2, hy2, hp2⟩ := hd 2 (by decide)
       obtain ⟨hv2, hr2⟩ := hy2; subst hr2
       rw [hv2] at e2
       obtain ⟨e7, rs7, hy7, hp7⟩ := hd 7 (by decide)
       obtain ⟨hv7, hr7⟩ := hy7; subst hr7
       rw [hv7] at e7
       exact opG_yes rfl rfl (slot_ev e2 rfl) (vv (op_fieldS rfl fd_46_0 (tmp_ev (slot_ev e7 rfl)) (SlAt.of_row (hS.ok_row 9 rfl)) (by rw [((SlAt.of_row (hS.ok_row 9 rfl))).1]; omega)) (And.intro rfl rfl))
      refine ⟨fun a w vs307 hA hS hd => ?_, ?_⟩
      ·skip
       obtain ⟨e2, rs2, hy2, hp2⟩ := hd 2 (by decide)
       obtain ⟨hv2, hr2⟩ := hy2; subst hr2
       rw [hv2] at e2
       obtain ⟨e8, rs8, hy8, hp8⟩ := hd 8 (by decide)
       obtain ⟨hv8, hr8⟩ := hy8; subst hr8
       rw [hv8] at e8
       exact opG_yes rfl rfl (slot_ev e2 rfl) (vv (op_load1E rfl ty_3 (tmp_ev (slot_ev e8 rfl)) (SlAt.of_row (hS.ok_row 9 rfl)) (pairs_at0 (by omega))) (And.intro rfl rfl))
      refine ⟨fun a w vs307 hA hS hd => ?_, ?_⟩
      ·skip
       obtain ⟨e2, rs2, hy2, hp2⟩ := hd 2 (by decide)
       obtain ⟨hv2, hr2⟩ := hy2; subst hr2
       rw [hv2] at e2
       exact opG_yes rfl rfl (slot_ev e2 rfl) (vv (op_move rfl (hA.ev rfl)) (And.intro rfl rfl))
      refine ⟨fun a w vs307 hA hS hd => ?_, ?_⟩
      ·skip
       obtain ⟨e2, rs2, hy2, hp2⟩ := hd 2 (by decide)
       obtain ⟨hv2, hr2⟩ := hy2; subst hr2
       rw [hv2] at e2
       exact opG_yes rfl rfl (slot_ev e2 rfl) (vv (op_move rfl (hA.ev rfl)) (And.intro rfl rfl))
      refine ⟨fun a w vs307 hA hS hd => ?_, ?_⟩
      ·skip
       obtain ⟨e2, rs2, hy2, hp2⟩ := hd 2 (by decide)
       obtain ⟨hv2, hr2⟩ := hy2; subst hr2
       rw [hv2] at e2
       obtain ⟨e10, rs10, hy10, hp10⟩ := hd 10 (by decide)
       obtain ⟨hv10, hr10⟩ := hy10; subst hr10
       rw [hv10] at e10
       obtain ⟨e11, rs11, hy11, hp11⟩ := hd 11 (by decide)
       obtain ⟨hv11, hr11⟩ := hy11; subst hr11
       rw [hv11] at e11
       exact opG_yes rfl rfl (slot_ev e2 rfl) (vv (op_indexS rfl un_31 ty_46 (tmp_ev (slot_ev e10 rfl)) (i := (((y : Int)).tmod (d.samples.length : Int)).toNat) ((tmp_ev (slot_ev e11 rfl)).trans (int_nat (by omega))) (SlAt.of_row (hS.ok_row 9 rfl)) (by decide) (by omega)) (And.intro rfl rfl))
      refine ⟨fun a w vs307 hA hS hd => ?_, ?_⟩
      ·skip
       obtain ⟨e2, rs2, hy2, hp2⟩ := hd 2 (by decide)
       obtain ⟨hv2, hr2⟩ := hy2; subst hr2
       rw [hv2] at e2
       obtain ⟨e12, rs12, hy12, hp12⟩ := hd 12 (by decide)
       obtain ⟨hv12, hr12⟩ := hy12; subst hr12
       rw [hv12] at e12
       exact opG_yes rfl rfl (slot_ev e2 rfl) (vv (op_fieldS rfl fd_46_1 (tmp_ev (slot_ev e12 rfl)) (SlAt.of_row (hS.ok_row 9 rfl)) (by rw [((SlAt.of_row (hS.ok_row 9 rfl))).1]; omega)) (And.intro rfl rfl))
      refine ⟨fun a w vs307 hA hS hd => ?_, ?_⟩
      ·skip
       obtain ⟨e2, rs2, hy2, hp2⟩ := hd 2 (by decide)
       obtain ⟨hv2, hr2⟩ := hy2; subst hr2
       rw [hv2] at e2
       obtain ⟨e13, rs13, hy13, hp13⟩ := hd 13 (by decide)
       obtain ⟨hv13, hr13⟩ := hy13; subst hr13
       rw [hv13] at e13
       exact opG_yes rfl rfl (slot_ev e2 rfl) (vv (op_load1E rfl ty_3 (tmp_ev (slot_ev e13 rfl)) (SlAt.of_row (hS.ok_row 9 rfl)) (pairs_at1 (by omega))) (And.intro rfl rfl))
      refine ⟨fun a w vs307 hA hS hd => ?_, ?_⟩
      ·skip
       obtain ⟨e2, rs2, hy2, hp2⟩ := hd 2 (by decide)
       obtain ⟨hv2, hr2⟩ := hy2; subst hr2
       rw [hv2] at e2
       obtain ⟨e4, rs4, hy4, hp4⟩ := hd 4 (by decide)
       obtain ⟨hv4, hr4⟩ := hy4; subst hr4
       rw [hv4] at e4
       obtain ⟨e9, rs9, hy9, hp9⟩ := hd 9 (by decide)
       obtain ⟨hv9, hr9⟩ := hy9; subst hr9
       rw [hv9] at e9
       obtain ⟨e14, rs14, hy14, hp14⟩ := hd 14 (by decide)
       obtain ⟨hv14, hr14⟩ := hy14; subst hr14
       rw [hv14] at e14
       exact opG_yes rfl rfl (slot_ev e2 rfl) (vv (op_call rfl en_33 (ev3 (tmp_ev (slot_ev e4 rfl)) (tmp_ev (slot_ev e9 rfl)) (tmp_ev (slot_ev e14 rfl))) (In_ok _ _ _ _)) (And.intro rfl rfl))
      trivial
     intro a308 w309 vs307 rsf313 hA310 hH312 hS311; clear hA306 hS294
     obtain ⟨hs_0, hy_0⟩ := hH312 0 (by decide)
     obtain ⟨hv_0, hr_0⟩ := hy_0
     obtain ⟨hs_1, hy_1⟩ := hH312 1 (by decide)
     obtain ⟨hv_1, hr_1⟩ := hy_1
     obtain ⟨hs_2, hy_2⟩ := hH312 2 (by decide)
     obtain ⟨hv_2, hr_2⟩ := hy_2
     obtain ⟨hs_3, hy_3⟩ := hH312 3 (by decide)
     obtain ⟨hv_3, hr_3⟩ := hy_3
     obtain ⟨hs_4, hy_4⟩ := hH312 4 (by decide)
     obtain ⟨hv_4, hr_4⟩ := hy_4
     obtain ⟨hs_5, hy_5⟩ := hH312 5 (by decide)
     obtain ⟨hv_5, hr_5⟩ := hy_5
     obtain ⟨hs_6, hy_6⟩ := hH312 6 (by decide)
     obtain ⟨hv_6, hr_6⟩ := hy_6
     obtain ⟨hs_7, hy_7⟩ := hH312 7 (by decide)
     obtain ⟨hv_7, hr_7⟩ := hy_7
     obtain ⟨hs_8, hy_8⟩ := hH312 8 (by decide)
     obtain ⟨hv_8, hr_8⟩ := hy_8
     obtain ⟨hs_9, hy_9⟩ := hH312 9 (by decide)
     obtain ⟨hv_9, hr_9⟩ := hy_9
     obtain ⟨hs_10, hy_10⟩ := hH312 10 (by decide)
     obtain ⟨hv_10, hr_10⟩ := hy_10
     obtain ⟨hs_11, hy_11⟩ := hH312 11 (by decide)
     obtain ⟨hv_11, hr_11⟩ := hy_11
     obtain ⟨hs_12, hy_12⟩ := hH312 12 (by decide)
     obtain ⟨hv_12, hr_12⟩ := hy_12
     obtain ⟨hs_13, hy_13⟩ := hH312 13 (by decide)
     obtain ⟨hv_13, hr_13⟩ := hy_13
     obtain ⟨hs_14, hy_14⟩ := hH312 14 (by decide)
     obtain ⟨hv_14, hr_14⟩ := hy_14
     obtain ⟨hs_15, hy_15⟩ := hH312 15 (by decide)
     obtain ⟨hv_15, hr_15⟩ := hy_15
     have hS314 : Sep NoB w w309 [(row v289 3 1 ((chosenF d.tols.length x).length) (ints (chosenF d.tols.length x))), (rndR true vl275 vs276 vb277 lv278 (endsD d (((y : Int)).tmod (d.samples.length : Int)).toNat nv)), (blk b0_ 62 []), (row v260 62 2 ((endsD d (((y : Int)).tmod (d.samples.length : Int)).toNat nv).tols.length) (vpairs ((endsD d (((y : Int)).tmod (d.samples.length : Int)).toNat nv).tols.zip (rlv ++ [vr_])))), (row (vs247 5) 62 2 1 [(Value.int .i64 0), vr_]), (row vr_ 3 1 ((endsRow d (((y : Int)).tmod (d.samples.length : Int)).toNat nv).length) (ints (endsRow d (((y : Int)).tmod (d.samples.length : Int)).toNat nv))), (blk b174 62 [(Value.int .i64 0), vr_]), (blk b163 26 [rl, rs, (Value.int .i64 d.spread), v260]), (blk b26_ 60 [(Value.int .i64 ((S1.getD ((((y : Int)).tmod (d.samples.length : Int)).toNat) (0, 0)).1)), (Value.int .i64 ((S1.getD ((((y : Int)).tmod (d.samples.length : Int)).toNat) (0, 0)).2)), (Value.int .i64 (((S1.getD ((((y : Int)).tmod (d.samples.length : Int)).toNat) (0, 0)).1) - 1)), (Value.int .i64 (((S1.getD ((((y : Int)).tmod (d.samples.length : Int)).toNat) (0, 0)).2) + 1)), (Value.int .i64 ((m).tmod 1001))]), (row u83 46 2 S1.length (pairs S1)), (row v76 3 1 ((chosenF d.tols.length x).length) (ints (chosenF d.tols.length x))), (rndR true vl62 vs63 vb64 lv65 d), (row (vs45 2) 3 1 ((chosenF d.tols.length x).length) (ints (chosenF d.tols.length x))), (blk b4 26 [rl, rs, (Value.int .i64 d.spread), rb]), (rndR false rl rs rb rlv d)] := by rw [show catR rsf313 0 16 = ([] : List Res) by (try simp only [catR, hr_0, hr_1, hr_2, hr_3, hr_4, hr_5, hr_6, hr_7, hr_8, hr_9, hr_10, hr_11, hr_12, hr_13, hr_14, hr_15]); (try rfl)] at hS311; exact hS311
     rw [hv_2] at hs_2
     have hA315 : Fr 157 [] [(140, (Value.bool false)), (20, (Value.int .i64 0)), (19, (Value.bool (decide (((S1.getD ((((y : Int)).tmod (d.samples.length : Int)).toNat) (0, 0)).1) ≤ nv) && decide (nv ≤ ((S1.getD ((((y : Int)).tmod (d.samples.length : Int)).toNat) (0, 0)).2))))), (15, (Value.int .i64 nv)), (14, (Value.int .i64 (i5 : Int))), (13, (bptr b26_ 0)), (11, u83), (10, (Value.int .i64 (((y : Int)).tmod (d.samples.length : Int)))), (9, (vs45 2)), (4, (bptr b4 0))] a308 := hA310.add (slot_ev hs_2 rfl); clear hA310
     rw [hv_3] at hs_3
     have hA316 : Fr 157 [] [(141, (Value.bool (decide (((S1.getD ((((y : Int)).tmod (d.samples.length : Int)).toNat) (0, 0)).1) ≤ nv) && decide (nv ≤ ((S1.getD ((((y : Int)).tmod (d.samples.length : Int)).toNat) (0, 0)).2))))), (140, (Value.bool false)), (20, (Value.int .i64 0)), (19, (Value.bool (decide (((S1.getD ((((y : Int)).tmod (d.samples.length : Int)).toNat) (0, 0)).1) ≤ nv) && decide (nv ≤ ((S1.getD ((((y : Int)).tmod (d.samples.length : Int)).toNat) (0, 0)).2))))), (15, (Value.int .i64 nv)), (14, (Value.int .i64 (i5 : Int))), (13, (bptr b26_ 0)), (11, u83), (10, (Value.int .i64 (((y : Int)).tmod (d.samples.length : Int)))), (9, (vs45 2)), (4, (bptr b4 0))] a308 := hA315.add (slot_ev hs_3 rfl); clear hA315
     rw [hv_15] at hs_15
     have hA317 : Fr 157 [] [(153, (Value.bool (decide (((S1.getD ((((y : Int)).tmod (d.samples.length : Int)).toNat) (0, 0)).1) ≤ nv) && decide (nv ≤ ((S1.getD ((((y : Int)).tmod (d.samples.length : Int)).toNat) (0, 0)).2))))), (141, (Value.bool (decide (((S1.getD ((((y : Int)).tmod (d.samples.length : Int)).toNat) (0, 0)).1) ≤ nv) && decide (nv ≤ ((S1.getD ((((y : Int)).tmod (d.samples.length : Int)).toNat) (0, 0)).2))))), (140, (Value.bool false)), (20, (Value.int .i64 0)), (19, (Value.bool (decide (((S1.getD ((((y : Int)).tmod (d.samples.length : Int)).toNat) (0, 0)).1) ≤ nv) && decide (nv ≤ ((S1.getD ((((y : Int)).tmod (d.samples.length : Int)).toNat) (0, 0)).2))))), (15, (Value.int .i64 nv)), (14, (Value.int .i64 (i5 : Int))), (13, (bptr b26_ 0)), (11, u83), (10, (Value.int .i64 (((y : Int)).tmod (d.samples.length : Int)))), (9, (vs45 2)), (4, (bptr b4 0))] a308 := hA316.add (slot_ev hs_15 rfl); clear hA316
     clear hH312 hS311 hs_0 hs_1 hs_2 hs_3 hs_4 hs_5 hs_6 hs_7 hs_8 hs_9 hs_10 hs_11 hs_12 hs_13 hs_14 hs_15
     clear hr_0
     clear hv_0
     clear hr_1
     clear hv_1
     clear hr_2
     clear hv_2
     clear hr_3
     clear hv_3
     clear hr_4
     clear hv_4
     clear hr_5
     clear hv_5
     clear hr_6
     clear hv_6
     clear hr_7
     clear hv_7
     clear hr_8
     clear hv_8
     clear hr_9
     clear hv_9
     clear hr_10
     clear hv_10
     clear hr_11
     clear hv_11
     clear hr_12
     clear hv_12
     clear hr_13
     clear hv_13
     clear hr_14
     clear hv_14
     clear hr_15
     clear hv_15
     refine stg hA317 (op_neqB un_4 rfl (hA317.ev rfl) (hA317.ev rfl)) rfl rfl rfl rfl (by decide) fun a318 hA319 => ?_; clear hA317 a308
     refine st hA319 (op_pick_f rfl (hA319.ev rfl) (hA319.ev rfl)) rfl rfl (by decide) fun a320 hA321 => ?_; clear hA319 a318
     refine wl_nil ?_
     refine then_n ?_
     rcases Bool.eq_false_or_eq_true ((decide (((S1.getD ((((y : Int)).tmod (d.samples.length : Int)).toNat) (0, 0)).1) ≤ nv) && decide (nv ≤ ((S1.getD ((((y : Int)).tmod (d.samples.length : Int)).toNat) (0, 0)).2)))) with hb322 | hb322
     ·skip
      rw [hb322] at hA321
      have hq323 := hb322; simp only [Bool.and_eq_true, Bool.and_eq_false_iff, decide_eq_true_eq, decide_eq_false_iff_not] at hq323
      refine c_false hA321 rfl ?_
      refine c_skip ?_
      refine blk_n ?_
      refine then_n ?_
      have hA324 := hA321.as [(14, (Value.int .i64 (i5 : Int))), (13, (bptr b26_ 0)), (11, u83), (10, (Value.int .i64 (((y : Int)).tmod (d.samples.length : Int)))), (9, (vs45 2)), (4, (bptr b4 0))] rfl; clear hA321
      refine c_region ?_
      refine st hA324 (op_move rfl (hA324.ev rfl)) rfl rfl (by decide) fun a325 hA326 => ?_; clear hA324 a320
      refine st hA326 (op_add rfl (hA326.ev rfl) (evc _ _) (by omega) (by omega)) rfl rfl (by decide) fun a327 hA328 => ?_; clear hA326 a325
      refine st hA328 (op_assign rfl (hA328.ev rfl)) rfl rfl (by decide) fun a329 hA330 => ?_; clear hA328 a327
      refine wl_nil ?_
      have hS331 : Sep NoB w w309 [(blk b26_ 60 [(Value.int .i64 ((S1.getD ((((y : Int)).tmod (d.samples.length : Int)).toNat) (0, 0)).1)), (Value.int .i64 ((S1.getD ((((y : Int)).tmod (d.samples.length : Int)).toNat) (0, 0)).2)), (Value.int .i64 (((S1.getD ((((y : Int)).tmod (d.samples.length : Int)).toNat) (0, 0)).1) - 1)), (Value.int .i64 (((S1.getD ((((y : Int)).tmod (d.samples.length : Int)).toNat) (0, 0)).2) + 1)), (Value.int .i64 ((m).tmod 1001))]), (row u83 46 2 S1.length (pairs S1)), (row v76 3 1 ((chosenF d.tols.length x).length) (ints (chosenF d.tols.length x))), (rndR true vl62 vs63 vb64 lv65 d), (row (vs45 2) 3 1 ((chosenF d.tols.length x).length) (ints (chosenF d.tols.length x))), (blk b4 26 [rl, rs, (Value.int .i64 d.spread), rb]), (rndR false rl rs rb rlv d)] := hS314.keep [8, 9, 10, 11, 12, 13, 14] (by decide) _ rfl rfl; clear hS314
      exact then_n ⟨i5 + 1, ⟨hA330.as _ rfl, hS331, by omega⟩, by omega⟩
     ·skip
      rw [hb322] at hA321
      have hq332 := hb322; simp only [Bool.and_eq_true, Bool.and_eq_false_iff, decide_eq_true_eq, decide_eq_false_iff_not] at hq332
      refine c_false hA321 rfl ?_
      refine c_skip ?_
      refine blk_n ?_
      refine then_n ?_
      have hA333 := hA321.as [(14, (Value.int .i64 (i5 : Int))), (13, (bptr b26_ 0)), (11, u83), (10, (Value.int .i64 (((y : Int)).tmod (d.samples.length : Int)))), (9, (vs45 2)), (4, (bptr b4 0))] rfl; clear hA321
      refine c_region ?_
      refine st hA333 (op_move rfl (hA333.ev rfl)) rfl rfl (by decide) fun a334 hA335 => ?_; clear hA333 a320
      refine st hA335 (op_add rfl (hA335.ev rfl) (evc _ _) (by omega) (by omega)) rfl rfl (by decide) fun a336 hA337 => ?_; clear hA335 a334
      refine st hA337 (op_assign rfl (hA337.ev rfl)) rfl rfl (by decide) fun a338 hA339 => ?_; clear hA337 a336
      refine wl_nil ?_
      have hS340 : Sep NoB w w309 [(blk b26_ 60 [(Value.int .i64 ((S1.getD ((((y : Int)).tmod (d.samples.length : Int)).toNat) (0, 0)).1)), (Value.int .i64 ((S1.getD ((((y : Int)).tmod (d.samples.length : Int)).toNat) (0, 0)).2)), (Value.int .i64 (((S1.getD ((((y : Int)).tmod (d.samples.length : Int)).toNat) (0, 0)).1) - 1)), (Value.int .i64 (((S1.getD ((((y : Int)).tmod (d.samples.length : Int)).toNat) (0, 0)).2) + 1)), (Value.int .i64 ((m).tmod 1001))]), (row u83 46 2 S1.length (pairs S1)), (row v76 3 1 ((chosenF d.tols.length x).length) (ints (chosenF d.tols.length x))), (rndR true vl62 vs63 vb64 lv65 d), (row (vs45 2) 3 1 ((chosenF d.tols.length x).length) (ints (chosenF d.tols.length x))), (blk b4 26 [rl, rs, (Value.int .i64 d.spread), rb]), (rndR false rl rs rb rlv d)] := hS314.keep [8, 9, 10, 11, 12, 13, 14] (by decide) _ rfl rfl; clear hS314
      exact then_n ⟨i5 + 1, ⟨hA339.as _ rfl, hS340, by omega⟩, by omega⟩
    ·skip
     have hA341 := hA243.as [(17, (bptr b174 0)), (16, (bptr b163 0)), (15, (Value.int .i64 nv)), (14, (Value.int .i64 (i5 : Int))), (13, (bptr b26_ 0)), (11, u83), (10, (Value.int .i64 (((y : Int)).tmod (d.samples.length : Int)))), (9, (vs45 2)), (4, (bptr b4 0))] rfl; clear hA243
     refine c_drawV mixed hA341 hS241 6 [[], [], [1], [0, 2], [], [4]] [(fun (vs342 : Nat → Value) (v_ : Value) (rs_ : List Res) => ∃ (b0_ : Nat), v_ = (Value.slice (some ⟨b0_, 0, none⟩) 0 0) ∧ rs_ = [(blk b0_ 62 [])]), (fun (vs342 : Nat → Value) (v_ : Value) (rs_ : List Res) => v_ = (bptr b4 3) ∧ rs_ = []), (fun (vs342 : Nat → Value) (v_ : Value) (rs_ : List Res) => v_ = rb ∧ rs_ = []), (fun (vs342 : Nat → Value) (v_ : Value) (rs_ : List Res) => v_ = (vs342 0) ∧ rs_ = []), (fun (vs342 : Nat → Value) (v_ : Value) (rs_ : List Res) => v_ = (Value.agg #[(Value.int .i64 0), vr_]) ∧ rs_ = []), (fun (vs342 : Nat → Value) (v_ : Value) (rs_ : List Res) => True ∧ rs_ = [(row v_ 62 2 1 [(Value.int .i64 0), vr_])])] (by decide +kernel) (by decide +kernel) rfl rfl ⟨(fun _ _ _ _ _ h_ => h_), (fun _ _ _ _ _ h_ => h_), (fun _ _ _ _ _ h_ => h_), (fun _ _ _ _ he_ h_ => by dsimp only at h_ ⊢; rw [← he_ 0 (by decide)]; exact h_), (fun _ _ _ _ _ h_ => h_), (fun _ _ _ _ _ h_ => h_), trivial⟩ ?_ ?_
     ·skip
      refine ⟨fun a w vs342 hA hS hd => ?_, ?_⟩
      ·skip
       exact opG_of rfl (vblz rfl pv0 un_24 ty_62 ze_62 bs_62_0_ (fun b_ => ⟨b_, rfl, rfl⟩))
      refine ⟨fun a w vs342 hA hS hd => ?_, ?_⟩
      ·skip
       exact opG_of rfl (vv (op_field rfl fd_26_3 (hA.ev rfl)) (And.intro rfl rfl))
      refine ⟨fun a w vs342 hA hS hd => ?_, ?_⟩
      ·skip
       obtain ⟨e1, rs1, hy1, hp1⟩ := hd 1 (by decide)
       obtain ⟨hv1, hr1⟩ := hy1; subst hr1
       rw [hv1] at e1
       exact opG_of rfl (vv (op_load1 rfl ty_24 (tmp_ev (slot_ev e1 rfl)) (hS.bk 8 rfl) rfl) (And.intro rfl rfl))
      refine ⟨fun a w vs342 hA hS hd => ?_, ?_⟩
      ·skip
       obtain ⟨e0, rs0, hy0, hp0⟩ := hd 0 (by decide)
       obtain ⟨b0_, hv0, hr0⟩ := hy0; subst hr0
       rw [hv0] at e0
       have hp0_0 := hp0 _ (List.mem_of_getElem? (i := 0) rfl)
       obtain ⟨e2, rs2, hy2, hp2⟩ := hd 2 (by decide)
       obtain ⟨hv2, hr2⟩ := hy2; subst hr2
       rw [hv2] at e2
       exact opG_of rfl (vv (op_appendZ rfl un_24 el_62 (tmp_ev (slot_ev e0 rfl)) (tmp_ev (slot_ev e2 rfl)) (rnd_at (hS.ok 9 _ rfl)).labs (Nat.eq_zero_of_not_pos hb245)) (And.intro hv0.symm rfl))
      refine ⟨fun a w vs342 hA hS hd => ?_, ?_⟩
      ·skip
       exact opG_of rfl (vv (op_loadA rfl ty_62 (hA.ev rfl) (hS.bk 1 rfl) (l := [(Value.int .i64 0), vr_]) rfl rfl) (And.intro rfl rfl))
      refine ⟨fun a w vs342 hA hS hd => ?_, ?_⟩
      ·skip
       obtain ⟨e4, rs4, hy4, hp4⟩ := hd 4 (by decide)
       obtain ⟨hv4, hr4⟩ := hy4; subst hr4
       rw [hv4] at e4
       exact opG_of rfl (vblt rfl (pv1 (tmp_ev (slot_ev e4 rfl))) un_24 ty_62 ze_62 (by decide) (cs := [(Value.int .i64 0), vr_]) (bs_62_1_0iva _ _) rfl (by decide) (fun _ => And.intro trivial rfl))
      trivial
     intro a343 w344 vs342 rsf348 hA345 hH347 hS346; clear hA341 hS241
     obtain ⟨hs_0, hy_0⟩ := hH347 0 (by decide)
     obtain ⟨b0_, hv_0, hr_0⟩ := hy_0
     obtain ⟨hs_1, hy_1⟩ := hH347 1 (by decide)
     obtain ⟨hv_1, hr_1⟩ := hy_1
     obtain ⟨hs_2, hy_2⟩ := hH347 2 (by decide)
     obtain ⟨hv_2, hr_2⟩ := hy_2
     obtain ⟨hs_3, hy_3⟩ := hH347 3 (by decide)
     obtain ⟨hv_3, hr_3⟩ := hy_3
     obtain ⟨hs_4, hy_4⟩ := hH347 4 (by decide)
     obtain ⟨hv_4, hr_4⟩ := hy_4
     obtain ⟨hs_5, hy_5⟩ := hH347 5 (by decide)
     obtain ⟨hv_5, hr_5⟩ := hy_5
     have hS349 : Sep NoB w w344 [(blk b0_ 62 []), (row (vs342 5) 62 2 1 [(Value.int .i64 0), vr_]), (row vr_ 3 1 (((List.replicate j2 (-1 : Int)).set ((((y : Int)).tmod (d.samples.length : Int)).toNat) nv).length) (ints ((List.replicate j2 (-1 : Int)).set ((((y : Int)).tmod (d.samples.length : Int)).toNat) nv))), (blk b174 62 [(Value.int .i64 0), vr_]), (blk b163 26 [rl, rs, (Value.int .i64 d.spread), rb]), (blk b26_ 60 [(Value.int .i64 ((S1.getD ((((y : Int)).tmod (d.samples.length : Int)).toNat) (0, 0)).1)), (Value.int .i64 ((S1.getD ((((y : Int)).tmod (d.samples.length : Int)).toNat) (0, 0)).2)), (Value.int .i64 (((S1.getD ((((y : Int)).tmod (d.samples.length : Int)).toNat) (0, 0)).1) - 1)), (Value.int .i64 (((S1.getD ((((y : Int)).tmod (d.samples.length : Int)).toNat) (0, 0)).2) + 1)), (Value.int .i64 ((m).tmod 1001))]), (row u83 46 2 S1.length (pairs S1)), (row v76 3 1 ((chosenF d.tols.length x).length) (ints (chosenF d.tols.length x))), (rndR true vl62 vs63 vb64 lv65 d), (row (vs45 2) 3 1 ((chosenF d.tols.length x).length) (ints (chosenF d.tols.length x))), (blk b4 26 [rl, rs, (Value.int .i64 d.spread), rb]), (rndR false rl rs rb rlv d)] := by rw [show catR rsf348 0 6 = ([(blk b0_ 62 []), (row (vs342 5) 62 2 1 [(Value.int .i64 0), vr_])] : List Res) by (try simp only [catR, hr_0, hr_1, hr_2, hr_3, hr_4, hr_5]); (try rfl)] at hS346; exact hS346
     rw [hv_3, hv_0] at hs_3
     have hA350 : Fr 157 [] [(125, (Value.slice (some ⟨b0_, 0, none⟩) 0 0)), (17, (bptr b174 0)), (16, (bptr b163 0)), (15, (Value.int .i64 nv)), (14, (Value.int .i64 (i5 : Int))), (13, (bptr b26_ 0)), (11, u83), (10, (Value.int .i64 (((y : Int)).tmod (d.samples.length : Int)))), (9, (vs45 2)), (4, (bptr b4 0))] a343 := hA345.add (slot_ev hs_3 rfl); clear hA345
     have hA351 : Fr 157 [] [(127, (vs342 5)), (125, (Value.slice (some ⟨b0_, 0, none⟩) 0 0)), (17, (bptr b174 0)), (16, (bptr b163 0)), (15, (Value.int .i64 nv)), (14, (Value.int .i64 (i5 : Int))), (13, (bptr b26_ 0)), (11, u83), (10, (Value.int .i64 (((y : Int)).tmod (d.samples.length : Int)))), (9, (vs45 2)), (4, (bptr b4 0))] a343 := hA350.add (slot_ev hs_5 rfl); clear hA350
     clear hH347 hS346 hs_0 hs_1 hs_2 hs_3 hs_4 hs_5
     clear hr_0
     clear hv_0
     clear hr_1
     clear hv_1
     clear hr_2
     clear hv_2
     clear hr_3
     clear hv_3
     clear hr_4
     clear hv_4
     clear hr_5
     clear hv_5
     have hS352 := hS349.blk_row (i := 0) (sz := 2) (n := 0) rfl rfl (by decide); clear hS349
     refine stw hA351 (op_append hS352 rfl un_24 el_62 (hA351.ev rfl) (hA351.ev rfl) (i := 0) rfl (SlAt.of_row (hS352.ok_row 1 rfl)) (all_c rfl (all_c (SlAt.one (SlAt.of_row (hS352.ok_row 2 rfl))) all_n)) (by simp only [maxLen]; omega) (by omega)) rfl rfl (by decide) ?_
     intro a353 v356 w355 hS357 hA354
     have hS358 := hS357.row_say (i := 0) rfl (n' := 1) (xs' := (vpairs ([(0, vr_)]))) rfl (by simp [vpairs]); clear hS357 hA351 hS352 a343
     refine st hA354 (op_field rfl fd_26_3 (hA354.ev rfl)) rfl rfl (by decide) fun a359 hA360 => ?_; clear hA354 a353
     refine sts hA360 (op_store hS358 rfl ty_24 (hA360.ev rfl) (hA360.ev rfl) (i := 4) rfl (vs := [v356]) (isSl_cells (SlAt.isSl (SlAt.of_row (hS358.ok_row 0 rfl)))) rfl (all_c (SlAt.one (SlAt.of_row (hS358.ok_row 0 rfl))) all_n) (Nat.le_of_ble_eq_true rfl)) rfl rfl ?_
     intro _ w361 hS362 hA363; clear hA360
     have hS364 : Sep NoB w w361 [(row v356 62 2 1 (vpairs ([(0, vr_)]))), (row (vs342 5) 62 2 1 [(Value.int .i64 0), vr_]), (row vr_ 3 1 (((List.replicate j2 (-1 : Int)).set ((((y : Int)).tmod (d.samples.length : Int)).toNat) nv).length) (ints ((List.replicate j2 (-1 : Int)).set ((((y : Int)).tmod (d.samples.length : Int)).toNat) nv))), (blk b174 62 [(Value.int .i64 0), vr_]), (blk b163 26 [rl, rs, (Value.int .i64 d.spread), v356]), (blk b26_ 60 [(Value.int .i64 ((S1.getD ((((y : Int)).tmod (d.samples.length : Int)).toNat) (0, 0)).1)), (Value.int .i64 ((S1.getD ((((y : Int)).tmod (d.samples.length : Int)).toNat) (0, 0)).2)), (Value.int .i64 (((S1.getD ((((y : Int)).tmod (d.samples.length : Int)).toNat) (0, 0)).1) - 1)), (Value.int .i64 (((S1.getD ((((y : Int)).tmod (d.samples.length : Int)).toNat) (0, 0)).2) + 1)), (Value.int .i64 ((m).tmod 1001))]), (row u83 46 2 S1.length (pairs S1)), (row v76 3 1 ((chosenF d.tols.length x).length) (ints (chosenF d.tols.length x))), (rndR true vl62 vs63 vb64 lv65 d), (row (vs45 2) 3 1 ((chosenF d.tols.length x).length) (ints (chosenF d.tols.length x))), (blk b4 26 [rl, rs, (Value.int .i64 d.spread), rb]), (rndR false rl rs rb rlv d)] := hS362; clear hS362 hS358
     refine wl_nil ?_
     refine then_n ?_
     refine c_seq ?_
     have hS365 := (hS364.row_say (i := 0) rfl (n' := (endsD d (((y : Int)).tmod (d.samples.length : Int)).toNat nv).tols.length) (xs' := vpairs ((endsD d (((y : Int)).tmod (d.samples.length : Int)).toNat nv).tols.zip (rlv ++ [vr_]))) (by rw [ends_len] <;> omega) (by first | exact (congrArg vpairs (ends_zip (rnd_at (hS364.ok 11 _ rfl)).lvl)).symm | exact (congrArg vpairs (ends_zip0 (rnd_at (hS364.ok 11 _ rfl)).lvl (by assumption))).symm)).row_say (i := 2) rfl (n' := (endsRow d (((y : Int)).tmod (d.samples.length : Int)).toNat nv).length) (xs' := ints (endsRow d (((y : Int)).tmod (d.samples.length : Int)).toNat nv)) (by rw [show j2 = d.samples.length by omega]; rfl) (by rw [show j2 = d.samples.length by omega]; rfl); clear hS364
     refine c_region ?_
     refine st hA363 (op_loadA rfl ty_26 (hA363.ev rfl) (hS365.bk 4 rfl) (l := [rl, rs, (Value.int .i64 d.spread), v356]) rfl rfl) rfl rfl (by decide) fun a366 hA367 => ?_; clear hA363 a359
     refine stw hA367 (op_call rfl en_20 (ev1 (hA367.ev rfl)) (Round_ok rl rs v356 (rlv ++ [vr_]) (endsD d (((y : Int)).tmod (d.samples.length : Int)).toNat nv) _ (show RoundAt _ rl rs v356 (rlv ++ [vr_]) (endsD d (((y : Int)).tmod (d.samples.length : Int)).toNat nv) from ⟨(rnd_at (hS365.ok 11 _ rfl)).lots, (rnd_at (hS365.ok 11 _ rfl)).samples, SlAt.of_row (hS365.ok_row 0 rfl), rdsAt_snoc (rnd_at (hS365.ok 11 _ rfl)).rds ((rnd_at (hS365.ok 11 _ rfl)).lvl.trans (rnd_at (hS365.ok 11 _ rfl)).rdl.symm) (SlAt.of_row (hS365.ok_row 2 rfl)), (by rw [ends_len, List.length_append, (rnd_at (hS365.ok 11 _ rfl)).lvl]; rfl), ends_rdl (rnd_at (hS365.ok 11 _ rfl)).rdl⟩) (ends_thin hV hrl8 h5 (by omega)))) rfl rfl (by decide) ?_
     rintro a368 _ w370 ⟨vl371, vs372, vb373, lv374, rfl, hT375⟩ hA369; have hS376 := hS365.callS hT375 rfl; clear hT375 hA367 hS365 a366
     refine st hA369 (op_move rfl (hA369.ev rfl)) rfl rfl (by decide) fun a377 hA378 => ?_; clear hA369 a368
     refine stw hA378 (op_call rfl en_22 (ev1 (hA378.ev rfl)) (list_ok (chosenF d.tols.length x) _ _ (SlAt.of_row (hS376.ok_row 10 rfl)) (Nat.le_trans (chosenF_len _ _) (by omega)))) rfl rfl (by decide) ?_
     rintro a379 v385 w381 ⟨hE382, hO383⟩ hA380; have hS384 := hS376.new_row hE382 hO383; clear hE382 hO383 hA378 hS376 a377
     refine stw hA380 (op_call rfl en_21 (ev2 (hA380.ev rfl) (hA380.ev rfl)) (by have h := (explains_ok vl371 vs372 vb373 lv374 (endsD d (((y : Int)).tmod (d.samples.length : Int)).toNat nv) _ (rnd_at (hS384.ok 1 _ rfl)) _ (chosenF d.tols.length x) (SlAt.of_row (hS384.ok_row 0 rfl)) (Nat.le_trans (chosenF_len _ _) (by omega))); rw [(he nv (by omega) (by omega))] at h; exact h)) rfl rfl (by decide) ?_
     rintro a386 _ w388 ⟨rfl, hE389⟩ hA387; have hS390 := hS384.step hE389; clear hE389 hA380 hS384 a379
     refine st hA387 (op_move rfl (hA387.ev rfl)) rfl rfl (by decide) fun a391 hA392 => ?_; clear hA387 a386
     refine st hA392 (op_extract rfl (hA392.ev rfl) rfl) rfl rfl (by decide) fun a393 hA394 => ?_; clear hA392 a391
     refine st hA394 (op_extract rfl (hA394.ev rfl) rfl) rfl rfl (by decide) fun a395 hA396 => ?_; clear hA394 a393
     refine st hA396 (op_assign rfl (hA396.ev rfl)) rfl rfl (by decide) fun a397 hA398 => ?_; clear hA396 a395
     refine st hA398 (op_assign rfl (hA398.ev rfl)) rfl rfl (by decide) fun a399 hA400 => ?_; clear hA398 a397
     refine wl_nil ?_
     refine then_n ?_
     refine c_seq ?_
     have hA401 := hA400.as [(20, (Value.int .i64 0)), (19, (Value.bool (decide (((S1.getD ((((y : Int)).tmod (d.samples.length : Int)).toNat) (0, 0)).1) ≤ nv) && decide (nv ≤ ((S1.getD ((((y : Int)).tmod (d.samples.length : Int)).toNat) (0, 0)).2))))), (15, (Value.int .i64 nv)), (14, (Value.int .i64 (i5 : Int))), (13, (bptr b26_ 0)), (11, u83), (10, (Value.int .i64 (((y : Int)).tmod (d.samples.length : Int)))), (9, (vs45 2)), (4, (bptr b4 0))] rfl; clear hA400
     have hA402 := hA401.as [(20, (Value.int .i64 0)), (19, (Value.bool (decide (((S1.getD ((((y : Int)).tmod (d.samples.length : Int)).toNat) (0, 0)).1) ≤ nv) && decide (nv ≤ ((S1.getD ((((y : Int)).tmod (d.samples.length : Int)).toNat) (0, 0)).2))))), (15, (Value.int .i64 nv)), (14, (Value.int .i64 (i5 : Int))), (13, (bptr b26_ 0)), (11, u83), (10, (Value.int .i64 (((y : Int)).tmod (d.samples.length : Int)))), (9, (vs45 2)), (4, (bptr b4 0))] rfl; clear hA401
     refine c_drawV mixed hA402 hS390 16 [[], [0], [1], [2], [2], [2], [2], [2, 5, 6], [2, 7], [2, 8], [2], [2], [2, 10, 11], [2, 12], [2, 13], [2, 4, 9, 14]] [(fun (vs403 : Nat → Value) (v_ : Value) (rs_ : List Res) => v_ = (Value.int .i64 0) ∧ rs_ = []), (fun (vs403 : Nat → Value) (v_ : Value) (rs_ : List Res) => v_ = (Value.bool false) ∧ rs_ = []), (fun (vs403 : Nat → Value) (v_ : Value) (rs_ : List Res) => v_ = (Value.bool false) ∧ rs_ = []), (fun (vs403 : Nat → Value) (v_ : Value) (rs_ : List Res) => v_ = (Value.bool (decide (((S1.getD ((((y : Int)).tmod (d.samples.length : Int)).toNat) (0, 0)).1) ≤ nv) && decide (nv ≤ ((S1.getD ((((y : Int)).tmod (d.samples.length : Int)).toNat) (0, 0)).2)))) ∧ rs_ = []), (fun (vs403 : Nat → Value) (v_ : Value) (rs_ : List Res) => v_ = (Value.int .i64 nv) ∧ rs_ = []), (fun (vs403 : Nat → Value) (v_ : Value) (rs_ : List Res) => v_ = u83 ∧ rs_ = []), (fun (vs403 : Nat → Value) (v_ : Value) (rs_ : List Res) => v_ = (Value.int .i64 (((y : Int)).tmod (d.samples.length : Int))) ∧ rs_ = []), (fun (vs403 : Nat → Value) (v_ : Value) (rs_ : List Res) => v_ = (eptr u83 ((((y : Int)).tmod (d.samples.length : Int)).toNat * 2)) ∧ rs_ = []), (fun (vs403 : Nat → Value) (v_ : Value) (rs_ : List Res) => v_ = (eptr u83 ((((y : Int)).tmod (d.samples.length : Int)).toNat * 2 + 0)) ∧ rs_ = []), (fun (vs403 : Nat → Value) (v_ : Value) (rs_ : List Res) => v_ = (Value.int .i64 ((S1.getD ((((y : Int)).tmod (d.samples.length : Int)).toNat) (0, 0)).1)) ∧ rs_ = []), (fun (vs403 : Nat → Value) (v_ : Value) (rs_ : List Res) => v_ = u83 ∧ rs_ = []), (fun (vs403 : Nat → Value) (v_ : Value) (rs_ : List Res) => v_ = (Value.int .i64 (((y : Int)).tmod (d.samples.length : Int))) ∧ rs_ = []), (fun (vs403 : Nat → Value) (v_ : Value) (rs_ : List Res) => v_ = (eptr u83 ((((y : Int)).tmod (d.samples.length : Int)).toNat * 2)) ∧ rs_ = []), (fun (vs403 : Nat → Value) (v_ : Value) (rs_ : List Res) => v_ = (eptr u83 ((((y : Int)).tmod (d.samples.length : Int)).toNat * 2 + 1)) ∧ rs_ = []), (fun (vs403 : Nat → Value) (v_ : Value) (rs_ : List Res) => v_ = (Value.int .i64 ((S1.getD ((((y : Int)).tmod (d.samples.length : Int)).toNat) (0, 0)).2)) ∧ rs_ = []), (fun (vs403 : Nat → Value) (v_ : Value) (rs_ : List Res) => v_ = (Value.bool (decide (((S1.getD ((((y : Int)).tmod (d.samples.length : Int)).toNat) (0, 0)).1) ≤ nv) && decide (nv ≤ ((S1.getD ((((y : Int)).tmod (d.samples.length : Int)).toNat) (0, 0)).2)))) ∧ rs_ = [])] (by decide +kernel) (by decide +kernel) rfl rfl ⟨(fun _ _ _ _ _ h_ => h_), (fun _ _ _ _ _ h_ => h_), (fun _ _ _ _ _ h_ => h_), (fun _ _ _ _ _ h_ => h_), (fun _ _ _ _ _ h_ => h_), (fun _ _ _ _ _ h_ => h_), (fun _ _ _ _ _ h_ => h_), (fun _ _ _ _ _ h_ => h_), (fun _ _ _ _ _ h_ => h_), (fun _ _ _ _ _ h_ => h_), (fun _ _ _ _ _ h_ => h_), (fun _ _ _ _ _ h_ => h_), (fun _ _ _ _ _ h_ => h_), (fun _ _ _ _ _ h_ => h_), (fun _ _ _ _ _ h_ => h_), (fun _ _ _ _ _ h_ => h_), trivial⟩ ?_ ?_
     ·skip
      refine ⟨fun a w vs403 hA hS hd => ?_, ?_⟩
      ·skip
       exact opG_of rfl (vv (op_move rfl (hA.ev rfl)) (And.intro rfl rfl))
      refine ⟨fun a w vs403 hA hS hd => ?_, ?_⟩
      ·skip
       obtain ⟨e0, rs0, hy0, hp0⟩ := hd 0 (by decide)
       obtain ⟨hv0, hr0⟩ := hy0; subst hr0
       rw [hv0] at e0
       exact opG_of rfl (vv (op_neq rfl (tmp_ev (slot_ev e0 rfl)) (evc _ _)) (And.intro rfl rfl))
      refine ⟨fun a w vs403 hA hS hd => ?_, ?_⟩
      ·skip
       obtain ⟨e1, rs1, hy1, hp1⟩ := hd 1 (by decide)
       obtain ⟨hv1, hr1⟩ := hy1; subst hr1
       rw [hv1] at e1
       exact opG_of rfl (vv (op_move rfl (tmp_ev (slot_ev e1 rfl))) (And.intro rfl rfl))
      refine ⟨fun a w vs403 hA hS hd => ?_, ?_⟩
      ·skip
       obtain ⟨e2, rs2, hy2, hp2⟩ := hd 2 (by decide)
       obtain ⟨hv2, hr2⟩ := hy2; subst hr2
       rw [hv2] at e2
       exact opG_yes rfl rfl (slot_ev e2 rfl) (vv (op_move rfl (hA.ev rfl)) (And.intro rfl rfl))
      refine ⟨fun a w vs403 hA hS hd => ?_, ?_⟩
      ·skip
       obtain ⟨e2, rs2, hy2, hp2⟩ := hd 2 (by decide)
       obtain ⟨hv2, hr2⟩ := hy2; subst hr2
       rw [hv2] at e2
       exact opG_yes rfl rfl (slot_ev e2 rfl) (vv (op_move rfl (hA.ev rfl)) (And.intro rfl rfl))
      refine ⟨fun a w vs403 hA hS hd => ?_, ?_⟩
      ·skip
       obtain ⟨e2, rs2, hy2, hp2⟩ := hd 2 (by decide)
       obtain ⟨hv2, hr2⟩ := hy2; subst hr2
       rw [hv2] at e2
       exact opG_yes rfl rfl (slot_ev e2 rfl) (vv (op_move rfl (hA.ev rfl)) (And.intro rfl rfl))
      refine ⟨fun a w vs403 hA hS hd => ?_, ?_⟩
      ·skip
       obtain ⟨e2, rs2, hy2, hp2⟩ := hd 2 (by decide)
       obtain ⟨hv2, hr2⟩ := hy2; subst hr2
       rw [hv2] at e2
       exact opG_yes rfl rfl (slot_ev e2 rfl) (vv (op_move rfl (hA.ev rfl)) (And.intro rfl rfl))
      refine ⟨fun a w vs403 hA hS hd => ?_, ?_⟩
      ·skip
       obtain ⟨e2, rs2, hy2, hp2⟩ := hd 2 (by decide)
       obtain ⟨hv2, hr2⟩ := hy2; subst hr2
       rw [hv2] at e2
       obtain ⟨e5, rs5, hy5, hp5⟩ := hd 5 (by decide)
       obtain ⟨hv5, hr5⟩ := hy5; subst hr5
       rw [hv5] at e5
       obtain ⟨e6, rs6, hy6, hp6⟩ := hd 6 (by decide)
       obtain ⟨hv6, hr6⟩ := hy6; subst hr6
       rw [hv6] at e6
       exact opG_yes rfl rfl (slot_ev e2 rfl) (vv (op_indexS rfl un_31 ty_46 (tmp_ev (slot_ev e5 rfl)) (i := (((y : Int)).tmod (d.samples.length : Int)).toNat) ((tmp_ev (slot_ev e6 rfl)).trans (int_nat (by omega))) (SlAt.of_row (hS.ok_row 8 rfl)) (by decide) (by omega)) (And.intro rfl rfl))
      refine ⟨fun a w vs403 hA hS hd => ?_, ?_⟩
      ·skip
       obtain ⟨e2, rs2, hy2, hp2⟩ := hd 2 (by decide)
       obtain ⟨hv2, hr2⟩ := hy2; subst hr2
       rw [hv2] at e2
       obtain ⟨e7, rs7, hy7, hp7⟩ := hd 7 (by decide)
       obtain ⟨hv7, hr7⟩ := hy7; subst hr7
       rw [hv7] at e7
       exact opG_yes rfl rfl (slot_ev e2 rfl) (vv (op_fieldS rfl fd_46_0 (tmp_ev (slot_ev e7 rfl)) (SlAt.of_row (hS.ok_row 8 rfl)) (by rw [((SlAt.of_row (hS.ok_row 8 rfl))).1]; omega)) (And.intro rfl rfl))
      refine ⟨fun a w vs403 hA hS hd => ?_, ?_⟩
      ·skip
       obtain ⟨e2, rs2, hy2, hp2⟩ := hd 2 (by decide)
       obtain ⟨hv2, hr2⟩ := hy2; subst hr2
       rw [hv2] at e2
       obtain ⟨e8, rs8, hy8, hp8⟩ := hd 8 (by decide)
       obtain ⟨hv8, hr8⟩ := hy8; subst hr8
       rw [hv8] at e8
       exact opG_yes rfl rfl (slot_ev e2 rfl) (vv (op_load1E rfl ty_3 (tmp_ev (slot_ev e8 rfl)) (SlAt.of_row (hS.ok_row 8 rfl)) (pairs_at0 (by omega))) (And.intro rfl rfl))
      refine ⟨fun a w vs403 hA hS hd => ?_, ?_⟩
      ·skip
       obtain ⟨e2, rs2, hy2, hp2⟩ := hd 2 (by decide)
       obtain ⟨hv2, hr2⟩ := hy2; subst hr2
       rw [hv2] at e2
       exact opG_yes rfl rfl (slot_ev e2 rfl) (vv (op_move rfl (hA.ev rfl)) (And.intro rfl rfl))
      refine ⟨fun a w vs403 hA hS hd => ?_, ?_⟩
      ·skip
       obtain ⟨e2, rs2, hy2, hp2⟩ := hd 2 (by decide)
       obtain ⟨hv2, hr2⟩ := hy2; subst hr2
       rw [hv2] at e2
       exact opG_yes rfl rfl (slot_ev e2 rfl) (vv (op_move rfl (hA.ev rfl)) (And.intro rfl rfl))
      refine ⟨fun a w vs403 hA hS hd => ?_, ?_⟩
      ·skip
       obtain ⟨e2, rs2, hy2, hp2⟩ := hd 2 (by decide)
       obtain ⟨hv2, hr2⟩ := hy2; subst hr2
       rw [hv2] at e2
       obtain ⟨e10, rs10, hy10, hp10⟩ := hd 10 (by decide)
       obtain ⟨hv10, hr10⟩ := hy10; subst hr10
       rw [hv10] at e10
       obtain ⟨e11, rs11, hy11, hp11⟩ := hd 11 (by decide)
       obtain ⟨hv11, hr11⟩ := hy11; subst hr11
       rw [hv11] at e11
       exact opG_yes rfl rfl (slot_ev e2 rfl) (vv (op_indexS rfl un_31 ty_46 (tmp_ev (slot_ev e10 rfl)) (i := (((y : Int)).tmod (d.samples.length : Int)).toNat) ((tmp_ev (slot_ev e11 rfl)).trans (int_nat (by omega))) (SlAt.of_row (hS.ok_row 8 rfl)) (by decide) (by omega)) (And.intro rfl rfl))
      refine ⟨fun a w vs403 hA hS hd => ?_, ?_⟩
      ·skip
       obtain ⟨e2, rs2, hy2, hp2⟩ := hd 2 (by decide)
       obtain ⟨hv2, hr2⟩ := hy2; subst hr2
       rw [hv2] at e2
       obtain ⟨e12, rs12, hy12, hp12⟩ := hd 12 (by decide)
       obtain ⟨hv12, hr12⟩ := hy12; subst hr12
       rw [hv12] at e12
       exact opG_yes rfl rfl (slot_ev e2 rfl) (vv (op_fieldS rfl fd_46_1 (tmp_ev (slot_ev e12 rfl)) (SlAt.of_row (hS.ok_row 8 rfl)) (by rw [((SlAt.of_row (hS.ok_row 8 rfl))).1]; omega)) (And.intro rfl rfl))
      refine ⟨fun a w vs403 hA hS hd => ?_, ?_⟩
      ·skip
       obtain ⟨e2, rs2, hy2, hp2⟩ := hd 2 (by decide)
       obtain ⟨hv2, hr2⟩ := hy2; subst hr2
       rw [hv2] at e2
       obtain ⟨e13, rs13, hy13, hp13⟩ := hd 13 (by decide)
       obtain ⟨hv13, hr13⟩ := hy13; subst hr13
       rw [hv13] at e13
       exact opG_yes rfl rfl (slot_ev e2 rfl) (vv (op_load1E rfl ty_3 (tmp_ev (slot_ev e13 rfl)) (SlAt.of_row (hS.ok_row 8 rfl)) (pairs_at1 (by omega))) (And.intro rfl rfl))
      refine ⟨fun a w vs403 hA hS hd => ?_, ?_⟩
      ·skip
       obtain ⟨e2, rs2, hy2, hp2⟩ := hd 2 (by decide)
       obtain ⟨hv2, hr2⟩ := hy2; subst hr2
       rw [hv2] at e2
       obtain ⟨e4, rs4, hy4, hp4⟩ := hd 4 (by decide)
       obtain ⟨hv4, hr4⟩ := hy4; subst hr4
       rw [hv4] at e4
       obtain ⟨e9, rs9, hy9, hp9⟩ := hd 9 (by decide)
       obtain ⟨hv9, hr9⟩ := hy9; subst hr9
       rw [hv9] at e9
       obtain ⟨e14, rs14, hy14, hp14⟩ := hd 14 (by decide)
       obtain ⟨hv14, hr14⟩ := hy14; subst hr14
       rw [hv14] at e14
       exact opG_yes rfl rfl (slot_ev e2 rfl) (vv (op_call rfl en_33 (ev3 (tmp_ev (slot_ev e4 rfl)) (tmp_ev (slot_ev e9 rfl)) (tmp_ev (slot_ev e14 rfl))) (In_ok _ _ _ _)) (And.intro rfl rfl))
      trivial
     intro a404 w405 vs403 rsf409 hA406 hH408 hS407; clear hA402 hS390
     obtain ⟨hs_0, hy_0⟩ := hH408 0 (by decide)
     obtain ⟨hv_0, hr_0⟩ := hy_0
     obtain ⟨hs_1, hy_1⟩ := hH408 1 (by decide)
     obtain ⟨hv_1, hr_1⟩ := hy_1
     obtain ⟨hs_2, hy_2⟩ := hH408 2 (by decide)
     obtain ⟨hv_2, hr_2⟩ := hy_2
     obtain ⟨hs_3, hy_3⟩ := hH408 3 (by decide)
     obtain ⟨hv_3, hr_3⟩ := hy_3
     obtain ⟨hs_4, hy_4⟩ := hH408 4 (by decide)
     obtain ⟨hv_4, hr_4⟩ := hy_4
     obtain ⟨hs_5, hy_5⟩ := hH408 5 (by decide)
     obtain ⟨hv_5, hr_5⟩ := hy_5
     obtain ⟨hs_6, hy_6⟩ := hH408 6 (by decide)
     obtain ⟨hv_6, hr_6⟩ := hy_6
     obtain ⟨hs_7, hy_7⟩ := hH408 7 (by decide)
     obtain ⟨hv_7, hr_7⟩ := hy_7
     obtain ⟨hs_8, hy_8⟩ := hH408 8 (by decide)
     obtain ⟨hv_8, hr_8⟩ := hy_8
     obtain ⟨hs_9, hy_9⟩ := hH408 9 (by decide)
     obtain ⟨hv_9, hr_9⟩ := hy_9
     obtain ⟨hs_10, hy_10⟩ := hH408 10 (by decide)
     obtain ⟨hv_10, hr_10⟩ := hy_10
     obtain ⟨hs_11, hy_11⟩ := hH408 11 (by decide)
     obtain ⟨hv_11, hr_11⟩ := hy_11
     obtain ⟨hs_12, hy_12⟩ := hH408 12 (by decide)
     obtain ⟨hv_12, hr_12⟩ := hy_12
     obtain ⟨hs_13, hy_13⟩ := hH408 13 (by decide)
     obtain ⟨hv_13, hr_13⟩ := hy_13
     obtain ⟨hs_14, hy_14⟩ := hH408 14 (by decide)
     obtain ⟨hv_14, hr_14⟩ := hy_14
     obtain ⟨hs_15, hy_15⟩ := hH408 15 (by decide)
     obtain ⟨hv_15, hr_15⟩ := hy_15
     have hS410 : Sep NoB w w405 [(row v385 3 1 ((chosenF d.tols.length x).length) (ints (chosenF d.tols.length x))), (rndR true vl371 vs372 vb373 lv374 (endsD d (((y : Int)).tmod (d.samples.length : Int)).toNat nv)), (row v356 62 2 ((endsD d (((y : Int)).tmod (d.samples.length : Int)).toNat nv).tols.length) (vpairs ((endsD d (((y : Int)).tmod (d.samples.length : Int)).toNat nv).tols.zip (rlv ++ [vr_])))), (row (vs342 5) 62 2 1 [(Value.int .i64 0), vr_]), (row vr_ 3 1 ((endsRow d (((y : Int)).tmod (d.samples.length : Int)).toNat nv).length) (ints (endsRow d (((y : Int)).tmod (d.samples.length : Int)).toNat nv))), (blk b174 62 [(Value.int .i64 0), vr_]), (blk b163 26 [rl, rs, (Value.int .i64 d.spread), v356]), (blk b26_ 60 [(Value.int .i64 ((S1.getD ((((y : Int)).tmod (d.samples.length : Int)).toNat) (0, 0)).1)), (Value.int .i64 ((S1.getD ((((y : Int)).tmod (d.samples.length : Int)).toNat) (0, 0)).2)), (Value.int .i64 (((S1.getD ((((y : Int)).tmod (d.samples.length : Int)).toNat) (0, 0)).1) - 1)), (Value.int .i64 (((S1.getD ((((y : Int)).tmod (d.samples.length : Int)).toNat) (0, 0)).2) + 1)), (Value.int .i64 ((m).tmod 1001))]), (row u83 46 2 S1.length (pairs S1)), (row v76 3 1 ((chosenF d.tols.length x).length) (ints (chosenF d.tols.length x))), (rndR true vl62 vs63 vb64 lv65 d), (row (vs45 2) 3 1 ((chosenF d.tols.length x).length) (ints (chosenF d.tols.length x))), (blk b4 26 [rl, rs, (Value.int .i64 d.spread), rb]), (rndR false rl rs rb rlv d)] := by rw [show catR rsf409 0 16 = ([] : List Res) by (try simp only [catR, hr_0, hr_1, hr_2, hr_3, hr_4, hr_5, hr_6, hr_7, hr_8, hr_9, hr_10, hr_11, hr_12, hr_13, hr_14, hr_15]); (try rfl)] at hS407; exact hS407
     rw [hv_2] at hs_2
     have hA411 : Fr 157 [] [(140, (Value.bool false)), (20, (Value.int .i64 0)), (19, (Value.bool (decide (((S1.getD ((((y : Int)).tmod (d.samples.length : Int)).toNat) (0, 0)).1) ≤ nv) && decide (nv ≤ ((S1.getD ((((y : Int)).tmod (d.samples.length : Int)).toNat) (0, 0)).2))))), (15, (Value.int .i64 nv)), (14, (Value.int .i64 (i5 : Int))), (13, (bptr b26_ 0)), (11, u83), (10, (Value.int .i64 (((y : Int)).tmod (d.samples.length : Int)))), (9, (vs45 2)), (4, (bptr b4 0))] a404 := hA406.add (slot_ev hs_2 rfl); clear hA406
     rw [hv_3] at hs_3
     have hA412 : Fr 157 [] [(141, (Value.bool (decide (((S1.getD ((((y : Int)).tmod (d.samples.length : Int)).toNat) (0, 0)).1) ≤ nv) && decide (nv ≤ ((S1.getD ((((y : Int)).tmod (d.samples.length : Int)).toNat) (0, 0)).2))))), (140, (Value.bool false)), (20, (Value.int .i64 0)), (19, (Value.bool (decide (((S1.getD ((((y : Int)).tmod (d.samples.length : Int)).toNat) (0, 0)).1) ≤ nv) && decide (nv ≤ ((S1.getD ((((y : Int)).tmod (d.samples.length : Int)).toNat) (0, 0)).2))))), (15, (Value.int .i64 nv)), (14, (Value.int .i64 (i5 : Int))), (13, (bptr b26_ 0)), (11, u83), (10, (Value.int .i64 (((y : Int)).tmod (d.samples.length : Int)))), (9, (vs45 2)), (4, (bptr b4 0))] a404 := hA411.add (slot_ev hs_3 rfl); clear hA411
     rw [hv_15] at hs_15
     have hA413 : Fr 157 [] [(153, (Value.bool (decide (((S1.getD ((((y : Int)).tmod (d.samples.length : Int)).toNat) (0, 0)).1) ≤ nv) && decide (nv ≤ ((S1.getD ((((y : Int)).tmod (d.samples.length : Int)).toNat) (0, 0)).2))))), (141, (Value.bool (decide (((S1.getD ((((y : Int)).tmod (d.samples.length : Int)).toNat) (0, 0)).1) ≤ nv) && decide (nv ≤ ((S1.getD ((((y : Int)).tmod (d.samples.length : Int)).toNat) (0, 0)).2))))), (140, (Value.bool false)), (20, (Value.int .i64 0)), (19, (Value.bool (decide (((S1.getD ((((y : Int)).tmod (d.samples.length : Int)).toNat) (0, 0)).1) ≤ nv) && decide (nv ≤ ((S1.getD ((((y : Int)).tmod (d.samples.length : Int)).toNat) (0, 0)).2))))), (15, (Value.int .i64 nv)), (14, (Value.int .i64 (i5 : Int))), (13, (bptr b26_ 0)), (11, u83), (10, (Value.int .i64 (((y : Int)).tmod (d.samples.length : Int)))), (9, (vs45 2)), (4, (bptr b4 0))] a404 := hA412.add (slot_ev hs_15 rfl); clear hA412
     clear hH408 hS407 hs_0 hs_1 hs_2 hs_3 hs_4 hs_5 hs_6 hs_7 hs_8 hs_9 hs_10 hs_11 hs_12 hs_13 hs_14 hs_15
     clear hr_0
     clear hv_0
     clear hr_1
     clear hv_1
     clear hr_2
     clear hv_2
     clear hr_3
     clear hv_3
     clear hr_4
     clear hv_4
     clear hr_5
     clear hv_5
     clear hr_6
     clear hv_6
     clear hr_7
     clear hv_7
     clear hr_8
     clear hv_8
     clear hr_9
     clear hv_9
     clear hr_10
     clear hv_10
     clear hr_11
     clear hv_11
     clear hr_12
     clear hv_12
     clear hr_13
     clear hv_13
     clear hr_14
     clear hv_14
     clear hr_15
     clear hv_15
     refine stg hA413 (op_neqB un_4 rfl (hA413.ev rfl) (hA413.ev rfl)) rfl rfl rfl rfl (by decide) fun a414 hA415 => ?_; clear hA413 a404
     refine st hA415 (op_pick_f rfl (hA415.ev rfl) (hA415.ev rfl)) rfl rfl (by decide) fun a416 hA417 => ?_; clear hA415 a414
     refine wl_nil ?_
     refine then_n ?_
     rcases Bool.eq_false_or_eq_true ((decide (((S1.getD ((((y : Int)).tmod (d.samples.length : Int)).toNat) (0, 0)).1) ≤ nv) && decide (nv ≤ ((S1.getD ((((y : Int)).tmod (d.samples.length : Int)).toNat) (0, 0)).2)))) with hb418 | hb418
     ·skip
      rw [hb418] at hA417
      have hq419 := hb418; simp only [Bool.and_eq_true, Bool.and_eq_false_iff, decide_eq_true_eq, decide_eq_false_iff_not] at hq419
      refine c_false hA417 rfl ?_
      refine c_skip ?_
      refine blk_n ?_
      refine then_n ?_
      have hA420 := hA417.as [(14, (Value.int .i64 (i5 : Int))), (13, (bptr b26_ 0)), (11, u83), (10, (Value.int .i64 (((y : Int)).tmod (d.samples.length : Int)))), (9, (vs45 2)), (4, (bptr b4 0))] rfl; clear hA417
      refine c_region ?_
      refine st hA420 (op_move rfl (hA420.ev rfl)) rfl rfl (by decide) fun a421 hA422 => ?_; clear hA420 a416
      refine st hA422 (op_add rfl (hA422.ev rfl) (evc _ _) (by omega) (by omega)) rfl rfl (by decide) fun a423 hA424 => ?_; clear hA422 a421
      refine st hA424 (op_assign rfl (hA424.ev rfl)) rfl rfl (by decide) fun a425 hA426 => ?_; clear hA424 a423
      refine wl_nil ?_
      have hS427 : Sep NoB w w405 [(blk b26_ 60 [(Value.int .i64 ((S1.getD ((((y : Int)).tmod (d.samples.length : Int)).toNat) (0, 0)).1)), (Value.int .i64 ((S1.getD ((((y : Int)).tmod (d.samples.length : Int)).toNat) (0, 0)).2)), (Value.int .i64 (((S1.getD ((((y : Int)).tmod (d.samples.length : Int)).toNat) (0, 0)).1) - 1)), (Value.int .i64 (((S1.getD ((((y : Int)).tmod (d.samples.length : Int)).toNat) (0, 0)).2) + 1)), (Value.int .i64 ((m).tmod 1001))]), (row u83 46 2 S1.length (pairs S1)), (row v76 3 1 ((chosenF d.tols.length x).length) (ints (chosenF d.tols.length x))), (rndR true vl62 vs63 vb64 lv65 d), (row (vs45 2) 3 1 ((chosenF d.tols.length x).length) (ints (chosenF d.tols.length x))), (blk b4 26 [rl, rs, (Value.int .i64 d.spread), rb]), (rndR false rl rs rb rlv d)] := hS410.keep [7, 8, 9, 10, 11, 12, 13] (by decide) _ rfl rfl; clear hS410
      exact then_n ⟨i5 + 1, ⟨hA426.as _ rfl, hS427, by omega⟩, by omega⟩
     ·skip
      rw [hb418] at hA417
      have hq428 := hb418; simp only [Bool.and_eq_true, Bool.and_eq_false_iff, decide_eq_true_eq, decide_eq_false_iff_not] at hq428
      refine c_false hA417 rfl ?_
      refine c_skip ?_
      refine blk_n ?_
      refine then_n ?_
      have hA429 := hA417.as [(14, (Value.int .i64 (i5 : Int))), (13, (bptr b26_ 0)), (11, u83), (10, (Value.int .i64 (((y : Int)).tmod (d.samples.length : Int)))), (9, (vs45 2)), (4, (bptr b4 0))] rfl; clear hA417
      refine c_region ?_
      refine st hA429 (op_move rfl (hA429.ev rfl)) rfl rfl (by decide) fun a430 hA431 => ?_; clear hA429 a416
      refine st hA431 (op_add rfl (hA431.ev rfl) (evc _ _) (by omega) (by omega)) rfl rfl (by decide) fun a432 hA433 => ?_; clear hA431 a430
      refine st hA433 (op_assign rfl (hA433.ev rfl)) rfl rfl (by decide) fun a434 hA435 => ?_; clear hA433 a432
      refine wl_nil ?_
      have hS436 : Sep NoB w w405 [(blk b26_ 60 [(Value.int .i64 ((S1.getD ((((y : Int)).tmod (d.samples.length : Int)).toNat) (0, 0)).1)), (Value.int .i64 ((S1.getD ((((y : Int)).tmod (d.samples.length : Int)).toNat) (0, 0)).2)), (Value.int .i64 (((S1.getD ((((y : Int)).tmod (d.samples.length : Int)).toNat) (0, 0)).1) - 1)), (Value.int .i64 (((S1.getD ((((y : Int)).tmod (d.samples.length : Int)).toNat) (0, 0)).2) + 1)), (Value.int .i64 ((m).tmod 1001))]), (row u83 46 2 S1.length (pairs S1)), (row v76 3 1 ((chosenF d.tols.length x).length) (ints (chosenF d.tols.length x))), (rndR true vl62 vs63 vb64 lv65 d), (row (vs45 2) 3 1 ((chosenF d.tols.length x).length) (ints (chosenF d.tols.length x))), (blk b4 26 [rl, rs, (Value.int .i64 d.spread), rb]), (rndR false rl rs rb rlv d)] := hS410.keep [7, 8, 9, 10, 11, 12, 13] (by decide) _ rfl rfl; clear hS410
      exact then_n ⟨i5 + 1, ⟨hA435.as _ rfl, hS436, by omega⟩, by omega⟩
  ·skip
   rw [hb155] at hA154
   have hq437 := hb155; simp only [Bool.and_eq_true, Bool.and_eq_false_iff, decide_eq_true_eq, decide_eq_false_iff_not] at hq437
   refine c_true hA154 rfl ?_
   refine c_exit ?_
   refine then_exit ?_
   refine blk_hit ?_
   refine then_n ?_
   have hA438 := hA154.as [(14, (Value.int .i64 (i5 : Int))), (13, (bptr b26_ 0)), (11, u83), (10, (Value.int .i64 (((y : Int)).tmod (d.samples.length : Int)))), (9, (vs45 2)), (4, (bptr b4 0))] rfl; clear hA154
   refine c_region ?_
   refine st hA438 (op_move rfl (hA438.ev rfl)) rfl rfl (by decide) fun a439 hA440 => ?_; clear hA438 a153
   refine st hA440 (op_add rfl (hA440.ev rfl) (evc _ _) (by omega) (by omega)) rfl rfl (by decide) fun a441 hA442 => ?_; clear hA440 a439
   refine st hA442 (op_assign rfl (hA442.ev rfl)) rfl rfl (by decide) fun a443 hA444 => ?_; clear hA442 a441
   refine wl_nil ?_
   exact then_n ⟨i5 + 1, ⟨hA444.as _ rfl, hS134, by omega⟩, by omega⟩
 ·skip
  rw [decide_eq_false hb139] at hA138
  refine c_false hA138 rfl ?_
  refine c_exit ?_
  refine then_exit ?_
  refine then_exit ?_
  refine blk_hit ?_
  refine then_n ?_
  refine c_seq ?_
  have hA445 := hA138.as [] rfl; clear hA138
  refine c_region ?_
  refine stw hA445 (op_call rfl en_18 ev0 (wakes_ok _)) rfl rfl (by decide) ?_
  rintro a446 _ w448 ⟨rfl, hE449⟩ hA447; have hS450 := hS134.step hE449; clear hE449 hA445 hS134 a137
  refine st hA447 (op_assign rfl (hA447.ev rfl)) rfl rfl (by decide) fun a451 hA452 => ?_; clear hA447 a446
  refine wl_nil ?_
  refine then_n ?_
  refine c_ret ?_
  refine fin_run hA452 (.inl rfl) (run_results1 hA452 rfl (.tmp rfl)) ?_
  exact ⟨rfl, hS450.ext⟩

theorem RoundEnds_ok (rl rs rb : Value) (rlv : List Value) (d : RD) (w : World) (hR : RoundAt w rl rs rb rlv d) (n1 : Int) (h1 : 0 ≤ n1 ∧ n1 ≤ 255) (n2 : Int) (h2 : 0 ≤ n2 ∧ n2 ≤ 255) (m : Int) (hm : 0 ≤ m ∧ m ≤ 65535) : Calls Try.prog 8 #[.agg #[rl, rs, .int .i64 d.spread, rb], .int .u8 n1, .int .u8 n2, .int .u16 m] w (Ret fun v w' => v = .bool true ∧ Ext NoB w w') := by
 obtain ⟨x, rfl⟩ : ∃ x : Nat, n1 = (x : Int) := ⟨n1.toNat, by omega⟩
 obtain ⟨y, rfl⟩ : ∃ y : Nat, n2 = (y : Int) := ⟨n2.toNat, by omega⟩
 rcases Bool.eq_false_or_eq_true (readyB d) with hf | hf
 ·rcases Nat.lt_or_ge 5 d.tols.length with h5 | h5
  ·exact RoundEnds_b rl rs rb rlv d w hR x (by omega) y (by omega) m hm hf h5
  ·rcases Nat.eq_zero_or_pos d.samples.length with h0 | h0
   ·exact RoundEnds_c rl rs rb rlv d w hR x (by omega) y (by omega) m hm hf h5 h0
   ·have hc := (ready_of hf).2
    have hV := valid_of hc
    have hk := tmod_nn (a := (y : Int)) (by omega) (show (0 : Int) < (d.samples.length : Int) by omega)
    have hkn : ((y : Int).tmod (d.samples.length : Int)).toNat < d.samples.length := by omega
    rcases Bool.eq_false_or_eq_true (explB d (offB d.tols.length x)) with hx | hx
    ·exact RoundEnds_e rl rs rb rlv d w hR x (by omega) y (by omega) m hm hf h5 h0 _ (spansR_yes hc (chosen_rise _ _) hx) (spansF_len hx) (span_bd hV hx hkn) (fun n a b => ends_explains hV hR.rdl h5 ⟨a, b⟩ hx hkn)
    ·exact RoundEnds_d rl rs rb rlv d w hR x (by omega) y (by omega) m hm hf h5 h0 (spansR_fail hc (chosen_rise _ _) hx)
 ·exact RoundEnds_a rl rs rb rlv d w hR x (by omega) y (by omega) m hm hf

end Go.Proofs.Ytfhmigoddaaljaa
