/-
  The engine, part Y: appends onto an empty slice that was just built (its capacity is 0): always new memory, or nothing is done.
  The engine, part Z: drawn regions in which operations without effect may come before or after a store.
  The engine, part AA: slices of slices.
  Rounds taken apart, lot by lot: plain.
  One more laboratory; rounds that are kinder; lists of the fewest, told by what they are: plain.
  Rounds whose laboratories stand in another order: plain.
-/
import Derived.Test.YtfhmigoddaaljaaEng
import Derived.Laws.Slices
import Derived.Test.YtfhmigoddaaljaaPlain
import Derived.Test.YtfhmigoddaaljaaFg
set_option linter.unusedSimpArgs false
set_option linter.unusedVariables false
namespace Go.Eng

section
variable {r : Option Nat} {P : Program} {o : Oper} {a : Act} {w w0 : World} {X : Nat → Prop} {L : List Res} {y : List Res → Value → Prop}

theorem op_append0 {t e : TypeId} {s x : Operand} {z : Value} {sz bytes : Nat} {b : Addr} {vx : Value} {m : Nat} {news : List Value}
    (ho : o.op = .call { callee := .builtin .append, args := #[s, x], argTypes := #[t, t] }) (ht : P.underlying t = some (.slice e)) (he : elK P e = some (z, sz, bytes))
    (hs : a.eval s = .slice (some b) 0 0) (hx : a.eval x = vx) (hsrc : SlAt w vx sz m news) (h1 : news.all (·.oneCell') = true)
    (h63 : m ≤ maxLen) (hbytes : m * bytes ≤ 140737488355328) (hm : 0 < m) :
    OpY r P o a w (fun v' w' => Ext NoB w w' ∧ w'.ownsRow w.heap.size e sz v' m news) := by
  unfold elK at he
  cases hi0 : P.info? e with
  | none => simp [hi0] at he
  | some ti =>
    simp only [hi0] at he
    cases hz : ti.zero with
    | none => simp [hz] at he
    | some z' =>
      simp only [hz] at he
      split at he
      case isFalse => cases he
      rename_i hcond
      simp only [Option.some.injEq, Prod.mk.injEq] at he
      obtain ⟨rfl, rfl, rfl⟩ := he
      obtain ⟨hl, A, cap', rfl, hc1, hc2, h3⟩ := hsrc
      have hne : news ≠ [] := by
        rintro rfl
        have := Nat.mul_pos hm hcond.2; simp at hl; omega
      obtain ⟨ad, rfl, hcells⟩ := h3 hne
      have hnil : w.ownsRow w.heap.size e ti.size (.slice none 0 0) 0 [] := ⟨by simp, .inl ⟨rfl, rfl⟩⟩
      obtain ⟨v', w', hrun, h2, h4, _, h5⟩ := run_append_own_at (P := P) w w.heap.size t o.type e ti z' ti.size ti.bytes ht hi0 hz rfl rfl hcond.1 hcond.2 (.slice none 0 0) 0 [] hnil ad m cap' news hl hcells (fun u hu => List.all_eq_true.1 h1 u hu) (by omega) (by rw [Nat.zero_add]; exact hbytes) (Nat.le_refl _)
      refine opY_value (v := v') (w' := w') (by rw [ho]; rfl) ?_ ⟨(Ext.of_grownBy h4).mono (fun b hb => by cases hb), by rw [Nat.zero_add, List.nil_append] at h2; exact h2⟩
      have hgo : ∀ R W, (Builtin.append_ #[t, t] o.type #[.slice (some b) 0 0, .slice (some ad) m cap']).run P w = .ok R W → (execOp a.eval o).run P w = .ok (.value R) W := fun R W hr => by
        simp only [execOp, ho, resolve, invoke, builtin, Sem.run_bind, Sem.run_pure, Result.andThen_ok, List.map_toArray, List.map_cons, List.map_nil, hs, hx, hr]
      refine hgo _ _ ?_
      have r1 := run_append_grow (P := P) w t o.type e ti z' ht hi0 hz b 0 0 [] (by simp) (by simp) ad m cap' news hl hcells (by omega) (by simp only [maxLen] at h63; omega) (growslice_fits (by omega) (by rw [Nat.zero_add]; exact hbytes))
      have r2 := run_append_nil (P := P) w t o.type e ti z' ht hi0 hz ad m cap' news hl hcells hm (by simp only [maxLen] at h63; omega) (by omega)
      rw [r2] at hrun
      cases hrun
      rw [r1]; simp

/-- Nothing is appended. -/
theorem op_appendZ {t e : TypeId} {s x : Operand} {z : Value} {sz bytes : Nat} {b : Addr} {vx : Value} {m : Nat} {news : List Value}
    (ho : o.op = .call { callee := .builtin .append, args := #[s, x], argTypes := #[t, t] }) (ht : P.underlying t = some (.slice e)) (he : elK P e = some (z, sz, bytes))
    (hs : a.eval s = .slice (some b) 0 0) (hx : a.eval x = vx) (hsrc : SlAt w vx sz m news) (hm : m = 0) :
    OpY r P o a w (fun v' w' => v' = .slice (some b) 0 0 ∧ w' = w) := by
  unfold elK at he
  cases hi0 : P.info? e with
  | none => simp [hi0] at he
  | some ti =>
    obtain ⟨hl, A, cap', rfl, hc1, hc2, h3⟩ := hsrc
    subst hm
    refine opY_value (v := .slice (some b) 0 0) (w' := w) (by rw [ho]; rfl) ?_ ⟨rfl, rfl⟩
    simp only [execOp, ho, resolve, invoke, builtin, Sem.run_bind, Sem.run_pure, Result.andThen_ok, List.map_toArray, List.map_cons, List.map_nil, hs, hx]
    cases A <;> simp [Builtin.append_, run_underlying ht, sizeOf, typeInfo, hi0, Builtin.lenOf, Builtin.firstCells, storeCells, loadCells, loadCellsFrom]

theorem vblz {t e : TypeId} {sz : Nat} {g : Bool} {parts : Array (Nat × Operand)} {ps : Array (Nat × Value)} {z : Value}
    (ho : o.op = .buildSlice t 0 parts) (hp : (parts.map fun (i, x) => (i, a.eval x)) = ps) (ht : P.underlying t = some (.slice e)) (he : tyK P e = some (g, sz)) (hz : (P.info? e).bind (·.zero) = some z)
    (hf : Instr.fill (fun i => some (i * sz, sz)) ((Array.range (0 * sz)).map (z.cells[· % z.cells.size]!)) ps.toList = some ([] : List Value).toArray) (hy : ∀ b, y [blk b e []] (.slice (some ⟨b, 0, none⟩) 0 0)) :
    OpY r P o a w (fun v w'' => Ext NoB w w'' ∧ ∃ rs, y rs v ∧ Sep NoB w w'' rs ∧ rs.all (·.own) = true) :=
  vn (op_buildSlice (X := NoB) (w0 := w) (L := []) (Sep.start _ _) ho hp ht he hz (by omega) hf) fun v w' ⟨b, h1, h2⟩ => by
    subst h1
    exact ⟨_, hy b, h2, rfl⟩
theorem vap0 {e sz m : Nat} {news : List Value} (h : OpY r P o a w (fun v' w' => Ext NoB w w' ∧ w'.ownsRow w.heap.size e sz v' m news)) (hy : ∀ v, y [row v e sz m news] v) :
    OpY r P o a w (fun v w'' => Ext NoB w w'' ∧ ∃ rs, y rs v ∧ Sep NoB w w'' rs ∧ rs.all (·.own) = true) :=
  vn h fun v w' hv => ⟨_, hy v, (Sep.start NoB _).new_row hv.1 hv.2, rfl⟩
end
end Go.Eng

namespace Go.Eng
open Go.RowKit

section
variable {r : Option Nat} {P : Program} {Q : Exit → Act → World → Prop} {n : Nat} {ds : List Deferred} {m : List (Nat × Value)} {X : Nat → Prop} {w0 : World} {L : List Res}

theorem v_step1 {l : List Oper} {h : Nat} {dl : List (List Nat)} {Y : List YV}
    (hdst : ∀ x, x < h → ∀ x_1, x_1 < h → (decide (x_1 = x) || match (l.toArray[x_1]?).bind (·.dst), (l.toArray[x]?).bind (·.dst) with | some d, some e => decide (d ≠ e) | _, _ => true) = true)
    (hok2 : ∀ x, x < h → ∀ x_1 ∈ dl.getD x [], x_1 < x ∧ (beforeOf l.toArray 12 (bindsOn l.toArray x)).contains x_1 = true) (hfree : freeOf l.toArray h (m.map (·.1)) = true) (hn : (List.range h).all (fun j => match (l.toArray[j]?).bind (·.dst) with | some d => decide (d < n) | none => true) = true)
    (hdep : AllDep dl Y)
    {j : Nat} {o : Oper} (hob : ∀ a w' vs, Fr n ds m a → Sep X w0 w' L → (∀ i ∈ dl.getD j [], SlotIs l.toArray a i (vs i) ∧ ∃ rs, yat Y i vs (vs i) rs ∧ ∀ s ∈ rs, s.p w') → OpG r P l.toArray o a w' (fun v w'' => Ext NoB w' w'' ∧ ∃ rs, yat Y j vs v rs ∧ Sep NoB w' w'' rs ∧ rs.all (·.own) = true))
    (ho : l[j]? = some o) (hj : j < h) {done : Nat → Bool} {a : Act} {w' : World} (hj0 : done j = false) (hcl : ∀ i, done i = true → ∀ k ∈ bindsOn l.toArray i, done k = true) (hjb : ∀ i ∈ bindsOn l.toArray j, done i = true) (hI : VInv l h n ds m X w0 L Y done a w') :
    OpG r P l.toArray o a w' (fun v w'' => VInv l h n ds m X w0 L Y (fun i => done i || (i == j)) (a.put o.dst v) w'') := by
  obtain ⟨hA, vs, rsf, hdone, hnot, hSep⟩ := hI
  have hoj : (l.toArray)[j]? = some o := by simpa using ho
  have hdj : ∀ i ∈ dl.getD j [], i < h ∧ done i = true := fun i hi => by
    have h1 := hok2 j hj i hi
    exact ⟨by omega, before_done hcl 12 _ hjb i (by simpa using h1.2)⟩
  refine opG_mono (hob a w' vs hA hSep.right (fun i hi => ?_)) (fun v w'' hv => ?_)
  · obtain ⟨h1, h2⟩ := hdj i hi
    obtain ⟨h3, h4⟩ := hdone i h1 h2
    exact ⟨h3, rsf i, h4, fun s hs => hSep.mem (List.mem_append_left _ (catR_mem rsf h 0 i (Nat.zero_le _) (by omega) s hs))⟩
  · obtain ⟨hext, rs, hy, hnew, hown⟩ := hv
    have hslot : ∀ i, i < h → i ≠ j → ∀ u, SlotIs l.toArray a i u → SlotIs l.toArray (a.put o.dst v) i u := fun i hi hij u hs => by
      unfold SlotIs at hs ⊢
      have hdd := hdst i hi j hj
      cases hdi : ((l.toArray)[i]?).bind (·.dst) with
      | none => trivial
      | some di =>
        rw [hdi] at hs
        cases hdj' : o.dst with
        | none => exact hs
        | some dj =>
          have hjd : ((l.toArray)[j]?).bind (·.dst) = some dj := by rw [hoj]; exact hdj'
          rw [hdi, hjd] at hdd
          simp only [Bool.or_eq_true, decide_eq_true_eq] at hdd
          have hne : dj ≠ di := fun e' => (hdd.resolve_left (fun e2 => hij e2.symm)) e'
          simp only [Act.put]
          rw [Array.getElem?_setIfInBounds_ne hne]; exact hs
    refine ⟨?_, upd vs j v, upd rsf j rs, fun i hi hdi => ?_, fun i hdi => ?_, ?_⟩
    · cases hd : o.dst with
      | none => exact hA.put_none v
      | some d =>
        have hf := List.all_eq_true.1 hfree j (List.mem_range.2 hj)
        have hjd : ((l.toArray)[j]?).bind (·.dst) = some d := by rw [hoj]; exact hd
        rw [hjd] at hf
        have hdn := List.all_eq_true.1 hn j (List.mem_range.2 hj)
        rw [hjd] at hdn
        refine (hA.put (by simpa using hdn) v).mono (fun i u hi => ?_)
        have : i ≠ d := by
          rintro rfl
          have := lookup_mem m hi
          simp [this] at hf
        have hb : (i == d) = false := by simpa using this
        simp only [List.lookup, hb]; exact hi
    · by_cases e : i = j
      · subst e
        rw [upd_same, upd_same]
        refine ⟨?_, yat_dep hdep (fun k hk => ?_) hy⟩
        · unfold SlotIs
          rw [hoj]
          cases hd : o.dst with
          | none => simp [hd]
          | some d =>
            simp only [Option.bind_some, hd]
            have hdn := List.all_eq_true.1 hn i (List.mem_range.2 hj)
            rw [hoj] at hdn
            simp only [Option.bind_some, hd, decide_eq_true_eq] at hdn
            simp only [Act.put]
            rw [Array.getElem?_setIfInBounds_self_of_lt (by rw [hA.1]; exact hdn)]
        · have := (hdj k hk).2
          rw [upd_ne _ _ (by rintro rfl; rw [hj0] at this; cases this)]
      · have hdi' : done i = true := by
          simp only [Bool.or_eq_true, beq_iff_eq] at hdi
          exact hdi.resolve_right e
        obtain ⟨h3, h4⟩ := hdone i hi hdi'
        rw [upd_ne _ _ e, upd_ne _ _ e]
        refine ⟨hslot i hi e _ h3, yat_dep hdep (fun k hk => ?_) h4⟩
        have hk1 := hok2 i hi k hk
        have := before_done hcl 12 _ (hcl i hdi') k (by simpa using hk1.2)
        rw [upd_ne _ _ (by rintro rfl; rw [hj0] at this; cases this)]
    · simp only [Bool.or_eq_false_iff, beq_eq_false_iff_ne, ne_eq] at hdi
      rw [upd_ne _ _ hdi.2]; exact hnot i hdi.1
    · have h1 := hSep.callS hnew hown
      refine h1.perm ?_
      rw [← List.append_assoc]
      exact (catR_upd rsf j rs (hnot j hj0) h 0 (Nat.zero_le _) (by omega)).append_right L


/-- The store s waits for all that stands before it, but for those of F. -/
def floatsOk (ops : Array Oper) (s : Nat) (F : List Nat) : Bool := (List.range s).all fun i => F.contains i || (beforeOf ops 12 (bindsOn ops s)).contains i

theorem c_drawS {id : Nat} {l : List Oper} {a : Act} {w : World} (hm : P.follows .mixedOrders = true) (hA : Fr n ds m a) (hS : Sep X w0 w L) (s : Nat) (F : List Nat) {os : Oper} (hos : l[s]? = some os) (hod : os.dst = none) (dl : List (List Nat)) (Y : List YV) (L' : List Res)
    (hok : drawOk l.toArray (s + 1) (fun _ => []) = true) (hfl : floatsOk l.toArray s F = true) (hok2 : depsOk l.toArray s dl = true) (hfree : freeOf l.toArray s (m.map (·.1)) = true) (hn : (List.range s).all (fun j => match (l.toArray[j]?).bind (·.dst) with | some d => decide (d < n) | none => true) = true)
    (hdep : AllDep dl Y)
    (hop : AllOps (fun j o => ∀ a w' vs, Fr n ds m a → Sep X w0 w' L → (∀ i ∈ dl.getD j [], SlotIs l.toArray a i (vs i) ∧ ∃ rs, yat Y i vs (vs i) rs ∧ ∀ s ∈ rs, s.p w') → OpG r P l.toArray o a w' (fun v w'' => Ext NoB w' w'' ∧ ∃ rs, yat Y j vs v rs ∧ Sep NoB w' w'' rs ∧ rs.all (·.own) = true)) 0 s l)
    (hop2 : AllOps (fun j o => F.contains j = true → ∀ a w' vs, Fr n ds m a → Sep X w0 w' L' → (∀ i ∈ dl.getD j [], SlotIs l.toArray a i (vs i) ∧ ∃ rs, yat Y i vs (vs i) rs ∧ ∀ s ∈ rs, s.p w') → OpG r P l.toArray o a w' (fun v w'' => Ext NoB w' w'' ∧ ∃ rs, yat Y j vs v rs ∧ Sep NoB w' w'' rs ∧ rs.all (·.own) = true)) 0 s l)
    (hFz : ∀ j, F.contains j = true → ∀ vs v rs, yat Y j vs v rs → rs = [])
    (hst : ∀ a w' vs rsf, Fr n ds m a → (∀ i, i < s → F.contains i = false → SlotIs l.toArray a i (vs i) ∧ yat Y i vs (vs i) (rsf i)) → (∀ i, i < s → F.contains i = true → rsf i = []) → Sep X w0 w' (catR rsf 0 s ++ L) → OpG r P l.toArray os a w' (fun _ w'' => Sep X w0 w'' (catR rsf 0 s ++ L')))
    (htail : ∀ a w' vs rsf, Fr n ds m a → (∀ i, i < s → SlotIs l.toArray a i (vs i) ∧ yat Y i vs (vs i) (rsf i)) → Sep X w0 w' (catR rsf 0 s ++ L') → WL r P l.toArray Q (l.drop (s + 1)) a w') :
    WC r P (.region id l.toArray true) Q a w := by
  have hok' := hok
  simp only [drawOk, Bool.and_eq_true, List.all_eq_true, List.mem_range, decide_eq_true_eq] at hok'
  obtain ⟨⟨⟨⟨hback, _⟩, htl⟩, hdst⟩, hh⟩ := hok'
  simp only [depsOk, List.all_eq_true, List.mem_range, Bool.and_eq_true, decide_eq_true_eq] at hok2
  simp only [floatsOk, List.all_eq_true, List.mem_range, Bool.or_eq_true] at hfl
  have hsa : (l.toArray)[s]? = some os := by simpa using hos
  refine c_drawK hm (s + 1) (fun _ => []) hok (fun done a w' => if done s = true then VInv l s n ds m X w0 L' Y done a w' else VInv l s n ds m X w0 L Y done a w') (fun w' he _ => ?_) (fun j o ho hj done a w' hj0 hcl hjb hI K hK => ?_) (fun done a w' hall hI => ?_)
  · rw [if_neg (by simp)]
    refine ⟨hA, fun _ => undef, fun _ => [], (fun i _ hi => by cases hi), fun _ _ => rfl, ?_⟩
    have : ∀ (h k : Nat), catR (fun _ => []) k h = [] := by
      intro h
      induction h with
      | zero => intro k; rfl
      | succ h ih => intro k; show [] ++ catR _ (k + 1) h = []; rw [ih]; rfl
    rw [this]; exact hS.step he
  · by_cases hs : done s = true
    · rw [if_pos hs] at hI
      have hjs : j < s := by
        rcases Nat.lt_or_ge j s with h1 | h1
        · exact h1
        · rw [show j = s by omega, hs] at hj0; cases hj0
      have hjF : F.contains j = true := by
        rcases hfl j hjs with h1 | h1
        · exact h1
        · have := before_done hcl 12 _ (hcl s hs) j (by simpa using h1)
          rw [this] at hj0; cases hj0
      have hoj : (l.toArray)[j]? = some o := by simpa using ho
      have hob := allOps_at s 0 l hop2 j o ho hjs
      rw [Nat.zero_add] at hob
      refine opG_wp hoj (v_step1 (fun x hx y hy => hdst x (by omega) y (by omega)) hok2 hfree hn hdep (hob hjF) ho hjs hj0 hcl hjb hI) (fun v w'' h => hK _ _ ?_)
      rw [if_pos (by simp only [hs, Bool.true_or])]
      exact h
    · rw [if_neg hs] at hI
      rcases Nat.lt_or_ge j s with h1 | h1
      · have hoj : (l.toArray)[j]? = some o := by simpa using ho
        have hob := allOps_at s 0 l hop j o ho h1
        rw [Nat.zero_add] at hob
        refine opG_wp hoj (v_step1 (fun x hx y hy => hdst x (by omega) y (by omega)) hok2 hfree hn hdep hob ho h1 hj0 hcl hjb hI) (fun v w'' h => hK _ _ ?_)
        rw [if_neg]
        · exact h
        · simp only [Bool.or_eq_true, beq_iff_eq, not_or]; exact ⟨hs, by omega⟩
      · obtain rfl : j = s := by omega
        have heo : o = os := by rw [hos] at ho; exact (Option.some.inj ho).symm
        subst heo
        have hall : ∀ i, i < j → F.contains i = false → done i = true := fun i hi hne => before_done hcl 12 _ hjb i (by have := (hfl i hi).resolve_left (by rw [hne]; simp); simpa using this)
        obtain ⟨hA, vs, rsf, hdone, hnot, hSep⟩ := hI
        refine opG_wp hsa (hst a w' vs rsf hA (fun i hi hne => hdone i hi (hall i hi hne)) (fun i hi hF => by
          cases hd : done i with
          | true => exact hFz i hF _ _ _ (hdone i hi hd).2
          | false => exact hnot i hd) hSep) (fun v w'' h => hK _ _ ?_)
        rw [if_pos (by simp)]
        have hput : a.put o.dst v = a := by rw [hod]; rfl
        rw [hput]
        refine ⟨hA, vs, rsf, fun i hi hd => hdone i hi ?_, fun i hd => hnot i ?_, h⟩
        · simp only [Bool.or_eq_true, beq_iff_eq] at hd
          exact hd.resolve_right (by omega)
        · simp only [Bool.or_eq_false_iff] at hd
          exact hd.1
  · rw [if_pos (hall s (by omega))] at hI
    obtain ⟨hA, vs, rsf, hdone, _, hSep⟩ := hI
    exact htail a w' vs rsf hA (fun i hi => hdone i hi (hall i (by omega))) hSep
end

section
variable {r : Option Nat} {P : Program} {o : Oper} {a : Act} {w : World}
theorem op_nilCheckE {x : Operand} {v : Value} {j sz n : Nat} {cs : List Value} (ho : o.op = .nilCheck x) (hx : a.eval x = eptr v j) (hs : SlAt w v sz n cs) (hl : 0 < cs.length) : OpY r P o a w (fun v' w' => v' = eptr v j ∧ w' = w) := by
  obtain ⟨ad, c, rfl⟩ := hs.addr hl
  exact op_nilCheck ho hx
end
theorem pairs_set0 : ∀ {xs : List (Int × Int)} {i : Nat} {c : Int}, i < xs.length → setFrom (pairs xs) (i * 2 + 0) [.int .i64 c] = pairs (xs.set i (c, (xs.getD i (0, 0)).2))
  | x :: xs, 0, c, _ => by simp [setFrom, pairs_cons]
  | x :: xs, i + 1, c, h => by
    have := pairs_set0 (xs := xs) (i := i) (c := c) (by simpa using h)
    rw [setFrom_one, Nat.add_zero] at this ⊢
    rw [pairs_cons, show (i + 1) * 2 = i * 2 + 1 + 1 by omega, List.set_cons_succ, List.set_cons_succ, this, List.set_cons_succ, pairs_cons]
    simp
theorem pairs_set1 : ∀ {xs : List (Int × Int)} {i : Nat} {c : Int}, i < xs.length → setFrom (pairs xs) (i * 2 + 1) [.int .i64 c] = pairs (xs.set i ((xs.getD i (0, 0)).1, c))
  | x :: xs, 0, c, _ => by simp [setFrom, pairs_cons]
  | x :: xs, i + 1, c, h => by
    have := pairs_set1 (xs := xs) (i := i) (c := c) (by simpa using h)
    rw [setFrom_one] at this ⊢
    rw [pairs_cons, show (i + 1) * 2 + 1 = (i * 2 + 1) + 1 + 1 by omega, List.set_cons_succ, List.set_cons_succ, this, List.set_cons_succ, pairs_cons]
    simp
theorem labs_set0 : ∀ {T : List Int} {V : List Value} {i : Nat} {c : Int}, V.length = T.length → i < T.length → setFrom (vpairs (T.zip V)) (i * 2 + 0) [.int .i64 c] = vpairs ((T.set i c).zip V)
  | t :: T, v :: V, 0, c, _, _ => by simp [setFrom, vpairs_cons]
  | t :: T, v :: V, i + 1, c, hl, h => by
    have := labs_set0 (T := T) (V := V) (i := i) (c := c) (by simpa using hl) (by simpa using h)
    rw [setFrom_one, Nat.add_zero] at this ⊢
    rw [List.zip_cons_cons, vpairs_cons, show (i + 1) * 2 = i * 2 + 1 + 1 by omega, List.set_cons_succ, List.set_cons_succ, this, List.set_cons_succ, List.zip_cons_cons, vpairs_cons]
  | t :: T, [], i, c, hl, _ => by simp at hl
theorem labs_set1 : ∀ {T : List Int} {V : List Value} {i : Nat} {c : Value}, V.length = T.length → i < T.length → setFrom (vpairs (T.zip V)) (i * 2 + 1) [c] = vpairs (T.zip (V.set i c))
  | t :: T, v :: V, 0, c, _, _ => by simp [setFrom, vpairs_cons]
  | t :: T, v :: V, i + 1, c, hl, h => by
    have := labs_set1 (T := T) (V := V) (i := i) (c := c) (by simpa using hl) (by simpa using h)
    rw [setFrom_one] at this ⊢
    rw [List.zip_cons_cons, vpairs_cons, show (i + 1) * 2 + 1 = (i * 2 + 1) + 1 + 1 by omega, List.set_cons_succ, List.set_cons_succ, this, List.set_cons_succ, List.zip_cons_cons, vpairs_cons]
  | t :: T, [], i, c, hl, _ => by simp at hl
theorem vals_set {V : List Value} {i : Nat} {c : Value} (h : i < V.length) : (V.set i c).getD i nilS = c := by simp [List.getD, h]
end Go.Eng

namespace Go.Eng
open Go.RowKit

/-- v[l:h], of elements of sz cells. -/
def slcut (v : Value) (l h sz : Nat) : Value := match v with
  | .slice a _ c => sliced a l h c sz
  | _ => undef
/-- v[l:h:m]. -/
def slcut3 (v : Value) (l h m sz : Nat) : Value := match v with
  | .slice a _ _ => sliced a l h m sz
  | _ => undef

theorem SlAt.cutAt {w : World} {A : Option Addr} {sz n cap m l h : Nat} {cs : List Value} (hs : SlAt w (.slice A n cap) sz n cs) (h1 : l ≤ h) (h2 : h ≤ n) (h3 : h ≤ m) (h4 : m ≤ cap) : SlAt w (sliced A l h m sz) sz (h - l) ((cs.drop (l * sz)).take ((h - l) * sz)) := by
  obtain ⟨hl, A', cap', he, hc, hm, hc2⟩ := hs
  cases he
  have hln : (h - l) * sz ≤ n * sz - l * sz := by rw [← Nat.sub_mul]; exact Nat.mul_le_mul_right _ (by omega)
  refine ⟨by rw [List.length_take, List.length_drop, hl]; omega, _, m - l, rfl, by omega, by omega, fun hne => ?_⟩
  have hlt : l < h := by
    rcases Nat.lt_or_ge l h with h5 | h5
    · exact h5
    · exfalso; apply hne; rw [show h - l = 0 by omega, Nat.zero_mul, List.take_zero]
  rw [if_neg (by omega)]
  have hne2 : cs ≠ [] := by rintro rfl; simp at hne
  obtain ⟨ad, rfl, hcell⟩ := hc2 hne2
  refine ⟨_, rfl, fun j u hu => ?_⟩
  rw [addr_add_add]
  rw [List.getElem?_take] at hu
  split at hu
  · rw [List.getElem?_drop] at hu
    exact hcell _ _ hu
  · cases hu
theorem SlAt.cut {w : World} {v : Value} {sz n l h : Nat} {cs : List Value} (hs : SlAt w v sz n cs) (h1 : l ≤ h) (h2 : h ≤ n) : SlAt w (slcut v l h sz) sz (h - l) ((cs.drop (l * sz)).take ((h - l) * sz)) := by
  have hs0 := hs
  obtain ⟨hl, A, cap, rfl, hc, hm, hc2⟩ := hs
  exact hs0.cutAt h1 h2 (by omega) (Nat.le_refl _)
/-- The cells are told in other words. -/
theorem SlAt.say {w : World} {v : Value} {sz n n' : Nat} {cs cs' : List Value} (h : SlAt w v sz n cs) (hn : n = n') (hc : cs = cs') : SlAt w v sz n' cs' := by subst hn; subst hc; exact h

section
variable {r : Option Nat} {P : Program} {o : Oper} {a : Act} {w : World}
theorem elem_of {t e : TypeId} (ht : P.underlying t = some (.slice e)) : P.elem t = e := by simp [Program.elem, ht]
theorem op_sliceLo {t e : TypeId} {x lo : Operand} {v : Value} {g : Bool} {sz n l : Nat} {cs : List Value} {k : IntKind} (ho : o.op = .slice t x (some lo) none none) (ht : P.underlying t = some (.slice e)) (he : tyK P e = some (g, sz)) (hx : a.eval x = v) (hl : a.eval lo = .int k (l : Int)) (hs : SlAt w v sz n cs) (h : l ≤ n) :
    OpY r P o a w (fun v' w' => v' = slcut v l n sz ∧ w' = w) := by
  obtain ⟨_, A, cap, rfl, hc, hm, _⟩ := hs
  have he' := elem_of ht
  have ht' : P.underlying t = some (.slice (P.elem t)) := by rw [he']; exact ht
  refine opY_value (by rw [ho]; rfl) ?_ ⟨rfl, rfl⟩
  have h1 := run_slice_l (P := P) w t A n cap ht' k (l : Int) (by omega) (by omega)
  rw [he', run_sizeOf he] at h1
  simp only [execOp, ho, hx, hl, Option.map_some, Option.map_none, Sem.run_bind, run_sliceAt_slice w t _ _ _ _ ht', h1, Result.andThen_ok, Sem.run_pure, Int.toNat_natCast]
  rfl
theorem op_sliceHi {t e : TypeId} {x hi : Operand} {v : Value} {g : Bool} {sz n h : Nat} {cs : List Value} {k : IntKind} (ho : o.op = .slice t x none (some hi) none) (ht : P.underlying t = some (.slice e)) (he : tyK P e = some (g, sz)) (hx : a.eval x = v) (hh : a.eval hi = .int k (h : Int)) (hs : SlAt w v sz n cs) (hn : h ≤ n) :
    OpY r P o a w (fun v' w' => v' = slcut v 0 h sz ∧ w' = w) := by
  obtain ⟨_, A, cap, rfl, hc, hm, _⟩ := hs
  have he' := elem_of ht
  have ht' : P.underlying t = some (.slice (P.elem t)) := by rw [he']; exact ht
  refine opY_value (by rw [ho]; rfl) ?_ ⟨rfl, rfl⟩
  have h1 := run_slice_h (P := P) w t A n cap ht' k (h : Int) (by omega) (by omega)
  rw [he', run_sizeOf he] at h1
  simp only [execOp, ho, hx, hh, Option.map_some, Option.map_none, Sem.run_bind, run_sliceAt_slice w t _ _ _ _ ht', h1, Result.andThen_ok, Sem.run_pure, Int.toNat_natCast]
  rfl
theorem op_sliceHM {t e : TypeId} {x hi mx : Operand} {v : Value} {g : Bool} {sz n h m : Nat} {cs : List Value} {k k2 : IntKind} (ho : o.op = .slice t x none (some hi) (some mx)) (ht : P.underlying t = some (.slice e)) (he : tyK P e = some (g, sz)) (hx : a.eval x = v) (hh : a.eval hi = .int k (h : Int)) (hm2 : a.eval mx = .int k2 (m : Int)) (hs : SlAt w v sz n cs) (hn : h ≤ m) (hmn : m ≤ n) :
    OpY r P o a w (fun v' w' => v' = slcut3 v 0 h m sz ∧ w' = w) := by
  obtain ⟨_, A, cap, rfl, hc, hm, _⟩ := hs
  have he' := elem_of ht
  have ht' : P.underlying t = some (.slice (P.elem t)) := by rw [he']; exact ht
  refine opY_value (by rw [ho]; rfl) ?_ ⟨rfl, rfl⟩
  have h1 := run_slice_hm (P := P) w t A n cap ht' k k2 (h : Int) (m : Int) (by omega) (by omega) (by omega)
  rw [he', run_sizeOf he] at h1
  simp only [execOp, ho, hx, hh, hm2, Option.map_some, Option.map_none, Sem.run_bind, run_sliceAt_slice w t _ _ _ _ ht', h1, Result.andThen_ok, Sem.run_pure, Int.toNat_natCast]
  rfl
end
theorem vpairs_drop (xs : List (Int × Value)) : ∀ (t : Nat), (vpairs xs).drop (t * 2) = vpairs (xs.drop t)
  | 0 => by simp
  | t + 1 => by
    cases xs with
    | nil => simp [vpairs]
    | cons x xs =>
      rw [vpairs_cons, show (t + 1) * 2 = t * 2 + 1 + 1 by omega, List.drop_succ_cons, List.drop_succ_cons, List.drop_succ_cons]
      exact vpairs_drop xs t
theorem vpairs_take (xs : List (Int × Value)) : ∀ (t : Nat), (vpairs xs).take (t * 2) = vpairs (xs.take t)
  | 0 => by simp [vpairs]
  | t + 1 => by
    cases xs with
    | nil => simp [vpairs]
    | cons x xs =>
      rw [vpairs_cons, show (t + 1) * 2 = t * 2 + 1 + 1 by omega, List.take_succ_cons, List.take_succ_cons, List.take_succ_cons, vpairs_cons]
      rw [vpairs_take xs t]
theorem labs_drop {T : List Int} {V : List Value} {t : Nat} (hl : V.length = T.length) (ht : t ≤ T.length) : ((vpairs (T.zip V)).drop (t * 2)).take ((T.length - t) * 2) = vpairs ((T.drop t).zip (V.drop t)) := by
  rw [vpairs_drop, List.take_of_length_le (by rw [vpairs_length, List.length_drop, List.length_zip]; omega)]
  congr 1
  exact List.drop_zipWith
theorem labs_take {T : List Int} {V : List Value} {t : Nat} : ((vpairs (T.zip V)).drop (0 * 2)).take ((t - 0) * 2) = vpairs ((T.take t).zip (V.take t)) := by
  rw [Nat.zero_mul, List.drop_zero, Nat.sub_zero, vpairs_take]
  congr 1
  exact List.take_zipWith
theorem labs_dropOne {T : List Int} {V : List Value} {t : Nat} (h : (vpairs (T.zip V)).all (·.oneCell') = true) : (vpairs ((T.drop t).zip (V.drop t))).all (·.oneCell') = true := by
  have e : (T.drop t).zip (V.drop t) = (T.zip V).drop t := List.drop_zipWith.symm
  rw [e, ← vpairs_drop, List.all_eq_true]
  exact fun u hu => List.all_eq_true.1 h u (List.mem_of_mem_drop hu)
theorem labs_takeOne {T : List Int} {V : List Value} {t : Nat} (h : (vpairs (T.zip V)).all (·.oneCell') = true) : (vpairs ((T.take t).zip (V.take t))).all (·.oneCell') = true := by
  have e : (T.take t).zip (V.take t) = (T.zip V).take t := List.take_zipWith.symm
  rw [e, ← vpairs_take, List.all_eq_true]
  exact fun u hu => List.all_eq_true.1 h u (List.mem_of_mem_take hu)
end Go.Eng

namespace Go.Proofs.Ytfhmigoddaaljaa
open Go.RowKit Go.Eng

/-- The readings of laboratory k, those of the first j samples struck out that are of another lot than i. -/
def apUpto (d : RD) (i k : Nat) : Nat → List Int
  | 0 => d.rds.getD k []
  | j + 1 => if d.samples.getD j 0 = (i : Int) then apUpto d i k j else (apUpto d i k j).set j (-1)
def apRow (d : RD) (i k : Nat) : List Int := apUpto d i k d.samples.length
def apartD (d : RD) (i : Nat) : RD := { d with rds := (List.range d.tols.length).map fun k => apRow d i k }
section
variable {d : RD} {i : Nat}
theorem apUpto_yes {k j : Nat} (h : d.samples.getD j 0 = (i : Int)) : apUpto d i k (j + 1) = apUpto d i k j := by rw [apUpto, if_pos h]
theorem apUpto_no {k j : Nat} (h : ¬ d.samples.getD j 0 = (i : Int)) : apUpto d i k (j + 1) = (apUpto d i k j).set j (-1) := by rw [apUpto, if_neg h]
theorem apUpto_len (k : Nat) : ∀ j, (apUpto d i k j).length = (d.rds.getD k []).length
  | 0 => rfl
  | j + 1 => by
    unfold apUpto; split
    · exact apUpto_len k j
    · rw [List.length_set]; exact apUpto_len k j
theorem apUpto_at (k : Nat) : ∀ j t, t < (d.rds.getD k []).length → (apUpto d i k j).getD t 0 = if t < j ∧ d.samples.getD t 0 ≠ (i : Int) then -1 else (d.rds.getD k []).getD t 0
  | 0, t, _ => by rw [if_neg (by omega)]; rfl
  | j + 1, t, ht => by
    have ih := apUpto_at k j t ht
    unfold apUpto; split
    · rename_i h
      rw [ih]
      by_cases e : t = j
      · subst e; rw [if_neg (by omega), if_neg (fun e => e.2 h)]
      · simp only [show (t < j + 1) ↔ t < j by omega]
    · rename_i h
      by_cases e : t = j
      · subst e
        rw [if_pos ⟨by omega, h⟩]
        have : t < (apUpto d i k t).length := by rw [apUpto_len]; exact ht
        simp [List.getD, this]
      · have e2 : ((apUpto d i k j).set j (-1)).getD t 0 = (apUpto d i k j).getD t 0 := by
          simp only [List.getD]; rw [List.getElem?_set_ne (fun e' => e e'.symm)]
        rw [e2, ih]
        simp only [show (t < j + 1) ↔ t < j by omega]
theorem apart_rds {q : Nat} (hq : q < d.tols.length) : (apartD d i).rds.getD q [] = apRow d i q := by
  simp [apartD, List.getD, hq]
theorem apart_rd (hV : Valid d) {q t : Nat} (hq : q < d.tols.length) (ht : t < d.samples.length) : rdv (apartD d i) q t = if d.samples.getD t 0 = (i : Int) then rdv d q t else -1 := by
  unfold rdv; rw [apart_rds hq]; unfold apRow
  rw [apUpto_at q _ t (by rw [hV.rdl q hq]; exact ht)]
  by_cases h : d.samples.getD t 0 = (i : Int)
  · rw [if_neg (fun e => e.2 h), if_pos h]
  · rw [if_pos ⟨ht, h⟩, if_neg h]
theorem apart_valid (hV : Valid d) : Valid (apartD d i) := by
  refine ⟨hV.nl, hV.ns, hV.nb, hV.lots, hV.samples, hV.spread, hV.tols, fun q hq => ?_, fun q hq j hj => ?_⟩
  · rw [apart_rds (d := d) hq]; unfold apRow; rw [apUpto_len]; exact hV.rdl q hq
  · have := hV.rds q hq j hj
    show -1 ≤ rdv (apartD d i) q j ∧ rdv (apartD d i) q j ≤ 1000
    rw [apart_rd hV hq hj]
    split
    · exact this
    · omega
theorem apart_check (hV : Valid d) : checkR (apartD d i) = 0 := check_of (apart_valid hV)
theorem apart_thin (hV : Valid d) : (apartD d i).lots.length ≤ 6 ∧ (apartD d i).samples.length ≤ 10 ∧ (apartD d i).tols.length ≤ 8 ∧ ∀ k, k < (apartD d i).tols.length → ((apartD d i).rds.getD k []).length ≤ 10 := by
  have h := apart_valid (i := i) hV
  have h1 := h.nl; have h2 := h.ns; have h3 := h.nb
  exact ⟨by omega, by omega, by omega, fun k hk => by have := h.rdl k hk; omega⟩
theorem apart_rdl : (apartD d i).rds.length = d.tols.length := by simp [apartD]
end
/-- A round is explained if each lot of it is. -/
theorem apart_all {d : RD} (hV : Valid d) {off : List Bool} : explB d off = (List.range d.lots.length).all fun i => explB (apartD d i) off := by
  rw [Bool.eq_iff_iff, List.all_eq_true, explB_iff hV]
  constructor
  · rintro ⟨L, v, h⟩ i _
    refine (explB_iff (apart_valid hV)).2 ⟨L, v, h.lots, h.near, fun k hk q hq ho hr => ?_⟩
    have hrd := apart_rd (i := i) hV hq hk
    rw [hrd] at hr ⊢
    split at hr
    · rename_i e
      rw [if_pos e]
      exact h.agree k hk q hq ho hr
    · exact absurd rfl hr
  · intro h
    have hi : ∀ i, ∃ L v, i < d.lots.length → Truth (apartD d i) off (-1) 0 L v := fun i => by
      by_cases hi : i < d.lots.length
      · obtain ⟨L, v, hT⟩ := (explB_iff (apart_valid hV)).1 (h i (List.mem_range.2 hi))
        exact ⟨L, v, fun _ => hT⟩
      · exact ⟨fun _ => 0, fun _ => 0, fun e => absurd e hi⟩
    let L : Nat → Nat → Int := fun i => Classical.choose (hi i)
    have hL := fun i => Classical.choose_spec (hi i)
    let v : Nat → Nat → Int := fun i => Classical.choose (hL i)
    have hv : ∀ i, i < d.lots.length → Truth (apartD d i) off (-1) 0 (L i) (v i) := fun i => Classical.choose_spec (hL i)
    refine ⟨fun i => L i i, fun k => v (lotOf d k) k, fun i hi => (hv i hi).lots i hi, fun k hk => ?_, fun k hk q hq ho hr => ?_⟩
    · have hs := hV.samples k hk
      exact (hv (lotOf d k) (by unfold lotOf; omega)).near k hk
    · have hs := hV.samples k hk
      have hT := hv (lotOf d k) (by unfold lotOf; omega)
      have hrd := apart_rd (i := lotOf d k) hV hq hk
      rw [if_pos (by unfold lotOf; omega)] at hrd
      have := hT.agree k hk q hq ho (by rw [hrd]; exact hr)
      rw [hrd] at this
      exact this
def apAll (d : RD) (off : List Bool) (n : Nat) : Bool := (List.range n).all fun i => explB (apartD d i) off
theorem apAll_succ (d : RD) (off : List Bool) (n : Nat) : apAll d off (n + 1) = (apAll d off n && explB (apartD d n) off) := by
  unfold apAll; rw [List.range_succ, List.all_append]; simp
end Go.Proofs.Ytfhmigoddaaljaa

namespace Go.Proofs.Ytfhmigoddaaljaa
open Go.RowKit Go.Eng

/-! ### One more laboratory -/
def endsRow (d : RD) (k : Nat) (n : Int) : List Int := (List.replicate d.samples.length (-1)).set k n
def endsD (d : RD) (k : Nat) (n : Int) : RD := { d with tols := d.tols ++ [0], rds := d.rds ++ [endsRow d k n] }
section
variable {d : RD} {k : Nat} {n : Int}
theorem getD_snocI (l : List Int) (a : Int) (q : Nat) : (l ++ [a]).getD q 0 = if q < l.length then l.getD q 0 else if q = l.length then a else 0 := by
  simp only [List.getD, List.getElem?_append]
  split
  · rfl
  · rename_i h
    split
    · rename_i e; subst e; simp
    · rw [List.getElem?_eq_none (by simp; omega)]; rfl
theorem getD_snocL (l : List (List Int)) (a : List Int) (q : Nat) : (l ++ [a]).getD q [] = if q < l.length then l.getD q [] else if q = l.length then a else [] := by
  simp only [List.getD, List.getElem?_append]
  split
  · rfl
  · rename_i h
    split
    · rename_i e; subst e; simp
    · rw [List.getElem?_eq_none (by simp; omega)]; rfl
theorem ends_rds (hr : d.rds.length = d.tols.length) (q : Nat) : (endsD d k n).rds.getD q [] = if q < d.tols.length then d.rds.getD q [] else if q = d.tols.length then endsRow d k n else [] := by
  show (d.rds ++ [endsRow d k n]).getD q [] = _
  rw [getD_snocL, hr]
theorem endsRow_at {i : Nat} (hi : i < d.samples.length) : (endsRow d k n).getD i 0 = if i = k then n else -1 := by
  unfold endsRow
  simp only [List.getD, List.getElem?_set]
  by_cases e : k = i
  · subst e; simp [hi]
  · rw [if_neg e, if_neg (fun h => e h.symm)]; simp [hi]
theorem endsRow_len : (endsRow d k n).length = d.samples.length := by simp [endsRow]
theorem ends_len : (endsD d k n).tols.length = d.tols.length + 1 := by simp [endsD]
theorem ends_tol {q : Nat} (hq : q < d.tols.length) : (endsD d k n).tols.getD q 0 = d.tols.getD q 0 := by
  show (d.tols ++ [0]).getD q 0 = _
  rw [getD_snocI, if_pos hq]
theorem ends_tolN : (endsD d k n).tols.getD d.tols.length 0 = 0 := by
  show (d.tols ++ [0]).getD _ 0 = _
  rw [getD_snocI, if_neg (by omega), if_pos rfl]
theorem ends_rd (hr : d.rds.length = d.tols.length) {q i : Nat} (hq : q < d.tols.length) : rdv (endsD d k n) q i = rdv d q i := by
  unfold rdv; rw [ends_rds hr, if_pos hq]
theorem ends_rdN (hr : d.rds.length = d.tols.length) {i : Nat} (hi : i < d.samples.length) : rdv (endsD d k n) d.tols.length i = if i = k then n else -1 := by
  unfold rdv; rw [ends_rds hr, if_neg (by omega), if_pos rfl, endsRow_at hi]
theorem ends_valid (hV : Valid d) (hr : d.rds.length = d.tols.length) (h5 : d.tols.length ≤ 5) (hn : 0 ≤ n ∧ n ≤ 1000) : Valid (endsD d k n) := by
  refine ⟨hV.nl, hV.ns, by rw [ends_len]; omega, hV.lots, hV.samples, hV.spread, fun q hq => ?_, fun q hq => ?_, fun q hq j hj => ?_⟩
  · rw [ends_len] at hq
    by_cases e : q < d.tols.length
    · rw [ends_tol e]; exact hV.tols q e
    · rw [show q = d.tols.length by omega, ends_tolN]; omega
  · rw [ends_len] at hq
    rw [ends_rds hr]
    by_cases e : q < d.tols.length
    · rw [if_pos e]; exact hV.rdl q e
    · rw [if_neg e, if_pos (by omega)]; exact endsRow_len
  · rw [ends_len] at hq
    have hj' : j < d.samples.length := hj
    show -1 ≤ rdv (endsD d k n) q j ∧ rdv (endsD d k n) q j ≤ 1000
    by_cases e : q < d.tols.length
    · rw [ends_rd hr e]; exact hV.rds q e j hj'
    · rw [show q = d.tols.length by omega, ends_rdN hr hj']; split <;> omega
theorem ends_thin (hV : Valid d) (hr : d.rds.length = d.tols.length) (h5 : d.tols.length ≤ 5) (hn : 0 ≤ n ∧ n ≤ 1000) : (endsD d k n).lots.length ≤ 6 ∧ (endsD d k n).samples.length ≤ 10 ∧ (endsD d k n).tols.length ≤ 8 ∧ ∀ q, q < (endsD d k n).tols.length → ((endsD d k n).rds.getD q []).length ≤ 10 := by
  have h := ends_valid (k := k) hV hr h5 hn
  have h1 := h.nl; have h2 := h.ns; have h3 := h.nb
  exact ⟨by omega, by omega, by omega, fun q hq => by have := h.rdl q hq; omega⟩
theorem ends_rdl (hr : d.rds.length = d.tols.length) : (endsD d k n).rds.length = (endsD d k n).tols.length := by simp [endsD, hr]
theorem ends_iff (hV : Valid d) (hr : d.rds.length = d.tols.length) (h5 : d.tols.length ≤ 5) (hn : 0 ≤ n ∧ n ≤ 1000) {off : List Bool} (hoff : off.getD d.tols.length false = false) (hok : explB d off = true) (hk : k < d.samples.length) :
    explB (endsD d k n) off = (decide (((spansF d off (-1) 0).1.getD k (0, 0)).1 ≤ n) && decide (n ≤ ((spansF d off (-1) 0).1.getD k (0, 0)).2)) := by
  rw [Bool.eq_iff_iff, explB_iff (ends_valid hV hr h5 hn)]
  simp only [Bool.and_eq_true, decide_eq_true_eq]
  rw [span_iff hV hok hk n]
  constructor
  · rintro ⟨L, v, h⟩
    refine ⟨L, v, ⟨h.lots, h.near, fun i hi q hq ho hrd => ?_⟩, ?_⟩
    · have := h.agree i hi q (by rw [ends_len]; omega) ho (by rw [ends_rd hr hq]; exact hrd)
      rw [ends_rd hr hq, ends_tol hq] at this; exact this
    · have e : rdv (endsD d k n) d.tols.length k = n := by rw [ends_rdN hr hk, if_pos rfl]
      have := h.agree k hk d.tols.length (by rw [ends_len]; omega) hoff (by rw [e]; omega)
      rw [e, ends_tolN] at this
      split at this <;> omega
  · rintro ⟨L, v, h, e⟩
    refine ⟨L, v, h.lots, h.near, fun i hi q hq ho hrd => ?_⟩
    have hi' : i < d.samples.length := hi
    rw [ends_len] at hq
    by_cases hq' : q < d.tols.length
    · rw [ends_rd hr hq'] at hrd ⊢
      rw [ends_tol hq']
      exact h.agree i hi q hq' ho hrd
    · have eq : q = d.tols.length := by omega
      subst eq
      rw [ends_rdN hr hi'] at hrd ⊢
      rw [ends_tolN]
      by_cases ei : i = k
      · subst ei; rw [if_pos rfl, e]; split <;> omega
      · rw [if_neg ei] at hrd; exact absurd rfl hrd
theorem offB_out {nb x : Nat} (h : nb < 6) : (offB nb x).getD nb false = false := by
  unfold offB
  rw [off_has (chosen_rise nb x) h, Bool.eq_false_iff]
  intro e
  rw [hasB_iff, mem_chosen] at e
  obtain ⟨q, h1, _, h2⟩ := e
  omega
theorem rise_more {nb : Nat} {l : List Int} (h : riseB nb l = true) : riseB (nb + 1) l = true := by
  unfold riseB at *
  rw [List.all_eq_true] at *
  intro i hi
  have := h i hi
  unfold riseAt at *
  simp only [Bool.and_eq_true, decide_eq_true_eq] at *
  exact ⟨⟨this.1.1, by omega⟩, this.2⟩
theorem ends_explains (hV : Valid d) (hr : d.rds.length = d.tols.length) (h5 : d.tols.length ≤ 5) (hn : 0 ≤ n ∧ n ≤ 1000) {x : Nat} (hok : explB d (offB d.tols.length x) = true) (hk : k < d.samples.length) :
    explainsF (endsD d k n) (chosenF d.tols.length x) = ((decide (((spansF d (offB d.tols.length x) (-1) 0).1.getD k (0, 0)).1 ≤ n) && decide (n ≤ ((spansF d (offB d.tols.length x) (-1) 0).1.getD k (0, 0)).2)), 0) := by
  rw [explainsF_yes (check_of (ends_valid hV hr h5 hn)) (by rw [ends_len]; exact rise_more (chosen_rise _ _))]
  rw [← ends_iff hV hr h5 hn (offB_out (by omega)) hok hk]; rfl
end

/-! ### Lists of the fewest -/
theorem fromL_mem (d : RD) : ∀ (m : Nat) (l : List Int) (off : List Bool) (next : Nat) (z : List Int), z ∈ fromL d m l off next →
    ∃ ys, z = l ++ ys ∧ ys.length = m ∧ (∀ y ∈ ys, (next : Int) ≤ y ∧ y ≤ (d.tols.length : Int) - 1) ∧ ys.Pairwise (· < ·) ∧ explB d (ys.foldl (fun bs n => bs.set n.toNat true) off) = true
  | 0, l, off, next, z, h => by
    rw [fromL] at h
    split at h
    · rename_i he
      rw [List.mem_singleton] at h
      exact ⟨[], by rw [h, List.append_nil], rfl, by simp, List.Pairwise.nil, he⟩
    · cases h
  | m + 1, l, off, next, z, h => by
    rw [fromL, List.mem_flatMap] at h
    obtain ⟨k, hk, hz⟩ := h
    rw [List.mem_range'_1] at hk
    obtain ⟨ys, e, hl, hb, hp, hx⟩ := fromL_mem d m (l ++ [(k : Int)]) (off.set k true) (k + 1) z hz
    refine ⟨(k : Int) :: ys, by rw [e, List.append_assoc]; rfl, by simp [hl], fun y hy => ?_, List.pairwise_cons.2 ⟨fun y hy => by have := hb y hy; omega, hp⟩, hx⟩
    rcases List.mem_cons.1 hy with rfl | hy
    · omega
    · have := hb y hy; omega
theorem fewUpto_spec (d : RD) : ∀ k, (fewUpto d k = [] ∧ ∀ j, j < k → fromL d j [] off0 0 = []) ∨ ∃ m, m < k ∧ fewUpto d k = fromL d m [] off0 0 ∧ fewUpto d k ≠ [] ∧ ∀ j, j < m → fromL d j [] off0 0 = []
  | 0 => .inl ⟨rfl, fun j h => absurd h (Nat.not_lt_zero _)⟩
  | k + 1 => by
    simp only [fewUpto]
    rcases fewUpto_spec d k with ⟨h1, h2⟩ | ⟨m, h1, h2, h3, h4⟩
    · rw [if_pos h1]
      by_cases hk : fromL d k [] off0 0 = []
      · refine .inl ⟨hk, fun j hj => ?_⟩
        rcases Nat.lt_succ_iff_lt_or_eq.1 hj with h | h
        · exact h2 j h
        · subst h; exact hk
      · exact .inr ⟨k, by omega, rfl, hk, h2⟩
    · rw [if_neg h3]
      exact .inr ⟨m, by omega, h2, h3, h4⟩
theorem fewest_spec {d : RD} (hV : Valid d) : ∃ m, m ≤ d.tols.length ∧ fewestF d = fromL d m [] off0 0 ∧ ∀ j, j < m → fromL d j [] off0 0 = [] := by
  rcases fewUpto_spec d (d.tols.length + 1) with ⟨h1, _⟩ | ⟨m, h1, h2, _, h4⟩
  · exact absurd h1 (fewest_ne hV)
  · exact ⟨m, by omega, h2, h4⟩
/-- What a list of the fewest is. -/
structure Few (d : RD) (ys : List Int) : Prop where
  b : ∀ y ∈ ys, (0 : Int) ≤ y ∧ y ≤ (d.tols.length : Int) - 1
  p : ys.Pairwise (· < ·)
  x : explB d (offUpto ys ys.length) = true
theorem off_fold (ys : List Int) : offUpto ys ys.length = ys.foldl (fun bs n => bs.set n.toNat true) off0 := by unfold offUpto off0; rw [List.take_length]
theorem few_of {d : RD} {m : Nat} {ys : List Int} (h : ys ∈ fromL d m [] off0 0) : Few d ys ∧ ys.length = m := by
  obtain ⟨zs, e, hl, hb, hp, hx⟩ := fromL_mem d m [] off0 0 ys h
  rw [List.nil_append] at e; subst e
  exact ⟨⟨fun y hy => by have := hb y hy; omega, hp, by rw [off_fold]; exact hx⟩, hl⟩
theorem Few.mem {d : RD} {ys : List Int} (h : Few d ys) : ys ∈ fromL d ys.length [] off0 0 := mem_from0 h.b h.p h.x
theorem Few.nodup {d : RD} {ys : List Int} (h : Few d ys) : ys.Nodup := h.p.imp (fun h => by omega)
theorem Few.len {d : RD} {ys : List Int} (h : Few d ys) : ys.length ≤ d.tols.length := by
  have : ys ⊆ (List.range d.tols.length).map fun (k : Nat) => (k : Int) := fun y hy => by
    have := h.b y hy
    exact List.mem_map.2 ⟨y.toNat, List.mem_range.2 (by omega), by omega⟩
  have := h.nodup.length_le_of_subset this
  simpa using this
theorem fewest_few {d : RD} (hV : Valid d) {ys : List Int} (h : ys ∈ fewestF d) : Few d ys := by
  obtain ⟨m, _, e, _⟩ := fewest_spec hV
  rw [e] at h; exact (few_of h).1
theorem fewest_len {d : RD} (hV : Valid d) {ys : List Int} (h : ys ∈ fewestF d) : ys.length = ((fewestF d).getD 0 []).length := by
  obtain ⟨m, _, e, _⟩ := fewest_spec hV
  have h0 : (fewestF d).getD 0 [] ∈ fewestF d := by
    have := fewest_pos hV
    simp only [List.getD, List.getElem?_eq_getElem this, Option.getD_some]; exact List.getElem_mem this
  rw [e] at h
  have h1 : (fewestF d).getD 0 [] ∈ fromL d m [] off0 0 := by rw [← e]; exact h0
  rw [(few_of h).2, (few_of h1).2]
theorem fewest_first {d : RD} (hV : Valid d) : (fewestF d).getD 0 [] ∈ fewestF d := by
  have := fewest_pos hV
  simp only [List.getD, List.getElem?_eq_getElem this, Option.getD_some]; exact List.getElem_mem this

/-! ### Kinder rounds -/
structure Kinder (d x : RD) : Prop where
  nl : x.lots.length = d.lots.length
  sm : x.samples = d.samples
  nb : x.tols.length = d.tols.length
  lots : ∀ i, i < d.lots.length → (x.lots.getD i (0, 0)).1 ≤ (d.lots.getD i (0, 0)).1 ∧ (d.lots.getD i (0, 0)).2 ≤ (x.lots.getD i (0, 0)).2
  sp : d.spread ≤ x.spread
  tols : ∀ i, i < d.tols.length → d.tols.getD i 0 ≤ x.tols.getD i 0
  rds : ∀ q, q < d.tols.length → ∀ i, i < d.samples.length → rdv x q i = rdv d q i ∨ rdv x q i = -1
theorem Kinder.truth {d x : RD} (h : Kinder d x) {off : List Bool} {L v : Nat → Int} (hT : Truth d off (-1) 0 L v) : Truth x off (-1) 0 L v := by
  refine ⟨fun i hi => ?_, fun k hk => ?_, fun k hk q hq ho hr => ?_⟩
  · rw [h.nl] at hi
    have := h.lots i hi; have := hT.lots i hi; omega
  · rw [h.sm] at hk
    have := hT.near k hk; have hs := h.sp
    have e : lotOf x k = lotOf d k := by unfold lotOf; rw [h.sm]
    rw [e]; omega
  · rw [h.sm] at hk; rw [h.nb] at hq
    have ht := h.tols q hq
    rcases h.rds q hq k hk with e | e
    · rw [e] at hr ⊢
      have := hT.agree k hk q hq ho hr
      omega
    · exact absurd e hr
theorem Kinder.expl {d x : RD} (h : Kinder d x) (hV : Valid d) (hX : Valid x) {off : List Bool} (he : explB d off = true) : explB x off = true := by
  obtain ⟨L, v, hT⟩ := (explB_iff hV).1 he
  exact (explB_iff hX).2 ⟨L, v, h.truth hT⟩
theorem Kinder.least {d x : RD} (h : Kinder d x) (hV : Valid d) (hX : Valid x) : ((fewestF x).getD 0 []).length ≤ ((fewestF d).getD 0 []).length := by
  have hf := fewest_few hV (fewest_first hV)
  have hx : Few x ((fewestF d).getD 0 []) := ⟨by rw [h.nb]; exact hf.b, hf.p, h.expl hV hX hf.x⟩
  exact (fewest_le hx.len hx.mem).1
theorem Kinder.refl (d : RD) : Kinder d d := ⟨rfl, rfl, rfl, fun _ _ => ⟨Int.le_refl _, Int.le_refl _⟩, Int.le_refl _, fun _ _ => Int.le_refl _, fun _ _ _ _ => .inl rfl⟩
/-- The round that RoundKinder plays: one change. -/
def kindLot (p : Int × Int) (n : Int) : Int × Int := (max 0 (p.1 - n), min 1000 (p.2 + n.tmod 7))
def kindSp (d : RD) (n : Int) : RD := { d with spread := min 100 (d.spread + n) }
def kindLots (d : RD) (i : Nat) (n : Int) : RD := { d with lots := d.lots.set i (kindLot (d.lots.getD i (0, 0)) n) }
def kindTol (d : RD) (i : Nat) (n : Int) : RD := { d with tols := d.tols.set i (min 100 (d.tols.getD i 0 + n)) }
def kindRd (d : RD) (i j : Nat) : RD := { d with rds := d.rds.set i ((d.rds.getD i []).set j (-1)) }
theorem getD_setI (l : List Int) (i j : Nat) (p : Int) : (l.set i p).getD j 0 = if i = j ∧ j < l.length then p else l.getD j 0 := by
  simp only [List.getD, List.getElem?_set]
  by_cases e : i = j
  · subst e
    by_cases h : i < l.length
    · simp [h]
    · simp [h]
  · simp [e]
theorem getD_setL (l : List (List Int)) (i j : Nat) (p : List Int) : (l.set i p).getD j [] = if i = j ∧ j < l.length then p else l.getD j [] := by
  simp only [List.getD, List.getElem?_set]
  by_cases e : i = j
  · subst e
    by_cases h : i < l.length
    · simp [h]
    · simp [h]
  · simp [e]
section
variable {d : RD} {n : Int}
theorem kindSp_valid (hV : Valid d) (hn : 0 ≤ n) : Valid (kindSp d n) ∧ Kinder d (kindSp d n) := by
  have hs := hV.spread
  have e : (kindSp d n).spread = min 100 (d.spread + n) := rfl
  exact ⟨⟨hV.nl, hV.ns, hV.nb, hV.lots, hV.samples, by rw [e]; omega, hV.tols, hV.rdl, hV.rds⟩, ⟨rfl, rfl, rfl, fun _ _ => ⟨Int.le_refl _, Int.le_refl _⟩, by rw [e]; omega, fun _ _ => Int.le_refl _, fun _ _ _ _ => .inl rfl⟩⟩
theorem kindLots_valid (hV : Valid d) (hn : 0 ≤ n) (i : Nat) : Valid (kindLots d i n) ∧ Kinder d (kindLots d i n) := by
  have hl : (kindLots d i n).lots.length = d.lots.length := by simp [kindLots]
  have hg : ∀ j, (kindLots d i n).lots.getD j (0, 0) = if i = j ∧ j < d.lots.length then kindLot (d.lots.getD i (0, 0)) n else d.lots.getD j (0, 0) := fun j => by
    show (d.lots.set i _).getD j (0, 0) = _
    rw [getD_setP]
  have h7 := Int.tmod_nonneg 7 hn
  refine ⟨⟨by rw [hl]; exact hV.nl, hV.ns, hV.nb, fun j hj => ?_, by rw [hl]; exact hV.samples, hV.spread, hV.tols, hV.rdl, hV.rds⟩, ⟨hl, rfl, rfl, fun j hj => ?_, Int.le_refl _, fun _ _ => Int.le_refl _, fun _ _ _ _ => .inl rfl⟩⟩
  · rw [hl] at hj
    have := hV.lots j hj
    rw [hg]; split
    · rename_i e; rw [e.1]; unfold kindLot; dsimp only; omega
    · exact this
  · have := hV.lots j hj
    rw [hg]; split
    · rename_i e; rw [e.1]; unfold kindLot; dsimp only; omega
    · exact ⟨Int.le_refl _, Int.le_refl _⟩
theorem kindTol_valid (hV : Valid d) (hn : 0 ≤ n) (i : Nat) : Valid (kindTol d i n) ∧ Kinder d (kindTol d i n) := by
  have hl : (kindTol d i n).tols.length = d.tols.length := by simp [kindTol]
  have hg : ∀ j, (kindTol d i n).tols.getD j 0 = if i = j ∧ j < d.tols.length then min 100 (d.tols.getD i 0 + n) else d.tols.getD j 0 := fun j => by
    show (d.tols.set i _).getD j 0 = _
    rw [getD_setI]
  refine ⟨⟨hV.nl, hV.ns, by rw [hl]; exact hV.nb, hV.lots, hV.samples, hV.spread, fun j hj => ?_, fun j hj => hV.rdl j (by rw [hl] at hj; exact hj), fun j hj => hV.rds j (by rw [hl] at hj; exact hj)⟩, ⟨rfl, rfl, hl, fun _ _ => ⟨Int.le_refl _, Int.le_refl _⟩, Int.le_refl _, fun j hj => ?_, fun _ _ _ _ => .inl rfl⟩⟩
  · rw [hl] at hj
    have := hV.tols j hj
    rw [hg]; split
    · rename_i e; rw [e.1]; omega
    · exact this
  · have := hV.tols j hj
    rw [hg]; split
    · rename_i e; rw [e.1]; omega
    · exact Int.le_refl _
theorem kindRd_valid (hV : Valid d) (i j : Nat) : Valid (kindRd d i j) ∧ Kinder d (kindRd d i j) := by
  have hg : ∀ q, (kindRd d i j).rds.getD q [] = if i = q ∧ q < d.rds.length then (d.rds.getD i []).set j (-1) else d.rds.getD q [] := fun q => by
    show (d.rds.set i _).getD q [] = _
    rw [getD_setL]
  have hrd : ∀ q t, rdv (kindRd d i j) q t = rdv d q t ∨ rdv (kindRd d i j) q t = -1 := fun q t => by
    unfold rdv; rw [hg]; split
    · rename_i e; rw [e.1, getD_setI]; split
      · exact .inr rfl
      · exact .inl rfl
    · exact .inl rfl
  refine ⟨⟨hV.nl, hV.ns, hV.nb, hV.lots, hV.samples, hV.spread, hV.tols, fun q hq => ?_, fun q hq t ht => ?_⟩, ⟨rfl, rfl, rfl, fun _ _ => ⟨Int.le_refl _, Int.le_refl _⟩, Int.le_refl _, fun _ _ => Int.le_refl _, fun q _ t _ => hrd q t⟩⟩
  · rw [hg]; split
    · rename_i e; rw [List.length_set, e.1]; exact hV.rdl q hq
    · exact hV.rdl q hq
  · have := hV.rds q hq t ht
    show -1 ≤ rdv (kindRd d i j) q t ∧ rdv (kindRd d i j) q t ≤ 1000
    rcases hrd q t with e | e
    · rw [e]; exact this
    · rw [e]; omega
end
theorem valid_thin {d : RD} (h : Valid d) : d.lots.length ≤ 6 ∧ d.samples.length ≤ 10 ∧ d.tols.length ≤ 8 ∧ ∀ k, k < d.tols.length → (d.rds.getD k []).length ≤ 10 := by
  have h1 := h.nl; have h2 := h.ns; have h3 := h.nb
  exact ⟨by omega, by omega, by omega, fun k hk => by have := h.rdl k hk; omega⟩
/-! ### Rounds in memory -/
theorem labs_one {w : World} {vl vs vb : Value} {lv : List Value} {d : RD} (h : RoundAt w vl vs vb lv d) : (vpairs (d.tols.zip lv)).all (·.oneCell') = true := by
  have h1 : ∀ v ∈ lv, v.oneCell' = true := fun v hv => by
    obtain ⟨i, hi, rfl⟩ := List.getElem_of_mem hv
    have := (h.rds i (by rw [h.rdl, ← h.lvl]; exact hi)).one
    simpa [List.getD, hi] using this
  rw [List.all_eq_true]
  intro u hu
  unfold vpairs at hu
  rw [List.mem_flatMap] at hu
  obtain ⟨p, hp, hu⟩ := hu
  have h2 := (List.of_mem_zip (a := p.1) (b := p.2) hp).2
  simp only [List.mem_cons, List.not_mem_nil, or_false] at hu
  rcases hu with rfl | rfl
  · rfl
  · exact h1 _ h2
theorem rdsAt_snoc {w : World} {lv : List Value} {rds : List (List Int)} {v : Value} {l : List Int} (h : RdsAt w lv rds) (hl : lv.length = rds.length) (hv : SlAt w v 1 l.length (ints l)) : RdsAt w (lv ++ [v]) (rds ++ [l]) := by
  intro i hi
  rw [List.length_append, List.length_singleton] at hi
  by_cases e : i < rds.length
  · have h1 : (rds ++ [l]).getD i [] = rds.getD i [] := by simp [List.getD, List.getElem?_append_left e]
    have h2 : (lv ++ [v]).getD i nilS = lv.getD i nilS := by simp [List.getD, List.getElem?_append_left (show i < lv.length by omega)]
    rw [h1, h2]; exact h i e
  · have ei : i = rds.length := by omega
    have h1 : (rds ++ [l]).getD i [] = l := by subst ei; simp [List.getD]
    have h2 : (lv ++ [v]).getD i nilS = v := by rw [ei, ← hl]; simp [List.getD]
    rw [h1, h2]; exact hv
theorem ends_zip {d : RD} {k : Nat} {n : Int} {lv : List Value} {v : Value} (hl : lv.length = d.tols.length) : (endsD d k n).tols.zip (lv ++ [v]) = d.tols.zip lv ++ [(0, v)] := zip_snoc hl.symm 0 v
theorem ends_zip0 {d : RD} {k : Nat} {n : Int} {lv : List Value} {v : Value} (hl : lv.length = d.tols.length) (h0 : ¬ 0 < d.tols.length) : (endsD d k n).tols.zip (lv ++ [v]) = [(0, v)] := by
  rw [ends_zip hl, List.eq_nil_of_length_eq_zero (show d.tols.length = 0 by omega)]; rfl
theorem kind_two {l : List (Int × Int)} {i : Nat} {a b c : Int} (h : i < l.length) : (l.set i (a, b)).set i (((l.set i (a, b)).getD i (0, 0)).1, c) = l.set i (a, c) := by
  have : (l.set i (a, b)).getD i (0, 0) = (a, b) := by rw [getD_setP, if_pos ⟨rfl, h⟩]
  rw [this, List.set_set]
theorem rdsAt_set {w : World} {lv : List Value} {rds : List (List Int)} {v : Value} {l : List Int} {i : Nat} (h : RdsAt w lv rds) (hv : SlAt w v 1 l.length (ints l)) (hl : lv.length = rds.length := by first | assumption | omega) : RdsAt w (lv.set i v) (rds.set i l) := by
  intro j hj
  rw [List.length_set] at hj
  rw [getD_setL]
  by_cases e : i = j
  · subst e
    rw [if_pos ⟨rfl, hj⟩]
    have h2 : (lv.set i v).getD i nilS = v := by simp [List.getD, show i < lv.length by omega]
    rw [h2]; exact hv
  · rw [if_neg (fun h => e h.1)]
    have h2 : (lv.set i v).getD j nilS = lv.getD j nilS := by simp only [List.getD]; rw [List.getElem?_set_ne e]
    rw [h2]; exact h j hj
theorem kind_all {d M : RD} (hc : checkR d = 0) (hVM : Valid M) (hK : Kinder d M) (x : Nat) :
    ∃ ba bb La Lb, explainsF d (chosenF d.tols.length x) = (ba, 0) ∧ explainsF M (chosenF d.tols.length x) = (bb, 0) ∧ (ba = true → bb = true) ∧ leastR d = (La, 0) ∧ leastR M = (Lb, 0) ∧ Lb.length ≤ La.length := by
  have hV := valid_of hc
  have h := chosen_explains (check_of hVM) x
  rw [hK.nb] at h
  exact ⟨_, _, _, _, chosen_explains hc x, h, fun e => hK.expl hV hVM e, leastR_yes hc, leastR_yes (check_of hVM), hK.least hV hVM⟩
end Go.Proofs.Ytfhmigoddaaljaa

namespace Go.Proofs.Ytfhmigoddaaljaa
open Go.RowKit Go.Eng

/-- The laboratories of x are those of d: that of number q has there the number f q. -/
structure Turn (d x : RD) (f g : Nat → Nat) : Prop where
  nl : x.lots = d.lots
  sm : x.samples = d.samples
  sp : x.spread = d.spread
  nb : x.tols.length = d.tols.length
  fl : ∀ q, q < d.tols.length → f q < d.tols.length
  gl : ∀ q, q < d.tols.length → g q < d.tols.length
  fg : ∀ q, q < d.tols.length → f (g q) = q
  gf : ∀ q, q < d.tols.length → g (f q) = q
  tols : ∀ q, q < d.tols.length → x.tols.getD q 0 = d.tols.getD (f q) 0
  rds : ∀ q, q < d.tols.length → x.rds.getD q [] = d.rds.getD (f q) []
section
variable {d x : RD} {f g : Nat → Nat}
theorem Turn.symm (h : Turn d x f g) : Turn x d g f :=
  ⟨h.nl.symm, h.sm.symm, h.sp.symm, h.nb.symm, by rw [h.nb]; exact h.gl, by rw [h.nb]; exact h.fl, by rw [h.nb]; exact h.gf, by rw [h.nb]; exact h.fg,
    by rw [h.nb]; exact fun q hq => by rw [h.tols _ (h.gl q hq), h.fg q hq],
    by rw [h.nb]; exact fun q hq => by rw [h.rds _ (h.gl q hq), h.fg q hq]⟩
theorem Turn.valid (h : Turn d x f g) (hV : Valid d) : Valid x := by
  refine ⟨by rw [h.nl]; exact hV.nl, by rw [h.sm]; exact hV.ns, by rw [h.nb]; exact hV.nb, by rw [h.nl]; exact hV.lots, by rw [h.sm, h.nl]; exact hV.samples, by rw [h.sp]; exact hV.spread, ?_, ?_, ?_⟩
  · rw [h.nb]; exact fun q hq => by rw [h.tols q hq]; exact hV.tols _ (h.fl q hq)
  · rw [h.nb, h.sm]; exact fun q hq => by rw [h.rds q hq]; exact hV.rdl _ (h.fl q hq)
  · rw [h.nb, h.sm]; exact fun q hq => by rw [h.rds q hq]; exact hV.rds _ (h.fl q hq)
theorem Turn.truth (h : Turn d x f g) {off off' : List Bool} {lab lab' sh : Int} (ho : ∀ q, q < d.tols.length → off'.getD q false = off.getD (f q) false) (hl : ∀ q, q < d.tols.length → ((q : Int) = lab' ↔ ((f q : Nat) : Int) = lab)) {L v : Nat → Int} (hT : Truth d off lab sh L v) : Truth x off' lab' sh L v := by
  refine ⟨by rw [h.nl]; exact hT.lots, fun k hk => ?_, fun k hk q hq hof hr => ?_⟩
  · rw [h.sm] at hk
    have := hT.near k hk
    have e : lotOf x k = lotOf d k := by unfold lotOf; rw [h.sm]
    rw [e, h.sp]; exact this
  · rw [h.sm] at hk; rw [h.nb] at hq
    have e : rdv x q k = rdv d (f q) k := by unfold rdv; rw [h.rds q hq]
    rw [e] at hr ⊢
    have := hT.agree k hk (f q) (h.fl q hq) (by rw [← ho q hq]; exact hof) hr
    rw [h.tols q hq]
    simp only [hl q hq]
    exact this
theorem Turn.ok (h : Turn d x f g) (hV : Valid d) {off off' : List Bool} {lab lab' sh : Int} (ho : ∀ q, q < d.tols.length → off'.getD q false = off.getD (f q) false) (hl : ∀ q, q < d.tols.length → ((q : Int) = lab' ↔ ((f q : Nat) : Int) = lab)) : (spansF x off' lab' sh).2 = (spansF d off lab sh).2 := by
  rw [Bool.eq_iff_iff, ok_iff (h.valid hV), ok_iff hV]
  constructor
  · rintro ⟨L, v, hT⟩
    refine ⟨L, v, h.symm.truth (fun q hq => ?_) (fun q hq => ?_) hT⟩
    · rw [h.nb] at hq; rw [ho _ (h.gl q hq), h.fg q hq]
    · rw [h.nb] at hq; rw [hl _ (h.gl q hq), h.fg q hq]
  · rintro ⟨L, v, hT⟩
    exact ⟨L, v, h.truth ho hl hT⟩
theorem Turn.expl (h : Turn d x f g) (hV : Valid d) {off off' : List Bool} (ho : ∀ q, q < d.tols.length → off'.getD q false = off.getD (f q) false) : explB x off' = explB d off :=
  h.ok hV ho (fun q _ => by omega)
/-- A list of laboratories, as they are numbered then. -/
def turnL (n : Nat) (f : Nat → Nat) (ys : List Int) : List Int := ((List.range n).filter fun k => hasB ys ((f k : Nat) : Int)).map fun (k : Nat) => (k : Int)
theorem mem_turnL {n : Nat} {ys : List Int} {z : Int} : z ∈ turnL n f ys ↔ ∃ k : Nat, k < n ∧ ((f k : Nat) : Int) ∈ ys ∧ (k : Int) = z := by
  unfold turnL
  simp only [List.mem_map, List.mem_filter, List.mem_range, hasB_iff, and_assoc]
theorem turnL_lt (n : Nat) (ys : List Int) : (turnL n f ys).Pairwise (· < ·) := by
  unfold turnL
  rw [List.pairwise_map]
  exact (List.Pairwise.sublist List.filter_sublist List.pairwise_lt_range).imp (fun h => by omega)
theorem nodup_of_lt {l : List Int} (h : l.Pairwise (· < ·)) : l.Nodup := h.imp (fun h => by omega)
/-- Two lists without repetitions, of which one is mapped onto the other. -/
theorem map_len {ys zs : List Int} {F : Int → Int} (hy : ys.Nodup) (hz : zs.Nodup) (hF : ∀ a ∈ zs, F a ∈ ys) (hG : ∀ y ∈ ys, ∃ a ∈ zs, F a = y) (hi : ∀ a ∈ zs, ∀ b ∈ zs, F a = F b → a = b) : zs.length = ys.length := by
  have hn : (zs.map F).Nodup := by
    unfold List.Nodup
    rw [List.pairwise_map]
    exact List.Pairwise.imp_of_mem (fun ha hb hne e => hne (hi _ ha _ hb e)) hz
  have hp : (zs.map F).Perm ys := (List.perm_ext_iff_of_nodup hn hy).2 fun y => by
    rw [List.mem_map]
    constructor
    · rintro ⟨a, ha, rfl⟩; exact hF a ha
    · intro h; exact hG y h
  have := hp.length_eq
  rwa [List.length_map] at this
theorem Turn.few (h : Turn d x f g) (hV : Valid d) {ys : List Int} (hf : Few d ys) : Few x (turnL d.tols.length f ys) ∧ (turnL d.tols.length f ys).length = ys.length := by
  have hnb := hV.nb
  have hr : riseB d.tols.length ys = true := rise_of hf.b hf.p
  have hb : ∀ y ∈ turnL d.tols.length f ys, (0 : Int) ≤ y ∧ y ≤ (d.tols.length : Int) - 1 := fun y hy => by
    obtain ⟨k, hk, _, rfl⟩ := mem_turnL.1 hy; omega
  have hr2 : riseB d.tols.length (turnL d.tols.length f ys) = true := rise_of hb (turnL_lt _ _)
  refine ⟨⟨by rw [h.nb]; exact hb, turnL_lt _ _, ?_⟩, ?_⟩
  · rw [h.expl hV (off := offUpto ys ys.length) (fun q hq => ?_)]
    · exact hf.x
    · have := h.fl q hq
      rw [off_has hr2 (by omega), off_has hr (by omega), Bool.eq_iff_iff, hasB_iff, hasB_iff, mem_turnL]
      constructor
      · rintro ⟨k, _, h2, e⟩; rw [show q = k by omega]; exact h2
      · intro h2; exact ⟨q, hq, h2, rfl⟩
  · refine map_len (F := fun z => ((f z.toNat : Nat) : Int)) hf.nodup (nodup_of_lt (turnL_lt _ _)) (fun a ha => ?_) (fun y hy => ?_) (fun a ha b hb' e => ?_)
    · obtain ⟨k, _, h2, rfl⟩ := mem_turnL.1 ha; exact h2
    · have := hf.b y hy
      have hg := h.gl y.toNat (by omega)
      have e : ((f (g y.toNat) : Nat) : Int) = y := by rw [h.fg _ (by omega)]; omega
      exact ⟨(g y.toNat : Nat), mem_turnL.2 ⟨g y.toNat, hg, by rw [e]; exact hy, rfl⟩, e⟩
    · obtain ⟨k, hk, _, rfl⟩ := mem_turnL.1 ha
      obtain ⟨k2, hk2, _, rfl⟩ := mem_turnL.1 hb'
      have e2 : ((f ((k : Int)).toNat : Nat) : Int) = ((f ((k2 : Int)).toNat : Nat) : Int) := e
      rw [Int.toNat_natCast, Int.toNat_natCast] at e2
      have e' : f k = f k2 := by omega
      have := congrArg g e'
      rw [h.gf _ hk, h.gf _ hk2] at this
      rw [this]
theorem Turn.least (h : Turn d x f g) (hV : Valid d) : ((fewestF x).getD 0 []).length ≤ ((fewestF d).getD 0 []).length := by
  have hf := h.few hV (fewest_few hV (fewest_first hV))
  have := (fewest_le hf.1.len hf.1.mem).1
  rw [hf.2] at this; exact this
theorem Turn.least_eq (h : Turn d x f g) (hV : Valid d) : ((fewestF x).getD 0 []).length = ((fewestF d).getD 0 []).length :=
  Nat.le_antisymm (h.least hV) (h.symm.least (h.valid hV))
theorem Turn.fewest (h : Turn d x f g) (hV : Valid d) {ys : List Int} (hy : ys ∈ fewestF d) : turnL d.tols.length f ys ∈ fewestF x := by
  have hf := h.few hV (fewest_few hV hy)
  refine (fewest_le hf.1.len hf.1.mem).2 ?_
  rw [h.least_eq hV, hf.2, fewest_len hV hy]
theorem conv_iff {d : RD} (hV : Valid d) {k : Int} : k ∈ convF d ↔ ∀ ys ∈ fewestF d, k ∈ ys := by
  constructor
  · intro h ys hy
    exact hasB_iff.1 (conv_in hy h)
  · intro h
    unfold convF
    refine List.mem_filter.2 ⟨h _ (fewest_first hV), ?_⟩
    unfold inAll
    rw [List.all_eq_true]
    intro i hi
    rw [List.mem_range] at hi
    refine hasB_iff.2 (h _ ?_)
    simp only [List.getD, List.getElem?_eq_getElem hi, Option.getD_some]
    exact List.getElem_mem hi
theorem convF_nodup {d : RD} (hV : Valid d) : (convF d).Nodup := List.Pairwise.sublist List.filter_sublist (fewest_few hV (fewest_first hV)).nodup
theorem convF_bd {d : RD} (hV : Valid d) {k : Int} (h : k ∈ convF d) : 0 ≤ k ∧ k ≤ (d.tols.length : Int) - 1 :=
  (fewest_few hV (fewest_first hV)).b k (List.mem_filter.1 h).1
theorem Turn.conv (h : Turn d x f g) (hV : Valid d) {k : Nat} (hk : k < d.tols.length) (hc : ((f k : Nat) : Int) ∈ convF d) : ((k : Nat) : Int) ∈ convF x := by
  refine (conv_iff (h.valid hV)).2 fun zs hz => ?_
  have h1 := h.symm.fewest (h.valid hV) hz
  have h2 := (conv_iff hV).1 hc _ h1
  rw [h.nb] at h2
  obtain ⟨q, hq, h3, e⟩ := mem_turnL.1 h2
  have eq : q = f k := by omega
  rw [eq, h.gf k hk] at h3
  exact h3
theorem Turn.conv_len (h : Turn d x f g) (hV : Valid d) : (convF x).length = (convF d).length := by
  have hX := h.valid hV
  refine map_len (F := fun z => ((f z.toNat : Nat) : Int)) (convF_nodup hV) (convF_nodup hX) (fun a ha => ?_) (fun y hy => ?_) (fun a ha b hb e => ?_)
  · have hb := convF_bd hX ha
    rw [h.nb] at hb
    have hk : a.toNat < d.tols.length := by omega
    refine h.symm.conv hX (k := f a.toNat) (by rw [h.nb]; exact h.fl _ hk) ?_
    rw [h.gf _ hk, show ((a.toNat : Nat) : Int) = a by omega]; exact ha
  · have hb := convF_bd hV hy
    have hk : y.toNat < d.tols.length := by omega
    have e : ((f (g y.toNat) : Nat) : Int) = y := by rw [h.fg _ hk]; omega
    exact ⟨(g y.toNat : Nat), h.conv hV (h.gl _ hk) (by rw [e]; exact hy), e⟩
  · have h1 := convF_bd hX ha
    have h2 := convF_bd hX hb
    rw [h.nb] at h1 h2
    have e2 : ((f a.toNat : Nat) : Int) = ((f b.toNat : Nat) : Int) := e
    have e' : f a.toNat = f b.toNat := by omega
    have := congrArg g e'
    rw [h.gf _ (by omega), h.gf _ (by omega)] at this
    omega
theorem Turn.shUpto (h : Turn d x f g) (hV : Valid d) {lab lab' : Int} (hl : ∀ q, q < d.tols.length → ((q : Int) = lab' ↔ ((f q : Nat) : Int) = lab)) : ∀ k, shUpto x lab' k = shUpto d lab k
  | 0 => rfl
  | k + 1 => by
    have e : shOk x lab' ((k : Int) - 2000) = shOk d lab ((k : Int) - 2000) := h.ok hV (fun q _ => by rw [off0_get, off0_get]) hl
    simp only [Go.Proofs.Ytfhmigoddaaljaa.shUpto, Turn.shUpto h hV hl k, e]
theorem Turn.shifts (h : Turn d x f g) (hc : checkR d = 0) {k : Nat} (hk : k < d.tols.length) : shiftsR x (k : Int) = shiftsR d ((f k : Nat) : Int) := by
  have hV := valid_of hc
  have hnb := hV.nb
  have hfk := h.fl k hk
  have i1 : (decide (0 ≤ (k : Int)) && decide ((k : Int) ≤ (x.tols.length : Int) - 1)) = true := by rw [h.nb]; simp only [Bool.and_eq_true, decide_eq_true_eq]; omega
  have i2 : (decide (0 ≤ ((f k : Nat) : Int)) && decide (((f k : Nat) : Int) ≤ (d.tols.length : Int) - 1)) = true := by simp only [Bool.and_eq_true, decide_eq_true_eq]; omega
  have e1 : explB x (off0.set ((k : Int)).toNat true) = explB d (off0.set (((f k : Nat) : Int)).toNat true) := h.expl hV (fun q hq => by
    have := h.fl q hq
    rw [getD_setB, getD_setB]
    have l6 : off0.length = 6 := by simp [off0]
    rw [l6, Int.toNat_natCast, Int.toNat_natCast, off0_get, off0_get]
    by_cases e : k = q
    · subst e; rw [if_pos ⟨rfl, by omega⟩, if_pos ⟨rfl, by omega⟩]
    · rw [if_neg (fun h => e h.1), if_neg (fun h2 => e ?_)]
      have := congrArg g h2.1
      rwa [h.gf k hk, h.gf q hq] at this)
  have e2 := h.shUpto hV (lab := ((f k : Nat) : Int)) (lab' := (k : Int)) (fun q hq => by
    constructor
    · intro e; rw [show q = k by omega]
    · intro e
      have := congrArg g (show f q = f k by omega)
      rw [h.gf q hq, h.gf k hk] at this
      omega) 4001
  unfold shiftsR
  rw [if_pos (check_of (h.valid hV)), if_pos hc, if_pos i1, if_pos i2, e1, e2]
end
/-! ### Turned by t -/
def rotD (d : RD) (t : Nat) : RD := { d with tols := d.tols.drop t ++ d.tols.take t, rds := d.rds.drop t ++ d.rds.take t }
theorem rot_getD {α : Type} (l : List α) (z : α) {t q : Nat} (ht : t < l.length) (hq : q < l.length) : (l.drop t ++ l.take t).getD q z = l.getD ((q + t) % l.length) z := by
  simp only [List.getD]
  congr 1
  by_cases e : q + t < l.length
  · rw [List.getElem?_append_left (by rw [List.length_drop]; omega), List.getElem?_drop, Nat.mod_eq_of_lt e, Nat.add_comm]
  · rw [List.getElem?_append_right (by rw [List.length_drop]; omega), List.length_drop, List.getElem?_take, if_pos (by omega), Nat.mod_eq_sub_mod (by omega), Nat.mod_eq_of_lt (by omega)]
    congr 1; omega
def rotF (n t q : Nat) : Nat := (q + t) % n
def rotG (n t k : Nat) : Nat := (k + n - t) % n
theorem rot_fg {n t q : Nat} (ht : t < n) (hq : q < n) : rotF n t (rotG n t q) = q := by
  unfold rotF rotG
  by_cases e : q < t
  · rw [Nat.mod_eq_of_lt (show q + n - t < n by omega), Nat.mod_eq_sub_mod (by omega), Nat.mod_eq_of_lt (by omega)]; omega
  · rw [Nat.mod_eq_sub_mod (show n ≤ q + n - t by omega), Nat.mod_eq_of_lt (show q + n - t - n < n by omega), Nat.mod_eq_of_lt (by omega)]; omega
theorem rot_gf {n t q : Nat} (ht : t < n) (hq : q < n) : rotG n t (rotF n t q) = q := by
  unfold rotF rotG
  by_cases e : q + t < n
  · rw [Nat.mod_eq_of_lt e, Nat.mod_eq_sub_mod (by omega), Nat.mod_eq_of_lt (by omega)]; omega
  · rw [Nat.mod_eq_sub_mod (show n ≤ q + t by omega), Nat.mod_eq_of_lt (show q + t - n < n by omega), Nat.mod_eq_of_lt (by omega)]; omega
theorem rot_turn {d : RD} {t : Nat} (ht : t < d.tols.length) (hr : d.rds.length = d.tols.length) : Turn d (rotD d t) (rotF d.tols.length t) (rotG d.tols.length t) := by
  have hn : 0 < d.tols.length := by omega
  refine ⟨rfl, rfl, rfl, by simp only [rotD, List.length_append, List.length_drop, List.length_take]; omega, fun q _ => Nat.mod_lt _ hn, fun q _ => Nat.mod_lt _ hn, fun q hq => rot_fg ht hq, fun q hq => rot_gf ht hq, fun q hq => rot_getD _ _ ht hq, fun q hq => ?_⟩
  have := rot_getD d.rds [] (t := t) (q := q) (by omega) (by omega)
  rw [hr] at this; exact this
/-- The bits of the laboratories, as they are numbered then. -/
def otherF (n : Nat) (T : Int) (x : Nat) : Nat → Nat
  | 0 => 0
  | k + 1 => if bitB x k = true then otherF n T x k ||| 1 * 2 ^ ((((k : Int) + (n : Int)) - T).tmod (n : Int)).toNat else otherF n T x k
theorem other_yes {n : Nat} {T : Int} {x k : Nat} (h : ((x >>> k : Nat) : Int).tmod 2 = 1) : otherF n T x (k + 1) = otherF n T x k ||| 1 * 2 ^ ((((k : Int) + (n : Int)) - T).tmod (n : Int)).toNat := by
  rw [otherF, if_pos (show bitB x k = true from decide_eq_true h)]
theorem other_no {n : Nat} {T : Int} {x k : Nat} (h : ¬ ((x >>> k : Nat) : Int).tmod 2 = 1) : otherF n T x (k + 1) = otherF n T x k := by
  rw [otherF, if_neg (by rw [show bitB x k = false from decide_eq_false h]; simp)]
theorem rotG_int {n t k : Nat} (ht : t < n) : ((((k : Int) + (n : Int)) - (t : Int)).tmod (n : Int)).toNat = rotG n t k := by
  unfold rotG
  have e : ((k : Int) + (n : Int)) - (t : Int) = ((k + n - t : Nat) : Int) := by omega
  rw [e, ← Int.ofNat_tmod, Int.toNat_natCast]
theorem rotG_int2 {n t : Nat} {k : Int} (ht : t < n) (hk : 0 ≤ k) : ((k + (n : Int)) - (t : Int)).tmod (n : Int) = ((rotG n t k.toNat : Nat) : Int) := by
  unfold rotG
  have e : (k + (n : Int)) - (t : Int) = ((k.toNat + n - t : Nat) : Int) := by omega
  rw [e, ← Int.ofNat_tmod]
theorem other_lt {n : Nat} (hn : n ≤ 6) (h0 : 0 < n) {t x : Nat} (ht : t < n) : ∀ k, otherF n (t : Int) x k < 2 ^ 6
  | 0 => by simp [otherF]
  | k + 1 => by
    have ih := other_lt hn h0 (x := x) ht k
    unfold otherF; split
    · refine Nat.or_lt_two_pow ih ?_
      rw [rotG_int ht, Nat.one_mul]
      exact Nat.pow_lt_pow_right (by decide) (by have : rotG n t k < n := Nat.mod_lt _ h0; omega)
    · exact ih
theorem other_bit {n : Nat} {t x : Nat} (ht : t < n) {q : Nat} (hq : q < n) : ∀ k, k ≤ n → (otherF n (t : Int) x k).testBit q = (decide (rotF n t q < k) && bitB x (rotF n t q))
  | 0, _ => by simp [otherF]
  | k + 1, hk => by
    have ih := other_bit ht hq (x := x) k (by omega)
    have hg : rotG n t k = q ↔ k = rotF n t q := by
      constructor
      · rintro rfl; rw [rot_fg ht (by omega)]
      · rintro rfl; rw [rot_gf ht hq]
    unfold otherF; split
    · rename_i hb
      rw [Nat.testBit_or, ih, rotG_int ht, Nat.one_mul, Nat.testBit_two_pow]
      by_cases e : k = rotF n t q
      · rw [decide_eq_true (hg.2 e), ← e, hb]; simp
      · rw [decide_eq_false (fun h => e (hg.1 h)), Bool.or_false]
        congr 1
        rw [decide_eq_decide]; omega
    · rename_i hb
      rw [ih]
      by_cases e : k = rotF n t q
      · rw [← e, show bitB x k = false by simpa using hb]; simp
      · congr 1
        rw [decide_eq_decide]; omega
/-- All that RoundOrder asks. -/
theorem order_all {d : RD} (hc : checkR d = 0) (hr : d.rds.length = d.tols.length) {t : Nat} (ht : t < d.tols.length) (x : Nat) :
    ∃ ba C CM cc a b c2, explainsF d (chosenF d.tols.length x) = (ba, 0) ∧ explainsF (rotD d t) (chosenF d.tols.length (otherF d.tols.length (t : Int) x d.tols.length)) = (ba, 0) ∧
      convR d = (C, cc) ∧ convR (rotD d t) = (CM, cc) ∧ C.length = CM.length ∧ C.length ≤ 6 ∧ (∀ i, i < C.length → 0 ≤ C.getD i 0 ∧ C.getD i 0 ≤ (d.tols.length : Int) - 1) ∧ (∀ i, i < C.length → hasB CM (((C.getD i 0 + (d.tols.length : Int)) - (t : Int)).tmod (d.tols.length : Int)) = true) ∧
      shiftsR d (t : Int) = ((a, b), c2) ∧ shiftsR (rotD d t) 0 = ((a, b), c2) ∧ Valid (rotD d t) := by
  have hV := valid_of hc
  have hnb := hV.nb
  have hT := rot_turn ht hr
  have hX := hT.valid hV
  have hcX := check_of hX
  have h1 := chosen_explains hcX (otherF d.tols.length (t : Int) x d.tols.length)
  rw [hT.nb] at h1
  have h2 : explB (rotD d t) (offB d.tols.length (otherF d.tols.length (t : Int) x d.tols.length)) = explB d (offB d.tols.length x) := hT.expl hV (fun q hq => by
    rw [offB_get hnb hq, offB_get hnb (hT.fl q hq), bitB_eq, other_bit ht hq _ (Nat.le_refl _), decide_eq_true (hT.fl q hq), Bool.true_and])
  have hlen := hT.conv_len hV
  have h6 : (convF d).length ≤ 6 := Nat.le_trans (convF_len d) (fewest_each hV 0)
  have hsh : shiftsR (rotD d t) 0 = shiftsR d (t : Int) := by
    have := hT.shifts hc (k := 0) (by omega)
    rw [show rotF d.tols.length t 0 = t by unfold rotF; rw [Nat.zero_add, Nat.mod_eq_of_lt ht]] at this
    exact this
  obtain ⟨⟨⟨a, b⟩, c2⟩, e2⟩ : ∃ r, shiftsR d (t : Int) = r := ⟨_, rfl⟩
  by_cases h0 : (convF d).length = 0
  · refine ⟨_, [], [], 7, a, b, c2, chosen_explains hc x, by rw [h1, h2], by unfold convR; rw [if_pos hc, if_pos h0], by unfold convR; rw [if_pos hcX, if_pos (by rw [hlen]; exact h0)], rfl, by simp, fun i hi => absurd hi (Nat.not_lt_zero _), fun i hi => absurd hi (Nat.not_lt_zero _), e2, hsh.trans e2, hX⟩
  · refine ⟨_, convF d, convF (rotD d t), 0, a, b, c2, chosen_explains hc x, by rw [h1, h2], by unfold convR; rw [if_pos hc, if_neg h0], by unfold convR; rw [if_pos hcX, if_neg (by rw [hlen]; exact h0)], hlen.symm, h6, fun i hi => ?_, fun i hi => ?_, e2, hsh.trans e2, hX⟩
    · have hm : (convF d).getD i 0 ∈ convF d := by
        simp only [List.getD, List.getElem?_eq_getElem hi, Option.getD_some]; exact List.getElem_mem hi
      exact convF_bd hV hm
    · have hm : (convF d).getD i 0 ∈ convF d := by
        simp only [List.getD, List.getElem?_eq_getElem hi, Option.getD_some]; exact List.getElem_mem hi
      have hb := convF_bd hV hm
      rw [rotG_int2 ht hb.1, hasB_iff]
      have hk : ((convF d).getD i 0).toNat < d.tols.length := by omega
      refine hT.conv hV (hT.gl _ hk) ?_
      rw [hT.fg _ hk, show ((((convF d).getD i 0).toNat : Nat) : Int) = (convF d).getD i 0 by omega]
      exact hm
theorem other_lt2 {n : Nat} {T : Int} {x : Nat} (hn : n ≤ 6) (h0 : 0 ≤ T) (h1 : T < (n : Int)) (k : Nat) : otherF n T x k < 64 := by
  have e : T = ((T.toNat : Nat) : Int) := by omega
  rw [e]; exact other_lt hn (by omega) (by omega) k
theorem rdsAt_rot {w : World} {lv : List Value} {rds : List (List Int)} {t : Nat} (h : RdsAt w lv rds) (hl : lv.length = rds.length) : RdsAt w (lv.drop t ++ lv.take t) (rds.drop t ++ rds.take t) := by
  rcases Nat.lt_or_ge t rds.length with ht | ht
  · intro i hi
    have hi' : i < rds.length := by
      rw [List.length_append, List.length_drop, List.length_take] at hi; omega
    rw [rot_getD _ _ ht hi', rot_getD _ _ (by omega) (by omega), hl]
    exact h _ (Nat.mod_lt _ (by omega))
  · rw [List.drop_of_length_le ht, List.take_of_length_le ht, List.drop_of_length_le (by omega), List.take_of_length_le (by omega)]
    exact h
end Go.Proofs.Ytfhmigoddaaljaa

namespace Go.Proofs.Ytfhmigoddaaljaa
open Go.RowKit Go.Shelf Go.Eng
set_option maxHeartbeats 4000000 in
theorem RoundOrder_a (rl rs rb : Value) (rlv : List Value) (d : RD) (w : World) (hR : RoundAt w rl rs rb rlv d) (x : Nat) (hxb : x < 256) (y : Nat) (hyb : y < 256) (hf : readyB d = false) :
  Calls Try.prog 16 #[(Value.agg #[rl, rs, (Value.int .i64 d.spread), rb]), (Value.int .u8 (x : Int)), (Value.int .u8 (y : Int))] w (Ret fun v w' => v = .bool true ∧ Ext NoB w w') := by
 refine calls_enter Try.func16 rfl fun a0 hA0 => ?_
 replace hA0 : Fr 173 [] [(0, (Value.agg #[rl, rs, (Value.int .i64 d.spread), rb])), (1, (Value.int .u8 (x : Int))), (2, (Value.int .u8 (y : Int)))] a0 := hA0
 have hS0 : Sep NoB w w [(rndR false rl rs rb rlv d)] := sep_ro ⟨rfl, hR, trivial⟩
 refine c_seq ?_
 refine c_region ?_
 refine stw hA0 (op_box hS0 rfl (hA0.ev rfl) (cs := [rl, rs, (Value.int .i64 d.spread), rb]) rfl) rfl rfl (by decide) ?_
 rintro a1 _ w3 ⟨b4, rfl, hS5⟩ hA2; clear hA0 hS0 a0
 refine st hA2 (op_assign rfl (evc _ _)) rfl rfl (by decide) fun a6 hA7 => ?_; clear hA2 a1
 refine wl_nil ?_
 refine then_n ?_
 refine c_seq ?_
 refine c_seq ?_
 refine c_region ?_
 refine st hA7 (op_loadA rfl ty_26 (hA7.ev rfl) (hS5.bk 0 rfl) (l := [rl, rs, (Value.int .i64 d.spread), rb]) rfl rfl) rfl rfl (by decide) fun a8 hA9 => ?_; clear hA7 a6
 refine stw hA9 (op_call rfl en_35 (ev1 (hA9.ev rfl)) (ready_ok rl rs rb rlv d _ (rnd_at (hS5.ok 1 _ rfl)))) rfl rfl (by decide) ?_
 rintro a10 _ w12 ⟨rfl, hE13⟩ hA11; have hS14 := hS5.step hE13; clear hE13 hA9 hS5 a8
 rw [hf] at hA11
 refine st hA11 (op_not rfl (hA11.ev rfl)) rfl rfl (by decide) fun a15 hA16 => ?_; clear hA11 a10
 refine st hA16 (op_move rfl (hA16.ev rfl)) rfl rfl (by decide) fun a17 hA18 => ?_; clear hA16 a15
 refine skp hA18 rfl rfl rfl rfl rfl (by decide) fun a19 hA20 => ?_; clear hA18 a17
 refine skp hA20 rfl rfl rfl rfl rfl (by decide) fun a21 hA22 => ?_; clear hA20 a19
 refine skp hA22 rfl rfl rfl rfl rfl (by decide) fun a23 hA24 => ?_; clear hA22 a21
 refine skp hA24 rfl rfl rfl rfl rfl (by decide) fun a25 hA26 => ?_; clear hA24 a23
 refine st hA26 (op_pick_t rfl (hA26.ev rfl) (evc _ _)) rfl rfl (by decide) fun a27 hA28 => ?_; clear hA26 a25
 refine wl_nil ?_
 refine then_n ?_
 refine c_true hA28 rfl ?_
 refine c_seq ?_
 have hA29 := hA28.as [] rfl; clear hA28
 refine c_region ?_
 refine stw hA29 (op_call rfl en_18 ev0 (wakes_ok _)) rfl rfl (by decide) ?_
 rintro a30 _ w32 ⟨rfl, hE33⟩ hA31; have hS34 := hS14.step hE33; clear hE33 hA29 hS14 a27
 refine st hA31 (op_assign rfl (hA31.ev rfl)) rfl rfl (by decide) fun a35 hA36 => ?_; clear hA31 a30
 refine wl_nil ?_
 refine then_n ?_
 refine c_ret ?_
 refine then_ret ?_
 refine fin_run hA36 (.inl rfl) (run_results1 hA36 rfl (.tmp rfl)) ?_
 exact ⟨rfl, hS34.ext⟩

set_option maxHeartbeats 4000000 in
theorem RoundOrder_b (rl rs rb : Value) (rlv : List Value) (d : RD) (w : World) (hR : RoundAt w rl rs rb rlv d) (x : Nat) (hxb : x < 256) (y : Nat) (hyb : y < 256) (hf : readyB d = true) (hn0 : d.tols.length = 0) :
  Calls Try.prog 16 #[(Value.agg #[rl, rs, (Value.int .i64 d.spread), rb]), (Value.int .u8 (x : Int)), (Value.int .u8 (y : Int))] w (Ret fun v w' => v = .bool true ∧ Ext NoB w w') := by
 refine calls_enter Try.func16 rfl fun a0 hA0 => ?_
 replace hA0 : Fr 173 [] [(0, (Value.agg #[rl, rs, (Value.int .i64 d.spread), rb])), (1, (Value.int .u8 (x : Int))), (2, (Value.int .u8 (y : Int)))] a0 := hA0
 have hth := thin_of (ready_of hf).1; have hc := (ready_of hf).2; have hV := valid_of hc; have hnb := hV.nb; have hns := hV.ns; have hnl := hV.nl; have hsp := hV.spread; have hlv0 := hR.lvl; have hrl8 := hR.rdl
 have hS0 : Sep NoB w w [(rndR false rl rs rb rlv d)] := sep_ro ⟨rfl, hR, trivial⟩
 refine c_seq ?_
 refine c_region ?_
 refine stw hA0 (op_box hS0 rfl (hA0.ev rfl) (cs := [rl, rs, (Value.int .i64 d.spread), rb]) rfl) rfl rfl (by decide) ?_
 rintro a1 _ w3 ⟨b4, rfl, hS5⟩ hA2; clear hA0 hS0 a0
 refine st hA2 (op_assign rfl (evc _ _)) rfl rfl (by decide) fun a6 hA7 => ?_; clear hA2 a1
 refine wl_nil ?_
 refine then_n ?_
 refine c_seq ?_
 refine c_seq ?_
 refine c_region ?_
 refine st hA7 (op_loadA rfl ty_26 (hA7.ev rfl) (hS5.bk 0 rfl) (l := [rl, rs, (Value.int .i64 d.spread), rb]) rfl rfl) rfl rfl (by decide) fun a8 hA9 => ?_; clear hA7 a6
 refine stw hA9 (op_call rfl en_35 (ev1 (hA9.ev rfl)) (ready_ok rl rs rb rlv d _ (rnd_at (hS5.ok 1 _ rfl)))) rfl rfl (by decide) ?_
 rintro a10 _ w12 ⟨rfl, hE13⟩ hA11; have hS14 := hS5.step hE13; clear hE13 hA9 hS5 a8
 rw [hf] at hA11
 refine st hA11 (op_not rfl (hA11.ev rfl)) rfl rfl (by decide) fun a15 hA16 => ?_; clear hA11 a10
 refine st hA16 (op_move rfl (hA16.ev rfl)) rfl rfl (by decide) fun a17 hA18 => ?_; clear hA16 a15
 refine stg hA18 (op_field rfl fd_26_3 (hA18.ev rfl)) rfl rfl rfl rfl (by decide) fun a19 hA20 => ?_; clear hA18 a17
 refine stg hA20 (op_load1 rfl ty_24 (hA20.ev rfl) (hS14.bk 0 rfl) rfl) rfl rfl rfl rfl (by decide) fun a21 hA22 => ?_; clear hA20 a19
 refine stg hA22 (op_lenS rfl un_24 (hA22.ev rfl) (rnd_at (hS14.ok 1 _ rfl)).labs) rfl rfl rfl rfl (by decide) fun a23 hA24 => ?_; clear hA22 a21
 refine stg hA24 (op_eql rfl (hA24.ev rfl) (evc _ _)) rfl rfl rfl rfl (by decide) fun a25 hA26 => ?_; clear hA24 a23
 have hd27 : (d.tols.length : Int) = 0 := (by omega)
 rw [decide_eq_true hd27] at hA26
 refine st hA26 (op_pick_f rfl (hA26.ev rfl) (hA26.ev rfl)) rfl rfl (by decide) fun a28 hA29 => ?_; clear hA26 a25
 refine wl_nil ?_
 refine then_n ?_
 refine c_true hA29 rfl ?_
 refine c_seq ?_
 have hA30 := hA29.as [] rfl; clear hA29
 refine c_region ?_
 refine stw hA30 (op_call rfl en_18 ev0 (wakes_ok _)) rfl rfl (by decide) ?_
 rintro a31 _ w33 ⟨rfl, hE34⟩ hA32; have hS35 := hS14.step hE34; clear hE34 hA30 hS14 a28
 refine st hA32 (op_assign rfl (hA32.ev rfl)) rfl rfl (by decide) fun a36 hA37 => ?_; clear hA32 a31
 refine wl_nil ?_
 refine then_n ?_
 refine c_ret ?_
 refine then_ret ?_
 refine fin_run hA37 (.inl rfl) (run_results1 hA37 rfl (.tmp rfl)) ?_
 exact ⟨rfl, hS35.ext⟩

set_option maxHeartbeats 4000000 in
theorem RoundOrder_c (rl rs rb : Value) (rlv : List Value) (d : RD) (w : World) (hR : RoundAt w rl rs rb rlv d) (x : Nat) (hxb : x < 256) (y : Nat) (hyb : y < 256) (hf : readyB d = true) (hn0 : 0 < d.tols.length) (hVM : Valid (rotD d ((((y : Int)).tmod (d.tols.length : Int)).toNat))) (ba : Bool) (C CM : List Int) (cc a b c2 : Int) (he : explainsF d (chosenF d.tols.length x) = (ba, 0)) (heM : explainsF (rotD d ((((y : Int)).tmod (d.tols.length : Int)).toNat)) (chosenF d.tols.length (otherF d.tols.length (((y : Int)).tmod (d.tols.length : Int)) x d.tols.length)) = (ba, 0)) (hcv : convR d = (C, cc)) (hcvM : convR (rotD d ((((y : Int)).tmod (d.tols.length : Int)).toNat)) = (CM, cc)) (hcl : C.length = CM.length) (hc6 : C.length ≤ 6) (hcb : ∀ i, i < C.length → 0 ≤ C.getD i 0 ∧ C.getD i 0 ≤ (d.tols.length : Int) - 1) (hin : ∀ i, i < C.length → hasB CM (((C.getD i 0 + (d.tols.length : Int)) - (((y : Int)).tmod (d.tols.length : Int))).tmod (d.tols.length : Int)) = true) (hz : shiftsR d (((y : Int)).tmod (d.tols.length : Int)) = ((a, b), c2)) (hzM : shiftsR (rotD d ((((y : Int)).tmod (d.tols.length : Int)).toNat)) 0 = ((a, b), c2)) :
  Calls Try.prog 16 #[(Value.agg #[rl, rs, (Value.int .i64 d.spread), rb]), (Value.int .u8 (x : Int)), (Value.int .u8 (y : Int))] w (Ret fun v w' => v = .bool true ∧ Ext NoB w w') := by
 refine calls_enter Try.func16 rfl fun a0 hA0 => ?_
 replace hA0 : Fr 173 [] [(0, (Value.agg #[rl, rs, (Value.int .i64 d.spread), rb])), (1, (Value.int .u8 (x : Int))), (2, (Value.int .u8 (y : Int)))] a0 := hA0
 have hth := thin_of (ready_of hf).1; have hc := (ready_of hf).2; have hV := valid_of hc; have hnb := hV.nb; have hns := hV.ns; have hnl := hV.nl; have hsp := hV.spread; have hlv0 := hR.lvl; have hrl8 := hR.rdl; have hT := tmod_nn (a := (y : Int)) (by omega) (show (0 : Int) < (d.tols.length : Int) by omega)
 have hS0 : Sep NoB w w [(rndR false rl rs rb rlv d)] := sep_ro ⟨rfl, hR, trivial⟩
 refine c_seq ?_
 refine c_region ?_
 refine stw hA0 (op_box hS0 rfl (hA0.ev rfl) (cs := [rl, rs, (Value.int .i64 d.spread), rb]) rfl) rfl rfl (by decide) ?_
 rintro a1 _ w3 ⟨b4, rfl, hS5⟩ hA2; clear hA0 hS0 a0
 refine st hA2 (op_assign rfl (evc _ _)) rfl rfl (by decide) fun a6 hA7 => ?_; clear hA2 a1
 refine wl_nil ?_
 refine then_n ?_
 refine c_seq ?_
 refine c_seq ?_
 refine c_region ?_
 refine st hA7 (op_loadA rfl ty_26 (hA7.ev rfl) (hS5.bk 0 rfl) (l := [rl, rs, (Value.int .i64 d.spread), rb]) rfl rfl) rfl rfl (by decide) fun a8 hA9 => ?_; clear hA7 a6
 refine stw hA9 (op_call rfl en_35 (ev1 (hA9.ev rfl)) (ready_ok rl rs rb rlv d _ (rnd_at (hS5.ok 1 _ rfl)))) rfl rfl (by decide) ?_
 rintro a10 _ w12 ⟨rfl, hE13⟩ hA11; have hS14 := hS5.step hE13; clear hE13 hA9 hS5 a8
 rw [hf] at hA11
 refine st hA11 (op_not rfl (hA11.ev rfl)) rfl rfl (by decide) fun a15 hA16 => ?_; clear hA11 a10
 refine st hA16 (op_move rfl (hA16.ev rfl)) rfl rfl (by decide) fun a17 hA18 => ?_; clear hA16 a15
 refine stg hA18 (op_field rfl fd_26_3 (hA18.ev rfl)) rfl rfl rfl rfl (by decide) fun a19 hA20 => ?_; clear hA18 a17
 refine stg hA20 (op_load1 rfl ty_24 (hA20.ev rfl) (hS14.bk 0 rfl) rfl) rfl rfl rfl rfl (by decide) fun a21 hA22 => ?_; clear hA20 a19
 refine stg hA22 (op_lenS rfl un_24 (hA22.ev rfl) (rnd_at (hS14.ok 1 _ rfl)).labs) rfl rfl rfl rfl (by decide) fun a23 hA24 => ?_; clear hA22 a21
 refine stg hA24 (op_eql rfl (hA24.ev rfl) (evc _ _)) rfl rfl rfl rfl (by decide) fun a25 hA26 => ?_; clear hA24 a23
 have hd27 : ¬ ((d.tols.length : Int) = 0) := (by omega)
 rw [decide_eq_false hd27] at hA26
 refine st hA26 (op_pick_f rfl (hA26.ev rfl) (hA26.ev rfl)) rfl rfl (by decide) fun a28 hA29 => ?_; clear hA26 a25
 refine wl_nil ?_
 refine then_n ?_
 refine c_false hA29 rfl ?_
 refine c_skip ?_
 refine then_n ?_
 refine c_seq ?_
 have hA30 := hA29.as [(3, (bptr b4 0)), (1, (Value.int .u8 (x : Int))), (2, (Value.int .u8 (y : Int)))] rfl; clear hA29
 refine c_region ?_
 refine st hA30 (op_field rfl fd_26_3 (hA30.ev rfl)) rfl rfl (by decide) fun a31 hA32 => ?_; clear hA30 a28
 refine st hA32 (op_load1 rfl ty_24 (hA32.ev rfl) (hS14.bk 0 rfl) rfl) rfl rfl (by decide) fun a33 hA34 => ?_; clear hA32 a31
 refine st hA34 (op_lenS rfl un_24 (hA34.ev rfl) (rnd_at (hS14.ok 1 _ rfl)).labs) rfl rfl (by decide) fun a35 hA36 => ?_; clear hA34 a33
 refine st hA36 (op_assign rfl (hA36.ev rfl)) rfl rfl (by decide) fun a37 hA38 => ?_; clear hA36 a35
 refine wl_nil ?_
 refine then_n ?_
 refine c_seq ?_
 refine c_region ?_
 refine st hA38 (op_move rfl (hA38.ev rfl)) rfl rfl (by decide) fun a39 hA40 => ?_; clear hA38 a37
 refine st hA40 (op_conv un_5 un_3 rfl (hA40.ev rfl) (v := (y : Int)) (wrap_i64 (by omega) (by omega))) rfl rfl (by decide) fun a41 hA42 => ?_; clear hA40 a39
 refine st hA42 (op_move rfl (hA42.ev rfl)) rfl rfl (by decide) fun a43 hA44 => ?_; clear hA42 a41
 refine st hA44 (op_rem rfl (hA44.ev rfl) (hA44.ev rfl) (by omega)) rfl rfl (by decide) fun a45 hA46 => ?_; clear hA44 a43
 refine st hA46 (op_assign rfl (hA46.ev rfl)) rfl rfl (by decide) fun a47 hA48 => ?_; clear hA46 a45
 refine wl_nil ?_
 refine then_n ?_
 refine c_seq ?_
 have hA49 := hA48.as [(8, (Value.int .i64 (((y : Int)).tmod (d.tols.length : Int)))), (7, (Value.int .i64 (d.tols.length : Int))), (3, (bptr b4 0)), (1, (Value.int .u8 (x : Int)))] rfl; clear hA48
 refine c_region ?_
 refine st hA49 (op_loadA rfl ty_26 (hA49.ev rfl) (hS14.bk 0 rfl) (l := [rl, rs, (Value.int .i64 d.spread), rb]) rfl rfl) rfl rfl (by decide) fun a50 hA51 => ?_; clear hA49 a47
 refine stw hA51 (op_alloc hS14 rfl ze_26 (cs := [(Value.slice none 0 0), (Value.slice none 0 0), (Value.int .i64 0), (Value.slice none 0 0)]) rfl) rfl rfl (by decide) ?_
 rintro a52 _ w54 ⟨b55, rfl, hS56⟩ hA53; clear hA51 hS14 a50
 refine sts hA53 (op_store hS56 rfl ty_26 (hA53.ev rfl) (hA53.ev rfl) (i := 0) rfl (vs := [rl, rs, (Value.int .i64 d.spread), rb]) rfl rfl (all_c (SlAt.one (rnd_at (hS56.ok 2 _ rfl)).lots) (all_c (SlAt.one (rnd_at (hS56.ok 2 _ rfl)).samples) (all_c rfl (all_c (SlAt.one (rnd_at (hS56.ok 2 _ rfl)).labs) all_n)))) (Nat.le_of_ble_eq_true rfl)) rfl rfl ?_
 intro _ w57 hS58 hA59; clear hA53
 have hS60 : Sep NoB w w57 [(blk b55 26 [rl, rs, (Value.int .i64 d.spread), rb]), (blk b4 26 [rl, rs, (Value.int .i64 d.spread), rb]), (rndR false rl rs rb rlv d)] := hS58; clear hS58 hS56
 refine wl_nil ?_
 refine then_n ?_
 refine c_seq ?_
 have hA61 := hA59.as [(9, (bptr b55 0)), (8, (Value.int .i64 (((y : Int)).tmod (d.tols.length : Int)))), (7, (Value.int .i64 (d.tols.length : Int))), (3, (bptr b4 0)), (1, (Value.int .u8 (x : Int)))] rfl; clear hA59
 refine c_drawV mixed hA61 hS60 10 [[], [], [1], [], [2, 3], [0, 4], [], [6], [], [7, 8]] [(fun (vs62 : Nat → Value) (v_ : Value) (rs_ : List Res) => ∃ (b0_ : Nat), v_ = (Value.slice (some ⟨b0_, 0, none⟩) 0 0) ∧ rs_ = [(blk b0_ 62 [])]), (fun (vs62 : Nat → Value) (v_ : Value) (rs_ : List Res) => v_ = (bptr b4 3) ∧ rs_ = []), (fun (vs62 : Nat → Value) (v_ : Value) (rs_ : List Res) => v_ = rb ∧ rs_ = []), (fun (vs62 : Nat → Value) (v_ : Value) (rs_ : List Res) => v_ = (Value.int .i64 (((y : Int)).tmod (d.tols.length : Int))) ∧ rs_ = []), (fun (vs62 : Nat → Value) (v_ : Value) (rs_ : List Res) => v_ = (slcut rb ((((y : Int)).tmod (d.tols.length : Int)).toNat) d.tols.length 2) ∧ rs_ = []), (fun (vs62 : Nat → Value) (v_ : Value) (rs_ : List Res) => True ∧ rs_ = [(row v_ 62 2 (d.tols.length - ((((y : Int)).tmod (d.tols.length : Int)).toNat)) (vpairs ((d.tols.drop ((((y : Int)).tmod (d.tols.length : Int)).toNat)).zip (rlv.drop ((((y : Int)).tmod (d.tols.length : Int)).toNat)))))]), (fun (vs62 : Nat → Value) (v_ : Value) (rs_ : List Res) => v_ = (bptr b4 3) ∧ rs_ = []), (fun (vs62 : Nat → Value) (v_ : Value) (rs_ : List Res) => v_ = rb ∧ rs_ = []), (fun (vs62 : Nat → Value) (v_ : Value) (rs_ : List Res) => v_ = (Value.int .i64 (((y : Int)).tmod (d.tols.length : Int))) ∧ rs_ = []), (fun (vs62 : Nat → Value) (v_ : Value) (rs_ : List Res) => v_ = (slcut rb 0 ((((y : Int)).tmod (d.tols.length : Int)).toNat) 2) ∧ rs_ = [])] (by decide +kernel) (by decide +kernel) rfl rfl ⟨(fun _ _ _ _ _ h_ => h_), (fun _ _ _ _ _ h_ => h_), (fun _ _ _ _ _ h_ => h_), (fun _ _ _ _ _ h_ => h_), (fun _ _ _ _ _ h_ => h_), (fun _ _ _ _ _ h_ => h_), (fun _ _ _ _ _ h_ => h_), (fun _ _ _ _ _ h_ => h_), (fun _ _ _ _ _ h_ => h_), (fun _ _ _ _ _ h_ => h_), trivial⟩ ?_ ?_
 ·skip
  refine ⟨fun a w vs62 hA hS hd => ?_, ?_⟩
  ·skip
   exact opG_of rfl (vblz rfl pv0 un_24 ty_62 ze_62 bs_62_0_ (fun b_ => ⟨b_, rfl, rfl⟩))
  refine ⟨fun a w vs62 hA hS hd => ?_, ?_⟩
  ·skip
   exact opG_of rfl (vv (op_field rfl fd_26_3 (hA.ev rfl)) (And.intro rfl rfl))
  refine ⟨fun a w vs62 hA hS hd => ?_, ?_⟩
  ·skip
   obtain ⟨e1, rs1, hy1, hp1⟩ := hd 1 (by decide)
   obtain ⟨hv1, hr1⟩ := hy1; subst hr1
   rw [hv1] at e1
   exact opG_of rfl (vv (op_load1 rfl ty_24 (tmp_ev (slot_ev e1 rfl)) (hS.bk 1 rfl) rfl) (And.intro rfl rfl))
  refine ⟨fun a w vs62 hA hS hd => ?_, ?_⟩
  ·skip
   exact opG_of rfl (vv (op_move rfl (hA.ev rfl)) (And.intro rfl rfl))
  refine ⟨fun a w vs62 hA hS hd => ?_, ?_⟩
  ·skip
   obtain ⟨e2, rs2, hy2, hp2⟩ := hd 2 (by decide)
   obtain ⟨hv2, hr2⟩ := hy2; subst hr2
   rw [hv2] at e2
   obtain ⟨e3, rs3, hy3, hp3⟩ := hd 3 (by decide)
   obtain ⟨hv3, hr3⟩ := hy3; subst hr3
   rw [hv3] at e3
   exact opG_of rfl (vv (op_sliceLo rfl un_24 ty_62 (tmp_ev (slot_ev e2 rfl)) (l := (((y : Int)).tmod (d.tols.length : Int)).toNat) ((tmp_ev (slot_ev e3 rfl)).trans (int_nat (by omega))) (rnd_at (hS.ok 2 _ rfl)).labs (by omega)) (And.intro rfl rfl))
  refine ⟨fun a w vs62 hA hS hd => ?_, ?_⟩
  ·skip
   obtain ⟨e0, rs0, hy0, hp0⟩ := hd 0 (by decide)
   obtain ⟨b0_, hv0, hr0⟩ := hy0; subst hr0
   rw [hv0] at e0
   have hp0_0 := hp0 _ (List.mem_of_getElem? (i := 0) rfl)
   obtain ⟨e4, rs4, hy4, hp4⟩ := hd 4 (by decide)
   obtain ⟨hv4, hr4⟩ := hy4; subst hr4
   rw [hv4] at e4
   exact opG_of rfl (vap0 (op_append0 rfl un_24 el_62 (tmp_ev (slot_ev e0 rfl)) (tmp_ev (slot_ev e4 rfl)) ((SlAt.cut (rnd_at (hS.ok 2 _ rfl)).labs (by omega) (Nat.le_refl _)).say rfl (labs_drop (rnd_at (hS.ok 2 _ rfl)).lvl (by omega))) (labs_dropOne (labs_one (rnd_at (hS.ok 2 _ rfl)))) (by simp only [maxLen]; omega) (by omega) (show 0 < (d.tols.length - ((((y : Int)).tmod (d.tols.length : Int)).toNat)) from (by omega))) (fun _ => And.intro trivial rfl))
  refine ⟨fun a w vs62 hA hS hd => ?_, ?_⟩
  ·skip
   exact opG_of rfl (vv (op_field rfl fd_26_3 (hA.ev rfl)) (And.intro rfl rfl))
  refine ⟨fun a w vs62 hA hS hd => ?_, ?_⟩
  ·skip
   obtain ⟨e6, rs6, hy6, hp6⟩ := hd 6 (by decide)
   obtain ⟨hv6, hr6⟩ := hy6; subst hr6
   rw [hv6] at e6
   exact opG_of rfl (vv (op_load1 rfl ty_24 (tmp_ev (slot_ev e6 rfl)) (hS.bk 1 rfl) rfl) (And.intro rfl rfl))
  refine ⟨fun a w vs62 hA hS hd => ?_, ?_⟩
  ·skip
   exact opG_of rfl (vv (op_move rfl (hA.ev rfl)) (And.intro rfl rfl))
  refine ⟨fun a w vs62 hA hS hd => ?_, ?_⟩
  ·skip
   obtain ⟨e7, rs7, hy7, hp7⟩ := hd 7 (by decide)
   obtain ⟨hv7, hr7⟩ := hy7; subst hr7
   rw [hv7] at e7
   obtain ⟨e8, rs8, hy8, hp8⟩ := hd 8 (by decide)
   obtain ⟨hv8, hr8⟩ := hy8; subst hr8
   rw [hv8] at e8
   exact opG_of rfl (vv (op_sliceHi rfl un_24 ty_62 (tmp_ev (slot_ev e7 rfl)) (h := (((y : Int)).tmod (d.tols.length : Int)).toNat) ((tmp_ev (slot_ev e8 rfl)).trans (int_nat (by omega))) (rnd_at (hS.ok 2 _ rfl)).labs (by omega)) (And.intro rfl rfl))
  trivial
 intro a63 w64 vs62 rsf68 hA65 hH67 hS66; clear hA61 hS60
 obtain ⟨hs_0, hy_0⟩ := hH67 0 (by decide)
 obtain ⟨b0_, hv_0, hr_0⟩ := hy_0
 obtain ⟨hs_1, hy_1⟩ := hH67 1 (by decide)
 obtain ⟨hv_1, hr_1⟩ := hy_1
 obtain ⟨hs_2, hy_2⟩ := hH67 2 (by decide)
 obtain ⟨hv_2, hr_2⟩ := hy_2
 obtain ⟨hs_3, hy_3⟩ := hH67 3 (by decide)
 obtain ⟨hv_3, hr_3⟩ := hy_3
 obtain ⟨hs_4, hy_4⟩ := hH67 4 (by decide)
 obtain ⟨hv_4, hr_4⟩ := hy_4
 obtain ⟨hs_5, hy_5⟩ := hH67 5 (by decide)
 obtain ⟨hv_5, hr_5⟩ := hy_5
 obtain ⟨hs_6, hy_6⟩ := hH67 6 (by decide)
 obtain ⟨hv_6, hr_6⟩ := hy_6
 obtain ⟨hs_7, hy_7⟩ := hH67 7 (by decide)
 obtain ⟨hv_7, hr_7⟩ := hy_7
 obtain ⟨hs_8, hy_8⟩ := hH67 8 (by decide)
 obtain ⟨hv_8, hr_8⟩ := hy_8
 obtain ⟨hs_9, hy_9⟩ := hH67 9 (by decide)
 obtain ⟨hv_9, hr_9⟩ := hy_9
 have hS69 : Sep NoB w w64 [(blk b0_ 62 []), (row (vs62 5) 62 2 (d.tols.length - ((((y : Int)).tmod (d.tols.length : Int)).toNat)) (vpairs ((d.tols.drop ((((y : Int)).tmod (d.tols.length : Int)).toNat)).zip (rlv.drop ((((y : Int)).tmod (d.tols.length : Int)).toNat))))), (blk b55 26 [rl, rs, (Value.int .i64 d.spread), rb]), (blk b4 26 [rl, rs, (Value.int .i64 d.spread), rb]), (rndR false rl rs rb rlv d)] := by rw [show catR rsf68 0 10 = ([(blk b0_ 62 []), (row (vs62 5) 62 2 (d.tols.length - ((((y : Int)).tmod (d.tols.length : Int)).toNat)) (vpairs ((d.tols.drop ((((y : Int)).tmod (d.tols.length : Int)).toNat)).zip (rlv.drop ((((y : Int)).tmod (d.tols.length : Int)).toNat)))))] : List Res) by (try simp only [catR, hr_0, hr_1, hr_2, hr_3, hr_4, hr_5, hr_6, hr_7, hr_8, hr_9]); (try rfl)] at hS66; exact hS66
 have hA70 : Fr 173 [] [(48, (vs62 5)), (9, (bptr b55 0)), (8, (Value.int .i64 (((y : Int)).tmod (d.tols.length : Int)))), (7, (Value.int .i64 (d.tols.length : Int))), (3, (bptr b4 0)), (1, (Value.int .u8 (x : Int)))] a63 := hA65.add (slot_ev hs_5 rfl); clear hA65
 rw [hv_9] at hs_9
 have hA71 : Fr 173 [] [(52, (slcut rb 0 ((((y : Int)).tmod (d.tols.length : Int)).toNat) 2)), (48, (vs62 5)), (9, (bptr b55 0)), (8, (Value.int .i64 (((y : Int)).tmod (d.tols.length : Int)))), (7, (Value.int .i64 (d.tols.length : Int))), (3, (bptr b4 0)), (1, (Value.int .u8 (x : Int)))] a63 := hA70.add (slot_ev hs_9 rfl); clear hA70
 clear hH67 hS66 hs_0 hs_1 hs_2 hs_3 hs_4 hs_5 hs_6 hs_7 hs_8 hs_9
 clear hr_0
 clear hv_0
 clear hr_1
 clear hv_1
 clear hr_2
 clear hv_2
 clear hr_3
 clear hv_3
 clear hr_4
 clear hv_4
 clear hr_5
 clear hv_5
 clear hr_6
 clear hv_6
 clear hr_7
 clear hv_7
 clear hr_8
 clear hv_8
 clear hr_9
 clear hv_9
 refine stw hA71 (op_append hS69 rfl un_24 el_62 (hA71.ev rfl) (hA71.ev rfl) (i := 1) rfl ((SlAt.cut (rnd_at (hS69.ok 4 _ rfl)).labs (Nat.zero_le _) (by omega)).say rfl labs_take) (labs_takeOne (labs_one (rnd_at (hS69.ok 4 _ rfl)))) (by simp only [maxLen]; omega) (by omega)) rfl rfl (by decide) ?_
 intro a72 v75 w74 hS76 hA73
 have hS77 := hS76.row_say (i := 1) rfl (n' := ((d.tols.length - ((((y : Int)).tmod (d.tols.length : Int)).toNat)) + (((((y : Int)).tmod (d.tols.length : Int)).toNat) - 0))) (xs' := (vpairs (((d.tols.drop ((((y : Int)).tmod (d.tols.length : Int)).toNat)).zip (rlv.drop ((((y : Int)).tmod (d.tols.length : Int)).toNat))) ++ ((d.tols.take ((((y : Int)).tmod (d.tols.length : Int)).toNat)).zip (rlv.take ((((y : Int)).tmod (d.tols.length : Int)).toNat)))))) rfl (vpairs_append _ _).symm; clear hS76 hA71 hS69 a63
 refine st hA73 (op_field rfl fd_26_3 (hA73.ev rfl)) rfl rfl (by decide) fun a78 hA79 => ?_; clear hA73 a72
 refine sts hA79 (op_store hS77 rfl ty_24 (hA79.ev rfl) (hA79.ev rfl) (i := 2) rfl (vs := [v75]) (isSl_cells (SlAt.isSl (SlAt.of_row (hS77.ok_row 1 rfl)))) rfl (all_c (SlAt.one (SlAt.of_row (hS77.ok_row 1 rfl))) all_n) (Nat.le_of_ble_eq_true rfl)) rfl rfl ?_
 intro _ w80 hS81 hA82; clear hA79
 have hS83 : Sep NoB w w80 [(blk b0_ 62 []), (row v75 62 2 ((d.tols.length - ((((y : Int)).tmod (d.tols.length : Int)).toNat)) + (((((y : Int)).tmod (d.tols.length : Int)).toNat) - 0)) (vpairs (((d.tols.drop ((((y : Int)).tmod (d.tols.length : Int)).toNat)).zip (rlv.drop ((((y : Int)).tmod (d.tols.length : Int)).toNat))) ++ ((d.tols.take ((((y : Int)).tmod (d.tols.length : Int)).toNat)).zip (rlv.take ((((y : Int)).tmod (d.tols.length : Int)).toNat)))))), (blk b55 26 [rl, rs, (Value.int .i64 d.spread), v75]), (blk b4 26 [rl, rs, (Value.int .i64 d.spread), rb]), (rndR false rl rs rb rlv d)] := hS81; clear hS81 hS77
 refine wl_nil ?_
 refine then_n ?_
 refine c_seq ?_
 have hS84 := hS83.row_say (i := 1) rfl (n' := (rotD d ((((y : Int)).tmod (d.tols.length : Int)).toNat)).tols.length) (xs' := vpairs ((rotD d ((((y : Int)).tmod (d.tols.length : Int)).toNat)).tols.zip (rlv.drop ((((y : Int)).tmod (d.tols.length : Int)).toNat) ++ rlv.take ((((y : Int)).tmod (d.tols.length : Int)).toNat)))) (by simp only [rotD, List.length_append, List.length_drop, List.length_take]; omega) (congrArg vpairs (List.zip_append (by simp only [List.length_drop, hlv0])).symm); clear hS83
 refine c_region ?_
 refine st hA82 (op_assign rfl (evc _ _)) rfl rfl (by decide) fun a85 hA86 => ?_; clear hA82 a78
 refine wl_nil ?_
 refine then_n ?_
 refine c_seq ?_
 refine c_seq ?_
 refine c_region ?_
 refine st hA86 (op_assign rfl (evc _ _)) rfl rfl (by decide) fun a87 hA88 => ?_; clear hA86 a85
 refine wl_nil ?_
 refine then_n ?_
 refine c_block ?_
 have hA89 := hA88.as [(11, (Value.int .i64 0)), (10, (Value.int .u8 0)), (9, (bptr b55 0)), (8, (Value.int .i64 (((y : Int)).tmod (d.tols.length : Int)))), (7, (Value.int .i64 (d.tols.length : Int))), (3, (bptr b4 0)), (1, (Value.int .u8 (x : Int)))] rfl; clear hA88
 refine c_loop (G := Nat) (fun (k : Nat) a_ w_ => Fr 173 [] [(11, (Value.int .i64 (k : Int))), (10, (Value.int .u8 ((otherF d.tols.length (((y : Int)).tmod (d.tols.length : Int)) x k : Nat) : Int))), (9, (bptr b55 0)), (8, (Value.int .i64 (((y : Int)).tmod (d.tols.length : Int)))), (7, (Value.int .i64 (d.tols.length : Int))), (3, (bptr b4 0)), (1, (Value.int .u8 (x : Int)))] a_ ∧ Sep NoB w w_ [(blk b0_ 62 []), (row v75 62 2 ((rotD d ((((y : Int)).tmod (d.tols.length : Int)).toNat)).tols.length) (vpairs ((rotD d ((((y : Int)).tmod (d.tols.length : Int)).toNat)).tols.zip (rlv.drop ((((y : Int)).tmod (d.tols.length : Int)).toNat) ++ rlv.take ((((y : Int)).tmod (d.tols.length : Int)).toNat))))), (blk b55 26 [rl, rs, (Value.int .i64 d.spread), v75]), (blk b4 26 [rl, rs, (Value.int .i64 d.spread), rb]), (rndR false rl rs rb rlv d)] ∧ (k ≤ d.tols.length)) (fun k => d.tols.length - k) 0 ⟨hA89.as _ rfl, hS84, by omega⟩ ?_
 clear hA89 hS84 a87
 rintro k a90 w92 ⟨hA91, hS93, hk⟩
 have hol := other_lt2 (n := d.tols.length) (x := x) hV.nb hT.1 hT.2 k
 refine c_seq ?_
 refine c_seq ?_
 refine c_region ?_
 refine st hA91 (op_move rfl (hA91.ev rfl)) rfl rfl (by decide) fun a94 hA95 => ?_; clear hA91 a90
 refine st hA95 (op_move rfl (hA95.ev rfl)) rfl rfl (by decide) fun a96 hA97 => ?_; clear hA95 a94
 refine st hA97 (op_lss rfl (hA97.ev rfl) (hA97.ev rfl)) rfl rfl (by decide) fun a98 hA99 => ?_; clear hA97 a96
 refine wl_nil ?_
 refine then_n ?_
 by_cases hb100 : (k : Int) < (d.tols.length : Int)
 ·skip
  rw [decide_eq_true hb100] at hA99
  refine c_true hA99 rfl ?_
  refine c_skip ?_
  refine then_n ?_
  refine c_seq ?_
  refine c_block ?_
  refine c_seq ?_
  refine c_region ?_
  refine st hA99 (op_move rfl (hA99.ev rfl)) rfl rfl (by decide) fun a101 hA102 => ?_; clear hA99 a98
  refine st hA102 (op_move rfl (hA102.ev rfl)) rfl rfl (by decide) fun a103 hA104 => ?_; clear hA102 a101
  refine st hA104 (op_conv un_3 un_71 rfl (hA104.ev rfl) (v := (k : Int)) (wrap_u64 (by omega) (by omega))) rfl rfl (by decide) fun a105 hA106 => ?_; clear hA104 a103
  refine st hA106 (op_shr8 rfl (m := x) (hA106.ev rfl) (k := k) (hA106.ev rfl) (by omega)) rfl rfl (by decide) fun a107 hA108 => ?_; clear hA106 a105
  refine st hA108 (op_rem rfl (hA108.ev rfl) (evc _ _) (by omega)) rfl rfl (by decide) fun a109 hA110 => ?_; clear hA108 a107
  refine st hA110 (op_eql rfl (hA110.ev rfl) (evc _ _)) rfl rfl (by decide) fun a111 hA112 => ?_; clear hA110 a109
  refine wl_nil ?_
  refine then_n ?_
  by_cases hb113 : ((((x >>> k : Nat) : Int)).tmod 2) = 1
  ·skip
   rw [decide_eq_true hb113] at hA112
   have hsh := tmod_nn (a := (((k : Int) + (d.tols.length : Int)) - (((y : Int)).tmod (d.tols.length : Int)))) (by omega) (show (0 : Int) < (d.tols.length : Int) by omega); have hpw : (2 : Nat) ^ (((((k : Int) + (d.tols.length : Int)) - (((y : Int)).tmod (d.tols.length : Int)))).tmod (d.tols.length : Int)).toNat ≤ 2 ^ 5 := Nat.pow_le_pow_right (by decide) (by omega)
   refine c_true hA112 rfl ?_
   have hA114 := hA112.as [(11, (Value.int .i64 (k : Int))), (10, (Value.int .u8 ((otherF d.tols.length (((y : Int)).tmod (d.tols.length : Int)) x k : Nat) : Int))), (9, (bptr b55 0)), (8, (Value.int .i64 (((y : Int)).tmod (d.tols.length : Int)))), (7, (Value.int .i64 (d.tols.length : Int))), (3, (bptr b4 0)), (1, (Value.int .u8 (x : Int)))] rfl; clear hA112
   refine c_region ?_
   refine st hA114 (op_move rfl (hA114.ev rfl)) rfl rfl (by decide) fun a115 hA116 => ?_; clear hA114 a111
   refine st hA116 (op_move rfl (hA116.ev rfl)) rfl rfl (by decide) fun a117 hA118 => ?_; clear hA116 a115
   refine st hA118 (op_move rfl (hA118.ev rfl)) rfl rfl (by decide) fun a119 hA120 => ?_; clear hA118 a117
   refine st hA120 (op_add rfl (hA120.ev rfl) (hA120.ev rfl) (by omega) (by omega)) rfl rfl (by decide) fun a121 hA122 => ?_; clear hA120 a119
   refine st hA122 (op_move rfl (hA122.ev rfl)) rfl rfl (by decide) fun a123 hA124 => ?_; clear hA122 a121
   refine st hA124 (op_sub rfl (hA124.ev rfl) (hA124.ev rfl) (by omega) (by omega)) rfl rfl (by decide) fun a125 hA126 => ?_; clear hA124 a123
   refine st hA126 (op_move rfl (hA126.ev rfl)) rfl rfl (by decide) fun a127 hA128 => ?_; clear hA126 a125
   refine st hA128 (op_rem rfl (hA128.ev rfl) (hA128.ev rfl) (by omega)) rfl rfl (by decide) fun a129 hA130 => ?_; clear hA128 a127
   refine st hA130 (op_conv un_3 un_71 rfl (hA130.ev rfl) (v := ((((k : Int) + (d.tols.length : Int)) - (((y : Int)).tmod (d.tols.length : Int)))).tmod (d.tols.length : Int)) (wrap_u64 (by omega) (by omega))) rfl rfl (by decide) fun a131 hA132 => ?_; clear hA130 a129
   refine st hA132 (op_shl8 rfl (m := 1) (show _ = Value.int .u8 ((1 : Nat) : Int) from (evc _ _)) (k := (((((k : Int) + (d.tols.length : Int)) - (((y : Int)).tmod (d.tols.length : Int)))).tmod (d.tols.length : Int)).toNat) ((hA132.ev rfl).trans (int_nat (by omega))) (by omega) (by omega)) rfl rfl (by decide) fun a133 hA134 => ?_; clear hA132 a131
   refine st hA134 (op_or8 rfl (m := (otherF d.tols.length (((y : Int)).tmod (d.tols.length : Int)) x k : Nat)) (hA134.ev rfl) (n := (1 * 2 ^ (((((k : Int) + (d.tols.length : Int)) - (((y : Int)).tmod (d.tols.length : Int)))).tmod (d.tols.length : Int)).toNat : Nat)) (hA134.ev rfl) (by omega) (by omega)) rfl rfl (by decide) fun a135 hA136 => ?_; clear hA134 a133
   refine st hA136 (op_assign rfl (hA136.ev rfl)) rfl rfl (by decide) fun a137 hA138 => ?_; clear hA136 a135
   refine wl_nil ?_
   refine blk_n ?_
   refine then_n ?_
   have hA139 := hA138.as [(10, (Value.int .u8 (((otherF d.tols.length (((y : Int)).tmod (d.tols.length : Int)) x k : Nat) ||| (1 * 2 ^ (((((k : Int) + (d.tols.length : Int)) - (((y : Int)).tmod (d.tols.length : Int)))).tmod (d.tols.length : Int)).toNat : Nat) : Nat) : Int))), (11, (Value.int .i64 (k : Int))), (9, (bptr b55 0)), (8, (Value.int .i64 (((y : Int)).tmod (d.tols.length : Int)))), (7, (Value.int .i64 (d.tols.length : Int))), (3, (bptr b4 0)), (1, (Value.int .u8 (x : Int)))] rfl; clear hA138
   refine c_region ?_
   refine st hA139 (op_move rfl (hA139.ev rfl)) rfl rfl (by decide) fun a140 hA141 => ?_; clear hA139 a137
   refine st hA141 (op_add rfl (hA141.ev rfl) (evc _ _) (by omega) (by omega)) rfl rfl (by decide) fun a142 hA143 => ?_; clear hA141 a140
   refine st hA143 (op_assign rfl (hA143.ev rfl)) rfl rfl (by decide) fun a144 hA145 => ?_; clear hA143 a142
   refine wl_nil ?_
   exact then_n ⟨k + 1, ⟨hA145.as _ (by first | (rw [other_yes (by assumption)]; rfl) | (rw [other_no (by assumption)]; rfl)), hS93, by omega⟩, by omega⟩
  ·skip
   rw [decide_eq_false hb113] at hA112
   refine c_false hA112 rfl ?_
   refine c_skip ?_
   refine blk_n ?_
   refine then_n ?_
   have hA146 := hA112.as [(11, (Value.int .i64 (k : Int))), (10, (Value.int .u8 ((otherF d.tols.length (((y : Int)).tmod (d.tols.length : Int)) x k : Nat) : Int))), (9, (bptr b55 0)), (8, (Value.int .i64 (((y : Int)).tmod (d.tols.length : Int)))), (7, (Value.int .i64 (d.tols.length : Int))), (3, (bptr b4 0)), (1, (Value.int .u8 (x : Int)))] rfl; clear hA112
   refine c_region ?_
   refine st hA146 (op_move rfl (hA146.ev rfl)) rfl rfl (by decide) fun a147 hA148 => ?_; clear hA146 a111
   refine st hA148 (op_add rfl (hA148.ev rfl) (evc _ _) (by omega) (by omega)) rfl rfl (by decide) fun a149 hA150 => ?_; clear hA148 a147
   refine st hA150 (op_assign rfl (hA150.ev rfl)) rfl rfl (by decide) fun a151 hA152 => ?_; clear hA150 a149
   refine wl_nil ?_
   exact then_n ⟨k + 1, ⟨hA152.as _ (by first | (rw [other_yes (by assumption)]; rfl) | (rw [other_no (by assumption)]; rfl)), hS93, by omega⟩, by omega⟩
 ·skip
  rw [decide_eq_false hb100] at hA99
  refine c_false hA99 rfl ?_
  refine c_exit ?_
  refine then_exit ?_
  refine then_exit ?_
  refine blk_hit ?_
  refine then_n ?_
  refine c_seq ?_
  have hA153 := hA99.as [(10, (Value.int .u8 ((otherF d.tols.length (((y : Int)).tmod (d.tols.length : Int)) x k : Nat) : Int))), (9, (bptr b55 0)), (8, (Value.int .i64 (((y : Int)).tmod (d.tols.length : Int)))), (7, (Value.int .i64 (d.tols.length : Int))), (3, (bptr b4 0)), (1, (Value.int .u8 (x : Int)))] rfl; clear hA99
  refine c_drawV mixed hA153 hS93 10 [[], [0], [], [], [2, 3], [1, 4], [5], [6], [6], [7]] [(fun (vs154 : Nat → Value) (v_ : Value) (rs_ : List Res) => v_ = (Value.agg #[rl, rs, (Value.int .i64 d.spread), rb]) ∧ rs_ = []), (fun (vs154 : Nat → Value) (v_ : Value) (rs_ : List Res) => ∃ (lv1_ : List Value), v_ = (Value.agg #[(comp v_ 0), (comp v_ 1), (Value.int .i64 d.spread), (comp v_ 3)]) ∧ rs_ = [(rndR true (comp v_ 0) (comp v_ 1) (comp v_ 3) lv1_ d)]), (fun (vs154 : Nat → Value) (v_ : Value) (rs_ : List Res) => v_ = (Value.agg #[rl, rs, (Value.int .i64 d.spread), rb]) ∧ rs_ = []), (fun (vs154 : Nat → Value) (v_ : Value) (rs_ : List Res) => v_ = (Value.int .u8 (x : Int)) ∧ rs_ = []), (fun (vs154 : Nat → Value) (v_ : Value) (rs_ : List Res) => True ∧ rs_ = [(row v_ 3 1 ((chosenF d.tols.length x).length) (ints (chosenF d.tols.length x)))]), (fun (vs154 : Nat → Value) (v_ : Value) (rs_ : List Res) => v_ = (Value.tuple #[(Value.bool ba), (Value.int .i64 0)]) ∧ rs_ = []), (fun (vs154 : Nat → Value) (v_ : Value) (rs_ : List Res) => v_ = (Value.tuple #[(Value.bool ba), (Value.int .i64 0)]) ∧ rs_ = []), (fun (vs154 : Nat → Value) (v_ : Value) (rs_ : List Res) => v_ = (Value.bool ba) ∧ rs_ = []), (fun (vs154 : Nat → Value) (v_ : Value) (rs_ : List Res) => v_ = (Value.int .i64 0) ∧ rs_ = []), (fun (vs154 : Nat → Value) (v_ : Value) (rs_ : List Res) => v_ = (Value.bool ba) ∧ rs_ = [])] (by decide +kernel) (by decide +kernel) rfl rfl ⟨(fun _ _ _ _ _ h_ => h_), (fun _ _ _ _ _ h_ => h_), (fun _ _ _ _ _ h_ => h_), (fun _ _ _ _ _ h_ => h_), (fun _ _ _ _ _ h_ => h_), (fun _ _ _ _ _ h_ => h_), (fun _ _ _ _ _ h_ => h_), (fun _ _ _ _ _ h_ => h_), (fun _ _ _ _ _ h_ => h_), (fun _ _ _ _ _ h_ => h_), trivial⟩ ?_ ?_
  ·skip
   refine ⟨fun a w vs154 hA hS hd => ?_, ?_⟩
   ·skip
    exact opG_of rfl (vv (op_loadA rfl ty_26 (hA.ev rfl) (hS.bk 3 rfl) (l := [rl, rs, (Value.int .i64 d.spread), rb]) rfl rfl) (And.intro rfl rfl))
   refine ⟨fun a w vs154 hA hS hd => ?_, ?_⟩
   ·skip
    obtain ⟨e0, rs0, hy0, hp0⟩ := hd 0 (by decide)
    obtain ⟨hv0, hr0⟩ := hy0; subst hr0
    rw [hv0] at e0
    exact opG_of rfl (vn (op_call rfl en_20 (ev1 (tmp_ev (slot_ev e0 rfl))) (Round_ok rl rs rb rlv d _ (rnd_at (hS.ok 4 _ rfl)) hth)) (fun v w' h => by obtain ⟨vl, vs, vb, lv, rfl, hT⟩ := h; exact ⟨_, ⟨lv, rfl, rfl⟩, hT, rfl⟩))
   refine ⟨fun a w vs154 hA hS hd => ?_, ?_⟩
   ·skip
    exact opG_of rfl (vv (op_loadA rfl ty_26 (hA.ev rfl) (hS.bk 3 rfl) (l := [rl, rs, (Value.int .i64 d.spread), rb]) rfl rfl) (And.intro rfl rfl))
   refine ⟨fun a w vs154 hA hS hd => ?_, ?_⟩
   ·skip
    exact opG_of rfl (vv (op_move rfl (hA.ev rfl)) (And.intro rfl rfl))
   refine ⟨fun a w vs154 hA hS hd => ?_, ?_⟩
   ·skip
    obtain ⟨e2, rs2, hy2, hp2⟩ := hd 2 (by decide)
    obtain ⟨hv2, hr2⟩ := hy2; subst hr2
    rw [hv2] at e2
    obtain ⟨e3, rs3, hy3, hp3⟩ := hd 3 (by decide)
    obtain ⟨hv3, hr3⟩ := hy3; subst hr3
    rw [hv3] at e3
    exact opG_of rfl (vn (op_call rfl en_36 (ev2 (tmp_ev (slot_ev e2 rfl)) (tmp_ev (slot_ev e3 rfl))) (chosen_ok rl rs rb rlv d _ (rnd_at (hS.ok 4 _ rfl)) x (by omega))) (fun v w' h => ⟨_, And.intro trivial rfl, (Sep.start NoB _).new_row h.1 h.2, rfl⟩))
   refine ⟨fun a w vs154 hA hS hd => ?_, ?_⟩
   ·skip
    obtain ⟨e1, rs1, hy1, hp1⟩ := hd 1 (by decide)
    obtain ⟨lv1_, hv1, hr1⟩ := hy1; subst hr1
    rw [hv1] at e1
    have hp1_0 := hp1 _ (List.mem_of_getElem? (i := 0) rfl)
    obtain ⟨e4, rs4, hy4, hp4⟩ := hd 4 (by decide)
    obtain ⟨hv4, hr4⟩ := hy4; subst hr4
    have hp4_0 := hp4 _ (List.mem_of_getElem? (i := 0) rfl)
    exact opG_of rfl (vx (op_call rfl en_21 (ev2 (tmp_ev (slot_ev e1 rfl)) (tmp_ev (slot_ev e4 rfl))) (by have h := (explains_ok (comp (vs154 1) 0) (comp (vs154 1) 1) (comp (vs154 1) 3) lv1_ d _ (rnd_at hp1_0) _ (chosenF d.tols.length x) (SlAt.of_row hp4_0) (by first | exact Nat.le_trans (chosenF_len _ _) (by omega) | omega)); rw [he] at h; exact h)) (And.intro rfl rfl))
   refine ⟨fun a w vs154 hA hS hd => ?_, ?_⟩
   ·skip
    obtain ⟨e5, rs5, hy5, hp5⟩ := hd 5 (by decide)
    obtain ⟨hv5, hr5⟩ := hy5; subst hr5
    rw [hv5] at e5
    exact opG_of rfl (vv (op_move rfl (tmp_ev (slot_ev e5 rfl))) (And.intro rfl rfl))
   refine ⟨fun a w vs154 hA hS hd => ?_, ?_⟩
   ·skip
    obtain ⟨e6, rs6, hy6, hp6⟩ := hd 6 (by decide)
    obtain ⟨hv6, hr6⟩ := hy6; subst hr6
    rw [hv6] at e6
    exact opG_of rfl (vv (op_extract rfl (tmp_ev (slot_ev e6 rfl)) rfl) (And.intro rfl rfl))
   refine ⟨fun a w vs154 hA hS hd => ?_, ?_⟩
   ·skip
    obtain ⟨e6, rs6, hy6, hp6⟩ := hd 6 (by decide)
    obtain ⟨hv6, hr6⟩ := hy6; subst hr6
    rw [hv6] at e6
    exact opG_of rfl (vv (op_extract rfl (tmp_ev (slot_ev e6 rfl)) rfl) (And.intro rfl rfl))
   refine ⟨fun a w vs154 hA hS hd => ?_, ?_⟩
   ·skip
    obtain ⟨e7, rs7, hy7, hp7⟩ := hd 7 (by decide)
    obtain ⟨hv7, hr7⟩ := hy7; subst hr7
    rw [hv7] at e7
    exact opG_of rfl (vv (op_assign rfl (tmp_ev (slot_ev e7 rfl))) (And.intro rfl rfl))
   trivial
  intro a155 w156 vs154 rsf160 hA157 hH159 hS158; clear hA153 hS93
  obtain ⟨hs_0, hy_0⟩ := hH159 0 (by decide)
  obtain ⟨hv_0, hr_0⟩ := hy_0
  obtain ⟨hs_1, hy_1⟩ := hH159 1 (by decide)
  obtain ⟨lv1_, hv_1, hr_1⟩ := hy_1
  obtain ⟨hs_2, hy_2⟩ := hH159 2 (by decide)
  obtain ⟨hv_2, hr_2⟩ := hy_2
  obtain ⟨hs_3, hy_3⟩ := hH159 3 (by decide)
  obtain ⟨hv_3, hr_3⟩ := hy_3
  obtain ⟨hs_4, hy_4⟩ := hH159 4 (by decide)
  obtain ⟨hv_4, hr_4⟩ := hy_4
  obtain ⟨hs_5, hy_5⟩ := hH159 5 (by decide)
  obtain ⟨hv_5, hr_5⟩ := hy_5
  obtain ⟨hs_6, hy_6⟩ := hH159 6 (by decide)
  obtain ⟨hv_6, hr_6⟩ := hy_6
  obtain ⟨hs_7, hy_7⟩ := hH159 7 (by decide)
  obtain ⟨hv_7, hr_7⟩ := hy_7
  obtain ⟨hs_8, hy_8⟩ := hH159 8 (by decide)
  obtain ⟨hv_8, hr_8⟩ := hy_8
  obtain ⟨hs_9, hy_9⟩ := hH159 9 (by decide)
  obtain ⟨hv_9, hr_9⟩ := hy_9
  have hS161 : Sep NoB w w156 [(rndR true (comp (vs154 1) 0) (comp (vs154 1) 1) (comp (vs154 1) 3) lv1_ d), (row (vs154 4) 3 1 ((chosenF d.tols.length x).length) (ints (chosenF d.tols.length x))), (blk b0_ 62 []), (row v75 62 2 ((rotD d ((((y : Int)).tmod (d.tols.length : Int)).toNat)).tols.length) (vpairs ((rotD d ((((y : Int)).tmod (d.tols.length : Int)).toNat)).tols.zip (rlv.drop ((((y : Int)).tmod (d.tols.length : Int)).toNat) ++ rlv.take ((((y : Int)).tmod (d.tols.length : Int)).toNat))))), (blk b55 26 [rl, rs, (Value.int .i64 d.spread), v75]), (blk b4 26 [rl, rs, (Value.int .i64 d.spread), rb]), (rndR false rl rs rb rlv d)] := by rw [show catR rsf160 0 10 = ([(rndR true (comp (vs154 1) 0) (comp (vs154 1) 1) (comp (vs154 1) 3) lv1_ d), (row (vs154 4) 3 1 ((chosenF d.tols.length x).length) (ints (chosenF d.tols.length x)))] : List Res) by (try simp only [catR, hr_0, hr_1, hr_2, hr_3, hr_4, hr_5, hr_6, hr_7, hr_8, hr_9]); (try rfl)] at hS158; exact hS158
  rw [hv_8] at hs_8
  have hA162 : Fr 173 [] [(85, (Value.int .i64 0)), (10, (Value.int .u8 ((otherF d.tols.length (((y : Int)).tmod (d.tols.length : Int)) x k : Nat) : Int))), (9, (bptr b55 0)), (8, (Value.int .i64 (((y : Int)).tmod (d.tols.length : Int)))), (7, (Value.int .i64 (d.tols.length : Int))), (3, (bptr b4 0)), (1, (Value.int .u8 (x : Int)))] a155 := hA157.add (slot_ev hs_8 rfl); clear hA157
  rw [hv_9] at hs_9
  have hA163 : Fr 173 [] [(12, (Value.bool ba)), (85, (Value.int .i64 0)), (10, (Value.int .u8 ((otherF d.tols.length (((y : Int)).tmod (d.tols.length : Int)) x k : Nat) : Int))), (9, (bptr b55 0)), (8, (Value.int .i64 (((y : Int)).tmod (d.tols.length : Int)))), (7, (Value.int .i64 (d.tols.length : Int))), (3, (bptr b4 0)), (1, (Value.int .u8 (x : Int)))] a155 := hA162.add (slot_ev hs_9 rfl); clear hA162
  clear hH159 hS158 hs_0 hs_1 hs_2 hs_3 hs_4 hs_5 hs_6 hs_7 hs_8 hs_9
  clear hr_0
  clear hv_0
  clear hr_1
  clear hv_1
  clear hr_2
  clear hv_2
  clear hr_3
  clear hv_3
  clear hr_4
  clear hv_4
  clear hr_5
  clear hv_5
  clear hr_6
  clear hv_6
  clear hr_7
  clear hv_7
  clear hr_8
  clear hv_8
  clear hr_9
  clear hv_9
  refine st hA163 (op_assign rfl (hA163.ev rfl)) rfl rfl (by decide) fun a164 hA165 => ?_; clear hA163 a155
  refine wl_nil ?_
  refine then_n ?_
  refine c_seq ?_
  have hA166 := hA165.as [(13, (Value.int .i64 0)), (12, (Value.bool ba)), (10, (Value.int .u8 ((otherF d.tols.length (((y : Int)).tmod (d.tols.length : Int)) x k : Nat) : Int))), (9, (bptr b55 0)), (8, (Value.int .i64 (((y : Int)).tmod (d.tols.length : Int)))), (7, (Value.int .i64 (d.tols.length : Int))), (3, (bptr b4 0))] rfl; clear hA165
  refine c_drawV mixed hA166 hS161 10 [[], [0], [], [], [2, 3], [1, 4], [5], [6], [6], [7]] [(fun (vs167 : Nat → Value) (v_ : Value) (rs_ : List Res) => v_ = (Value.agg #[rl, rs, (Value.int .i64 d.spread), v75]) ∧ rs_ = []), (fun (vs167 : Nat → Value) (v_ : Value) (rs_ : List Res) => ∃ (lv1_vs167 : List Value), v_ = (Value.agg #[(comp v_ 0), (comp v_ 1), (Value.int .i64 ((rotD d ((((y : Int)).tmod (d.tols.length : Int)).toNat)).spread)), (comp v_ 3)]) ∧ rs_ = [(rndR true (comp v_ 0) (comp v_ 1) (comp v_ 3) lv1_vs167 (rotD d ((((y : Int)).tmod (d.tols.length : Int)).toNat)))]), (fun (vs167 : Nat → Value) (v_ : Value) (rs_ : List Res) => v_ = (Value.agg #[rl, rs, (Value.int .i64 d.spread), rb]) ∧ rs_ = []), (fun (vs167 : Nat → Value) (v_ : Value) (rs_ : List Res) => v_ = (Value.int .u8 ((otherF d.tols.length (((y : Int)).tmod (d.tols.length : Int)) x k : Nat) : Int)) ∧ rs_ = []), (fun (vs167 : Nat → Value) (v_ : Value) (rs_ : List Res) => True ∧ rs_ = [(row v_ 3 1 ((chosenF d.tols.length (otherF d.tols.length (((y : Int)).tmod (d.tols.length : Int)) x k : Nat)).length) (ints (chosenF d.tols.length (otherF d.tols.length (((y : Int)).tmod (d.tols.length : Int)) x k : Nat))))]), (fun (vs167 : Nat → Value) (v_ : Value) (rs_ : List Res) => v_ = (Value.tuple #[(Value.bool ba), (Value.int .i64 0)]) ∧ rs_ = []), (fun (vs167 : Nat → Value) (v_ : Value) (rs_ : List Res) => v_ = (Value.tuple #[(Value.bool ba), (Value.int .i64 0)]) ∧ rs_ = []), (fun (vs167 : Nat → Value) (v_ : Value) (rs_ : List Res) => v_ = (Value.bool ba) ∧ rs_ = []), (fun (vs167 : Nat → Value) (v_ : Value) (rs_ : List Res) => v_ = (Value.int .i64 0) ∧ rs_ = []), (fun (vs167 : Nat → Value) (v_ : Value) (rs_ : List Res) => v_ = (Value.bool ba) ∧ rs_ = [])] (by decide +kernel) (by decide +kernel) rfl rfl ⟨(fun _ _ _ _ _ h_ => h_), (fun _ _ _ _ _ h_ => h_), (fun _ _ _ _ _ h_ => h_), (fun _ _ _ _ _ h_ => h_), (fun _ _ _ _ _ h_ => h_), (fun _ _ _ _ _ h_ => h_), (fun _ _ _ _ _ h_ => h_), (fun _ _ _ _ _ h_ => h_), (fun _ _ _ _ _ h_ => h_), (fun _ _ _ _ _ h_ => h_), trivial⟩ ?_ ?_
  ·skip
   refine ⟨fun a w vs167 hA hS hd => ?_, ?_⟩
   ·skip
    exact opG_of rfl (vv (op_loadA rfl ty_26 (hA.ev rfl) (hS.bk 4 rfl) (l := [rl, rs, (Value.int .i64 d.spread), v75]) rfl rfl) (And.intro rfl rfl))
   refine ⟨fun a w vs167 hA hS hd => ?_, ?_⟩
   ·skip
    obtain ⟨e0, rs0, hy0, hp0⟩ := hd 0 (by decide)
    obtain ⟨hv0, hr0⟩ := hy0; subst hr0
    rw [hv0] at e0
    exact opG_of rfl (vn (op_call rfl en_20 (ev1 (tmp_ev (slot_ev e0 rfl))) (Round_ok rl rs v75 (rlv.drop ((((y : Int)).tmod (d.tols.length : Int)).toNat) ++ rlv.take ((((y : Int)).tmod (d.tols.length : Int)).toNat)) (rotD d ((((y : Int)).tmod (d.tols.length : Int)).toNat)) _ (show RoundAt _ rl rs v75 (rlv.drop ((((y : Int)).tmod (d.tols.length : Int)).toNat) ++ rlv.take ((((y : Int)).tmod (d.tols.length : Int)).toNat)) (rotD d ((((y : Int)).tmod (d.tols.length : Int)).toNat)) from ⟨(rnd_at (hS.ok 6 _ rfl)).lots, (rnd_at (hS.ok 6 _ rfl)).samples, SlAt.of_row (hS.ok_row 3 rfl), rdsAt_rot (rnd_at (hS.ok 6 _ rfl)).rds (hlv0.trans hrl8.symm), (by simp only [rotD, List.length_append, List.length_drop, List.length_take, hlv0]), (by simp only [rotD, List.length_append, List.length_drop, List.length_take, hrl8])⟩) (valid_thin hVM))) (fun v w' h => by obtain ⟨vl, vs, vb, lv, rfl, hT⟩ := h; exact ⟨_, ⟨lv, rfl, rfl⟩, hT, rfl⟩))
   refine ⟨fun a w vs167 hA hS hd => ?_, ?_⟩
   ·skip
    exact opG_of rfl (vv (op_loadA rfl ty_26 (hA.ev rfl) (hS.bk 5 rfl) (l := [rl, rs, (Value.int .i64 d.spread), rb]) rfl rfl) (And.intro rfl rfl))
   refine ⟨fun a w vs167 hA hS hd => ?_, ?_⟩
   ·skip
    exact opG_of rfl (vv (op_move rfl (hA.ev rfl)) (And.intro rfl rfl))
   refine ⟨fun a w vs167 hA hS hd => ?_, ?_⟩
   ·skip
    obtain ⟨e2, rs2, hy2, hp2⟩ := hd 2 (by decide)
    obtain ⟨hv2, hr2⟩ := hy2; subst hr2
    rw [hv2] at e2
    obtain ⟨e3, rs3, hy3, hp3⟩ := hd 3 (by decide)
    obtain ⟨hv3, hr3⟩ := hy3; subst hr3
    rw [hv3] at e3
    exact opG_of rfl (vn (op_call rfl en_36 (ev2 (tmp_ev (slot_ev e2 rfl)) (tmp_ev (slot_ev e3 rfl))) (chosen_ok rl rs rb rlv d _ (rnd_at (hS.ok 6 _ rfl)) (otherF d.tols.length (((y : Int)).tmod (d.tols.length : Int)) x k : Nat) (by omega))) (fun v w' h => ⟨_, And.intro trivial rfl, (Sep.start NoB _).new_row h.1 h.2, rfl⟩))
   refine ⟨fun a w vs167 hA hS hd => ?_, ?_⟩
   ·skip
    obtain ⟨e1, rs1, hy1, hp1⟩ := hd 1 (by decide)
    obtain ⟨lv1_vs167, hv1, hr1⟩ := hy1; subst hr1
    rw [hv1] at e1
    have hp1_0 := hp1 _ (List.mem_of_getElem? (i := 0) rfl)
    obtain ⟨e4, rs4, hy4, hp4⟩ := hd 4 (by decide)
    obtain ⟨hv4, hr4⟩ := hy4; subst hr4
    have hp4_0 := hp4 _ (List.mem_of_getElem? (i := 0) rfl)
    exact opG_of rfl (vx (op_call rfl en_21 (ev2 (tmp_ev (slot_ev e1 rfl)) (tmp_ev (slot_ev e4 rfl))) (by have h := (explains_ok (comp (vs167 1) 0) (comp (vs167 1) 1) (comp (vs167 1) 3) lv1_vs167 (rotD d ((((y : Int)).tmod (d.tols.length : Int)).toNat)) _ (rnd_at hp1_0) _ (chosenF d.tols.length (otherF d.tols.length (((y : Int)).tmod (d.tols.length : Int)) x k : Nat)) (SlAt.of_row hp4_0) (by first | exact Nat.le_trans (chosenF_len _ _) (by omega) | omega)); rw [(show explainsF (rotD d ((((y : Int)).tmod (d.tols.length : Int)).toNat)) (chosenF d.tols.length (otherF d.tols.length (((y : Int)).tmod (d.tols.length : Int)) x k : Nat)) = (ba, 0) by rw [show k = d.tols.length by omega]; exact heM)] at h; exact h)) (And.intro rfl rfl))
   refine ⟨fun a w vs167 hA hS hd => ?_, ?_⟩
   ·skip
    obtain ⟨e5, rs5, hy5, hp5⟩ := hd 5 (by decide)
    obtain ⟨hv5, hr5⟩ := hy5; subst hr5
    rw [hv5] at e5
    exact opG_of rfl (vv (op_move rfl (tmp_ev (slot_ev e5 rfl))) (And.intro rfl rfl))
   refine ⟨fun a w vs167 hA hS hd => ?_, ?_⟩
   ·skip
    obtain ⟨e6, rs6, hy6, hp6⟩ := hd 6 (by decide)
    obtain ⟨hv6, hr6⟩ := hy6; subst hr6
    rw [hv6] at e6
    exact opG_of rfl (vv (op_extract rfl (tmp_ev (slot_ev e6 rfl)) rfl) (And.intro rfl rfl))
   refine ⟨fun a w vs167 hA hS hd => ?_, ?_⟩
   ·skip
    obtain ⟨e6, rs6, hy6, hp6⟩ := hd 6 (by decide)
    obtain ⟨hv6, hr6⟩ := hy6; subst hr6
    rw [hv6] at e6
    exact opG_of rfl (vv (op_extract rfl (tmp_ev (slot_ev e6 rfl)) rfl) (And.intro rfl rfl))
   refine ⟨fun a w vs167 hA hS hd => ?_, ?_⟩
   ·skip
    obtain ⟨e7, rs7, hy7, hp7⟩ := hd 7 (by decide)
    obtain ⟨hv7, hr7⟩ := hy7; subst hr7
    rw [hv7] at e7
    exact opG_of rfl (vv (op_assign rfl (tmp_ev (slot_ev e7 rfl))) (And.intro rfl rfl))
   trivial
  intro a168 w169 vs167 rsf173 hA170 hH172 hS171; clear hA166 hS161
  obtain ⟨hs_0, hy_0⟩ := hH172 0 (by decide)
  obtain ⟨hv_0, hr_0⟩ := hy_0
  obtain ⟨hs_1, hy_1⟩ := hH172 1 (by decide)
  obtain ⟨lv1_vs167, hv_1, hr_1⟩ := hy_1
  obtain ⟨hs_2, hy_2⟩ := hH172 2 (by decide)
  obtain ⟨hv_2, hr_2⟩ := hy_2
  obtain ⟨hs_3, hy_3⟩ := hH172 3 (by decide)
  obtain ⟨hv_3, hr_3⟩ := hy_3
  obtain ⟨hs_4, hy_4⟩ := hH172 4 (by decide)
  obtain ⟨hv_4, hr_4⟩ := hy_4
  obtain ⟨hs_5, hy_5⟩ := hH172 5 (by decide)
  obtain ⟨hv_5, hr_5⟩ := hy_5
  obtain ⟨hs_6, hy_6⟩ := hH172 6 (by decide)
  obtain ⟨hv_6, hr_6⟩ := hy_6
  obtain ⟨hs_7, hy_7⟩ := hH172 7 (by decide)
  obtain ⟨hv_7, hr_7⟩ := hy_7
  obtain ⟨hs_8, hy_8⟩ := hH172 8 (by decide)
  obtain ⟨hv_8, hr_8⟩ := hy_8
  obtain ⟨hs_9, hy_9⟩ := hH172 9 (by decide)
  obtain ⟨hv_9, hr_9⟩ := hy_9
  have hS174 : Sep NoB w w169 [(rndR true (comp (vs167 1) 0) (comp (vs167 1) 1) (comp (vs167 1) 3) lv1_vs167 (rotD d ((((y : Int)).tmod (d.tols.length : Int)).toNat))), (row (vs167 4) 3 1 ((chosenF d.tols.length (otherF d.tols.length (((y : Int)).tmod (d.tols.length : Int)) x k : Nat)).length) (ints (chosenF d.tols.length (otherF d.tols.length (((y : Int)).tmod (d.tols.length : Int)) x k : Nat)))), (rndR true (comp (vs154 1) 0) (comp (vs154 1) 1) (comp (vs154 1) 3) lv1_ d), (row (vs154 4) 3 1 ((chosenF d.tols.length x).length) (ints (chosenF d.tols.length x))), (blk b0_ 62 []), (row v75 62 2 ((rotD d ((((y : Int)).tmod (d.tols.length : Int)).toNat)).tols.length) (vpairs ((rotD d ((((y : Int)).tmod (d.tols.length : Int)).toNat)).tols.zip (rlv.drop ((((y : Int)).tmod (d.tols.length : Int)).toNat) ++ rlv.take ((((y : Int)).tmod (d.tols.length : Int)).toNat))))), (blk b55 26 [rl, rs, (Value.int .i64 d.spread), v75]), (blk b4 26 [rl, rs, (Value.int .i64 d.spread), rb]), (rndR false rl rs rb rlv d)] := by rw [show catR rsf173 0 10 = ([(rndR true (comp (vs167 1) 0) (comp (vs167 1) 1) (comp (vs167 1) 3) lv1_vs167 (rotD d ((((y : Int)).tmod (d.tols.length : Int)).toNat))), (row (vs167 4) 3 1 ((chosenF d.tols.length (otherF d.tols.length (((y : Int)).tmod (d.tols.length : Int)) x k : Nat)).length) (ints (chosenF d.tols.length (otherF d.tols.length (((y : Int)).tmod (d.tols.length : Int)) x k : Nat))))] : List Res) by (try simp only [catR, hr_0, hr_1, hr_2, hr_3, hr_4, hr_5, hr_6, hr_7, hr_8, hr_9]); (try rfl)] at hS171; exact hS171
  rw [hv_8] at hs_8
  have hA175 : Fr 173 [] [(94, (Value.int .i64 0)), (13, (Value.int .i64 0)), (12, (Value.bool ba)), (10, (Value.int .u8 ((otherF d.tols.length (((y : Int)).tmod (d.tols.length : Int)) x k : Nat) : Int))), (9, (bptr b55 0)), (8, (Value.int .i64 (((y : Int)).tmod (d.tols.length : Int)))), (7, (Value.int .i64 (d.tols.length : Int))), (3, (bptr b4 0))] a168 := hA170.add (slot_ev hs_8 rfl); clear hA170
  rw [hv_9] at hs_9
  have hA176 : Fr 173 [] [(14, (Value.bool ba)), (94, (Value.int .i64 0)), (13, (Value.int .i64 0)), (12, (Value.bool ba)), (10, (Value.int .u8 ((otherF d.tols.length (((y : Int)).tmod (d.tols.length : Int)) x k : Nat) : Int))), (9, (bptr b55 0)), (8, (Value.int .i64 (((y : Int)).tmod (d.tols.length : Int)))), (7, (Value.int .i64 (d.tols.length : Int))), (3, (bptr b4 0))] a168 := hA175.add (slot_ev hs_9 rfl); clear hA175
  clear hH172 hS171 hs_0 hs_1 hs_2 hs_3 hs_4 hs_5 hs_6 hs_7 hs_8 hs_9
  clear hr_0
  clear hv_0
  clear hr_1
  clear hv_1
  clear hr_2
  clear hv_2
  clear hr_3
  clear hv_3
  clear hr_4
  clear hv_4
  clear hr_5
  clear hv_5
  clear hr_6
  clear hv_6
  clear hr_7
  clear hv_7
  clear hr_8
  clear hv_8
  clear hr_9
  clear hv_9
  refine st hA176 (op_assign rfl (hA176.ev rfl)) rfl rfl (by decide) fun a177 hA178 => ?_; clear hA176 a168
  refine wl_nil ?_
  refine then_n ?_
  refine c_seq ?_
  refine c_region ?_
  refine st hA178 (op_loadA rfl ty_26 (hA178.ev rfl) (hS174.bk 7 rfl) (l := [rl, rs, (Value.int .i64 d.spread), rb]) rfl rfl) rfl rfl (by decide) fun a179 hA180 => ?_; clear hA178 a177
  refine stw hA180 (op_call rfl en_20 (ev1 (hA180.ev rfl)) (Round_ok rl rs rb rlv d _ (rnd_at (hS174.ok 8 _ rfl)) hth)) rfl rfl (by decide) ?_
  rintro a181 _ w183 ⟨vl184, vs185, vb186, lv187, rfl, hT188⟩ hA182; have hS189 := hS174.callS hT188 rfl; clear hT188 hA180 hS174 a179
  refine stw hA182 (op_call rfl en_38 (ev1 (hA182.ev rfl)) (by have h := (conv_fn vl184 vs185 vb186 lv187 d _ (rnd_at (hS189.ok 0 _ rfl))); rw [hcv] at h; exact h)) rfl rfl (by decide) ?_
  rintro a190 _ w192 ⟨u196, rfl, hE193, hO194⟩ hA191; clear hA182 a181
  have hS195 : Sep NoB w w192 [(row u196 3 1 C.length (ints C)), (rndR true vl184 vs185 vb186 lv187 d), (rndR true (comp (vs167 1) 0) (comp (vs167 1) 1) (comp (vs167 1) 3) lv1_vs167 (rotD d ((((y : Int)).tmod (d.tols.length : Int)).toNat))), (row (vs167 4) 3 1 ((chosenF d.tols.length (otherF d.tols.length (((y : Int)).tmod (d.tols.length : Int)) x k : Nat)).length) (ints (chosenF d.tols.length (otherF d.tols.length (((y : Int)).tmod (d.tols.length : Int)) x k : Nat)))), (rndR true (comp (vs154 1) 0) (comp (vs154 1) 1) (comp (vs154 1) 3) lv1_ d), (row (vs154 4) 3 1 ((chosenF d.tols.length x).length) (ints (chosenF d.tols.length x))), (blk b0_ 62 []), (row v75 62 2 ((rotD d ((((y : Int)).tmod (d.tols.length : Int)).toNat)).tols.length) (vpairs ((rotD d ((((y : Int)).tmod (d.tols.length : Int)).toNat)).tols.zip (rlv.drop ((((y : Int)).tmod (d.tols.length : Int)).toNat) ++ rlv.take ((((y : Int)).tmod (d.tols.length : Int)).toNat))))), (blk b55 26 [rl, rs, (Value.int .i64 d.spread), v75]), (blk b4 26 [rl, rs, (Value.int .i64 d.spread), rb]), (rndR false rl rs rb rlv d)] := hS189.new_row hE193 hO194; clear hE193 hO194 hS189
  refine st hA191 (op_move rfl (hA191.ev rfl)) rfl rfl (by decide) fun a197 hA198 => ?_; clear hA191 a190
  refine st hA198 (op_extract rfl (hA198.ev rfl) rfl) rfl rfl (by decide) fun a199 hA200 => ?_; clear hA198 a197
  refine st hA200 (op_extract rfl (hA200.ev rfl) rfl) rfl rfl (by decide) fun a201 hA202 => ?_; clear hA200 a199
  refine st hA202 (op_assign rfl (hA202.ev rfl)) rfl rfl (by decide) fun a203 hA204 => ?_; clear hA202 a201
  refine st hA204 (op_assign rfl (hA204.ev rfl)) rfl rfl (by decide) fun a205 hA206 => ?_; clear hA204 a203
  refine wl_nil ?_
  refine then_n ?_
  refine c_seq ?_
  have hA207 := hA206.as [(17, (Value.int .i64 cc)), (16, u196), (15, (Value.int .i64 0)), (14, (Value.bool ba)), (13, (Value.int .i64 0)), (12, (Value.bool ba)), (9, (bptr b55 0)), (8, (Value.int .i64 (((y : Int)).tmod (d.tols.length : Int)))), (7, (Value.int .i64 (d.tols.length : Int))), (3, (bptr b4 0))] rfl; clear hA206
  refine c_region ?_
  refine st hA207 (op_loadA rfl ty_26 (hA207.ev rfl) (hS195.bk 8 rfl) (l := [rl, rs, (Value.int .i64 d.spread), v75]) rfl rfl) rfl rfl (by decide) fun a208 hA209 => ?_; clear hA207 a205
  refine stw hA209 (op_call rfl en_20 (ev1 (hA209.ev rfl)) (Round_ok rl rs v75 (rlv.drop ((((y : Int)).tmod (d.tols.length : Int)).toNat) ++ rlv.take ((((y : Int)).tmod (d.tols.length : Int)).toNat)) (rotD d ((((y : Int)).tmod (d.tols.length : Int)).toNat)) _ (show RoundAt _ rl rs v75 (rlv.drop ((((y : Int)).tmod (d.tols.length : Int)).toNat) ++ rlv.take ((((y : Int)).tmod (d.tols.length : Int)).toNat)) (rotD d ((((y : Int)).tmod (d.tols.length : Int)).toNat)) from ⟨(rnd_at (hS195.ok 10 _ rfl)).lots, (rnd_at (hS195.ok 10 _ rfl)).samples, SlAt.of_row (hS195.ok_row 7 rfl), rdsAt_rot (rnd_at (hS195.ok 10 _ rfl)).rds (hlv0.trans hrl8.symm), (by simp only [rotD, List.length_append, List.length_drop, List.length_take, hlv0]), (by simp only [rotD, List.length_append, List.length_drop, List.length_take, hrl8])⟩) (valid_thin hVM))) rfl rfl (by decide) ?_
  rintro a210 _ w212 ⟨vl213, vs214, vb215, lv216, rfl, hT217⟩ hA211; have hS218 := hS195.callS hT217 rfl; clear hT217 hA209 hS195 a208
  refine stw hA211 (op_call rfl en_38 (ev1 (hA211.ev rfl)) (by have h := (conv_fn vl213 vs214 vb215 lv216 (rotD d ((((y : Int)).tmod (d.tols.length : Int)).toNat)) _ (rnd_at (hS218.ok 0 _ rfl))); rw [hcvM] at h; exact h)) rfl rfl (by decide) ?_
  rintro a219 _ w221 ⟨u225, rfl, hE222, hO223⟩ hA220; clear hA211 a210
  have hS224 : Sep NoB w w221 [(row u225 3 1 CM.length (ints CM)), (rndR true vl213 vs214 vb215 lv216 (rotD d ((((y : Int)).tmod (d.tols.length : Int)).toNat))), (row u196 3 1 C.length (ints C)), (rndR true vl184 vs185 vb186 lv187 d), (rndR true (comp (vs167 1) 0) (comp (vs167 1) 1) (comp (vs167 1) 3) lv1_vs167 (rotD d ((((y : Int)).tmod (d.tols.length : Int)).toNat))), (row (vs167 4) 3 1 ((chosenF d.tols.length (otherF d.tols.length (((y : Int)).tmod (d.tols.length : Int)) x k : Nat)).length) (ints (chosenF d.tols.length (otherF d.tols.length (((y : Int)).tmod (d.tols.length : Int)) x k : Nat)))), (rndR true (comp (vs154 1) 0) (comp (vs154 1) 1) (comp (vs154 1) 3) lv1_ d), (row (vs154 4) 3 1 ((chosenF d.tols.length x).length) (ints (chosenF d.tols.length x))), (blk b0_ 62 []), (row v75 62 2 ((rotD d ((((y : Int)).tmod (d.tols.length : Int)).toNat)).tols.length) (vpairs ((rotD d ((((y : Int)).tmod (d.tols.length : Int)).toNat)).tols.zip (rlv.drop ((((y : Int)).tmod (d.tols.length : Int)).toNat) ++ rlv.take ((((y : Int)).tmod (d.tols.length : Int)).toNat))))), (blk b55 26 [rl, rs, (Value.int .i64 d.spread), v75]), (blk b4 26 [rl, rs, (Value.int .i64 d.spread), rb]), (rndR false rl rs rb rlv d)] := hS218.new_row hE222 hO223; clear hE222 hO223 hS218
  refine st hA220 (op_move rfl (hA220.ev rfl)) rfl rfl (by decide) fun a226 hA227 => ?_; clear hA220 a219
  refine st hA227 (op_extract rfl (hA227.ev rfl) rfl) rfl rfl (by decide) fun a228 hA229 => ?_; clear hA227 a226
  refine st hA229 (op_extract rfl (hA229.ev rfl) rfl) rfl rfl (by decide) fun a230 hA231 => ?_; clear hA229 a228
  refine st hA231 (op_assign rfl (hA231.ev rfl)) rfl rfl (by decide) fun a232 hA233 => ?_; clear hA231 a230
  refine st hA233 (op_assign rfl (hA233.ev rfl)) rfl rfl (by decide) fun a234 hA235 => ?_; clear hA233 a232
  refine wl_nil ?_
  refine then_n ?_
  refine c_seq ?_
  refine c_seq ?_
  have hA236 := hA235.as [(19, (Value.int .i64 cc)), (18, u225), (17, (Value.int .i64 cc)), (16, u196), (15, (Value.int .i64 0)), (14, (Value.bool ba)), (13, (Value.int .i64 0)), (12, (Value.bool ba)), (9, (bptr b55 0)), (8, (Value.int .i64 (((y : Int)).tmod (d.tols.length : Int)))), (7, (Value.int .i64 (d.tols.length : Int))), (3, (bptr b4 0))] rfl; clear hA235
  refine c_region ?_
  refine st hA236 (op_move rfl (hA236.ev rfl)) rfl rfl (by decide) fun a237 hA238 => ?_; clear hA236 a234
  refine st hA238 (op_neq rfl (hA238.ev rfl) (evc _ _)) rfl rfl (by decide) fun a239 hA240 => ?_; clear hA238 a237
  refine st hA240 (op_move rfl (hA240.ev rfl)) rfl rfl (by decide) fun a241 hA242 => ?_; clear hA240 a239
  refine stg hA242 (op_move rfl (hA242.ev rfl)) rfl rfl rfl rfl (by decide) fun a243 hA244 => ?_; clear hA242 a241
  refine stg hA244 (op_neq rfl (hA244.ev rfl) (evc _ _)) rfl rfl rfl rfl (by decide) fun a245 hA246 => ?_; clear hA244 a243
  refine st hA246 (op_pick_f rfl (hA246.ev rfl) (hA246.ev rfl)) rfl rfl (by decide) fun a247 hA248 => ?_; clear hA246 a245
  refine st hA248 (op_move rfl (hA248.ev rfl)) rfl rfl (by decide) fun a249 hA250 => ?_; clear hA248 a247
  refine stg hA250 (op_move rfl (hA250.ev rfl)) rfl rfl rfl rfl (by decide) fun a251 hA252 => ?_; clear hA250 a249
  refine stg hA252 (op_move rfl (hA252.ev rfl)) rfl rfl rfl rfl (by decide) fun a253 hA254 => ?_; clear hA252 a251
  refine stg hA254 (op_neqB un_4 rfl (hA254.ev rfl) (hA254.ev rfl)) rfl rfl rfl rfl (by decide) fun a255 hA256 => ?_; clear hA254 a253
  refine st hA256 (op_pick_f rfl (hA256.ev rfl) (hA256.ev rfl)) rfl rfl (by decide) fun a257 hA258 => ?_; clear hA256 a255
  refine st hA258 (op_move rfl (hA258.ev rfl)) rfl rfl (by decide) fun a259 hA260 => ?_; clear hA258 a257
  rcases Bool.eq_false_or_eq_true (ba) with hb261 | hb261
  ·skip
   rw [hb261] at hA260
   refine stg hA260 (op_move rfl (hA260.ev rfl)) rfl rfl rfl rfl (by decide) fun a262 hA263 => ?_; clear hA260 a259
   refine stg hA263 (op_move rfl (hA263.ev rfl)) rfl rfl rfl rfl (by decide) fun a264 hA265 => ?_; clear hA263 a262
   refine stg hA265 (op_neq rfl (hA265.ev rfl) (hA265.ev rfl)) rfl rfl rfl rfl (by decide) fun a266 hA267 => ?_; clear hA265 a264
   have hd268 : cc = cc := rfl
   rw [decide_eq_true hd268] at hA267
   refine st hA267 (op_pick_f rfl (hA267.ev rfl) (hA267.ev rfl)) rfl rfl (by decide) fun a269 hA270 => ?_; clear hA267 a266
   refine st hA270 (op_move rfl (hA270.ev rfl)) rfl rfl (by decide) fun a271 hA272 => ?_; clear hA270 a269
   refine stg hA272 (op_move rfl (hA272.ev rfl)) rfl rfl rfl rfl (by decide) fun a273 hA274 => ?_; clear hA272 a271
   refine stg hA274 (op_lenS rfl un_23 (hA274.ev rfl) (SlAt.of_row (hS224.ok_row 2 rfl))) rfl rfl rfl rfl (by decide) fun a275 hA276 => ?_; clear hA274 a273
   refine stg hA276 (op_move rfl (hA276.ev rfl)) rfl rfl rfl rfl (by decide) fun a277 hA278 => ?_; clear hA276 a275
   refine stg hA278 (op_lenS rfl un_23 (hA278.ev rfl) (SlAt.of_row (hS224.ok_row 0 rfl))) rfl rfl rfl rfl (by decide) fun a279 hA280 => ?_; clear hA278 a277
   refine stg hA280 (op_neq rfl (hA280.ev rfl) (hA280.ev rfl)) rfl rfl rfl rfl (by decide) fun a281 hA282 => ?_; clear hA280 a279
   have hd283 : (C.length : Int) = (CM.length : Int) := (by omega)
   rw [decide_eq_true hd283] at hA282
   refine st hA282 (op_pick_f rfl (hA282.ev rfl) (hA282.ev rfl)) rfl rfl (by decide) fun a284 hA285 => ?_; clear hA282 a281
   refine wl_nil ?_
   refine then_n ?_
   refine c_false hA285 rfl ?_
   refine c_skip ?_
   refine then_n ?_
   refine c_seq ?_
   refine c_seq ?_
   have hA286 := hA285.as [(18, u225), (16, u196), (9, (bptr b55 0)), (8, (Value.int .i64 (((y : Int)).tmod (d.tols.length : Int)))), (7, (Value.int .i64 (d.tols.length : Int))), (3, (bptr b4 0))] rfl; clear hA285
   refine c_region ?_
   refine st hA286 (op_assign rfl (evc _ _)) rfl rfl (by decide) fun a287 hA288 => ?_; clear hA286 a284
   refine wl_nil ?_
   refine then_n ?_
   refine c_block ?_
   have hA289 := hA288.as [(20, (Value.int .i64 0)), (18, u225), (16, u196), (9, (bptr b55 0)), (8, (Value.int .i64 (((y : Int)).tmod (d.tols.length : Int)))), (7, (Value.int .i64 (d.tols.length : Int))), (3, (bptr b4 0))] rfl; clear hA288
   refine c_loop (G := Nat) (fun (i5 : Nat) a_ w_ => Fr 173 [] [(20, (Value.int .i64 (i5 : Int))), (18, u225), (16, u196), (9, (bptr b55 0)), (8, (Value.int .i64 (((y : Int)).tmod (d.tols.length : Int)))), (7, (Value.int .i64 (d.tols.length : Int))), (3, (bptr b4 0))] a_ ∧ Sep NoB w w_ [(row u225 3 1 CM.length (ints CM)), (rndR true vl213 vs214 vb215 lv216 (rotD d ((((y : Int)).tmod (d.tols.length : Int)).toNat))), (row u196 3 1 C.length (ints C)), (rndR true vl184 vs185 vb186 lv187 d), (rndR true (comp (vs167 1) 0) (comp (vs167 1) 1) (comp (vs167 1) 3) lv1_vs167 (rotD d ((((y : Int)).tmod (d.tols.length : Int)).toNat))), (row (vs167 4) 3 1 ((chosenF d.tols.length (otherF d.tols.length (((y : Int)).tmod (d.tols.length : Int)) x k : Nat)).length) (ints (chosenF d.tols.length (otherF d.tols.length (((y : Int)).tmod (d.tols.length : Int)) x k : Nat)))), (rndR true (comp (vs154 1) 0) (comp (vs154 1) 1) (comp (vs154 1) 3) lv1_ d), (row (vs154 4) 3 1 ((chosenF d.tols.length x).length) (ints (chosenF d.tols.length x))), (blk b0_ 62 []), (row v75 62 2 ((rotD d ((((y : Int)).tmod (d.tols.length : Int)).toNat)).tols.length) (vpairs ((rotD d ((((y : Int)).tmod (d.tols.length : Int)).toNat)).tols.zip (rlv.drop ((((y : Int)).tmod (d.tols.length : Int)).toNat) ++ rlv.take ((((y : Int)).tmod (d.tols.length : Int)).toNat))))), (blk b55 26 [rl, rs, (Value.int .i64 d.spread), v75]), (blk b4 26 [rl, rs, (Value.int .i64 d.spread), rb]), (rndR false rl rs rb rlv d)] ∧ (i5 ≤ C.length)) (fun i5 => C.length - i5) 0 ⟨hA289.as _ rfl, hS224, by omega⟩ ?_
   clear hA289 hS224 a287
   rintro i5 a290 w292 ⟨hA291, hS293, hki5⟩
   refine c_seq ?_
   refine c_seq ?_
   refine c_region ?_
   refine st hA291 (op_move rfl (hA291.ev rfl)) rfl rfl (by decide) fun a294 hA295 => ?_; clear hA291 a290
   refine st hA295 (op_move rfl (hA295.ev rfl)) rfl rfl (by decide) fun a296 hA297 => ?_; clear hA295 a294
   refine st hA297 (op_lenS rfl un_23 (hA297.ev rfl) (SlAt.of_row (hS293.ok_row 2 rfl))) rfl rfl (by decide) fun a298 hA299 => ?_; clear hA297 a296
   refine st hA299 (op_lss rfl (hA299.ev rfl) (hA299.ev rfl)) rfl rfl (by decide) fun a300 hA301 => ?_; clear hA299 a298
   refine wl_nil ?_
   refine then_n ?_
   by_cases hb302 : (i5 : Int) < (C.length : Int)
   ·skip
    rw [decide_eq_true hb302] at hA301
    have hci := hcb i5 (by omega)
    refine c_true hA301 rfl ?_
    refine c_skip ?_
    refine then_n ?_
    refine c_seq ?_
    refine c_block ?_
    refine c_seq ?_
    refine c_region ?_
    refine st hA301 (op_move rfl (hA301.ev rfl)) rfl rfl (by decide) fun a303 hA304 => ?_; clear hA301 a300
    refine st hA304 (op_move rfl (hA304.ev rfl)) rfl rfl (by decide) fun a305 hA306 => ?_; clear hA304 a303
    refine st hA306 (op_move rfl (hA306.ev rfl)) rfl rfl (by decide) fun a307 hA308 => ?_; clear hA306 a305
    refine st hA308 (op_indexS rfl un_23 ty_3 (hA308.ev rfl) (i := i5) (hA308.ev rfl) (SlAt.of_row (hS293.ok_row 2 rfl)) (by decide) (by omega)) rfl rfl (by decide) fun a309 hA310 => ?_; clear hA308 a307
    refine st hA310 (op_load1E rfl ty_3 (hA310.ev rfl) (SlAt.of_row (hS293.ok_row 2 rfl)) (ints_at (by omega))) rfl rfl (by decide) fun a311 hA312 => ?_; clear hA310 a309
    refine st hA312 (op_move rfl (hA312.ev rfl)) rfl rfl (by decide) fun a313 hA314 => ?_; clear hA312 a311
    refine st hA314 (op_add rfl (hA314.ev rfl) (hA314.ev rfl) (by omega) (by omega)) rfl rfl (by decide) fun a315 hA316 => ?_; clear hA314 a313
    refine st hA316 (op_move rfl (hA316.ev rfl)) rfl rfl (by decide) fun a317 hA318 => ?_; clear hA316 a315
    refine st hA318 (op_sub rfl (hA318.ev rfl) (hA318.ev rfl) (by omega) (by omega)) rfl rfl (by decide) fun a319 hA320 => ?_; clear hA318 a317
    refine st hA320 (op_move rfl (hA320.ev rfl)) rfl rfl (by decide) fun a321 hA322 => ?_; clear hA320 a319
    refine st hA322 (op_rem rfl (hA322.ev rfl) (hA322.ev rfl) (by omega)) rfl rfl (by decide) fun a323 hA324 => ?_; clear hA322 a321
    refine stw hA324 (op_call rfl en_39 (ev2 (hA324.ev rfl) (hA324.ev rfl)) (Has_ok _ CM (((((C.getD i5 0) + (d.tols.length : Int)) - (((y : Int)).tmod (d.tols.length : Int)))).tmod (d.tols.length : Int)) _ (SlAt.of_row (hS293.ok_row 0 rfl)) (by first | exact Nat.le_trans (chosenF_len _ _) (by omega) | omega))) rfl rfl (by decide) ?_
    rintro a325 _ w327 ⟨rfl, hE328⟩ hA326; have hS329 := hS293.step hE328; clear hE328 hA324 hS293 a323
    have hd330 : (hasB CM (((((C.getD i5 0) + (d.tols.length : Int)) - (((y : Int)).tmod (d.tols.length : Int)))).tmod (d.tols.length : Int))) = true := (hin i5 (by omega))
    rw [hd330] at hA326
    refine st hA326 (op_not rfl (hA326.ev rfl)) rfl rfl (by decide) fun a331 hA332 => ?_; clear hA326 a325
    refine wl_nil ?_
    refine then_n ?_
    refine c_false hA332 rfl ?_
    refine c_skip ?_
    refine blk_n ?_
    refine then_n ?_
    have hA333 := hA332.as [(20, (Value.int .i64 (i5 : Int))), (18, u225), (16, u196), (9, (bptr b55 0)), (8, (Value.int .i64 (((y : Int)).tmod (d.tols.length : Int)))), (7, (Value.int .i64 (d.tols.length : Int))), (3, (bptr b4 0))] rfl; clear hA332
    refine c_region ?_
    refine st hA333 (op_move rfl (hA333.ev rfl)) rfl rfl (by decide) fun a334 hA335 => ?_; clear hA333 a331
    refine st hA335 (op_add rfl (hA335.ev rfl) (evc _ _) (by omega) (by omega)) rfl rfl (by decide) fun a336 hA337 => ?_; clear hA335 a334
    refine st hA337 (op_assign rfl (hA337.ev rfl)) rfl rfl (by decide) fun a338 hA339 => ?_; clear hA337 a336
    refine wl_nil ?_
    exact then_n ⟨i5 + 1, ⟨hA339.as _ rfl, hS329, by omega⟩, by omega⟩
   ·skip
    rw [decide_eq_false hb302] at hA301
    refine c_false hA301 rfl ?_
    refine c_exit ?_
    refine then_exit ?_
    refine then_exit ?_
    refine blk_hit ?_
    refine then_n ?_
    refine c_seq ?_
    have hA340 := hA301.as [(9, (bptr b55 0)), (8, (Value.int .i64 (((y : Int)).tmod (d.tols.length : Int)))), (3, (bptr b4 0))] rfl; clear hA301
    refine c_region ?_
    refine st hA340 (op_loadA rfl ty_26 (hA340.ev rfl) (hS293.bk 11 rfl) (l := [rl, rs, (Value.int .i64 d.spread), rb]) rfl rfl) rfl rfl (by decide) fun a341 hA342 => ?_; clear hA340 a300
    refine stw hA342 (op_call rfl en_20 (ev1 (hA342.ev rfl)) (Round_ok rl rs rb rlv d _ (rnd_at (hS293.ok 12 _ rfl)) hth)) rfl rfl (by decide) ?_
    rintro a343 _ w345 ⟨vl346, vs347, vb348, lv349, rfl, hT350⟩ hA344; have hS351 := hS293.callS hT350 rfl; clear hT350 hA342 hS293 a341
    refine st hA344 (op_move rfl (hA344.ev rfl)) rfl rfl (by decide) fun a352 hA353 => ?_; clear hA344 a343
    refine stw hA353 (op_call rfl en_32 (ev2 (hA353.ev rfl) (hA353.ev rfl)) (by have h := (shifts_fn vl346 vs347 vb348 lv349 d _ (rnd_at (hS351.ok 0 _ rfl)) (((y : Int)).tmod (d.tols.length : Int))); rw [hz] at h; exact h)) rfl rfl (by decide) ?_
    rintro a354 _ w356 ⟨rfl, hE357⟩ hA355; have hS358 := hS351.step hE357; clear hE357 hA353 hS351 a352
    refine st hA355 (op_move rfl (hA355.ev rfl)) rfl rfl (by decide) fun a359 hA360 => ?_; clear hA355 a354
    refine st hA360 (op_extract rfl (hA360.ev rfl) rfl) rfl rfl (by decide) fun a361 hA362 => ?_; clear hA360 a359
    refine st hA362 (op_extract rfl (hA362.ev rfl) rfl) rfl rfl (by decide) fun a363 hA364 => ?_; clear hA362 a361
    refine stw hA364 (op_alloc hS358 rfl ze_46 (cs := [(Value.int .i64 0), (Value.int .i64 0)]) rfl) rfl rfl (by decide) ?_
    rintro a365 _ w367 ⟨b368, rfl, hS369⟩ hA366; clear hA364 hS358 a363
    refine sts hA366 (op_store hS369 rfl ty_46 (hA366.ev rfl) (hA366.ev rfl) (i := 0) rfl (vs := [(Value.int .i64 a), (Value.int .i64 b)]) rfl rfl rfl (Nat.le_of_ble_eq_true rfl)) rfl rfl ?_
    intro _ w370 hS371 hA372; clear hA366
    have hS373 : Sep NoB w w370 [(blk b368 46 [(Value.int .i64 a), (Value.int .i64 b)]), (rndR true vl346 vs347 vb348 lv349 d), (row u225 3 1 CM.length (ints CM)), (rndR true vl213 vs214 vb215 lv216 (rotD d ((((y : Int)).tmod (d.tols.length : Int)).toNat))), (row u196 3 1 C.length (ints C)), (rndR true vl184 vs185 vb186 lv187 d), (rndR true (comp (vs167 1) 0) (comp (vs167 1) 1) (comp (vs167 1) 3) lv1_vs167 (rotD d ((((y : Int)).tmod (d.tols.length : Int)).toNat))), (row (vs167 4) 3 1 ((chosenF d.tols.length (otherF d.tols.length (((y : Int)).tmod (d.tols.length : Int)) x k : Nat)).length) (ints (chosenF d.tols.length (otherF d.tols.length (((y : Int)).tmod (d.tols.length : Int)) x k : Nat)))), (rndR true (comp (vs154 1) 0) (comp (vs154 1) 1) (comp (vs154 1) 3) lv1_ d), (row (vs154 4) 3 1 ((chosenF d.tols.length x).length) (ints (chosenF d.tols.length x))), (blk b0_ 62 []), (row v75 62 2 ((rotD d ((((y : Int)).tmod (d.tols.length : Int)).toNat)).tols.length) (vpairs ((rotD d ((((y : Int)).tmod (d.tols.length : Int)).toNat)).tols.zip (rlv.drop ((((y : Int)).tmod (d.tols.length : Int)).toNat) ++ rlv.take ((((y : Int)).tmod (d.tols.length : Int)).toNat))))), (blk b55 26 [rl, rs, (Value.int .i64 d.spread), v75]), (blk b4 26 [rl, rs, (Value.int .i64 d.spread), rb]), (rndR false rl rs rb rlv d)] := hS371; clear hS371 hS369
    refine st hA372 (op_assign rfl (hA372.ev rfl)) rfl rfl (by decide) fun a374 hA375 => ?_; clear hA372 a365
    refine wl_nil ?_
    refine then_n ?_
    refine c_seq ?_
    have hA376 := hA375.as [(22, (Value.int .i64 c2)), (21, (bptr b368 0)), (9, (bptr b55 0))] rfl; clear hA375
    refine c_region ?_
    refine st hA376 (op_loadA rfl ty_26 (hA376.ev rfl) (hS373.bk 12 rfl) (l := [rl, rs, (Value.int .i64 d.spread), v75]) rfl rfl) rfl rfl (by decide) fun a377 hA378 => ?_; clear hA376 a374
    refine stw hA378 (op_call rfl en_20 (ev1 (hA378.ev rfl)) (Round_ok rl rs v75 (rlv.drop ((((y : Int)).tmod (d.tols.length : Int)).toNat) ++ rlv.take ((((y : Int)).tmod (d.tols.length : Int)).toNat)) (rotD d ((((y : Int)).tmod (d.tols.length : Int)).toNat)) _ (show RoundAt _ rl rs v75 (rlv.drop ((((y : Int)).tmod (d.tols.length : Int)).toNat) ++ rlv.take ((((y : Int)).tmod (d.tols.length : Int)).toNat)) (rotD d ((((y : Int)).tmod (d.tols.length : Int)).toNat)) from ⟨(rnd_at (hS373.ok 14 _ rfl)).lots, (rnd_at (hS373.ok 14 _ rfl)).samples, SlAt.of_row (hS373.ok_row 11 rfl), rdsAt_rot (rnd_at (hS373.ok 14 _ rfl)).rds (hlv0.trans hrl8.symm), (by simp only [rotD, List.length_append, List.length_drop, List.length_take, hlv0]), (by simp only [rotD, List.length_append, List.length_drop, List.length_take, hrl8])⟩) (valid_thin hVM))) rfl rfl (by decide) ?_
    rintro a379 _ w381 ⟨vl382, vs383, vb384, lv385, rfl, hT386⟩ hA380; have hS387 := hS373.callS hT386 rfl; clear hT386 hA378 hS373 a377
    refine stw hA380 (op_call rfl en_32 (ev2 (hA380.ev rfl) (evc _ _)) (by have h := (shifts_fn vl382 vs383 vb384 lv385 (rotD d ((((y : Int)).tmod (d.tols.length : Int)).toNat)) _ (rnd_at (hS387.ok 0 _ rfl)) 0); rw [hzM] at h; exact h)) rfl rfl (by decide) ?_
    rintro a388 _ w390 ⟨rfl, hE391⟩ hA389; have hS392 := hS387.step hE391; clear hE391 hA380 hS387 a379
    refine st hA389 (op_move rfl (hA389.ev rfl)) rfl rfl (by decide) fun a393 hA394 => ?_; clear hA389 a388
    refine st hA394 (op_extract rfl (hA394.ev rfl) rfl) rfl rfl (by decide) fun a395 hA396 => ?_; clear hA394 a393
    refine st hA396 (op_extract rfl (hA396.ev rfl) rfl) rfl rfl (by decide) fun a397 hA398 => ?_; clear hA396 a395
    refine stw hA398 (op_alloc hS392 rfl ze_46 (cs := [(Value.int .i64 0), (Value.int .i64 0)]) rfl) rfl rfl (by decide) ?_
    rintro a399 _ w401 ⟨b402, rfl, hS403⟩ hA400; clear hA398 hS392 a397
    refine sts hA400 (op_store hS403 rfl ty_46 (hA400.ev rfl) (hA400.ev rfl) (i := 0) rfl (vs := [(Value.int .i64 a), (Value.int .i64 b)]) rfl rfl rfl (Nat.le_of_ble_eq_true rfl)) rfl rfl ?_
    intro _ w404 hS405 hA406; clear hA400
    have hS407 : Sep NoB w w404 [(blk b402 46 [(Value.int .i64 a), (Value.int .i64 b)]), (rndR true vl382 vs383 vb384 lv385 (rotD d ((((y : Int)).tmod (d.tols.length : Int)).toNat))), (blk b368 46 [(Value.int .i64 a), (Value.int .i64 b)]), (rndR true vl346 vs347 vb348 lv349 d), (row u225 3 1 CM.length (ints CM)), (rndR true vl213 vs214 vb215 lv216 (rotD d ((((y : Int)).tmod (d.tols.length : Int)).toNat))), (row u196 3 1 C.length (ints C)), (rndR true vl184 vs185 vb186 lv187 d), (rndR true (comp (vs167 1) 0) (comp (vs167 1) 1) (comp (vs167 1) 3) lv1_vs167 (rotD d ((((y : Int)).tmod (d.tols.length : Int)).toNat))), (row (vs167 4) 3 1 ((chosenF d.tols.length (otherF d.tols.length (((y : Int)).tmod (d.tols.length : Int)) x k : Nat)).length) (ints (chosenF d.tols.length (otherF d.tols.length (((y : Int)).tmod (d.tols.length : Int)) x k : Nat)))), (rndR true (comp (vs154 1) 0) (comp (vs154 1) 1) (comp (vs154 1) 3) lv1_ d), (row (vs154 4) 3 1 ((chosenF d.tols.length x).length) (ints (chosenF d.tols.length x))), (blk b0_ 62 []), (row v75 62 2 ((rotD d ((((y : Int)).tmod (d.tols.length : Int)).toNat)).tols.length) (vpairs ((rotD d ((((y : Int)).tmod (d.tols.length : Int)).toNat)).tols.zip (rlv.drop ((((y : Int)).tmod (d.tols.length : Int)).toNat) ++ rlv.take ((((y : Int)).tmod (d.tols.length : Int)).toNat))))), (blk b55 26 [rl, rs, (Value.int .i64 d.spread), v75]), (blk b4 26 [rl, rs, (Value.int .i64 d.spread), rb]), (rndR false rl rs rb rlv d)] := hS405; clear hS405 hS403
    refine st hA406 (op_assign rfl (hA406.ev rfl)) rfl rfl (by decide) fun a408 hA409 => ?_; clear hA406 a399
    refine wl_nil ?_
    refine then_n ?_
    refine c_seq ?_
    have hA410 := hA409.as [(24, (Value.int .i64 c2)), (23, (bptr b402 0)), (22, (Value.int .i64 c2)), (21, (bptr b368 0))] rfl; clear hA409
    refine c_region ?_
    refine st hA410 (op_move rfl (hA410.ev rfl)) rfl rfl (by decide) fun a411 hA412 => ?_; clear hA410 a408
    refine st hA412 (op_move rfl (hA412.ev rfl)) rfl rfl (by decide) fun a413 hA414 => ?_; clear hA412 a411
    refine st hA414 (op_eql rfl (hA414.ev rfl) (hA414.ev rfl)) rfl rfl (by decide) fun a415 hA416 => ?_; clear hA414 a413
    have hd417 : c2 = c2 := rfl
    rw [decide_eq_true hd417] at hA416
    refine st hA416 (op_move rfl (hA416.ev rfl)) rfl rfl (by decide) fun a418 hA419 => ?_; clear hA416 a415
    refine stg hA419 (op_loadA rfl ty_46 (hA419.ev rfl) (hS407.bk 2 rfl) (l := [(Value.int .i64 a), (Value.int .i64 b)]) rfl rfl) rfl rfl rfl rfl (by decide) fun a420 hA421 => ?_; clear hA419 a418
    refine stg hA421 (op_loadA rfl ty_46 (hA421.ev rfl) (hS407.bk 0 rfl) (l := [(Value.int .i64 a), (Value.int .i64 b)]) rfl rfl) rfl rfl rfl rfl (by decide) fun a422 hA423 => ?_; clear hA421 a420
    refine stg hA423 (op_eqlP tw_46 rfl (hA423.ev rfl) (hA423.ev rfl)) rfl rfl rfl rfl (by decide) fun a424 hA425 => ?_; clear hA423 a422
    have hd426 : (decide ((a : Int) = a) && decide ((b : Int) = b)) = true := by simp only [decide_true, Bool.and_self]
    rw [hd426] at hA425
    have hq427 := hd426; simp only [Bool.and_eq_true, Bool.and_eq_false_iff, decide_eq_true_eq, decide_eq_false_iff_not] at hq427
    refine st hA425 (op_pick_t rfl (hA425.ev rfl) (hA425.ev rfl)) rfl rfl (by decide) fun a428 hA429 => ?_; clear hA425 a424
    refine st hA429 (op_move rfl (hA429.ev rfl)) rfl rfl (by decide) fun a430 hA431 => ?_; clear hA429 a428
    refine stwg hA431 (op_call rfl en_18 ev0 (wakes_ok _)) rfl rfl rfl rfl (by decide) ?_
    rintro a432 _ w434 ⟨rfl, hE435⟩ hA433; have hS436 := hS407.step hE435; clear hE435 hA431 hS407 a430
    refine st hA433 (op_pick_t rfl (hA433.ev rfl) (hA433.ev rfl)) rfl rfl (by decide) fun a437 hA438 => ?_; clear hA433 a432
    refine st hA438 (op_assign rfl (hA438.ev rfl)) rfl rfl (by decide) fun a439 hA440 => ?_; clear hA438 a437
    refine wl_nil ?_
    refine then_n ?_
    refine c_ret ?_
    refine fin_run hA440 (.inl rfl) (run_results1 hA440 rfl (.tmp rfl)) ?_
    exact ⟨rfl, hS436.ext⟩
  ·skip
   rw [hb261] at hA260
   refine stg hA260 (op_move rfl (hA260.ev rfl)) rfl rfl rfl rfl (by decide) fun a441 hA442 => ?_; clear hA260 a259
   refine stg hA442 (op_move rfl (hA442.ev rfl)) rfl rfl rfl rfl (by decide) fun a443 hA444 => ?_; clear hA442 a441
   refine stg hA444 (op_neq rfl (hA444.ev rfl) (hA444.ev rfl)) rfl rfl rfl rfl (by decide) fun a445 hA446 => ?_; clear hA444 a443
   have hd447 : cc = cc := rfl
   rw [decide_eq_true hd447] at hA446
   refine st hA446 (op_pick_f rfl (hA446.ev rfl) (hA446.ev rfl)) rfl rfl (by decide) fun a448 hA449 => ?_; clear hA446 a445
   refine st hA449 (op_move rfl (hA449.ev rfl)) rfl rfl (by decide) fun a450 hA451 => ?_; clear hA449 a448
   refine stg hA451 (op_move rfl (hA451.ev rfl)) rfl rfl rfl rfl (by decide) fun a452 hA453 => ?_; clear hA451 a450
   refine stg hA453 (op_lenS rfl un_23 (hA453.ev rfl) (SlAt.of_row (hS224.ok_row 2 rfl))) rfl rfl rfl rfl (by decide) fun a454 hA455 => ?_; clear hA453 a452
   refine stg hA455 (op_move rfl (hA455.ev rfl)) rfl rfl rfl rfl (by decide) fun a456 hA457 => ?_; clear hA455 a454
   refine stg hA457 (op_lenS rfl un_23 (hA457.ev rfl) (SlAt.of_row (hS224.ok_row 0 rfl))) rfl rfl rfl rfl (by decide) fun a458 hA459 => ?_; clear hA457 a456
   refine stg hA459 (op_neq rfl (hA459.ev rfl) (hA459.ev rfl)) rfl rfl rfl rfl (by decide) fun a460 hA461 => ?_; clear hA459 a458
   have hd462 : (C.length : Int) = (CM.length : Int) := (by omega)
   rw [decide_eq_true hd462] at hA461
   refine st hA461 (op_pick_f rfl (hA461.ev rfl) (hA461.ev rfl)) rfl rfl (by decide) fun a463 hA464 => ?_; clear hA461 a460
   refine wl_nil ?_
   refine then_n ?_
   refine c_false hA464 rfl ?_
   refine c_skip ?_
   refine then_n ?_
   refine c_seq ?_
   refine c_seq ?_
   have hA465 := hA464.as [(18, u225), (16, u196), (9, (bptr b55 0)), (8, (Value.int .i64 (((y : Int)).tmod (d.tols.length : Int)))), (7, (Value.int .i64 (d.tols.length : Int))), (3, (bptr b4 0))] rfl; clear hA464
   refine c_region ?_
   refine st hA465 (op_assign rfl (evc _ _)) rfl rfl (by decide) fun a466 hA467 => ?_; clear hA465 a463
   refine wl_nil ?_
   refine then_n ?_
   refine c_block ?_
   have hA468 := hA467.as [(20, (Value.int .i64 0)), (18, u225), (16, u196), (9, (bptr b55 0)), (8, (Value.int .i64 (((y : Int)).tmod (d.tols.length : Int)))), (7, (Value.int .i64 (d.tols.length : Int))), (3, (bptr b4 0))] rfl; clear hA467
   refine c_loop (G := Nat) (fun (i5 : Nat) a_ w_ => Fr 173 [] [(20, (Value.int .i64 (i5 : Int))), (18, u225), (16, u196), (9, (bptr b55 0)), (8, (Value.int .i64 (((y : Int)).tmod (d.tols.length : Int)))), (7, (Value.int .i64 (d.tols.length : Int))), (3, (bptr b4 0))] a_ ∧ Sep NoB w w_ [(row u225 3 1 CM.length (ints CM)), (rndR true vl213 vs214 vb215 lv216 (rotD d ((((y : Int)).tmod (d.tols.length : Int)).toNat))), (row u196 3 1 C.length (ints C)), (rndR true vl184 vs185 vb186 lv187 d), (rndR true (comp (vs167 1) 0) (comp (vs167 1) 1) (comp (vs167 1) 3) lv1_vs167 (rotD d ((((y : Int)).tmod (d.tols.length : Int)).toNat))), (row (vs167 4) 3 1 ((chosenF d.tols.length (otherF d.tols.length (((y : Int)).tmod (d.tols.length : Int)) x k : Nat)).length) (ints (chosenF d.tols.length (otherF d.tols.length (((y : Int)).tmod (d.tols.length : Int)) x k : Nat)))), (rndR true (comp (vs154 1) 0) (comp (vs154 1) 1) (comp (vs154 1) 3) lv1_ d), (row (vs154 4) 3 1 ((chosenF d.tols.length x).length) (ints (chosenF d.tols.length x))), (blk b0_ 62 []), (row v75 62 2 ((rotD d ((((y : Int)).tmod (d.tols.length : Int)).toNat)).tols.length) (vpairs ((rotD d ((((y : Int)).tmod (d.tols.length : Int)).toNat)).tols.zip (rlv.drop ((((y : Int)).tmod (d.tols.length : Int)).toNat) ++ rlv.take ((((y : Int)).tmod (d.tols.length : Int)).toNat))))), (blk b55 26 [rl, rs, (Value.int .i64 d.spread), v75]), (blk b4 26 [rl, rs, (Value.int .i64 d.spread), rb]), (rndR false rl rs rb rlv d)] ∧ (i5 ≤ C.length)) (fun i5 => C.length - i5) 0 ⟨hA468.as _ rfl, hS224, by omega⟩ ?_
   clear hA468 hS224 a466
   rintro i5 a469 w471 ⟨hA470, hS472, hki5⟩
   refine c_seq ?_
   refine c_seq ?_
   refine c_region ?_
   refine st hA470 (op_move rfl (hA470.ev rfl)) rfl rfl (by decide) fun a473 hA474 => ?_; clear hA470 a469
   refine st hA474 (op_move rfl (hA474.ev rfl)) rfl rfl (by decide) fun a475 hA476 => ?_; clear hA474 a473
   refine st hA476 (op_lenS rfl un_23 (hA476.ev rfl) (SlAt.of_row (hS472.ok_row 2 rfl))) rfl rfl (by decide) fun a477 hA478 => ?_; clear hA476 a475
   refine st hA478 (op_lss rfl (hA478.ev rfl) (hA478.ev rfl)) rfl rfl (by decide) fun a479 hA480 => ?_; clear hA478 a477
   refine wl_nil ?_
   refine then_n ?_
   by_cases hb481 : (i5 : Int) < (C.length : Int)
   ·skip
    rw [decide_eq_true hb481] at hA480
    have hci := hcb i5 (by omega)
    refine c_true hA480 rfl ?_
    refine c_skip ?_
    refine then_n ?_
    refine c_seq ?_
    refine c_block ?_
    refine c_seq ?_
    refine c_region ?_
    refine st hA480 (op_move rfl (hA480.ev rfl)) rfl rfl (by decide) fun a482 hA483 => ?_; clear hA480 a479
    refine st hA483 (op_move rfl (hA483.ev rfl)) rfl rfl (by decide) fun a484 hA485 => ?_; clear hA483 a482
    refine st hA485 (op_move rfl (hA485.ev rfl)) rfl rfl (by decide) fun a486 hA487 => ?_; clear hA485 a484
    refine st hA487 (op_indexS rfl un_23 ty_3 (hA487.ev rfl) (i := i5) (hA487.ev rfl) (SlAt.of_row (hS472.ok_row 2 rfl)) (by decide) (by omega)) rfl rfl (by decide) fun a488 hA489 => ?_; clear hA487 a486
    refine st hA489 (op_load1E rfl ty_3 (hA489.ev rfl) (SlAt.of_row (hS472.ok_row 2 rfl)) (ints_at (by omega))) rfl rfl (by decide) fun a490 hA491 => ?_; clear hA489 a488
    refine st hA491 (op_move rfl (hA491.ev rfl)) rfl rfl (by decide) fun a492 hA493 => ?_; clear hA491 a490
    refine st hA493 (op_add rfl (hA493.ev rfl) (hA493.ev rfl) (by omega) (by omega)) rfl rfl (by decide) fun a494 hA495 => ?_; clear hA493 a492
    refine st hA495 (op_move rfl (hA495.ev rfl)) rfl rfl (by decide) fun a496 hA497 => ?_; clear hA495 a494
    refine st hA497 (op_sub rfl (hA497.ev rfl) (hA497.ev rfl) (by omega) (by omega)) rfl rfl (by decide) fun a498 hA499 => ?_; clear hA497 a496
    refine st hA499 (op_move rfl (hA499.ev rfl)) rfl rfl (by decide) fun a500 hA501 => ?_; clear hA499 a498
    refine st hA501 (op_rem rfl (hA501.ev rfl) (hA501.ev rfl) (by omega)) rfl rfl (by decide) fun a502 hA503 => ?_; clear hA501 a500
    refine stw hA503 (op_call rfl en_39 (ev2 (hA503.ev rfl) (hA503.ev rfl)) (Has_ok _ CM (((((C.getD i5 0) + (d.tols.length : Int)) - (((y : Int)).tmod (d.tols.length : Int)))).tmod (d.tols.length : Int)) _ (SlAt.of_row (hS472.ok_row 0 rfl)) (by first | exact Nat.le_trans (chosenF_len _ _) (by omega) | omega))) rfl rfl (by decide) ?_
    rintro a504 _ w506 ⟨rfl, hE507⟩ hA505; have hS508 := hS472.step hE507; clear hE507 hA503 hS472 a502
    have hd509 : (hasB CM (((((C.getD i5 0) + (d.tols.length : Int)) - (((y : Int)).tmod (d.tols.length : Int)))).tmod (d.tols.length : Int))) = true := (hin i5 (by omega))
    rw [hd509] at hA505
    refine st hA505 (op_not rfl (hA505.ev rfl)) rfl rfl (by decide) fun a510 hA511 => ?_; clear hA505 a504
    refine wl_nil ?_
    refine then_n ?_
    refine c_false hA511 rfl ?_
    refine c_skip ?_
    refine blk_n ?_
    refine then_n ?_
    have hA512 := hA511.as [(20, (Value.int .i64 (i5 : Int))), (18, u225), (16, u196), (9, (bptr b55 0)), (8, (Value.int .i64 (((y : Int)).tmod (d.tols.length : Int)))), (7, (Value.int .i64 (d.tols.length : Int))), (3, (bptr b4 0))] rfl; clear hA511
    refine c_region ?_
    refine st hA512 (op_move rfl (hA512.ev rfl)) rfl rfl (by decide) fun a513 hA514 => ?_; clear hA512 a510
    refine st hA514 (op_add rfl (hA514.ev rfl) (evc _ _) (by omega) (by omega)) rfl rfl (by decide) fun a515 hA516 => ?_; clear hA514 a513
    refine st hA516 (op_assign rfl (hA516.ev rfl)) rfl rfl (by decide) fun a517 hA518 => ?_; clear hA516 a515
    refine wl_nil ?_
    exact then_n ⟨i5 + 1, ⟨hA518.as _ rfl, hS508, by omega⟩, by omega⟩
   ·skip
    rw [decide_eq_false hb481] at hA480
    refine c_false hA480 rfl ?_
    refine c_exit ?_
    refine then_exit ?_
    refine then_exit ?_
    refine blk_hit ?_
    refine then_n ?_
    refine c_seq ?_
    have hA519 := hA480.as [(9, (bptr b55 0)), (8, (Value.int .i64 (((y : Int)).tmod (d.tols.length : Int)))), (3, (bptr b4 0))] rfl; clear hA480
    refine c_region ?_
    refine st hA519 (op_loadA rfl ty_26 (hA519.ev rfl) (hS472.bk 11 rfl) (l := [rl, rs, (Value.int .i64 d.spread), rb]) rfl rfl) rfl rfl (by decide) fun a520 hA521 => ?_; clear hA519 a479
    refine stw hA521 (op_call rfl en_20 (ev1 (hA521.ev rfl)) (Round_ok rl rs rb rlv d _ (rnd_at (hS472.ok 12 _ rfl)) hth)) rfl rfl (by decide) ?_
    rintro a522 _ w524 ⟨vl525, vs526, vb527, lv528, rfl, hT529⟩ hA523; have hS530 := hS472.callS hT529 rfl; clear hT529 hA521 hS472 a520
    refine st hA523 (op_move rfl (hA523.ev rfl)) rfl rfl (by decide) fun a531 hA532 => ?_; clear hA523 a522
    refine stw hA532 (op_call rfl en_32 (ev2 (hA532.ev rfl) (hA532.ev rfl)) (by have h := (shifts_fn vl525 vs526 vb527 lv528 d _ (rnd_at (hS530.ok 0 _ rfl)) (((y : Int)).tmod (d.tols.length : Int))); rw [hz] at h; exact h)) rfl rfl (by decide) ?_
    rintro a533 _ w535 ⟨rfl, hE536⟩ hA534; have hS537 := hS530.step hE536; clear hE536 hA532 hS530 a531
    refine st hA534 (op_move rfl (hA534.ev rfl)) rfl rfl (by decide) fun a538 hA539 => ?_; clear hA534 a533
    refine st hA539 (op_extract rfl (hA539.ev rfl) rfl) rfl rfl (by decide) fun a540 hA541 => ?_; clear hA539 a538
    refine st hA541 (op_extract rfl (hA541.ev rfl) rfl) rfl rfl (by decide) fun a542 hA543 => ?_; clear hA541 a540
    refine stw hA543 (op_alloc hS537 rfl ze_46 (cs := [(Value.int .i64 0), (Value.int .i64 0)]) rfl) rfl rfl (by decide) ?_
    rintro a544 _ w546 ⟨b547, rfl, hS548⟩ hA545; clear hA543 hS537 a542
    refine sts hA545 (op_store hS548 rfl ty_46 (hA545.ev rfl) (hA545.ev rfl) (i := 0) rfl (vs := [(Value.int .i64 a), (Value.int .i64 b)]) rfl rfl rfl (Nat.le_of_ble_eq_true rfl)) rfl rfl ?_
    intro _ w549 hS550 hA551; clear hA545
    have hS552 : Sep NoB w w549 [(blk b547 46 [(Value.int .i64 a), (Value.int .i64 b)]), (rndR true vl525 vs526 vb527 lv528 d), (row u225 3 1 CM.length (ints CM)), (rndR true vl213 vs214 vb215 lv216 (rotD d ((((y : Int)).tmod (d.tols.length : Int)).toNat))), (row u196 3 1 C.length (ints C)), (rndR true vl184 vs185 vb186 lv187 d), (rndR true (comp (vs167 1) 0) (comp (vs167 1) 1) (comp (vs167 1) 3) lv1_vs167 (rotD d ((((y : Int)).tmod (d.tols.length : Int)).toNat))), (row (vs167 4) 3 1 ((chosenF d.tols.length (otherF d.tols.length (((y : Int)).tmod (d.tols.length : Int)) x k : Nat)).length) (ints (chosenF d.tols.length (otherF d.tols.length (((y : Int)).tmod (d.tols.length : Int)) x k : Nat)))), (rndR true (comp (vs154 1) 0) (comp (vs154 1) 1) (comp (vs154 1) 3) lv1_ d), (row (vs154 4) 3 1 ((chosenF d.tols.length x).length) (ints (chosenF d.tols.length x))), (blk b0_ 62 []), (row v75 62 2 ((rotD d ((((y : Int)).tmod (d.tols.length : Int)).toNat)).tols.length) (vpairs ((rotD d ((((y : Int)).tmod (d.tols.length : Int)).toNat)).tols.zip (rlv.drop ((((y : Int)).tmod (d.tols.length : Int)).toNat) ++ rlv.take ((((y : Int)).tmod (d.tols.length : Int)).toNat))))), (blk b55 26 [rl, rs, (Value.int .i64 d.spread), v75]), (blk b4 26 [rl, rs, (Value.int .i64 d.spread), rb]), (rndR false rl rs rb rlv d)] := hS550; clear hS550 hS548
    refine st hA551 (op_assign rfl (hA551.ev rfl)) rfl rfl (by decide) fun a553 hA554 => ?_; clear hA551 a544
    refine wl_nil ?_
    refine then_n ?_
    refine c_seq ?_
    have hA555 := hA554.as [(22, (Value.int .i64 c2)), (21, (bptr b547 0)), (9, (bptr b55 0))] rfl; clear hA554
    refine c_region ?_
    refine st hA555 (op_loadA rfl ty_26 (hA555.ev rfl) (hS552.bk 12 rfl) (l := [rl, rs, (Value.int .i64 d.spread), v75]) rfl rfl) rfl rfl (by decide) fun a556 hA557 => ?_; clear hA555 a553
    refine stw hA557 (op_call rfl en_20 (ev1 (hA557.ev rfl)) (Round_ok rl rs v75 (rlv.drop ((((y : Int)).tmod (d.tols.length : Int)).toNat) ++ rlv.take ((((y : Int)).tmod (d.tols.length : Int)).toNat)) (rotD d ((((y : Int)).tmod (d.tols.length : Int)).toNat)) _ (show RoundAt _ rl rs v75 (rlv.drop ((((y : Int)).tmod (d.tols.length : Int)).toNat) ++ rlv.take ((((y : Int)).tmod (d.tols.length : Int)).toNat)) (rotD d ((((y : Int)).tmod (d.tols.length : Int)).toNat)) from ⟨(rnd_at (hS552.ok 14 _ rfl)).lots, (rnd_at (hS552.ok 14 _ rfl)).samples, SlAt.of_row (hS552.ok_row 11 rfl), rdsAt_rot (rnd_at (hS552.ok 14 _ rfl)).rds (hlv0.trans hrl8.symm), (by simp only [rotD, List.length_append, List.length_drop, List.length_take, hlv0]), (by simp only [rotD, List.length_append, List.length_drop, List.length_take, hrl8])⟩) (valid_thin hVM))) rfl rfl (by decide) ?_
    rintro a558 _ w560 ⟨vl561, vs562, vb563, lv564, rfl, hT565⟩ hA559; have hS566 := hS552.callS hT565 rfl; clear hT565 hA557 hS552 a556
    refine stw hA559 (op_call rfl en_32 (ev2 (hA559.ev rfl) (evc _ _)) (by have h := (shifts_fn vl561 vs562 vb563 lv564 (rotD d ((((y : Int)).tmod (d.tols.length : Int)).toNat)) _ (rnd_at (hS566.ok 0 _ rfl)) 0); rw [hzM] at h; exact h)) rfl rfl (by decide) ?_
    rintro a567 _ w569 ⟨rfl, hE570⟩ hA568; have hS571 := hS566.step hE570; clear hE570 hA559 hS566 a558
    refine st hA568 (op_move rfl (hA568.ev rfl)) rfl rfl (by decide) fun a572 hA573 => ?_; clear hA568 a567
    refine st hA573 (op_extract rfl (hA573.ev rfl) rfl) rfl rfl (by decide) fun a574 hA575 => ?_; clear hA573 a572
    refine st hA575 (op_extract rfl (hA575.ev rfl) rfl) rfl rfl (by decide) fun a576 hA577 => ?_; clear hA575 a574
    refine stw hA577 (op_alloc hS571 rfl ze_46 (cs := [(Value.int .i64 0), (Value.int .i64 0)]) rfl) rfl rfl (by decide) ?_
    rintro a578 _ w580 ⟨b581, rfl, hS582⟩ hA579; clear hA577 hS571 a576
    refine sts hA579 (op_store hS582 rfl ty_46 (hA579.ev rfl) (hA579.ev rfl) (i := 0) rfl (vs := [(Value.int .i64 a), (Value.int .i64 b)]) rfl rfl rfl (Nat.le_of_ble_eq_true rfl)) rfl rfl ?_
    intro _ w583 hS584 hA585; clear hA579
    have hS586 : Sep NoB w w583 [(blk b581 46 [(Value.int .i64 a), (Value.int .i64 b)]), (rndR true vl561 vs562 vb563 lv564 (rotD d ((((y : Int)).tmod (d.tols.length : Int)).toNat))), (blk b547 46 [(Value.int .i64 a), (Value.int .i64 b)]), (rndR true vl525 vs526 vb527 lv528 d), (row u225 3 1 CM.length (ints CM)), (rndR true vl213 vs214 vb215 lv216 (rotD d ((((y : Int)).tmod (d.tols.length : Int)).toNat))), (row u196 3 1 C.length (ints C)), (rndR true vl184 vs185 vb186 lv187 d), (rndR true (comp (vs167 1) 0) (comp (vs167 1) 1) (comp (vs167 1) 3) lv1_vs167 (rotD d ((((y : Int)).tmod (d.tols.length : Int)).toNat))), (row (vs167 4) 3 1 ((chosenF d.tols.length (otherF d.tols.length (((y : Int)).tmod (d.tols.length : Int)) x k : Nat)).length) (ints (chosenF d.tols.length (otherF d.tols.length (((y : Int)).tmod (d.tols.length : Int)) x k : Nat)))), (rndR true (comp (vs154 1) 0) (comp (vs154 1) 1) (comp (vs154 1) 3) lv1_ d), (row (vs154 4) 3 1 ((chosenF d.tols.length x).length) (ints (chosenF d.tols.length x))), (blk b0_ 62 []), (row v75 62 2 ((rotD d ((((y : Int)).tmod (d.tols.length : Int)).toNat)).tols.length) (vpairs ((rotD d ((((y : Int)).tmod (d.tols.length : Int)).toNat)).tols.zip (rlv.drop ((((y : Int)).tmod (d.tols.length : Int)).toNat) ++ rlv.take ((((y : Int)).tmod (d.tols.length : Int)).toNat))))), (blk b55 26 [rl, rs, (Value.int .i64 d.spread), v75]), (blk b4 26 [rl, rs, (Value.int .i64 d.spread), rb]), (rndR false rl rs rb rlv d)] := hS584; clear hS584 hS582
    refine st hA585 (op_assign rfl (hA585.ev rfl)) rfl rfl (by decide) fun a587 hA588 => ?_; clear hA585 a578
    refine wl_nil ?_
    refine then_n ?_
    refine c_seq ?_
    have hA589 := hA588.as [(24, (Value.int .i64 c2)), (23, (bptr b581 0)), (22, (Value.int .i64 c2)), (21, (bptr b547 0))] rfl; clear hA588
    refine c_region ?_
    refine st hA589 (op_move rfl (hA589.ev rfl)) rfl rfl (by decide) fun a590 hA591 => ?_; clear hA589 a587
    refine st hA591 (op_move rfl (hA591.ev rfl)) rfl rfl (by decide) fun a592 hA593 => ?_; clear hA591 a590
    refine st hA593 (op_eql rfl (hA593.ev rfl) (hA593.ev rfl)) rfl rfl (by decide) fun a594 hA595 => ?_; clear hA593 a592
    have hd596 : c2 = c2 := rfl
    rw [decide_eq_true hd596] at hA595
    refine st hA595 (op_move rfl (hA595.ev rfl)) rfl rfl (by decide) fun a597 hA598 => ?_; clear hA595 a594
    refine stg hA598 (op_loadA rfl ty_46 (hA598.ev rfl) (hS586.bk 2 rfl) (l := [(Value.int .i64 a), (Value.int .i64 b)]) rfl rfl) rfl rfl rfl rfl (by decide) fun a599 hA600 => ?_; clear hA598 a597
    refine stg hA600 (op_loadA rfl ty_46 (hA600.ev rfl) (hS586.bk 0 rfl) (l := [(Value.int .i64 a), (Value.int .i64 b)]) rfl rfl) rfl rfl rfl rfl (by decide) fun a601 hA602 => ?_; clear hA600 a599
    refine stg hA602 (op_eqlP tw_46 rfl (hA602.ev rfl) (hA602.ev rfl)) rfl rfl rfl rfl (by decide) fun a603 hA604 => ?_; clear hA602 a601
    have hd605 : (decide ((a : Int) = a) && decide ((b : Int) = b)) = true := by simp only [decide_true, Bool.and_self]
    rw [hd605] at hA604
    have hq606 := hd605; simp only [Bool.and_eq_true, Bool.and_eq_false_iff, decide_eq_true_eq, decide_eq_false_iff_not] at hq606
    refine st hA604 (op_pick_t rfl (hA604.ev rfl) (hA604.ev rfl)) rfl rfl (by decide) fun a607 hA608 => ?_; clear hA604 a603
    refine st hA608 (op_move rfl (hA608.ev rfl)) rfl rfl (by decide) fun a609 hA610 => ?_; clear hA608 a607
    refine stwg hA610 (op_call rfl en_18 ev0 (wakes_ok _)) rfl rfl rfl rfl (by decide) ?_
    rintro a611 _ w613 ⟨rfl, hE614⟩ hA612; have hS615 := hS586.step hE614; clear hE614 hA610 hS586 a609
    refine st hA612 (op_pick_t rfl (hA612.ev rfl) (hA612.ev rfl)) rfl rfl (by decide) fun a616 hA617 => ?_; clear hA612 a611
    refine st hA617 (op_assign rfl (hA617.ev rfl)) rfl rfl (by decide) fun a618 hA619 => ?_; clear hA617 a616
    refine wl_nil ?_
    refine then_n ?_
    refine c_ret ?_
    refine fin_run hA619 (.inl rfl) (run_results1 hA619 rfl (.tmp rfl)) ?_
    exact ⟨rfl, hS615.ext⟩

theorem RoundOrder_ok (rl rs rb : Value) (rlv : List Value) (d : RD) (w : World) (hR : RoundAt w rl rs rb rlv d) (n1 : Int) (h1 : 0 ≤ n1 ∧ n1 ≤ 255) (n2 : Int) (h2 : 0 ≤ n2 ∧ n2 ≤ 255) : Calls Try.prog 16 #[.agg #[rl, rs, .int .i64 d.spread, rb], .int .u8 n1, .int .u8 n2] w (Ret fun v w' => v = .bool true ∧ Ext NoB w w') := by
 obtain ⟨x, rfl⟩ : ∃ x : Nat, n1 = (x : Int) := ⟨n1.toNat, by omega⟩
 obtain ⟨y, rfl⟩ : ∃ y : Nat, n2 = (y : Int) := ⟨n2.toNat, by omega⟩
 rcases Bool.eq_false_or_eq_true (readyB d) with hf | hf
 ·rcases Nat.eq_zero_or_pos d.tols.length with hn0 | hn0
  ·exact RoundOrder_b rl rs rb rlv d w hR x (by omega) y (by omega) hf hn0
  ·have hc := (ready_of hf).2
   have hT := tmod_nn (a := (y : Int)) (by omega) (show (0 : Int) < (d.tols.length : Int) by omega)
   have e : ((((y : Int).tmod (d.tols.length : Int)).toNat : Nat) : Int) = (y : Int).tmod (d.tols.length : Int) := by omega
   obtain ⟨ba, C, CM, cc, a, b, c2, a1, a2, a3, a4, a5, a6, a7, a8, a9, a10, a11⟩ := order_all hc hR.rdl (t := ((y : Int).tmod (d.tols.length : Int)).toNat) (by omega) x
   rw [e] at a2 a9
   simp only [e] at a8
   exact RoundOrder_c rl rs rb rlv d w hR x (by omega) y (by omega) hf hn0 a11 ba C CM cc a b c2 a1 a2 a3 a4 a5 a6 a7 a8 a9 a10
 ·exact RoundOrder_a rl rs rb rlv d w hR x (by omega) y (by omega) hf

end Go.Proofs.Ytfhmigoddaaljaa
