/-
  The engine, part Y: appends onto an empty slice that was just built (its capacity is 0): always new memory, or nothing is done.
  The engine, part Z: drawn regions in which operations without effect may come before or after a store.
  The engine, part AA: slices of slices.
  The engine, part CC: an append onto a slice that is full and not the function's own; slices that are made.
  Rounds taken apart, lot by lot: plain.
  One more laboratory; rounds that are kinder; lists of the fewest, told by what they are: plain.
  The document's examples: plain.
-/
import Derived.Test.YtfhmigoddaaljaaEng
import Derived.Laws.Slices
import Derived.Laws.OwnMore
import Derived.Test.YtfhmigoddaaljaaPlain
import Derived.Test.YtfhmigoddaaljaaFd
set_option linter.unusedSimpArgs false
set_option linter.unusedVariables false
namespace Go.Eng

section
variable {r : Option Nat} {P : Program} {o : Oper} {a : Act} {w w0 : World} {X : Nat → Prop} {L : List Res} {y : List Res → Value → Prop}

theorem op_append0 {t e : TypeId} {s x : Operand} {z : Value} {sz bytes : Nat} {b : Addr} {vx : Value} {m : Nat} {news : List Value}
    (ho : o.op = .call { callee := .builtin .append, args := #[s, x], argTypes := #[t, t] }) (ht : P.underlying t = some (.slice e)) (he : elK P e = some (z, sz, bytes))
    (hs : a.eval s = .slice (some b) 0 0) (hx : a.eval x = vx) (hsrc : SlAt w vx sz m news) (h1 : news.all (·.oneCell') = true)
    (h63 : m ≤ maxLen) (hbytes : m * bytes ≤ 140737488355328) (hm : 0 < m) :
    OpY r P o a w (fun v' w' => Ext NoB w w' ∧ w'.ownsRow w.heap.size e sz v' m news) := by
  unfold elK at he
  cases hi0 : P.info? e with
  | none => simp [hi0] at he
  | some ti =>
    simp only [hi0] at he
    cases hz : ti.zero with
    | none => simp [hz] at he
    | some z' =>
      simp only [hz] at he
      split at he
      case isFalse => cases he
      rename_i hcond
      simp only [Option.some.injEq, Prod.mk.injEq] at he
      obtain ⟨rfl, rfl, rfl⟩ := he
      obtain ⟨hl, A, cap', rfl, hc1, hc2, h3⟩ := hsrc
      have hne : news ≠ [] := by
        rintro rfl
        have := Nat.mul_pos hm hcond.2; simp at hl; omega
      obtain ⟨ad, rfl, hcells⟩ := h3 hne
      have hnil : w.ownsRow w.heap.size e ti.size (.slice none 0 0) 0 [] := ⟨by simp, .inl ⟨rfl, rfl⟩⟩
      obtain ⟨v', w', hrun, h2, h4, _, h5⟩ := run_append_own_at (P := P) w w.heap.size t o.type e ti z' ti.size ti.bytes ht hi0 hz rfl rfl hcond.1 hcond.2 (.slice none 0 0) 0 [] hnil ad m cap' news hl hcells (fun u hu => List.all_eq_true.1 h1 u hu) (by omega) (by rw [Nat.zero_add]; exact hbytes) (Nat.le_refl _)
      refine opY_value (v := v') (w' := w') (by rw [ho]; rfl) ?_ ⟨(Ext.of_grownBy h4).mono (fun b hb => by cases hb), by rw [Nat.zero_add, List.nil_append] at h2; exact h2⟩
      have hgo : ∀ R W, (Builtin.append_ #[t, t] o.type #[.slice (some b) 0 0, .slice (some ad) m cap']).run P w = .ok R W → (execOp a.eval o).run P w = .ok (.value R) W := fun R W hr => by
        simp only [execOp, ho, resolve, invoke, builtin, Sem.run_bind, Sem.run_pure, Result.andThen_ok, List.map_toArray, List.map_cons, List.map_nil, hs, hx, hr]
      refine hgo _ _ ?_
      have r1 := run_append_grow (P := P) w t o.type e ti z' ht hi0 hz b 0 0 [] (by simp) (by simp) ad m cap' news hl hcells (by omega) (by simp only [maxLen] at h63; omega) (growslice_fits (by omega) (by rw [Nat.zero_add]; exact hbytes))
      have r2 := run_append_nil (P := P) w t o.type e ti z' ht hi0 hz ad m cap' news hl hcells hm (by simp only [maxLen] at h63; omega) (by omega)
      rw [r2] at hrun
      cases hrun
      rw [r1]; simp

/-- Nothing is appended. -/
theorem op_appendZ {t e : TypeId} {s x : Operand} {z : Value} {sz bytes : Nat} {b : Addr} {vx : Value} {m : Nat} {news : List Value}
    (ho : o.op = .call { callee := .builtin .append, args := #[s, x], argTypes := #[t, t] }) (ht : P.underlying t = some (.slice e)) (he : elK P e = some (z, sz, bytes))
    (hs : a.eval s = .slice (some b) 0 0) (hx : a.eval x = vx) (hsrc : SlAt w vx sz m news) (hm : m = 0) :
    OpY r P o a w (fun v' w' => v' = .slice (some b) 0 0 ∧ w' = w) := by
  unfold elK at he
  cases hi0 : P.info? e with
  | none => simp [hi0] at he
  | some ti =>
    obtain ⟨hl, A, cap', rfl, hc1, hc2, h3⟩ := hsrc
    subst hm
    refine opY_value (v := .slice (some b) 0 0) (w' := w) (by rw [ho]; rfl) ?_ ⟨rfl, rfl⟩
    simp only [execOp, ho, resolve, invoke, builtin, Sem.run_bind, Sem.run_pure, Result.andThen_ok, List.map_toArray, List.map_cons, List.map_nil, hs, hx]
    cases A <;> simp [Builtin.append_, run_underlying ht, sizeOf, typeInfo, hi0, Builtin.lenOf, Builtin.firstCells, storeCells, loadCells, loadCellsFrom]

theorem vblz {t e : TypeId} {sz : Nat} {g : Bool} {parts : Array (Nat × Operand)} {ps : Array (Nat × Value)} {z : Value}
    (ho : o.op = .buildSlice t 0 parts) (hp : (parts.map fun (i, x) => (i, a.eval x)) = ps) (ht : P.underlying t = some (.slice e)) (he : tyK P e = some (g, sz)) (hz : (P.info? e).bind (·.zero) = some z)
    (hf : Instr.fill (fun i => some (i * sz, sz)) ((Array.range (0 * sz)).map (z.cells[· % z.cells.size]!)) ps.toList = some ([] : List Value).toArray) (hy : ∀ b, y [blk b e []] (.slice (some ⟨b, 0, none⟩) 0 0)) :
    OpY r P o a w (fun v w'' => Ext NoB w w'' ∧ ∃ rs, y rs v ∧ Sep NoB w w'' rs ∧ rs.all (·.own) = true) :=
  vn (op_buildSlice (X := NoB) (w0 := w) (L := []) (Sep.start _ _) ho hp ht he hz (by omega) hf) fun v w' ⟨b, h1, h2⟩ => by
    subst h1
    exact ⟨_, hy b, h2, rfl⟩
theorem vap0 {e sz m : Nat} {news : List Value} (h : OpY r P o a w (fun v' w' => Ext NoB w w' ∧ w'.ownsRow w.heap.size e sz v' m news)) (hy : ∀ v, y [row v e sz m news] v) :
    OpY r P o a w (fun v w'' => Ext NoB w w'' ∧ ∃ rs, y rs v ∧ Sep NoB w w'' rs ∧ rs.all (·.own) = true) :=
  vn h fun v w' hv => ⟨_, hy v, (Sep.start NoB _).new_row hv.1 hv.2, rfl⟩
end
end Go.Eng

namespace Go.Eng
open Go.RowKit

section
variable {r : Option Nat} {P : Program} {Q : Exit → Act → World → Prop} {n : Nat} {ds : List Deferred} {m : List (Nat × Value)} {X : Nat → Prop} {w0 : World} {L : List Res}

theorem v_step1 {l : List Oper} {h : Nat} {dl : List (List Nat)} {Y : List YV}
    (hdst : ∀ x, x < h → ∀ x_1, x_1 < h → (decide (x_1 = x) || match (l.toArray[x_1]?).bind (·.dst), (l.toArray[x]?).bind (·.dst) with | some d, some e => decide (d ≠ e) | _, _ => true) = true)
    (hok2 : ∀ x, x < h → ∀ x_1 ∈ dl.getD x [], x_1 < x ∧ (beforeOf l.toArray 12 (bindsOn l.toArray x)).contains x_1 = true) (hfree : freeOf l.toArray h (m.map (·.1)) = true) (hn : (List.range h).all (fun j => match (l.toArray[j]?).bind (·.dst) with | some d => decide (d < n) | none => true) = true)
    (hdep : AllDep dl Y)
    {j : Nat} {o : Oper} (hob : ∀ a w' vs, Fr n ds m a → Sep X w0 w' L → (∀ i ∈ dl.getD j [], SlotIs l.toArray a i (vs i) ∧ ∃ rs, yat Y i vs (vs i) rs ∧ ∀ s ∈ rs, s.p w') → OpG r P l.toArray o a w' (fun v w'' => Ext NoB w' w'' ∧ ∃ rs, yat Y j vs v rs ∧ Sep NoB w' w'' rs ∧ rs.all (·.own) = true))
    (ho : l[j]? = some o) (hj : j < h) {done : Nat → Bool} {a : Act} {w' : World} (hj0 : done j = false) (hcl : ∀ i, done i = true → ∀ k ∈ bindsOn l.toArray i, done k = true) (hjb : ∀ i ∈ bindsOn l.toArray j, done i = true) (hI : VInv l h n ds m X w0 L Y done a w') :
    OpG r P l.toArray o a w' (fun v w'' => VInv l h n ds m X w0 L Y (fun i => done i || (i == j)) (a.put o.dst v) w'') := by
  obtain ⟨hA, vs, rsf, hdone, hnot, hSep⟩ := hI
  have hoj : (l.toArray)[j]? = some o := by simpa using ho
  have hdj : ∀ i ∈ dl.getD j [], i < h ∧ done i = true := fun i hi => by
    have h1 := hok2 j hj i hi
    exact ⟨by omega, before_done hcl 12 _ hjb i (by simpa using h1.2)⟩
  refine opG_mono (hob a w' vs hA hSep.right (fun i hi => ?_)) (fun v w'' hv => ?_)
  · obtain ⟨h1, h2⟩ := hdj i hi
    obtain ⟨h3, h4⟩ := hdone i h1 h2
    exact ⟨h3, rsf i, h4, fun s hs => hSep.mem (List.mem_append_left _ (catR_mem rsf h 0 i (Nat.zero_le _) (by omega) s hs))⟩
  · obtain ⟨hext, rs, hy, hnew, hown⟩ := hv
    have hslot : ∀ i, i < h → i ≠ j → ∀ u, SlotIs l.toArray a i u → SlotIs l.toArray (a.put o.dst v) i u := fun i hi hij u hs => by
      unfold SlotIs at hs ⊢
      have hdd := hdst i hi j hj
      cases hdi : ((l.toArray)[i]?).bind (·.dst) with
      | none => trivial
      | some di =>
        rw [hdi] at hs
        cases hdj' : o.dst with
        | none => exact hs
        | some dj =>
          have hjd : ((l.toArray)[j]?).bind (·.dst) = some dj := by rw [hoj]; exact hdj'
          rw [hdi, hjd] at hdd
          simp only [Bool.or_eq_true, decide_eq_true_eq] at hdd
          have hne : dj ≠ di := fun e' => (hdd.resolve_left (fun e2 => hij e2.symm)) e'
          simp only [Act.put]
          rw [Array.getElem?_setIfInBounds_ne hne]; exact hs
    refine ⟨?_, upd vs j v, upd rsf j rs, fun i hi hdi => ?_, fun i hdi => ?_, ?_⟩
    · cases hd : o.dst with
      | none => exact hA.put_none v
      | some d =>
        have hf := List.all_eq_true.1 hfree j (List.mem_range.2 hj)
        have hjd : ((l.toArray)[j]?).bind (·.dst) = some d := by rw [hoj]; exact hd
        rw [hjd] at hf
        have hdn := List.all_eq_true.1 hn j (List.mem_range.2 hj)
        rw [hjd] at hdn
        refine (hA.put (by simpa using hdn) v).mono (fun i u hi => ?_)
        have : i ≠ d := by
          rintro rfl
          have := lookup_mem m hi
          simp [this] at hf
        have hb : (i == d) = false := by simpa using this
        simp only [List.lookup, hb]; exact hi
    · by_cases e : i = j
      · subst e
        rw [upd_same, upd_same]
        refine ⟨?_, yat_dep hdep (fun k hk => ?_) hy⟩
        · unfold SlotIs
          rw [hoj]
          cases hd : o.dst with
          | none => simp [hd]
          | some d =>
            simp only [Option.bind_some, hd]
            have hdn := List.all_eq_true.1 hn i (List.mem_range.2 hj)
            rw [hoj] at hdn
            simp only [Option.bind_some, hd, decide_eq_true_eq] at hdn
            simp only [Act.put]
            rw [Array.getElem?_setIfInBounds_self_of_lt (by rw [hA.1]; exact hdn)]
        · have := (hdj k hk).2
          rw [upd_ne _ _ (by rintro rfl; rw [hj0] at this; cases this)]
      · have hdi' : done i = true := by
          simp only [Bool.or_eq_true, beq_iff_eq] at hdi
          exact hdi.resolve_right e
        obtain ⟨h3, h4⟩ := hdone i hi hdi'
        rw [upd_ne _ _ e, upd_ne _ _ e]
        refine ⟨hslot i hi e _ h3, yat_dep hdep (fun k hk => ?_) h4⟩
        have hk1 := hok2 i hi k hk
        have := before_done hcl 12 _ (hcl i hdi') k (by simpa using hk1.2)
        rw [upd_ne _ _ (by rintro rfl; rw [hj0] at this; cases this)]
    · simp only [Bool.or_eq_false_iff, beq_eq_false_iff_ne, ne_eq] at hdi
      rw [upd_ne _ _ hdi.2]; exact hnot i hdi.1
    · have h1 := hSep.callS hnew hown
      refine h1.perm ?_
      rw [← List.append_assoc]
      exact (catR_upd rsf j rs (hnot j hj0) h 0 (Nat.zero_le _) (by omega)).append_right L


/-- The store s waits for all that stands before it, but for those of F. -/
def floatsOk (ops : Array Oper) (s : Nat) (F : List Nat) : Bool := (List.range s).all fun i => F.contains i || (beforeOf ops 12 (bindsOn ops s)).contains i

theorem c_drawS {id : Nat} {l : List Oper} {a : Act} {w : World} (hm : P.follows .mixedOrders = true) (hA : Fr n ds m a) (hS : Sep X w0 w L) (s : Nat) (F : List Nat) {os : Oper} (hos : l[s]? = some os) (hod : os.dst = none) (dl : List (List Nat)) (Y : List YV) (L' : List Res)
    (hok : drawOk l.toArray (s + 1) (fun _ => []) = true) (hfl : floatsOk l.toArray s F = true) (hok2 : depsOk l.toArray s dl = true) (hfree : freeOf l.toArray s (m.map (·.1)) = true) (hn : (List.range s).all (fun j => match (l.toArray[j]?).bind (·.dst) with | some d => decide (d < n) | none => true) = true)
    (hdep : AllDep dl Y)
    (hop : AllOps (fun j o => ∀ a w' vs, Fr n ds m a → Sep X w0 w' L → (∀ i ∈ dl.getD j [], SlotIs l.toArray a i (vs i) ∧ ∃ rs, yat Y i vs (vs i) rs ∧ ∀ s ∈ rs, s.p w') → OpG r P l.toArray o a w' (fun v w'' => Ext NoB w' w'' ∧ ∃ rs, yat Y j vs v rs ∧ Sep NoB w' w'' rs ∧ rs.all (·.own) = true)) 0 s l)
    (hop2 : AllOps (fun j o => F.contains j = true → ∀ a w' vs, Fr n ds m a → Sep X w0 w' L' → (∀ i ∈ dl.getD j [], SlotIs l.toArray a i (vs i) ∧ ∃ rs, yat Y i vs (vs i) rs ∧ ∀ s ∈ rs, s.p w') → OpG r P l.toArray o a w' (fun v w'' => Ext NoB w' w'' ∧ ∃ rs, yat Y j vs v rs ∧ Sep NoB w' w'' rs ∧ rs.all (·.own) = true)) 0 s l)
    (hFz : ∀ j, F.contains j = true → ∀ vs v rs, yat Y j vs v rs → rs = [])
    (hst : ∀ a w' vs rsf, Fr n ds m a → (∀ i, i < s → F.contains i = false → SlotIs l.toArray a i (vs i) ∧ yat Y i vs (vs i) (rsf i)) → (∀ i, i < s → F.contains i = true → rsf i = []) → Sep X w0 w' (catR rsf 0 s ++ L) → OpG r P l.toArray os a w' (fun _ w'' => Sep X w0 w'' (catR rsf 0 s ++ L')))
    (htail : ∀ a w' vs rsf, Fr n ds m a → (∀ i, i < s → SlotIs l.toArray a i (vs i) ∧ yat Y i vs (vs i) (rsf i)) → Sep X w0 w' (catR rsf 0 s ++ L') → WL r P l.toArray Q (l.drop (s + 1)) a w') :
    WC r P (.region id l.toArray true) Q a w := by
  have hok' := hok
  simp only [drawOk, Bool.and_eq_true, List.all_eq_true, List.mem_range, decide_eq_true_eq] at hok'
  obtain ⟨⟨⟨⟨hback, _⟩, htl⟩, hdst⟩, hh⟩ := hok'
  simp only [depsOk, List.all_eq_true, List.mem_range, Bool.and_eq_true, decide_eq_true_eq] at hok2
  simp only [floatsOk, List.all_eq_true, List.mem_range, Bool.or_eq_true] at hfl
  have hsa : (l.toArray)[s]? = some os := by simpa using hos
  refine c_drawK hm (s + 1) (fun _ => []) hok (fun done a w' => if done s = true then VInv l s n ds m X w0 L' Y done a w' else VInv l s n ds m X w0 L Y done a w') (fun w' he _ => ?_) (fun j o ho hj done a w' hj0 hcl hjb hI K hK => ?_) (fun done a w' hall hI => ?_)
  · rw [if_neg (by simp)]
    refine ⟨hA, fun _ => undef, fun _ => [], (fun i _ hi => by cases hi), fun _ _ => rfl, ?_⟩
    have : ∀ (h k : Nat), catR (fun _ => []) k h = [] := by
      intro h
      induction h with
      | zero => intro k; rfl
      | succ h ih => intro k; show [] ++ catR _ (k + 1) h = []; rw [ih]; rfl
    rw [this]; exact hS.step he
  · by_cases hs : done s = true
    · rw [if_pos hs] at hI
      have hjs : j < s := by
        rcases Nat.lt_or_ge j s with h1 | h1
        · exact h1
        · rw [show j = s by omega, hs] at hj0; cases hj0
      have hjF : F.contains j = true := by
        rcases hfl j hjs with h1 | h1
        · exact h1
        · have := before_done hcl 12 _ (hcl s hs) j (by simpa using h1)
          rw [this] at hj0; cases hj0
      have hoj : (l.toArray)[j]? = some o := by simpa using ho
      have hob := allOps_at s 0 l hop2 j o ho hjs
      rw [Nat.zero_add] at hob
      refine opG_wp hoj (v_step1 (fun x hx y hy => hdst x (by omega) y (by omega)) hok2 hfree hn hdep (hob hjF) ho hjs hj0 hcl hjb hI) (fun v w'' h => hK _ _ ?_)
      rw [if_pos (by simp only [hs, Bool.true_or])]
      exact h
    · rw [if_neg hs] at hI
      rcases Nat.lt_or_ge j s with h1 | h1
      · have hoj : (l.toArray)[j]? = some o := by simpa using ho
        have hob := allOps_at s 0 l hop j o ho h1
        rw [Nat.zero_add] at hob
        refine opG_wp hoj (v_step1 (fun x hx y hy => hdst x (by omega) y (by omega)) hok2 hfree hn hdep hob ho h1 hj0 hcl hjb hI) (fun v w'' h => hK _ _ ?_)
        rw [if_neg]
        · exact h
        · simp only [Bool.or_eq_true, beq_iff_eq, not_or]; exact ⟨hs, by omega⟩
      · obtain rfl : j = s := by omega
        have heo : o = os := by rw [hos] at ho; exact (Option.some.inj ho).symm
        subst heo
        have hall : ∀ i, i < j → F.contains i = false → done i = true := fun i hi hne => before_done hcl 12 _ hjb i (by have := (hfl i hi).resolve_left (by rw [hne]; simp); simpa using this)
        obtain ⟨hA, vs, rsf, hdone, hnot, hSep⟩ := hI
        refine opG_wp hsa (hst a w' vs rsf hA (fun i hi hne => hdone i hi (hall i hi hne)) (fun i hi hF => by
          cases hd : done i with
          | true => exact hFz i hF _ _ _ (hdone i hi hd).2
          | false => exact hnot i hd) hSep) (fun v w'' h => hK _ _ ?_)
        rw [if_pos (by simp)]
        have hput : a.put o.dst v = a := by rw [hod]; rfl
        rw [hput]
        refine ⟨hA, vs, rsf, fun i hi hd => hdone i hi ?_, fun i hd => hnot i ?_, h⟩
        · simp only [Bool.or_eq_true, beq_iff_eq] at hd
          exact hd.resolve_right (by omega)
        · simp only [Bool.or_eq_false_iff] at hd
          exact hd.1
  · rw [if_pos (hall s (by omega))] at hI
    obtain ⟨hA, vs, rsf, hdone, _, hSep⟩ := hI
    exact htail a w' vs rsf hA (fun i hi => hdone i hi (hall i (by omega))) hSep
end

section
variable {r : Option Nat} {P : Program} {o : Oper} {a : Act} {w : World}
theorem op_nilCheckE {x : Operand} {v : Value} {j sz n : Nat} {cs : List Value} (ho : o.op = .nilCheck x) (hx : a.eval x = eptr v j) (hs : SlAt w v sz n cs) (hl : 0 < cs.length) : OpY r P o a w (fun v' w' => v' = eptr v j ∧ w' = w) := by
  obtain ⟨ad, c, rfl⟩ := hs.addr hl
  exact op_nilCheck ho hx
end
theorem pairs_set0 : ∀ {xs : List (Int × Int)} {i : Nat} {c : Int}, i < xs.length → setFrom (pairs xs) (i * 2 + 0) [.int .i64 c] = pairs (xs.set i (c, (xs.getD i (0, 0)).2))
  | x :: xs, 0, c, _ => by simp [setFrom, pairs_cons]
  | x :: xs, i + 1, c, h => by
    have := pairs_set0 (xs := xs) (i := i) (c := c) (by simpa using h)
    rw [setFrom_one, Nat.add_zero] at this ⊢
    rw [pairs_cons, show (i + 1) * 2 = i * 2 + 1 + 1 by omega, List.set_cons_succ, List.set_cons_succ, this, List.set_cons_succ, pairs_cons]
    simp
theorem pairs_set1 : ∀ {xs : List (Int × Int)} {i : Nat} {c : Int}, i < xs.length → setFrom (pairs xs) (i * 2 + 1) [.int .i64 c] = pairs (xs.set i ((xs.getD i (0, 0)).1, c))
  | x :: xs, 0, c, _ => by simp [setFrom, pairs_cons]
  | x :: xs, i + 1, c, h => by
    have := pairs_set1 (xs := xs) (i := i) (c := c) (by simpa using h)
    rw [setFrom_one] at this ⊢
    rw [pairs_cons, show (i + 1) * 2 + 1 = (i * 2 + 1) + 1 + 1 by omega, List.set_cons_succ, List.set_cons_succ, this, List.set_cons_succ, pairs_cons]
    simp
theorem labs_set0 : ∀ {T : List Int} {V : List Value} {i : Nat} {c : Int}, V.length = T.length → i < T.length → setFrom (vpairs (T.zip V)) (i * 2 + 0) [.int .i64 c] = vpairs ((T.set i c).zip V)
  | t :: T, v :: V, 0, c, _, _ => by simp [setFrom, vpairs_cons]
  | t :: T, v :: V, i + 1, c, hl, h => by
    have := labs_set0 (T := T) (V := V) (i := i) (c := c) (by simpa using hl) (by simpa using h)
    rw [setFrom_one, Nat.add_zero] at this ⊢
    rw [List.zip_cons_cons, vpairs_cons, show (i + 1) * 2 = i * 2 + 1 + 1 by omega, List.set_cons_succ, List.set_cons_succ, this, List.set_cons_succ, List.zip_cons_cons, vpairs_cons]
  | t :: T, [], i, c, hl, _ => by simp at hl
theorem labs_set1 : ∀ {T : List Int} {V : List Value} {i : Nat} {c : Value}, V.length = T.length → i < T.length → setFrom (vpairs (T.zip V)) (i * 2 + 1) [c] = vpairs (T.zip (V.set i c))
  | t :: T, v :: V, 0, c, _, _ => by simp [setFrom, vpairs_cons]
  | t :: T, v :: V, i + 1, c, hl, h => by
    have := labs_set1 (T := T) (V := V) (i := i) (c := c) (by simpa using hl) (by simpa using h)
    rw [setFrom_one] at this ⊢
    rw [List.zip_cons_cons, vpairs_cons, show (i + 1) * 2 + 1 = (i * 2 + 1) + 1 + 1 by omega, List.set_cons_succ, List.set_cons_succ, this, List.set_cons_succ, List.zip_cons_cons, vpairs_cons]
  | t :: T, [], i, c, hl, _ => by simp at hl
theorem vals_set {V : List Value} {i : Nat} {c : Value} (h : i < V.length) : (V.set i c).getD i nilS = c := by simp [List.getD, h]
end Go.Eng

namespace Go.Eng
open Go.RowKit

/-- v[l:h], of elements of sz cells. -/
def slcut (v : Value) (l h sz : Nat) : Value := match v with
  | .slice a _ c => sliced a l h c sz
  | _ => undef
/-- v[l:h:m]. -/
def slcut3 (v : Value) (l h m sz : Nat) : Value := match v with
  | .slice a _ _ => sliced a l h m sz
  | _ => undef

theorem SlAt.cutAt {w : World} {A : Option Addr} {sz n cap m l h : Nat} {cs : List Value} (hs : SlAt w (.slice A n cap) sz n cs) (h1 : l ≤ h) (h2 : h ≤ n) (h3 : h ≤ m) (h4 : m ≤ cap) : SlAt w (sliced A l h m sz) sz (h - l) ((cs.drop (l * sz)).take ((h - l) * sz)) := by
  obtain ⟨hl, A', cap', he, hc, hm, hc2⟩ := hs
  cases he
  have hln : (h - l) * sz ≤ n * sz - l * sz := by rw [← Nat.sub_mul]; exact Nat.mul_le_mul_right _ (by omega)
  refine ⟨by rw [List.length_take, List.length_drop, hl]; omega, _, m - l, rfl, by omega, by omega, fun hne => ?_⟩
  have hlt : l < h := by
    rcases Nat.lt_or_ge l h with h5 | h5
    · exact h5
    · exfalso; apply hne; rw [show h - l = 0 by omega, Nat.zero_mul, List.take_zero]
  rw [if_neg (by omega)]
  have hne2 : cs ≠ [] := by rintro rfl; simp at hne
  obtain ⟨ad, rfl, hcell⟩ := hc2 hne2
  refine ⟨_, rfl, fun j u hu => ?_⟩
  rw [addr_add_add]
  rw [List.getElem?_take] at hu
  split at hu
  · rw [List.getElem?_drop] at hu
    exact hcell _ _ hu
  · cases hu
theorem SlAt.cut {w : World} {v : Value} {sz n l h : Nat} {cs : List Value} (hs : SlAt w v sz n cs) (h1 : l ≤ h) (h2 : h ≤ n) : SlAt w (slcut v l h sz) sz (h - l) ((cs.drop (l * sz)).take ((h - l) * sz)) := by
  have hs0 := hs
  obtain ⟨hl, A, cap, rfl, hc, hm, hc2⟩ := hs
  exact hs0.cutAt h1 h2 (by omega) (Nat.le_refl _)
/-- The cells are told in other words. -/
theorem SlAt.say {w : World} {v : Value} {sz n n' : Nat} {cs cs' : List Value} (h : SlAt w v sz n cs) (hn : n = n') (hc : cs = cs') : SlAt w v sz n' cs' := by subst hn; subst hc; exact h

section
variable {r : Option Nat} {P : Program} {o : Oper} {a : Act} {w : World}
theorem elem_of {t e : TypeId} (ht : P.underlying t = some (.slice e)) : P.elem t = e := by simp [Program.elem, ht]
theorem op_sliceLo {t e : TypeId} {x lo : Operand} {v : Value} {g : Bool} {sz n l : Nat} {cs : List Value} {k : IntKind} (ho : o.op = .slice t x (some lo) none none) (ht : P.underlying t = some (.slice e)) (he : tyK P e = some (g, sz)) (hx : a.eval x = v) (hl : a.eval lo = .int k (l : Int)) (hs : SlAt w v sz n cs) (h : l ≤ n) :
    OpY r P o a w (fun v' w' => v' = slcut v l n sz ∧ w' = w) := by
  obtain ⟨_, A, cap, rfl, hc, hm, _⟩ := hs
  have he' := elem_of ht
  have ht' : P.underlying t = some (.slice (P.elem t)) := by rw [he']; exact ht
  refine opY_value (by rw [ho]; rfl) ?_ ⟨rfl, rfl⟩
  have h1 := run_slice_l (P := P) w t A n cap ht' k (l : Int) (by omega) (by omega)
  rw [he', run_sizeOf he] at h1
  simp only [execOp, ho, hx, hl, Option.map_some, Option.map_none, Sem.run_bind, run_sliceAt_slice w t _ _ _ _ ht', h1, Result.andThen_ok, Sem.run_pure, Int.toNat_natCast]
  rfl
theorem op_sliceHi {t e : TypeId} {x hi : Operand} {v : Value} {g : Bool} {sz n h : Nat} {cs : List Value} {k : IntKind} (ho : o.op = .slice t x none (some hi) none) (ht : P.underlying t = some (.slice e)) (he : tyK P e = some (g, sz)) (hx : a.eval x = v) (hh : a.eval hi = .int k (h : Int)) (hs : SlAt w v sz n cs) (hn : h ≤ n) :
    OpY r P o a w (fun v' w' => v' = slcut v 0 h sz ∧ w' = w) := by
  obtain ⟨_, A, cap, rfl, hc, hm, _⟩ := hs
  have he' := elem_of ht
  have ht' : P.underlying t = some (.slice (P.elem t)) := by rw [he']; exact ht
  refine opY_value (by rw [ho]; rfl) ?_ ⟨rfl, rfl⟩
  have h1 := run_slice_h (P := P) w t A n cap ht' k (h : Int) (by omega) (by omega)
  rw [he', run_sizeOf he] at h1
  simp only [execOp, ho, hx, hh, Option.map_some, Option.map_none, Sem.run_bind, run_sliceAt_slice w t _ _ _ _ ht', h1, Result.andThen_ok, Sem.run_pure, Int.toNat_natCast]
  rfl
theorem op_sliceHM {t e : TypeId} {x hi mx : Operand} {v : Value} {g : Bool} {sz n h m : Nat} {cs : List Value} {k k2 : IntKind} (ho : o.op = .slice t x none (some hi) (some mx)) (ht : P.underlying t = some (.slice e)) (he : tyK P e = some (g, sz)) (hx : a.eval x = v) (hh : a.eval hi = .int k (h : Int)) (hm2 : a.eval mx = .int k2 (m : Int)) (hs : SlAt w v sz n cs) (hn : h ≤ m) (hmn : m ≤ n) :
    OpY r P o a w (fun v' w' => v' = slcut3 v 0 h m sz ∧ w' = w) := by
  obtain ⟨_, A, cap, rfl, hc, hm, _⟩ := hs
  have he' := elem_of ht
  have ht' : P.underlying t = some (.slice (P.elem t)) := by rw [he']; exact ht
  refine opY_value (by rw [ho]; rfl) ?_ ⟨rfl, rfl⟩
  have h1 := run_slice_hm (P := P) w t A n cap ht' k k2 (h : Int) (m : Int) (by omega) (by omega) (by omega)
  rw [he', run_sizeOf he] at h1
  simp only [execOp, ho, hx, hh, hm2, Option.map_some, Option.map_none, Sem.run_bind, run_sliceAt_slice w t _ _ _ _ ht', h1, Result.andThen_ok, Sem.run_pure, Int.toNat_natCast]
  rfl
end
theorem vpairs_drop (xs : List (Int × Value)) : ∀ (t : Nat), (vpairs xs).drop (t * 2) = vpairs (xs.drop t)
  | 0 => by simp
  | t + 1 => by
    cases xs with
    | nil => simp [vpairs]
    | cons x xs =>
      rw [vpairs_cons, show (t + 1) * 2 = t * 2 + 1 + 1 by omega, List.drop_succ_cons, List.drop_succ_cons, List.drop_succ_cons]
      exact vpairs_drop xs t
theorem vpairs_take (xs : List (Int × Value)) : ∀ (t : Nat), (vpairs xs).take (t * 2) = vpairs (xs.take t)
  | 0 => by simp [vpairs]
  | t + 1 => by
    cases xs with
    | nil => simp [vpairs]
    | cons x xs =>
      rw [vpairs_cons, show (t + 1) * 2 = t * 2 + 1 + 1 by omega, List.take_succ_cons, List.take_succ_cons, List.take_succ_cons, vpairs_cons]
      rw [vpairs_take xs t]
theorem labs_drop {T : List Int} {V : List Value} {t : Nat} (hl : V.length = T.length) (ht : t ≤ T.length) : ((vpairs (T.zip V)).drop (t * 2)).take ((T.length - t) * 2) = vpairs ((T.drop t).zip (V.drop t)) := by
  rw [vpairs_drop, List.take_of_length_le (by rw [vpairs_length, List.length_drop, List.length_zip]; omega)]
  congr 1
  exact List.drop_zipWith
theorem labs_take {T : List Int} {V : List Value} {t : Nat} : ((vpairs (T.zip V)).drop (0 * 2)).take ((t - 0) * 2) = vpairs ((T.take t).zip (V.take t)) := by
  rw [Nat.zero_mul, List.drop_zero, Nat.sub_zero, vpairs_take]
  congr 1
  exact List.take_zipWith
theorem labs_dropOne {T : List Int} {V : List Value} {t : Nat} (h : (vpairs (T.zip V)).all (·.oneCell') = true) : (vpairs ((T.drop t).zip (V.drop t))).all (·.oneCell') = true := by
  have e : (T.drop t).zip (V.drop t) = (T.zip V).drop t := List.drop_zipWith.symm
  rw [e, ← vpairs_drop, List.all_eq_true]
  exact fun u hu => List.all_eq_true.1 h u (List.mem_of_mem_drop hu)
theorem labs_takeOne {T : List Int} {V : List Value} {t : Nat} (h : (vpairs (T.zip V)).all (·.oneCell') = true) : (vpairs ((T.take t).zip (V.take t))).all (·.oneCell') = true := by
  have e : (T.take t).zip (V.take t) = (T.zip V).take t := List.take_zipWith.symm
  rw [e, ← vpairs_take, List.all_eq_true]
  exact fun u hu => List.all_eq_true.1 h u (List.mem_of_mem_take hu)
end Go.Eng

namespace Go.Eng
open Go.RowKit

section
variable {r : Option Nat} {P : Program} {o : Oper} {a : Act} {w w0 : World} {X : Nat → Prop} {L : List Res}
theorem op_appendF {t e : TypeId} {s x : Operand} {z : Value} {sz bytes : Nat} {A : Option Addr} {vx : Value} {n m : Nat} {olds news : List Value}
    (ho : o.op = .call { callee := .builtin .append, args := #[s, x], argTypes := #[t, t] }) (ht : P.underlying t = some (.slice e)) (he : elK P e = some (z, sz, bytes))
    (hs : a.eval s = .slice A n n) (hx : a.eval x = vx) (hold : SlAt w (.slice A n n) sz n olds) (hn : 0 < n) (hsrc : SlAt w vx sz m news) (hm : 0 < m)
    (h63 : n + m ≤ maxLen) (hbytes : (n + m) * bytes ≤ 140737488355328) :
    OpY r P o a w (fun v' w' => Ext NoB w w' ∧ w'.ownsRow w.heap.size e sz v' (n + m) (olds ++ news)) := by
  unfold elK at he
  cases hi0 : P.info? e with
  | none => simp [hi0] at he
  | some ti =>
    simp only [hi0] at he
    cases hz : ti.zero with
    | none => simp [hz] at he
    | some z' =>
      simp only [hz] at he
      split at he
      case isFalse => cases he
      rename_i hcond
      simp only [Option.some.injEq, Prod.mk.injEq] at he
      obtain ⟨rfl, rfl, rfl⟩ := he
      obtain ⟨hl, A', cap', rfl, hc1, hc2, h3⟩ := hsrc
      have hne : news ≠ [] := by
        rintro rfl
        have := Nat.mul_pos hm hcond.2; simp at hl; omega
      obtain ⟨ad, rfl, hcells⟩ := h3 hne
      obtain ⟨hlo, B, capB, hB, _, _, h4⟩ := hold
      cases hB
      have hne2 : olds ≠ [] := by
        rintro rfl
        have := Nat.mul_pos hn hcond.2; simp at hlo; omega
      obtain ⟨bd, rfl, hcells2⟩ := h4 hne2
      have hr := run_append_grow (P := P) w t o.type e ti z' ht hi0 hz bd n n olds hlo hcells2 ad m cap' news hl hcells (by omega) (by simp only [maxLen] at h63; omega) (growslice_fits (by omega) hbytes)
      have hge := grownCap_ge w (n + m) n e
      have hcm : grownCap w (n + m) n e ≤ maxLen := grownCap_le_maxLen w (n + m) n e h63
      have hlen : (olds ++ news).length = (n + m) * ti.size := by rw [List.length_append, hlo, hl, Nat.add_mul]
      refine opY_value (by rw [ho]; rfl) (v := .slice (some ⟨w.heap.size, 0, none⟩) (n + m) (grownCap w (n + m) n e)) (w' := w.drew.alloc (.cells (olds.toArray ++ news.toArray ++ Builtin.zeroCells z'.cells (grownCap w (n + m) n e - (n + m))) e)) ?_ ⟨⟨rfl, rfl, rfl, by simp, fun b hb _ => heap_alloc_old w.drew _ (by simpa using hb)⟩, hlen, .inr ⟨w.heap.size, _, _, rfl, Nat.le_refl _, heap_alloc_new w.drew _, hge, hcm, ?_, ?_⟩⟩
      · simp only [execOp, ho, resolve, invoke, builtin, Sem.run_bind, Sem.run_pure, Result.andThen_ok, List.map_toArray, List.map_cons, List.map_nil, hs, hx, hr]
      · simp only [Array.size_append, List.size_toArray, size_zeroCells, hcond.1, hlo, hl, ← Nat.add_mul]
        congr 1
        omega
      · simp only [Array.toList_append, List.append_assoc]
        rw [← List.append_assoc, ← hlen]
        exact List.take_left

theorem op_makeFull {t e : TypeId} {x y : Operand} {z : Value} {sz bytes n : Nat} {k1 k2 : IntKind} {cs : List Value} (hS : Sep X w0 w L)
    (ho : o.op = .makeSlice t x y) (ht : P.underlying t = some (.slice e)) (he : elK P e = some (z, sz, bytes)) (hx : a.eval x = .int k1 (n : Int)) (hy : a.eval y = .int k2 (n : Int))
    (hc : (madeCells z.cells (n * sz)).toList = cs) (hcells : n * sz ≤ 16777216) (hb : bytes * n ≤ 281474976710656) (h63 : n ≤ maxLen) :
    OpY r P o a w (fun v' w' => Sep X w0 w' (row v' e sz n cs :: L)) := by
  unfold elK at he
  cases hi0 : P.info? e with
  | none => simp [hi0] at he
  | some ti =>
    simp only [hi0] at he
    cases hz : ti.zero with
    | none => simp [hz] at he
    | some z' =>
      simp only [hz] at he
      split at he
      case isFalse => cases he
      rename_i hcond
      simp only [Option.some.injEq, Prod.mk.injEq] at he
      obtain ⟨rfl, rfl, rfl⟩ := he
      subst hc
      obtain ⟨w', h1, h2, h3⟩ := run_makeSlice_full (P := P) w w.heap.size t e ti z' ti.size ht hi0 hz rfl k1 k2 n hcells hb h63 (Nat.le_refl _)
      refine opY_value (by rw [ho]; rfl) (v := .slice (some ⟨w.heap.size, 0, none⟩) n n) (w' := w') ?_ (hS.new_row ((Ext.of_grownBy h3).mono (fun b hb => by cases hb)) h2)
      simp only [execOp, ho, hx, hy, Sem.run_bind, h1, Result.andThen_ok, Sem.run_pure]
end
theorem SlAt.cut3 {w : World} {v : Value} {sz n h m : Nat} {cs : List Value} (hs : SlAt w v sz n cs) (h1 : h ≤ m) (h2 : m ≤ n) : SlAt w (slcut3 v 0 h m sz) sz h (cs.take (h * sz)) := by
  have hs0 := hs
  obtain ⟨hl, A, cap, rfl, hc, hm, hc2⟩ := hs
  have := hs0.cutAt (l := 0) (h := h) (m := m) (Nat.zero_le _) (by omega) h1 (by omega)
  rw [Nat.sub_zero, Nat.zero_mul, List.drop_zero] at this
  exact this
theorem slcut3_is {w : World} {v : Value} {sz n h : Nat} {cs : List Value} (hs : SlAt w v sz n cs) : ∃ A, slcut3 v 0 h h sz = .slice A h h := by
  obtain ⟨_, A, cap, rfl, _⟩ := hs
  exact ⟨_, rfl⟩
end Go.Eng

namespace Go.Proofs.Ytfhmigoddaaljaa
open Go.RowKit Go.Eng

/-- The readings of laboratory k, those of the first j samples struck out that are of another lot than i. -/
def apUpto (d : RD) (i k : Nat) : Nat → List Int
  | 0 => d.rds.getD k []
  | j + 1 => if d.samples.getD j 0 = (i : Int) then apUpto d i k j else (apUpto d i k j).set j (-1)
def apRow (d : RD) (i k : Nat) : List Int := apUpto d i k d.samples.length
def apartD (d : RD) (i : Nat) : RD := { d with rds := (List.range d.tols.length).map fun k => apRow d i k }
section
variable {d : RD} {i : Nat}
theorem apUpto_yes {k j : Nat} (h : d.samples.getD j 0 = (i : Int)) : apUpto d i k (j + 1) = apUpto d i k j := by rw [apUpto, if_pos h]
theorem apUpto_no {k j : Nat} (h : ¬ d.samples.getD j 0 = (i : Int)) : apUpto d i k (j + 1) = (apUpto d i k j).set j (-1) := by rw [apUpto, if_neg h]
theorem apUpto_len (k : Nat) : ∀ j, (apUpto d i k j).length = (d.rds.getD k []).length
  | 0 => rfl
  | j + 1 => by
    unfold apUpto; split
    · exact apUpto_len k j
    · rw [List.length_set]; exact apUpto_len k j
theorem apUpto_at (k : Nat) : ∀ j t, t < (d.rds.getD k []).length → (apUpto d i k j).getD t 0 = if t < j ∧ d.samples.getD t 0 ≠ (i : Int) then -1 else (d.rds.getD k []).getD t 0
  | 0, t, _ => by rw [if_neg (by omega)]; rfl
  | j + 1, t, ht => by
    have ih := apUpto_at k j t ht
    unfold apUpto; split
    · rename_i h
      rw [ih]
      by_cases e : t = j
      · subst e; rw [if_neg (by omega), if_neg (fun e => e.2 h)]
      · simp only [show (t < j + 1) ↔ t < j by omega]
    · rename_i h
      by_cases e : t = j
      · subst e
        rw [if_pos ⟨by omega, h⟩]
        have : t < (apUpto d i k t).length := by rw [apUpto_len]; exact ht
        simp [List.getD, this]
      · have e2 : ((apUpto d i k j).set j (-1)).getD t 0 = (apUpto d i k j).getD t 0 := by
          simp only [List.getD]; rw [List.getElem?_set_ne (fun e' => e e'.symm)]
        rw [e2, ih]
        simp only [show (t < j + 1) ↔ t < j by omega]
theorem apart_rds {q : Nat} (hq : q < d.tols.length) : (apartD d i).rds.getD q [] = apRow d i q := by
  simp [apartD, List.getD, hq]
theorem apart_rd (hV : Valid d) {q t : Nat} (hq : q < d.tols.length) (ht : t < d.samples.length) : rdv (apartD d i) q t = if d.samples.getD t 0 = (i : Int) then rdv d q t else -1 := by
  unfold rdv; rw [apart_rds hq]; unfold apRow
  rw [apUpto_at q _ t (by rw [hV.rdl q hq]; exact ht)]
  by_cases h : d.samples.getD t 0 = (i : Int)
  · rw [if_neg (fun e => e.2 h), if_pos h]
  · rw [if_pos ⟨ht, h⟩, if_neg h]
theorem apart_valid (hV : Valid d) : Valid (apartD d i) := by
  refine ⟨hV.nl, hV.ns, hV.nb, hV.lots, hV.samples, hV.spread, hV.tols, fun q hq => ?_, fun q hq j hj => ?_⟩
  · rw [apart_rds (d := d) hq]; unfold apRow; rw [apUpto_len]; exact hV.rdl q hq
  · have := hV.rds q hq j hj
    show -1 ≤ rdv (apartD d i) q j ∧ rdv (apartD d i) q j ≤ 1000
    rw [apart_rd hV hq hj]
    split
    · exact this
    · omega
theorem apart_check (hV : Valid d) : checkR (apartD d i) = 0 := check_of (apart_valid hV)
theorem apart_thin (hV : Valid d) : (apartD d i).lots.length ≤ 6 ∧ (apartD d i).samples.length ≤ 10 ∧ (apartD d i).tols.length ≤ 8 ∧ ∀ k, k < (apartD d i).tols.length → ((apartD d i).rds.getD k []).length ≤ 10 := by
  have h := apart_valid (i := i) hV
  have h1 := h.nl; have h2 := h.ns; have h3 := h.nb
  exact ⟨by omega, by omega, by omega, fun k hk => by have := h.rdl k hk; omega⟩
theorem apart_rdl : (apartD d i).rds.length = d.tols.length := by simp [apartD]
end
/-- A round is explained if each lot of it is. -/
theorem apart_all {d : RD} (hV : Valid d) {off : List Bool} : explB d off = (List.range d.lots.length).all fun i => explB (apartD d i) off := by
  rw [Bool.eq_iff_iff, List.all_eq_true, explB_iff hV]
  constructor
  · rintro ⟨L, v, h⟩ i _
    refine (explB_iff (apart_valid hV)).2 ⟨L, v, h.lots, h.near, fun k hk q hq ho hr => ?_⟩
    have hrd := apart_rd (i := i) hV hq hk
    rw [hrd] at hr ⊢
    split at hr
    · rename_i e
      rw [if_pos e]
      exact h.agree k hk q hq ho hr
    · exact absurd rfl hr
  · intro h
    have hi : ∀ i, ∃ L v, i < d.lots.length → Truth (apartD d i) off (-1) 0 L v := fun i => by
      by_cases hi : i < d.lots.length
      · obtain ⟨L, v, hT⟩ := (explB_iff (apart_valid hV)).1 (h i (List.mem_range.2 hi))
        exact ⟨L, v, fun _ => hT⟩
      · exact ⟨fun _ => 0, fun _ => 0, fun e => absurd e hi⟩
    let L : Nat → Nat → Int := fun i => Classical.choose (hi i)
    have hL := fun i => Classical.choose_spec (hi i)
    let v : Nat → Nat → Int := fun i => Classical.choose (hL i)
    have hv : ∀ i, i < d.lots.length → Truth (apartD d i) off (-1) 0 (L i) (v i) := fun i => Classical.choose_spec (hL i)
    refine ⟨fun i => L i i, fun k => v (lotOf d k) k, fun i hi => (hv i hi).lots i hi, fun k hk => ?_, fun k hk q hq ho hr => ?_⟩
    · have hs := hV.samples k hk
      exact (hv (lotOf d k) (by unfold lotOf; omega)).near k hk
    · have hs := hV.samples k hk
      have hT := hv (lotOf d k) (by unfold lotOf; omega)
      have hrd := apart_rd (i := lotOf d k) hV hq hk
      rw [if_pos (by unfold lotOf; omega)] at hrd
      have := hT.agree k hk q hq ho (by rw [hrd]; exact hr)
      rw [hrd] at this
      exact this
def apAll (d : RD) (off : List Bool) (n : Nat) : Bool := (List.range n).all fun i => explB (apartD d i) off
theorem apAll_succ (d : RD) (off : List Bool) (n : Nat) : apAll d off (n + 1) = (apAll d off n && explB (apartD d n) off) := by
  unfold apAll; rw [List.range_succ, List.all_append]; simp
end Go.Proofs.Ytfhmigoddaaljaa

namespace Go.Proofs.Ytfhmigoddaaljaa
open Go.RowKit Go.Eng

/-! ### One more laboratory -/
def endsRow (d : RD) (k : Nat) (n : Int) : List Int := (List.replicate d.samples.length (-1)).set k n
def endsD (d : RD) (k : Nat) (n : Int) : RD := { d with tols := d.tols ++ [0], rds := d.rds ++ [endsRow d k n] }
section
variable {d : RD} {k : Nat} {n : Int}
theorem getD_snocI (l : List Int) (a : Int) (q : Nat) : (l ++ [a]).getD q 0 = if q < l.length then l.getD q 0 else if q = l.length then a else 0 := by
  simp only [List.getD, List.getElem?_append]
  split
  · rfl
  · rename_i h
    split
    · rename_i e; subst e; simp
    · rw [List.getElem?_eq_none (by simp; omega)]; rfl
theorem getD_snocL (l : List (List Int)) (a : List Int) (q : Nat) : (l ++ [a]).getD q [] = if q < l.length then l.getD q [] else if q = l.length then a else [] := by
  simp only [List.getD, List.getElem?_append]
  split
  · rfl
  · rename_i h
    split
    · rename_i e; subst e; simp
    · rw [List.getElem?_eq_none (by simp; omega)]; rfl
theorem ends_rds (hr : d.rds.length = d.tols.length) (q : Nat) : (endsD d k n).rds.getD q [] = if q < d.tols.length then d.rds.getD q [] else if q = d.tols.length then endsRow d k n else [] := by
  show (d.rds ++ [endsRow d k n]).getD q [] = _
  rw [getD_snocL, hr]
theorem endsRow_at {i : Nat} (hi : i < d.samples.length) : (endsRow d k n).getD i 0 = if i = k then n else -1 := by
  unfold endsRow
  simp only [List.getD, List.getElem?_set]
  by_cases e : k = i
  · subst e; simp [hi]
  · rw [if_neg e, if_neg (fun h => e h.symm)]; simp [hi]
theorem endsRow_len : (endsRow d k n).length = d.samples.length := by simp [endsRow]
theorem ends_len : (endsD d k n).tols.length = d.tols.length + 1 := by simp [endsD]
theorem ends_tol {q : Nat} (hq : q < d.tols.length) : (endsD d k n).tols.getD q 0 = d.tols.getD q 0 := by
  show (d.tols ++ [0]).getD q 0 = _
  rw [getD_snocI, if_pos hq]
theorem ends_tolN : (endsD d k n).tols.getD d.tols.length 0 = 0 := by
  show (d.tols ++ [0]).getD _ 0 = _
  rw [getD_snocI, if_neg (by omega), if_pos rfl]
theorem ends_rd (hr : d.rds.length = d.tols.length) {q i : Nat} (hq : q < d.tols.length) : rdv (endsD d k n) q i = rdv d q i := by
  unfold rdv; rw [ends_rds hr, if_pos hq]
theorem ends_rdN (hr : d.rds.length = d.tols.length) {i : Nat} (hi : i < d.samples.length) : rdv (endsD d k n) d.tols.length i = if i = k then n else -1 := by
  unfold rdv; rw [ends_rds hr, if_neg (by omega), if_pos rfl, endsRow_at hi]
theorem ends_valid (hV : Valid d) (hr : d.rds.length = d.tols.length) (h5 : d.tols.length ≤ 5) (hn : 0 ≤ n ∧ n ≤ 1000) : Valid (endsD d k n) := by
  refine ⟨hV.nl, hV.ns, by rw [ends_len]; omega, hV.lots, hV.samples, hV.spread, fun q hq => ?_, fun q hq => ?_, fun q hq j hj => ?_⟩
  · rw [ends_len] at hq
    by_cases e : q < d.tols.length
    · rw [ends_tol e]; exact hV.tols q e
    · rw [show q = d.tols.length by omega, ends_tolN]; omega
  · rw [ends_len] at hq
    rw [ends_rds hr]
    by_cases e : q < d.tols.length
    · rw [if_pos e]; exact hV.rdl q e
    · rw [if_neg e, if_pos (by omega)]; exact endsRow_len
  · rw [ends_len] at hq
    have hj' : j < d.samples.length := hj
    show -1 ≤ rdv (endsD d k n) q j ∧ rdv (endsD d k n) q j ≤ 1000
    by_cases e : q < d.tols.length
    · rw [ends_rd hr e]; exact hV.rds q e j hj'
    · rw [show q = d.tols.length by omega, ends_rdN hr hj']; split <;> omega
theorem ends_thin (hV : Valid d) (hr : d.rds.length = d.tols.length) (h5 : d.tols.length ≤ 5) (hn : 0 ≤ n ∧ n ≤ 1000) : (endsD d k n).lots.length ≤ 6 ∧ (endsD d k n).samples.length ≤ 10 ∧ (endsD d k n).tols.length ≤ 8 ∧ ∀ q, q < (endsD d k n).tols.length → ((endsD d k n).rds.getD q []).length ≤ 10 := by
  have h := ends_valid (k := k) hV hr h5 hn
  have h1 := h.nl; have h2 := h.ns; have h3 := h.nb
  exact ⟨by omega, by omega, by omega, fun q hq => by have := h.rdl q hq; omega⟩
theorem ends_rdl (hr : d.rds.length = d.tols.length) : (endsD d k n).rds.length = (endsD d k n).tols.length := by simp [endsD, hr]
theorem ends_iff (hV : Valid d) (hr : d.rds.length = d.tols.length) (h5 : d.tols.length ≤ 5) (hn : 0 ≤ n ∧ n ≤ 1000) {off : List Bool} (hoff : off.getD d.tols.length false = false) (hok : explB d off = true) (hk : k < d.samples.length) :
    explB (endsD d k n) off = (decide (((spansF d off (-1) 0).1.getD k (0, 0)).1 ≤ n) && decide (n ≤ ((spansF d off (-1) 0).1.getD k (0, 0)).2)) := by
  rw [Bool.eq_iff_iff, explB_iff (ends_valid hV hr h5 hn)]
  simp only [Bool.and_eq_true, decide_eq_true_eq]
  rw [span_iff hV hok hk n]
  constructor
  · rintro ⟨L, v, h⟩
    refine ⟨L, v, ⟨h.lots, h.near, fun i hi q hq ho hrd => ?_⟩, ?_⟩
    · have := h.agree i hi q (by rw [ends_len]; omega) ho (by rw [ends_rd hr hq]; exact hrd)
      rw [ends_rd hr hq, ends_tol hq] at this; exact this
    · have e : rdv (endsD d k n) d.tols.length k = n := by rw [ends_rdN hr hk, if_pos rfl]
      have := h.agree k hk d.tols.length (by rw [ends_len]; omega) hoff (by rw [e]; omega)
      rw [e, ends_tolN] at this
      split at this <;> omega
  · rintro ⟨L, v, h, e⟩
    refine ⟨L, v, h.lots, h.near, fun i hi q hq ho hrd => ?_⟩
    have hi' : i < d.samples.length := hi
    rw [ends_len] at hq
    by_cases hq' : q < d.tols.length
    · rw [ends_rd hr hq'] at hrd ⊢
      rw [ends_tol hq']
      exact h.agree i hi q hq' ho hrd
    · have eq : q = d.tols.length := by omega
      subst eq
      rw [ends_rdN hr hi'] at hrd ⊢
      rw [ends_tolN]
      by_cases ei : i = k
      · subst ei; rw [if_pos rfl, e]; split <;> omega
      · rw [if_neg ei] at hrd; exact absurd rfl hrd
theorem offB_out {nb x : Nat} (h : nb < 6) : (offB nb x).getD nb false = false := by
  unfold offB
  rw [off_has (chosen_rise nb x) h, Bool.eq_false_iff]
  intro e
  rw [hasB_iff, mem_chosen] at e
  obtain ⟨q, h1, _, h2⟩ := e
  omega
theorem rise_more {nb : Nat} {l : List Int} (h : riseB nb l = true) : riseB (nb + 1) l = true := by
  unfold riseB at *
  rw [List.all_eq_true] at *
  intro i hi
  have := h i hi
  unfold riseAt at *
  simp only [Bool.and_eq_true, decide_eq_true_eq] at *
  exact ⟨⟨this.1.1, by omega⟩, this.2⟩
theorem ends_explains (hV : Valid d) (hr : d.rds.length = d.tols.length) (h5 : d.tols.length ≤ 5) (hn : 0 ≤ n ∧ n ≤ 1000) {x : Nat} (hok : explB d (offB d.tols.length x) = true) (hk : k < d.samples.length) :
    explainsF (endsD d k n) (chosenF d.tols.length x) = ((decide (((spansF d (offB d.tols.length x) (-1) 0).1.getD k (0, 0)).1 ≤ n) && decide (n ≤ ((spansF d (offB d.tols.length x) (-1) 0).1.getD k (0, 0)).2)), 0) := by
  rw [explainsF_yes (check_of (ends_valid hV hr h5 hn)) (by rw [ends_len]; exact rise_more (chosen_rise _ _))]
  rw [← ends_iff hV hr h5 hn (offB_out (by omega)) hok hk]; rfl
end

/-! ### Lists of the fewest -/
theorem fromL_mem (d : RD) : ∀ (m : Nat) (l : List Int) (off : List Bool) (next : Nat) (z : List Int), z ∈ fromL d m l off next →
    ∃ ys, z = l ++ ys ∧ ys.length = m ∧ (∀ y ∈ ys, (next : Int) ≤ y ∧ y ≤ (d.tols.length : Int) - 1) ∧ ys.Pairwise (· < ·) ∧ explB d (ys.foldl (fun bs n => bs.set n.toNat true) off) = true
  | 0, l, off, next, z, h => by
    rw [fromL] at h
    split at h
    · rename_i he
      rw [List.mem_singleton] at h
      exact ⟨[], by rw [h, List.append_nil], rfl, by simp, List.Pairwise.nil, he⟩
    · cases h
  | m + 1, l, off, next, z, h => by
    rw [fromL, List.mem_flatMap] at h
    obtain ⟨k, hk, hz⟩ := h
    rw [List.mem_range'_1] at hk
    obtain ⟨ys, e, hl, hb, hp, hx⟩ := fromL_mem d m (l ++ [(k : Int)]) (off.set k true) (k + 1) z hz
    refine ⟨(k : Int) :: ys, by rw [e, List.append_assoc]; rfl, by simp [hl], fun y hy => ?_, List.pairwise_cons.2 ⟨fun y hy => by have := hb y hy; omega, hp⟩, hx⟩
    rcases List.mem_cons.1 hy with rfl | hy
    · omega
    · have := hb y hy; omega
theorem fewUpto_spec (d : RD) : ∀ k, (fewUpto d k = [] ∧ ∀ j, j < k → fromL d j [] off0 0 = []) ∨ ∃ m, m < k ∧ fewUpto d k = fromL d m [] off0 0 ∧ fewUpto d k ≠ [] ∧ ∀ j, j < m → fromL d j [] off0 0 = []
  | 0 => .inl ⟨rfl, fun j h => absurd h (Nat.not_lt_zero _)⟩
  | k + 1 => by
    simp only [fewUpto]
    rcases fewUpto_spec d k with ⟨h1, h2⟩ | ⟨m, h1, h2, h3, h4⟩
    · rw [if_pos h1]
      by_cases hk : fromL d k [] off0 0 = []
      · refine .inl ⟨hk, fun j hj => ?_⟩
        rcases Nat.lt_succ_iff_lt_or_eq.1 hj with h | h
        · exact h2 j h
        · subst h; exact hk
      · exact .inr ⟨k, by omega, rfl, hk, h2⟩
    · rw [if_neg h3]
      exact .inr ⟨m, by omega, h2, h3, h4⟩
theorem fewest_spec {d : RD} (hV : Valid d) : ∃ m, m ≤ d.tols.length ∧ fewestF d = fromL d m [] off0 0 ∧ ∀ j, j < m → fromL d j [] off0 0 = [] := by
  rcases fewUpto_spec d (d.tols.length + 1) with ⟨h1, _⟩ | ⟨m, h1, h2, _, h4⟩
  · exact absurd h1 (fewest_ne hV)
  · exact ⟨m, by omega, h2, h4⟩
/-- What a list of the fewest is. -/
structure Few (d : RD) (ys : List Int) : Prop where
  b : ∀ y ∈ ys, (0 : Int) ≤ y ∧ y ≤ (d.tols.length : Int) - 1
  p : ys.Pairwise (· < ·)
  x : explB d (offUpto ys ys.length) = true
theorem off_fold (ys : List Int) : offUpto ys ys.length = ys.foldl (fun bs n => bs.set n.toNat true) off0 := by unfold offUpto off0; rw [List.take_length]
theorem few_of {d : RD} {m : Nat} {ys : List Int} (h : ys ∈ fromL d m [] off0 0) : Few d ys ∧ ys.length = m := by
  obtain ⟨zs, e, hl, hb, hp, hx⟩ := fromL_mem d m [] off0 0 ys h
  rw [List.nil_append] at e; subst e
  exact ⟨⟨fun y hy => by have := hb y hy; omega, hp, by rw [off_fold]; exact hx⟩, hl⟩
theorem Few.mem {d : RD} {ys : List Int} (h : Few d ys) : ys ∈ fromL d ys.length [] off0 0 := mem_from0 h.b h.p h.x
theorem Few.nodup {d : RD} {ys : List Int} (h : Few d ys) : ys.Nodup := h.p.imp (fun h => by omega)
theorem Few.len {d : RD} {ys : List Int} (h : Few d ys) : ys.length ≤ d.tols.length := by
  have : ys ⊆ (List.range d.tols.length).map fun (k : Nat) => (k : Int) := fun y hy => by
    have := h.b y hy
    exact List.mem_map.2 ⟨y.toNat, List.mem_range.2 (by omega), by omega⟩
  have := h.nodup.length_le_of_subset this
  simpa using this
theorem fewest_few {d : RD} (hV : Valid d) {ys : List Int} (h : ys ∈ fewestF d) : Few d ys := by
  obtain ⟨m, _, e, _⟩ := fewest_spec hV
  rw [e] at h; exact (few_of h).1
theorem fewest_len {d : RD} (hV : Valid d) {ys : List Int} (h : ys ∈ fewestF d) : ys.length = ((fewestF d).getD 0 []).length := by
  obtain ⟨m, _, e, _⟩ := fewest_spec hV
  have h0 : (fewestF d).getD 0 [] ∈ fewestF d := by
    have := fewest_pos hV
    simp only [List.getD, List.getElem?_eq_getElem this, Option.getD_some]; exact List.getElem_mem this
  rw [e] at h
  have h1 : (fewestF d).getD 0 [] ∈ fromL d m [] off0 0 := by rw [← e]; exact h0
  rw [(few_of h).2, (few_of h1).2]
theorem fewest_first {d : RD} (hV : Valid d) : (fewestF d).getD 0 [] ∈ fewestF d := by
  have := fewest_pos hV
  simp only [List.getD, List.getElem?_eq_getElem this, Option.getD_some]; exact List.getElem_mem this

/-! ### Kinder rounds -/
structure Kinder (d x : RD) : Prop where
  nl : x.lots.length = d.lots.length
  sm : x.samples = d.samples
  nb : x.tols.length = d.tols.length
  lots : ∀ i, i < d.lots.length → (x.lots.getD i (0, 0)).1 ≤ (d.lots.getD i (0, 0)).1 ∧ (d.lots.getD i (0, 0)).2 ≤ (x.lots.getD i (0, 0)).2
  sp : d.spread ≤ x.spread
  tols : ∀ i, i < d.tols.length → d.tols.getD i 0 ≤ x.tols.getD i 0
  rds : ∀ q, q < d.tols.length → ∀ i, i < d.samples.length → rdv x q i = rdv d q i ∨ rdv x q i = -1
theorem Kinder.truth {d x : RD} (h : Kinder d x) {off : List Bool} {L v : Nat → Int} (hT : Truth d off (-1) 0 L v) : Truth x off (-1) 0 L v := by
  refine ⟨fun i hi => ?_, fun k hk => ?_, fun k hk q hq ho hr => ?_⟩
  · rw [h.nl] at hi
    have := h.lots i hi; have := hT.lots i hi; omega
  · rw [h.sm] at hk
    have := hT.near k hk; have hs := h.sp
    have e : lotOf x k = lotOf d k := by unfold lotOf; rw [h.sm]
    rw [e]; omega
  · rw [h.sm] at hk; rw [h.nb] at hq
    have ht := h.tols q hq
    rcases h.rds q hq k hk with e | e
    · rw [e] at hr ⊢
      have := hT.agree k hk q hq ho hr
      omega
    · exact absurd e hr
theorem Kinder.expl {d x : RD} (h : Kinder d x) (hV : Valid d) (hX : Valid x) {off : List Bool} (he : explB d off = true) : explB x off = true := by
  obtain ⟨L, v, hT⟩ := (explB_iff hV).1 he
  exact (explB_iff hX).2 ⟨L, v, h.truth hT⟩
theorem Kinder.least {d x : RD} (h : Kinder d x) (hV : Valid d) (hX : Valid x) : ((fewestF x).getD 0 []).length ≤ ((fewestF d).getD 0 []).length := by
  have hf := fewest_few hV (fewest_first hV)
  have hx : Few x ((fewestF d).getD 0 []) := ⟨by rw [h.nb]; exact hf.b, hf.p, h.expl hV hX hf.x⟩
  exact (fewest_le hx.len hx.mem).1
theorem Kinder.refl (d : RD) : Kinder d d := ⟨rfl, rfl, rfl, fun _ _ => ⟨Int.le_refl _, Int.le_refl _⟩, Int.le_refl _, fun _ _ => Int.le_refl _, fun _ _ _ _ => .inl rfl⟩
/-- The round that RoundKinder plays: one change. -/
def kindLot (p : Int × Int) (n : Int) : Int × Int := (max 0 (p.1 - n), min 1000 (p.2 + n.tmod 7))
def kindSp (d : RD) (n : Int) : RD := { d with spread := min 100 (d.spread + n) }
def kindLots (d : RD) (i : Nat) (n : Int) : RD := { d with lots := d.lots.set i (kindLot (d.lots.getD i (0, 0)) n) }
def kindTol (d : RD) (i : Nat) (n : Int) : RD := { d with tols := d.tols.set i (min 100 (d.tols.getD i 0 + n)) }
def kindRd (d : RD) (i j : Nat) : RD := { d with rds := d.rds.set i ((d.rds.getD i []).set j (-1)) }
theorem getD_setI (l : List Int) (i j : Nat) (p : Int) : (l.set i p).getD j 0 = if i = j ∧ j < l.length then p else l.getD j 0 := by
  simp only [List.getD, List.getElem?_set]
  by_cases e : i = j
  · subst e
    by_cases h : i < l.length
    · simp [h]
    · simp [h]
  · simp [e]
theorem getD_setL (l : List (List Int)) (i j : Nat) (p : List Int) : (l.set i p).getD j [] = if i = j ∧ j < l.length then p else l.getD j [] := by
  simp only [List.getD, List.getElem?_set]
  by_cases e : i = j
  · subst e
    by_cases h : i < l.length
    · simp [h]
    · simp [h]
  · simp [e]
section
variable {d : RD} {n : Int}
theorem kindSp_valid (hV : Valid d) (hn : 0 ≤ n) : Valid (kindSp d n) ∧ Kinder d (kindSp d n) := by
  have hs := hV.spread
  have e : (kindSp d n).spread = min 100 (d.spread + n) := rfl
  exact ⟨⟨hV.nl, hV.ns, hV.nb, hV.lots, hV.samples, by rw [e]; omega, hV.tols, hV.rdl, hV.rds⟩, ⟨rfl, rfl, rfl, fun _ _ => ⟨Int.le_refl _, Int.le_refl _⟩, by rw [e]; omega, fun _ _ => Int.le_refl _, fun _ _ _ _ => .inl rfl⟩⟩
theorem kindLots_valid (hV : Valid d) (hn : 0 ≤ n) (i : Nat) : Valid (kindLots d i n) ∧ Kinder d (kindLots d i n) := by
  have hl : (kindLots d i n).lots.length = d.lots.length := by simp [kindLots]
  have hg : ∀ j, (kindLots d i n).lots.getD j (0, 0) = if i = j ∧ j < d.lots.length then kindLot (d.lots.getD i (0, 0)) n else d.lots.getD j (0, 0) := fun j => by
    show (d.lots.set i _).getD j (0, 0) = _
    rw [getD_setP]
  have h7 := Int.tmod_nonneg 7 hn
  refine ⟨⟨by rw [hl]; exact hV.nl, hV.ns, hV.nb, fun j hj => ?_, by rw [hl]; exact hV.samples, hV.spread, hV.tols, hV.rdl, hV.rds⟩, ⟨hl, rfl, rfl, fun j hj => ?_, Int.le_refl _, fun _ _ => Int.le_refl _, fun _ _ _ _ => .inl rfl⟩⟩
  · rw [hl] at hj
    have := hV.lots j hj
    rw [hg]; split
    · rename_i e; rw [e.1]; unfold kindLot; dsimp only; omega
    · exact this
  · have := hV.lots j hj
    rw [hg]; split
    · rename_i e; rw [e.1]; unfold kindLot; dsimp only; omega
    · exact ⟨Int.le_refl _, Int.le_refl _⟩
theorem kindTol_valid (hV : Valid d) (hn : 0 ≤ n) (i : Nat) : Valid (kindTol d i n) ∧ Kinder d (kindTol d i n) := by
  have hl : (kindTol d i n).tols.length = d.tols.length := by simp [kindTol]
  have hg : ∀ j, (kindTol d i n).tols.getD j 0 = if i = j ∧ j < d.tols.length then min 100 (d.tols.getD i 0 + n) else d.tols.getD j 0 := fun j => by
    show (d.tols.set i _).getD j 0 = _
    rw [getD_setI]
  refine ⟨⟨hV.nl, hV.ns, by rw [hl]; exact hV.nb, hV.lots, hV.samples, hV.spread, fun j hj => ?_, fun j hj => hV.rdl j (by rw [hl] at hj; exact hj), fun j hj => hV.rds j (by rw [hl] at hj; exact hj)⟩, ⟨rfl, rfl, hl, fun _ _ => ⟨Int.le_refl _, Int.le_refl _⟩, Int.le_refl _, fun j hj => ?_, fun _ _ _ _ => .inl rfl⟩⟩
  · rw [hl] at hj
    have := hV.tols j hj
    rw [hg]; split
    · rename_i e; rw [e.1]; omega
    · exact this
  · have := hV.tols j hj
    rw [hg]; split
    · rename_i e; rw [e.1]; omega
    · exact Int.le_refl _
theorem kindRd_valid (hV : Valid d) (i j : Nat) : Valid (kindRd d i j) ∧ Kinder d (kindRd d i j) := by
  have hg : ∀ q, (kindRd d i j).rds.getD q [] = if i = q ∧ q < d.rds.length then (d.rds.getD i []).set j (-1) else d.rds.getD q [] := fun q => by
    show (d.rds.set i _).getD q [] = _
    rw [getD_setL]
  have hrd : ∀ q t, rdv (kindRd d i j) q t = rdv d q t ∨ rdv (kindRd d i j) q t = -1 := fun q t => by
    unfold rdv; rw [hg]; split
    · rename_i e; rw [e.1, getD_setI]; split
      · exact .inr rfl
      · exact .inl rfl
    · exact .inl rfl
  refine ⟨⟨hV.nl, hV.ns, hV.nb, hV.lots, hV.samples, hV.spread, hV.tols, fun q hq => ?_, fun q hq t ht => ?_⟩, ⟨rfl, rfl, rfl, fun _ _ => ⟨Int.le_refl _, Int.le_refl _⟩, Int.le_refl _, fun _ _ => Int.le_refl _, fun q _ t _ => hrd q t⟩⟩
  · rw [hg]; split
    · rename_i e; rw [List.length_set, e.1]; exact hV.rdl q hq
    · exact hV.rdl q hq
  · have := hV.rds q hq t ht
    show -1 ≤ rdv (kindRd d i j) q t ∧ rdv (kindRd d i j) q t ≤ 1000
    rcases hrd q t with e | e
    · rw [e]; exact this
    · rw [e]; omega
end
theorem valid_thin {d : RD} (h : Valid d) : d.lots.length ≤ 6 ∧ d.samples.length ≤ 10 ∧ d.tols.length ≤ 8 ∧ ∀ k, k < d.tols.length → (d.rds.getD k []).length ≤ 10 := by
  have h1 := h.nl; have h2 := h.ns; have h3 := h.nb
  exact ⟨by omega, by omega, by omega, fun k hk => by have := h.rdl k hk; omega⟩
/-! ### Rounds in memory -/
theorem labs_one {w : World} {vl vs vb : Value} {lv : List Value} {d : RD} (h : RoundAt w vl vs vb lv d) : (vpairs (d.tols.zip lv)).all (·.oneCell') = true := by
  have h1 : ∀ v ∈ lv, v.oneCell' = true := fun v hv => by
    obtain ⟨i, hi, rfl⟩ := List.getElem_of_mem hv
    have := (h.rds i (by rw [h.rdl, ← h.lvl]; exact hi)).one
    simpa [List.getD, hi] using this
  rw [List.all_eq_true]
  intro u hu
  unfold vpairs at hu
  rw [List.mem_flatMap] at hu
  obtain ⟨p, hp, hu⟩ := hu
  have h2 := (List.of_mem_zip (a := p.1) (b := p.2) hp).2
  simp only [List.mem_cons, List.not_mem_nil, or_false] at hu
  rcases hu with rfl | rfl
  · rfl
  · exact h1 _ h2
theorem rdsAt_snoc {w : World} {lv : List Value} {rds : List (List Int)} {v : Value} {l : List Int} (h : RdsAt w lv rds) (hl : lv.length = rds.length) (hv : SlAt w v 1 l.length (ints l)) : RdsAt w (lv ++ [v]) (rds ++ [l]) := by
  intro i hi
  rw [List.length_append, List.length_singleton] at hi
  by_cases e : i < rds.length
  · have h1 : (rds ++ [l]).getD i [] = rds.getD i [] := by simp [List.getD, List.getElem?_append_left e]
    have h2 : (lv ++ [v]).getD i nilS = lv.getD i nilS := by simp [List.getD, List.getElem?_append_left (show i < lv.length by omega)]
    rw [h1, h2]; exact h i e
  · have ei : i = rds.length := by omega
    have h1 : (rds ++ [l]).getD i [] = l := by subst ei; simp [List.getD]
    have h2 : (lv ++ [v]).getD i nilS = v := by rw [ei, ← hl]; simp [List.getD]
    rw [h1, h2]; exact hv
theorem ends_zip {d : RD} {k : Nat} {n : Int} {lv : List Value} {v : Value} (hl : lv.length = d.tols.length) : (endsD d k n).tols.zip (lv ++ [v]) = d.tols.zip lv ++ [(0, v)] := zip_snoc hl.symm 0 v
theorem ends_zip0 {d : RD} {k : Nat} {n : Int} {lv : List Value} {v : Value} (hl : lv.length = d.tols.length) (h0 : ¬ 0 < d.tols.length) : (endsD d k n).tols.zip (lv ++ [v]) = [(0, v)] := by
  rw [ends_zip hl, List.eq_nil_of_length_eq_zero (show d.tols.length = 0 by omega)]; rfl
theorem kind_two {l : List (Int × Int)} {i : Nat} {a b c : Int} (h : i < l.length) : (l.set i (a, b)).set i (((l.set i (a, b)).getD i (0, 0)).1, c) = l.set i (a, c) := by
  have : (l.set i (a, b)).getD i (0, 0) = (a, b) := by rw [getD_setP, if_pos ⟨rfl, h⟩]
  rw [this, List.set_set]
theorem rdsAt_set {w : World} {lv : List Value} {rds : List (List Int)} {v : Value} {l : List Int} {i : Nat} (h : RdsAt w lv rds) (hv : SlAt w v 1 l.length (ints l)) (hl : lv.length = rds.length := by first | assumption | omega) : RdsAt w (lv.set i v) (rds.set i l) := by
  intro j hj
  rw [List.length_set] at hj
  rw [getD_setL]
  by_cases e : i = j
  · subst e
    rw [if_pos ⟨rfl, hj⟩]
    have h2 : (lv.set i v).getD i nilS = v := by simp [List.getD, show i < lv.length by omega]
    rw [h2]; exact hv
  · rw [if_neg (fun h => e h.1)]
    have h2 : (lv.set i v).getD j nilS = lv.getD j nilS := by simp only [List.getD]; rw [List.getElem?_set_ne e]
    rw [h2]; exact h j hj
theorem kind_all {d M : RD} (hc : checkR d = 0) (hVM : Valid M) (hK : Kinder d M) (x : Nat) :
    ∃ ba bb La Lb, explainsF d (chosenF d.tols.length x) = (ba, 0) ∧ explainsF M (chosenF d.tols.length x) = (bb, 0) ∧ (ba = true → bb = true) ∧ leastR d = (La, 0) ∧ leastR M = (Lb, 0) ∧ Lb.length ≤ La.length := by
  have hV := valid_of hc
  have h := chosen_explains (check_of hVM) x
  rw [hK.nb] at h
  exact ⟨_, _, _, _, chosen_explains hc x, h, fun e => hK.expl hV hVM e, leastR_yes hc, leastR_yes (check_of hVM), hK.least hV hVM⟩
end Go.Proofs.Ytfhmigoddaaljaa

namespace Go.Proofs.Ytfhmigoddaaljaa
open Go.RowKit Go.Eng

def fewD : RD := { trialD with tols := [3, 3, 5], rds := [[120, 122, 230], [124, 121, 234], [-1, 118, 229]] }
def wildD : RD := { trialD with rds := [[120, 122, 230], [124, 121, 234], [131, 600, 240], [-1, 118, 229]] }
def oddD : RD := { trialD with rds := [[1001, 122, 230], [124, 121, 234], [131, 133, 240], [-1, 118, 229]] }
def shortD : RD := { trialD with rds := [[120, 122], [124, 121, 234], [131, 133, 240], [-1, 118, 229]] }
def emptyD : RD := { lots := [], samples := [], spread := 0, tols := [], rds := [] }
def manyD : RD := { emptyD with lots := [(0, 0), (0, 0), (0, 0), (0, 0), (0, 0)] }
theorem explains_n1 : explainsF trialD [0, 1] = (false, 0) := by decide +kernel
theorem conv_trial : convR trialD = ([2], 0) := by decide +kernel
theorem least_few : leastR fewD = ([], 0) := by decide +kernel
theorem explains_n2 : explainsF trialD [2, 2] = (false, 2) := by decide +kernel
theorem spans_n4 : spansR trialD [4] = ([], 2) := by decide +kernel
theorem spans_n0 : spansR trialD [0] = ([], 9) := by decide +kernel
theorem conv_few : convR fewD = ([], 7) := by decide +kernel
theorem shifts_n4 : shiftsR trialD 4 = ((0, 0), 2) := shiftsR_out (by decide +kernel) (by decide +kernel)
theorem shifts_n0 : shiftsR trialD 0 = ((0, 0), 9) := shiftsR_fail (by decide +kernel) (by decide +kernel) (by decide +kernel)
theorem shifts_few : ∃ lo hi, shiftsR fewD 0 = ((lo, hi), 0) ∧ lo ≤ 0 ∧ 0 ≤ hi := by
  have h0 : shOk fewD 0 0 = true := by decide +kernel
  rcases shiftsR_cases (d := fewD) (lab := 0) (by decide +kernel) (by decide +kernel) (by decide +kernel) with ⟨_, hn⟩ | ⟨lo, hi, e, _, _, _, hn⟩
  · rw [hn 0 (by omega) (by omega)] at h0; cases h0
  · rw [hn 0 (by omega) (by omega)] at h0
    simp only [Bool.and_eq_true, decide_eq_true_eq] at h0
    exact ⟨lo, hi, e, h0⟩
theorem shifts_wild : shiftsR wildD 2 = ((0, 0), 7) := by
  have hV : Valid wildD := valid_of (by decide +kernel)
  rcases shiftsR_cases (d := wildD) (lab := 2) (by decide +kernel) (by decide +kernel) (by decide +kernel) with ⟨e, _⟩ | ⟨lo, hi, _, h1, h2, h3, hn⟩
  · exact e
  · have hb := hn lo h1 (by omega)
    rw [show (decide (lo ≤ lo) && decide (lo ≤ hi)) = true by simp only [Bool.and_eq_true, decide_eq_true_eq]; omega] at hb
    obtain ⟨L, v, hT⟩ := (shOk_iff hV).1 hb
    have a0 := hT.agree 0 (by decide) 0 (by decide) (off0_get 0) (by decide)
    have a2 := hT.agree 0 (by decide) 2 (by decide) (off0_get 2) (by decide)
    have b0 := hT.agree 1 (by decide) 0 (by decide) (off0_get 0) (by decide)
    have b2 := hT.agree 1 (by decide) 2 (by decide) (off0_get 2) (by decide)
    have e : rdv wildD 0 0 = 120 ∧ rdv wildD 2 0 = 131 ∧ rdv wildD 0 1 = 122 ∧ rdv wildD 2 1 = 600 ∧ wildD.tols.getD 0 0 = 3 ∧ wildD.tols.getD 2 0 = 2 := by decide
    obtain ⟨e1, e2, e3, e4, e5, e6⟩ := e
    rw [e1, e5, if_neg (by decide)] at a0
    rw [e2, e6, if_pos (by decide)] at a2
    rw [e3, e5, if_neg (by decide)] at b0
    rw [e4, e6, if_pos (by decide)] at b2
    omega
theorem check_odd : checkR oddD = 1 := by decide +kernel
theorem check_short : checkR shortD = 1 := by decide +kernel
theorem check_empty : checkR emptyD = 1 := by decide +kernel
theorem check_many : checkR manyD = 3 := by decide +kernel
theorem nil_round (w : World) : RoundAt w (.slice none 0 0) (.slice none 0 0) (.slice none 0 0) [] emptyD :=
  ⟨slAt_nil w 2, slAt_nil w 1, slAt_nil w 2, fun i hi => absurd hi (Nat.not_lt_zero _), rfl, rfl⟩
theorem rdsAt4 {w : World} {a b c e : Value} {la lb lc le : List Int} (h1 : SlAt w a 1 la.length (ints la)) (h2 : SlAt w b 1 lb.length (ints lb)) (h3 : SlAt w c 1 lc.length (ints lc)) (h4 : SlAt w e 1 le.length (ints le)) : RdsAt w [a, b, c, e] [la, lb, lc, le] := by
  intro i hi
  match i, hi with
  | 0, _ => exact h1
  | 1, _ => exact h2
  | 2, _ => exact h3
  | 3, _ => exact h4
  | i + 4, hi => simp at hi; omega
theorem rdsAt3 {w : World} {a b c : Value} {la lb lc : List Int} (h1 : SlAt w a 1 la.length (ints la)) (h2 : SlAt w b 1 lb.length (ints lb)) (h3 : SlAt w c 1 lc.length (ints lc)) : RdsAt w [a, b, c] [la, lb, lc] := by
  intro i hi
  match i, hi with
  | 0, _ => exact h1
  | 1, _ => exact h2
  | 2, _ => exact h3
  | i + 3, hi => simp at hi; omega
end Go.Proofs.Ytfhmigoddaaljaa

namespace Go.Proofs.Ytfhmigoddaaljaa
open Go.RowKit Go.Shelf Go.Eng
theorem bd_34_  (w : World) : (Instr.build 34 #[]).run Try.prog w = .ok (.agg #[(Value.slice none 0 0), (Value.slice none 0 0), (Value.int .i64 0), (Value.slice none 0 0)]) w := by kernel_rfl
theorem mk_46_5 : (madeCells ((Value.agg #[(Value.int .i64 0), (Value.int .i64 0)]) : Value).cells (5 * 2)).toList = [(Value.int .i64 0), (Value.int .i64 0), (Value.int .i64 0), (Value.int .i64 0), (Value.int .i64 0), (Value.int .i64 0), (Value.int .i64 0), (Value.int .i64 0), (Value.int .i64 0), (Value.int .i64 0)] := by kernel_rfl
theorem bd_34_0s (x0_0 : Value) (hx0_0 : IsSl x0_0) (w : World) : (Instr.build 34 #[(0, x0_0)]).run Try.prog w = .ok (.agg #[x0_0, (Value.slice none 0 0), (Value.int .i64 0), (Value.slice none 0 0)]) w := by obtain ⟨Ax0_0, Bx0_0, Cx0_0, rfl⟩ := hx0_0; kernel_rfl
theorem trialR_ok (w : World) :
  Calls Try.prog 40 #[] w (Ret fun v w' => ∃ vl vs vb v0 v1 v2 v3, v = .agg #[vl, vs, .int .i64 2, vb] ∧ Sep NoB w w' [(row vl 46 2 2 [(Value.int .i64 100), (Value.int .i64 140), (Value.int .i64 200), (Value.int .i64 260)]), (row vs 3 1 3 [(Value.int .i64 0), (Value.int .i64 0), (Value.int .i64 1)]), (row vb 75 2 4 [(Value.int .i64 3), v0, (Value.int .i64 3), v1, (Value.int .i64 2), v2, (Value.int .i64 5), v3]), (row v0 3 1 3 [(Value.int .i64 120), (Value.int .i64 122), (Value.int .i64 230)]), (row v1 3 1 3 [(Value.int .i64 124), (Value.int .i64 121), (Value.int .i64 234)]), (row v2 3 1 3 [(Value.int .i64 131), (Value.int .i64 133), (Value.int .i64 240)]), (row v3 3 1 3 [(Value.int .i64 (-1)), (Value.int .i64 118), (Value.int .i64 229)])]) := by
 refine calls_enter Try.func40 rfl fun a0 hA0 => ?_
 replace hA0 : Fr 15 [] [] a0 := hA0
 have hS0 : Sep NoB w w [] := Sep.start _ _
 refine c_seq ?_
 refine c_region ?_
 refine stw hA0 (op_alloc hS0 rfl ze_34 (cs := [(Value.slice none 0 0), (Value.slice none 0 0), (Value.int .i64 0), (Value.slice none 0 0)]) rfl) rfl rfl (by decide) ?_
 rintro a1 _ w3 ⟨b4, rfl, hS5⟩ hA2; clear hA0 hS0 a0
 refine wl_nil ?_
 refine then_n ?_
 refine c_seq ?_
 refine c_region ?_
 refine st hA2 (op_build rfl (pv2 (evc _ _) (evc _ _)) (bd_46_0i_1i _ _)) rfl rfl (by decide) fun a6 hA7 => ?_; clear hA2 a1
 refine st hA7 (op_build rfl (pv2 (evc _ _) (evc _ _)) (bd_46_0i_1i _ _)) rfl rfl (by decide) fun a8 hA9 => ?_; clear hA7 a6
 refine stw hA9 (op_buildSlice hS5 rfl (pv2 (hA9.ev rfl) (hA9.ev rfl)) un_31 ty_46 ze_46 (by decide) (cs := [(Value.int .i64 100), (Value.int .i64 140), (Value.int .i64 200), (Value.int .i64 260)]) (bs_46_2_0iia_1iia _ _ _ _)) rfl rfl (by decide) ?_
 rintro a10 _ w12 ⟨b13, rfl, hS14⟩ hA11; clear hA9 hS5 a8
 refine stw hA11 (op_buildSlice hS14 rfl (pv3 (evc _ _) (evc _ _) (evc _ _)) un_23 ty_3 ze_3 (by decide) (cs := [(Value.int .i64 0), (Value.int .i64 0), (Value.int .i64 1)]) (bs_3_3_0i_1i_2i _ _ _)) rfl rfl (by decide) ?_
 rintro a15 _ w17 ⟨b18, rfl, hS19⟩ hA16; clear hA11 hS14 a10
 refine stw hA16 (op_buildSlice hS19 rfl (pv3 (evc _ _) (evc _ _) (evc _ _)) un_23 ty_3 ze_3 (by decide) (cs := [(Value.int .i64 120), (Value.int .i64 122), (Value.int .i64 230)]) (bs_3_3_0i_1i_2i _ _ _)) rfl rfl (by decide) ?_
 rintro a20 _ w22 ⟨b23, rfl, hS24⟩ hA21; clear hA16 hS19 a15
 refine st hA21 (op_build rfl (pv2 (evc _ _) (hA21.ev rfl)) (bd_75_0i_1s _ _ ⟨_, _, _, rfl⟩)) rfl rfl (by decide) fun a25 hA26 => ?_; clear hA21 a20
 refine stw hA26 (op_buildSlice hS24 rfl (pv3 (evc _ _) (evc _ _) (evc _ _)) un_23 ty_3 ze_3 (by decide) (cs := [(Value.int .i64 124), (Value.int .i64 121), (Value.int .i64 234)]) (bs_3_3_0i_1i_2i _ _ _)) rfl rfl (by decide) ?_
 rintro a27 _ w29 ⟨b30, rfl, hS31⟩ hA28; clear hA26 hS24 a25
 refine st hA28 (op_build rfl (pv2 (evc _ _) (hA28.ev rfl)) (bd_75_0i_1s _ _ ⟨_, _, _, rfl⟩)) rfl rfl (by decide) fun a32 hA33 => ?_; clear hA28 a27
 refine stw hA33 (op_buildSlice hS31 rfl (pv3 (evc _ _) (evc _ _) (evc _ _)) un_23 ty_3 ze_3 (by decide) (cs := [(Value.int .i64 131), (Value.int .i64 133), (Value.int .i64 240)]) (bs_3_3_0i_1i_2i _ _ _)) rfl rfl (by decide) ?_
 rintro a34 _ w36 ⟨b37, rfl, hS38⟩ hA35; clear hA33 hS31 a32
 refine st hA35 (op_build rfl (pv2 (evc _ _) (hA35.ev rfl)) (bd_75_0i_1s _ _ ⟨_, _, _, rfl⟩)) rfl rfl (by decide) fun a39 hA40 => ?_; clear hA35 a34
 refine stw hA40 (op_buildSlice hS38 rfl (pv3 (evc _ _) (evc _ _) (evc _ _)) un_23 ty_3 ze_3 (by decide) (cs := [(Value.int .i64 (-1)), (Value.int .i64 118), (Value.int .i64 229)]) (bs_3_3_0i_1i_2i _ _ _)) rfl rfl (by decide) ?_
 rintro a41 _ w43 ⟨b44, rfl, hS45⟩ hA42; clear hA40 hS38 a39
 refine st hA42 (op_build rfl (pv2 (evc _ _) (hA42.ev rfl)) (bd_75_0i_1s _ _ ⟨_, _, _, rfl⟩)) rfl rfl (by decide) fun a46 hA47 => ?_; clear hA42 a41
 refine stw hA47 (op_buildSlice hS45 rfl (pv4 (hA47.ev rfl) (hA47.ev rfl) (hA47.ev rfl) (hA47.ev rfl)) un_32 ty_75 ze_75 (by decide) (cs := [(Value.int .i64 3), (Value.slice (some ⟨b23, 0, none⟩) 3 3), (Value.int .i64 3), (Value.slice (some ⟨b30, 0, none⟩) 3 3), (Value.int .i64 2), (Value.slice (some ⟨b37, 0, none⟩) 3 3), (Value.int .i64 5), (Value.slice (some ⟨b44, 0, none⟩) 3 3)]) (bs_75_4_0iva_1iva_2iva_3iva _ _ _ _ _ _ _ _)) rfl rfl (by decide) ?_
 rintro a48 _ w50 ⟨b51, rfl, hS52⟩ hA49; clear hA47 hS45 a46
 refine st hA49 (op_build rfl (pv4 (hA49.ev rfl) (hA49.ev rfl) (evc _ _) (hA49.ev rfl)) (bd_34_0s_1s_2i_3s _ ⟨_, _, _, rfl⟩ _ ⟨_, _, _, rfl⟩ _ _ ⟨_, _, _, rfl⟩)) rfl rfl (by decide) fun a53 hA54 => ?_; clear hA49 a48
 refine sts hA54 (op_store hS52 rfl ty_34 (hA54.ev rfl) (hA54.ev rfl) (i := 7) rfl (vs := [(Value.slice (some ⟨b13, 0, none⟩) 2 2), (Value.slice (some ⟨b18, 0, none⟩) 3 3), (Value.int .i64 2), (Value.slice (some ⟨b51, 0, none⟩) 4 4)]) rfl rfl (all_c rfl (all_c rfl (all_c rfl (all_c rfl all_n)))) (Nat.le_of_ble_eq_true rfl)) rfl rfl ?_
 intro _ w55 hS56 hA57; clear hA54
 have hS58 : Sep NoB w w55 [(blk b51 75 [(Value.int .i64 3), (Value.slice (some ⟨b23, 0, none⟩) 3 3), (Value.int .i64 3), (Value.slice (some ⟨b30, 0, none⟩) 3 3), (Value.int .i64 2), (Value.slice (some ⟨b37, 0, none⟩) 3 3), (Value.int .i64 5), (Value.slice (some ⟨b44, 0, none⟩) 3 3)]), (blk b44 3 [(Value.int .i64 (-1)), (Value.int .i64 118), (Value.int .i64 229)]), (blk b37 3 [(Value.int .i64 131), (Value.int .i64 133), (Value.int .i64 240)]), (blk b30 3 [(Value.int .i64 124), (Value.int .i64 121), (Value.int .i64 234)]), (blk b23 3 [(Value.int .i64 120), (Value.int .i64 122), (Value.int .i64 230)]), (blk b18 3 [(Value.int .i64 0), (Value.int .i64 0), (Value.int .i64 1)]), (blk b13 46 [(Value.int .i64 100), (Value.int .i64 140), (Value.int .i64 200), (Value.int .i64 260)]), (blk b4 34 [(Value.slice (some ⟨b13, 0, none⟩) 2 2), (Value.slice (some ⟨b18, 0, none⟩) 3 3), (Value.int .i64 2), (Value.slice (some ⟨b51, 0, none⟩) 4 4)])] := hS56; clear hS56 hS52
 refine wl_nil ?_
 refine then_n ?_
 refine c_ret ?_
 refine fin_run hA57 (.inl rfl) (run_results1 hA57 rfl (.cellA rfl ty_34 (hS58.bk 7 rfl) (l := [(Value.slice (some ⟨b13, 0, none⟩) 2 2), (Value.slice (some ⟨b18, 0, none⟩) 3 3), (Value.int .i64 2), (Value.slice (some ⟨b51, 0, none⟩) 4 4)]) rfl rfl)) ?_
 have hj := hS58.keep [6, 5, 0, 4, 3, 2, 1] (by decide) _ rfl rfl
 exact ⟨_, _, _, _, _, _, _, rfl, (((((((hj.blk_row (i := 0) (sz := 2) (n := 2) rfl rfl (by decide)).blk_row (i := 1) (sz := 1) (n := 3) rfl rfl (by decide)).blk_row (i := 2) (sz := 2) (n := 4) rfl rfl (by decide)).blk_row (i := 3) (sz := 1) (n := 3) rfl rfl (by decide)).blk_row (i := 4) (sz := 1) (n := 3) rfl rfl (by decide)).blk_row (i := 5) (sz := 1) (n := 3) rfl rfl (by decide)).blk_row (i := 6) (sz := 1) (n := 3) rfl rfl (by decide))⟩

set_option maxHeartbeats 4000000 in
theorem RoundNames_ok (w : World) :
  Calls Try.prog 14 #[] w (Ret fun v w' => v = .bool true ∧ Ext NoB w w') := by
 refine calls_enter Try.func14 rfl fun a0 hA0 => ?_
 replace hA0 : Fr 202 [] [] a0 := hA0
 obtain ⟨lo, hi, hz, hlo, hhi⟩ := shifts_few
 have hS0 : Sep NoB w w [] := Sep.start _ _
 refine c_seq ?_
 refine c_region ?_
 refine st hA0 (op_assign rfl (evc _ _)) rfl rfl (by decide) fun a1 hA2 => ?_; clear hA0 a0
 refine wl_nil ?_
 refine then_n ?_
 refine c_seq ?_
 refine c_region ?_
 refine stw hA2 (op_call rfl en_40 ev0 (trial_ok _)) rfl rfl (by decide) ?_
 rintro a3 _ w5 ⟨vl6, vs7, vb8, lv9, rfl, hT10⟩ hA4; have hS11 := hS0.callS hT10 rfl; clear hT10 hA2 hS0 a1
 refine stw hA4 (op_buildSlice hS11 rfl (pv2 (evc _ _) (evc _ _)) un_23 ty_3 ze_3 (by decide) (cs := [(Value.int .i64 0), (Value.int .i64 1)]) (bs_3_2_0i_1i _ _)) rfl rfl (by decide) ?_
 rintro a12 _ w14 ⟨b15, rfl, hS16⟩ hA13; clear hA4 hS11 a3
 refine stw hA13 (op_call rfl en_21 (ev2 (hA13.ev rfl) (hA13.ev rfl)) (by have h := (explains_ok vl6 vs7 vb8 lv9 trialD _ (rnd_at (hS16.ok 1 _ rfl)) _ ([0, 1]) (SlAt.of_blk (hS16.bk 0 rfl) rfl (Nat.le_of_ble_eq_true rfl)) (Nat.le_of_ble_eq_true rfl)); rw [explains_n1] at h; exact h)) rfl rfl (by decide) ?_
 rintro a17 _ w19 ⟨rfl, hE20⟩ hA18; have hS21 := hS16.step hE20; clear hE20 hA13 hS16 a12
 refine st hA18 (op_move rfl (hA18.ev rfl)) rfl rfl (by decide) fun a22 hA23 => ?_; clear hA18 a17
 refine st hA23 (op_extract rfl (hA23.ev rfl) rfl) rfl rfl (by decide) fun a24 hA25 => ?_; clear hA23 a22
 refine st hA25 (op_extract rfl (hA25.ev rfl) rfl) rfl rfl (by decide) fun a26 hA27 => ?_; clear hA25 a24
 refine st hA27 (op_assign rfl (hA27.ev rfl)) rfl rfl (by decide) fun a28 hA29 => ?_; clear hA27 a26
 refine st hA29 (op_assign rfl (hA29.ev rfl)) rfl rfl (by decide) fun a30 hA31 => ?_; clear hA29 a28
 refine wl_nil ?_
 refine then_n ?_
 refine c_seq ?_
 have hA32 := hA31.as [(2, (Value.int .i64 0)), (1, (Value.bool false))] rfl; clear hA31
 refine c_region ?_
 refine stw hA32 (op_call rfl en_40 ev0 (trial_ok _)) rfl rfl (by decide) ?_
 rintro a33 _ w35 ⟨vl36, vs37, vb38, lv39, rfl, hT40⟩ hA34; have hS41 := hS21.callS hT40 rfl; clear hT40 hA32 hS21 a30
 refine stw hA34 (op_call rfl en_38 (ev1 (hA34.ev rfl)) (by have h := (conv_fn vl36 vs37 vb38 lv39 trialD _ (rnd_at (hS41.ok 0 _ rfl))); rw [conv_trial] at h; exact h)) rfl rfl (by decide) ?_
 rintro a42 _ w44 ⟨u48, rfl, hE45, hO46⟩ hA43; clear hA34 a33
 have hS47 : Sep NoB w w44 [(row u48 3 1 ([2].length) (ints ([2]))), (rndR true vl36 vs37 vb38 lv39 trialD), (blk b15 3 [(Value.int .i64 0), (Value.int .i64 1)]), (rndR true vl6 vs7 vb8 lv9 trialD)] := hS41.new_row hE45 hO46; clear hE45 hO46 hS41
 refine st hA43 (op_move rfl (hA43.ev rfl)) rfl rfl (by decide) fun a49 hA50 => ?_; clear hA43 a42
 refine st hA50 (op_extract rfl (hA50.ev rfl) rfl) rfl rfl (by decide) fun a51 hA52 => ?_; clear hA50 a49
 refine st hA52 (op_extract rfl (hA52.ev rfl) rfl) rfl rfl (by decide) fun a53 hA54 => ?_; clear hA52 a51
 refine st hA54 (op_assign rfl (hA54.ev rfl)) rfl rfl (by decide) fun a55 hA56 => ?_; clear hA54 a53
 refine st hA56 (op_assign rfl (hA56.ev rfl)) rfl rfl (by decide) fun a57 hA58 => ?_; clear hA56 a55
 refine wl_nil ?_
 refine then_n ?_
 refine c_seq ?_
 refine c_region ?_
 refine stw hA58 (op_call rfl en_40 ev0 (trialR_ok _)) rfl rfl (by decide) ?_
 rintro a59 _ w61 ⟨vl62, vs63, vb64, v065, v166, v267, v368, rfl, hT69⟩ hA60; have hS70 := hS47.callS hT69 rfl; clear hT69 hA58 hS47 a57
 refine stw hA60 (op_alloc hS70 rfl ze_34 (cs := [(Value.slice none 0 0), (Value.slice none 0 0), (Value.int .i64 0), (Value.slice none 0 0)]) rfl) rfl rfl (by decide) ?_
 rintro a71 _ w73 ⟨b74, rfl, hS75⟩ hA72; clear hA60 hS70 a59
 refine sts hA72 (op_store hS75 rfl ty_34 (hA72.ev rfl) (hA72.ev rfl) (i := 0) rfl (vs := [vl62, vs63, (Value.int .i64 2), vb64]) rfl rfl (all_c (SlAt.one (SlAt.of_row (hS75.ok_row 1 rfl))) (all_c (SlAt.one (SlAt.of_row (hS75.ok_row 2 rfl))) (all_c rfl (all_c (SlAt.one (SlAt.of_row (hS75.ok_row 3 rfl))) all_n)))) (Nat.le_of_ble_eq_true rfl)) rfl rfl ?_
 intro _ w76 hS77 hA78; clear hA72
 have hS79 : Sep NoB w w76 [(blk b74 34 [vl62, vs63, (Value.int .i64 2), vb64]), (row vl62 46 2 2 [(Value.int .i64 100), (Value.int .i64 140), (Value.int .i64 200), (Value.int .i64 260)]), (row vs63 3 1 3 [(Value.int .i64 0), (Value.int .i64 0), (Value.int .i64 1)]), (row vb64 75 2 4 [(Value.int .i64 3), v065, (Value.int .i64 3), v166, (Value.int .i64 2), v267, (Value.int .i64 5), v368]), (row v065 3 1 3 [(Value.int .i64 120), (Value.int .i64 122), (Value.int .i64 230)]), (row v166 3 1 3 [(Value.int .i64 124), (Value.int .i64 121), (Value.int .i64 234)]), (row v267 3 1 3 [(Value.int .i64 131), (Value.int .i64 133), (Value.int .i64 240)]), (row v368 3 1 3 [(Value.int .i64 (-1)), (Value.int .i64 118), (Value.int .i64 229)]), (row u48 3 1 ([2].length) (ints ([2]))), (rndR true vl36 vs37 vb38 lv39 trialD), (blk b15 3 [(Value.int .i64 0), (Value.int .i64 1)]), (rndR true vl6 vs7 vb8 lv9 trialD)] := hS77; clear hS77 hS75
 refine wl_nil ?_
 refine then_n ?_
 refine c_seq ?_
 have hA80 := hA78.as [(5, (bptr b74 0)), (4, (Value.int .i64 0)), (3, u48), (2, (Value.int .i64 0)), (1, (Value.bool false))] rfl; clear hA78
 have hA81 := hA80.as [(5, (bptr b74 0)), (4, (Value.int .i64 0)), (3, u48), (2, (Value.int .i64 0)), (1, (Value.bool false))] rfl; clear hA80
 refine c_drawV mixed hA81 hS79 8 [[], [0], [1], [], [3], [4], [5], [6]] [(fun (vs82 : Nat → Value) (v_ : Value) (rs_ : List Res) => v_ = (bptr b74 3) ∧ rs_ = []), (fun (vs82 : Nat → Value) (v_ : Value) (rs_ : List Res) => v_ = vb64 ∧ rs_ = []), (fun (vs82 : Nat → Value) (v_ : Value) (rs_ : List Res) => v_ = (slcut3 vb64 0 2 2 2) ∧ rs_ = []), (fun (vs82 : Nat → Value) (v_ : Value) (rs_ : List Res) => v_ = (bptr b74 3) ∧ rs_ = []), (fun (vs82 : Nat → Value) (v_ : Value) (rs_ : List Res) => v_ = vb64 ∧ rs_ = []), (fun (vs82 : Nat → Value) (v_ : Value) (rs_ : List Res) => v_ = (eptr vb64 (3 * 2)) ∧ rs_ = []), (fun (vs82 : Nat → Value) (v_ : Value) (rs_ : List Res) => v_ = (Value.agg #[(Value.int .i64 5), v368]) ∧ rs_ = []), (fun (vs82 : Nat → Value) (v_ : Value) (rs_ : List Res) => True ∧ rs_ = [(row v_ 75 2 1 [(Value.int .i64 5), v368])])] (by decide +kernel) (by decide +kernel) rfl rfl ⟨(fun _ _ _ _ _ h_ => h_), (fun _ _ _ _ _ h_ => h_), (fun _ _ _ _ _ h_ => h_), (fun _ _ _ _ _ h_ => h_), (fun _ _ _ _ _ h_ => h_), (fun _ _ _ _ _ h_ => h_), (fun _ _ _ _ _ h_ => h_), (fun _ _ _ _ _ h_ => h_), trivial⟩ ?_ ?_
 ·skip
  refine ⟨fun a w vs82 hA hS hd => ?_, ?_⟩
  ·skip
   exact opG_of rfl (vv (op_field rfl fd_34_3 (hA.ev rfl)) (And.intro rfl rfl))
  refine ⟨fun a w vs82 hA hS hd => ?_, ?_⟩
  ·skip
   obtain ⟨e0, rs0, hy0, hp0⟩ := hd 0 (by decide)
   obtain ⟨hv0, hr0⟩ := hy0; subst hr0
   rw [hv0] at e0
   exact opG_of rfl (vv (op_load1 rfl ty_32 (tmp_ev (slot_ev e0 rfl)) (hS.bk 0 rfl) rfl) (And.intro rfl rfl))
  refine ⟨fun a w vs82 hA hS hd => ?_, ?_⟩
  ·skip
   obtain ⟨e1, rs1, hy1, hp1⟩ := hd 1 (by decide)
   obtain ⟨hv1, hr1⟩ := hy1; subst hr1
   rw [hv1] at e1
   exact opG_of rfl (vv (op_sliceHM rfl un_32 ty_75 (tmp_ev (slot_ev e1 rfl)) (h := 2) (show _ = Value.int .i64 ((2 : Nat) : Int) from (evc _ _)) (m := 2) (show _ = Value.int .i64 ((2 : Nat) : Int) from (evc _ _)) (SlAt.of_row (hS.ok_row 3 rfl)) (by omega) (by decide)) (And.intro rfl rfl))
  refine ⟨fun a w vs82 hA hS hd => ?_, ?_⟩
  ·skip
   exact opG_of rfl (vv (op_field rfl fd_34_3 (hA.ev rfl)) (And.intro rfl rfl))
  refine ⟨fun a w vs82 hA hS hd => ?_, ?_⟩
  ·skip
   obtain ⟨e3, rs3, hy3, hp3⟩ := hd 3 (by decide)
   obtain ⟨hv3, hr3⟩ := hy3; subst hr3
   rw [hv3] at e3
   exact opG_of rfl (vv (op_load1 rfl ty_32 (tmp_ev (slot_ev e3 rfl)) (hS.bk 0 rfl) rfl) (And.intro rfl rfl))
  refine ⟨fun a w vs82 hA hS hd => ?_, ?_⟩
  ·skip
   obtain ⟨e4, rs4, hy4, hp4⟩ := hd 4 (by decide)
   obtain ⟨hv4, hr4⟩ := hy4; subst hr4
   rw [hv4] at e4
   exact opG_of rfl (vv (op_indexS rfl un_32 ty_75 (tmp_ev (slot_ev e4 rfl)) (i := 3) (show _ = Value.int .i64 ((3 : Nat) : Int) from (evc _ _)) (SlAt.of_row (hS.ok_row 3 rfl)) (by decide) (by decide)) (And.intro rfl rfl))
  refine ⟨fun a w vs82 hA hS hd => ?_, ?_⟩
  ·skip
   obtain ⟨e5, rs5, hy5, hp5⟩ := hd 5 (by decide)
   obtain ⟨hv5, hr5⟩ := hy5; subst hr5
   rw [hv5] at e5
   exact opG_of rfl (vv (op_loadAE rfl ty_75 (tmp_ev (slot_ev e5 rfl)) (SlAt.of_row (hS.ok_row 3 rfl)) rfl rfl (by decide)) (And.intro rfl rfl))
  refine ⟨fun a w vs82 hA hS hd => ?_, ?_⟩
  ·skip
   obtain ⟨e6, rs6, hy6, hp6⟩ := hd 6 (by decide)
   obtain ⟨hv6, hr6⟩ := hy6; subst hr6
   rw [hv6] at e6
   exact opG_of rfl (vblt rfl (pv1 (tmp_ev (slot_ev e6 rfl))) un_32 ty_75 ze_75 (by decide) (cs := [(Value.int .i64 5), v368]) (bs_75_1_0iva _ _) rfl (by decide) (fun _ => And.intro trivial rfl))
  trivial
 intro a83 w84 vs82 rsf88 hA85 hH87 hS86; clear hA81 hS79
 obtain ⟨hs_0, hy_0⟩ := hH87 0 (by decide)
 obtain ⟨hv_0, hr_0⟩ := hy_0
 obtain ⟨hs_1, hy_1⟩ := hH87 1 (by decide)
 obtain ⟨hv_1, hr_1⟩ := hy_1
 obtain ⟨hs_2, hy_2⟩ := hH87 2 (by decide)
 obtain ⟨hv_2, hr_2⟩ := hy_2
 obtain ⟨hs_3, hy_3⟩ := hH87 3 (by decide)
 obtain ⟨hv_3, hr_3⟩ := hy_3
 obtain ⟨hs_4, hy_4⟩ := hH87 4 (by decide)
 obtain ⟨hv_4, hr_4⟩ := hy_4
 obtain ⟨hs_5, hy_5⟩ := hH87 5 (by decide)
 obtain ⟨hv_5, hr_5⟩ := hy_5
 obtain ⟨hs_6, hy_6⟩ := hH87 6 (by decide)
 obtain ⟨hv_6, hr_6⟩ := hy_6
 obtain ⟨hs_7, hy_7⟩ := hH87 7 (by decide)
 obtain ⟨hv_7, hr_7⟩ := hy_7
 have hS89 : Sep NoB w w84 [(row (vs82 7) 75 2 1 [(Value.int .i64 5), v368]), (blk b74 34 [vl62, vs63, (Value.int .i64 2), vb64]), (row vl62 46 2 2 [(Value.int .i64 100), (Value.int .i64 140), (Value.int .i64 200), (Value.int .i64 260)]), (row vs63 3 1 3 [(Value.int .i64 0), (Value.int .i64 0), (Value.int .i64 1)]), (row vb64 75 2 4 [(Value.int .i64 3), v065, (Value.int .i64 3), v166, (Value.int .i64 2), v267, (Value.int .i64 5), v368]), (row v065 3 1 3 [(Value.int .i64 120), (Value.int .i64 122), (Value.int .i64 230)]), (row v166 3 1 3 [(Value.int .i64 124), (Value.int .i64 121), (Value.int .i64 234)]), (row v267 3 1 3 [(Value.int .i64 131), (Value.int .i64 133), (Value.int .i64 240)]), (row v368 3 1 3 [(Value.int .i64 (-1)), (Value.int .i64 118), (Value.int .i64 229)]), (row u48 3 1 ([2].length) (ints ([2]))), (rndR true vl36 vs37 vb38 lv39 trialD), (blk b15 3 [(Value.int .i64 0), (Value.int .i64 1)]), (rndR true vl6 vs7 vb8 lv9 trialD)] := by rw [show catR rsf88 0 8 = ([(row (vs82 7) 75 2 1 [(Value.int .i64 5), v368])] : List Res) by (try simp only [catR, hr_0, hr_1, hr_2, hr_3, hr_4, hr_5, hr_6, hr_7]); (try rfl)] at hS86; exact hS86
 rw [hv_2] at hs_2
 have hA90 : Fr 202 [] [(33, (slcut3 vb64 0 2 2 2)), (5, (bptr b74 0)), (4, (Value.int .i64 0)), (3, u48), (2, (Value.int .i64 0)), (1, (Value.bool false))] a83 := hA85.add (slot_ev hs_2 rfl); clear hA85
 have hA91 : Fr 202 [] [(38, (vs82 7)), (33, (slcut3 vb64 0 2 2 2)), (5, (bptr b74 0)), (4, (Value.int .i64 0)), (3, u48), (2, (Value.int .i64 0)), (1, (Value.bool false))] a83 := hA90.add (slot_ev hs_7 rfl); clear hA90
 clear hH87 hS86 hs_0 hs_1 hs_2 hs_3 hs_4 hs_5 hs_6 hs_7
 clear hr_0
 clear hv_0
 clear hr_1
 clear hv_1
 clear hr_2
 clear hv_2
 clear hr_3
 clear hv_3
 clear hr_4
 clear hv_4
 clear hr_5
 clear hv_5
 clear hr_6
 clear hv_6
 clear hr_7
 clear hv_7
 obtain ⟨A100, hf99⟩ := (slcut3_is (SlAt.of_row (hS89.ok_row 4 rfl)))
 refine stw hA91 (op_appendF rfl un_32 el_75 ((hA91.ev rfl).trans hf99) (hA91.ev rfl) (hf99 ▸ ((SlAt.cut3 (SlAt.of_row (hS89.ok_row 4 rfl)) (by omega) (by decide)).say rfl rfl)) (by decide) (SlAt.of_row (hS89.ok_row 0 rfl)) (by decide) (by decide) (by decide)) rfl rfl (by decide) ?_
 rintro a92 v95 w94 ⟨hE97, hO98⟩ hA93; clear hf99
 have hS96 : Sep NoB w w94 [(row v95 75 2 3 [(Value.int .i64 3), v065, (Value.int .i64 3), v166, (Value.int .i64 5), v368]), (row (vs82 7) 75 2 1 [(Value.int .i64 5), v368]), (blk b74 34 [vl62, vs63, (Value.int .i64 2), vb64]), (row vl62 46 2 2 [(Value.int .i64 100), (Value.int .i64 140), (Value.int .i64 200), (Value.int .i64 260)]), (row vs63 3 1 3 [(Value.int .i64 0), (Value.int .i64 0), (Value.int .i64 1)]), (row vb64 75 2 4 [(Value.int .i64 3), v065, (Value.int .i64 3), v166, (Value.int .i64 2), v267, (Value.int .i64 5), v368]), (row v065 3 1 3 [(Value.int .i64 120), (Value.int .i64 122), (Value.int .i64 230)]), (row v166 3 1 3 [(Value.int .i64 124), (Value.int .i64 121), (Value.int .i64 234)]), (row v267 3 1 3 [(Value.int .i64 131), (Value.int .i64 133), (Value.int .i64 240)]), (row v368 3 1 3 [(Value.int .i64 (-1)), (Value.int .i64 118), (Value.int .i64 229)]), (row u48 3 1 ([2].length) (ints ([2]))), (rndR true vl36 vs37 vb38 lv39 trialD), (blk b15 3 [(Value.int .i64 0), (Value.int .i64 1)]), (rndR true vl6 vs7 vb8 lv9 trialD)] := hS89.new_row hE97 hO98; clear hE97 hO98 hA91 hS89 a83
 refine st hA93 (op_field rfl fd_34_3 (hA93.ev rfl)) rfl rfl (by decide) fun a101 hA102 => ?_; clear hA93 a92
 refine sts hA102 (op_store hS96 rfl ty_32 (hA102.ev rfl) (hA102.ev rfl) (i := 2) rfl (vs := [v95]) (isSl_cells (SlAt.isSl (SlAt.of_row (hS96.ok_row 0 rfl)))) rfl (all_c (SlAt.one (SlAt.of_row (hS96.ok_row 0 rfl))) all_n) (Nat.le_of_ble_eq_true rfl)) rfl rfl ?_
 intro _ w103 hS104 hA105; clear hA102
 have hS106 : Sep NoB w w103 [(row v95 75 2 3 [(Value.int .i64 3), v065, (Value.int .i64 3), v166, (Value.int .i64 5), v368]), (row (vs82 7) 75 2 1 [(Value.int .i64 5), v368]), (blk b74 34 [vl62, vs63, (Value.int .i64 2), v95]), (row vl62 46 2 2 [(Value.int .i64 100), (Value.int .i64 140), (Value.int .i64 200), (Value.int .i64 260)]), (row vs63 3 1 3 [(Value.int .i64 0), (Value.int .i64 0), (Value.int .i64 1)]), (row vb64 75 2 4 [(Value.int .i64 3), v065, (Value.int .i64 3), v166, (Value.int .i64 2), v267, (Value.int .i64 5), v368]), (row v065 3 1 3 [(Value.int .i64 120), (Value.int .i64 122), (Value.int .i64 230)]), (row v166 3 1 3 [(Value.int .i64 124), (Value.int .i64 121), (Value.int .i64 234)]), (row v267 3 1 3 [(Value.int .i64 131), (Value.int .i64 133), (Value.int .i64 240)]), (row v368 3 1 3 [(Value.int .i64 (-1)), (Value.int .i64 118), (Value.int .i64 229)]), (row u48 3 1 ([2].length) (ints ([2]))), (rndR true vl36 vs37 vb38 lv39 trialD), (blk b15 3 [(Value.int .i64 0), (Value.int .i64 1)]), (rndR true vl6 vs7 vb8 lv9 trialD)] := hS104; clear hS104 hS96
 refine wl_nil ?_
 refine then_n ?_
 refine c_seq ?_
 refine c_region ?_
 refine st hA105 (op_loadA rfl ty_34 (hA105.ev rfl) (hS106.bk 2 rfl) (l := [vl62, vs63, (Value.int .i64 2), v95]) rfl rfl) rfl rfl (by decide) fun a107 hA108 => ?_; clear hA105 a101
 refine stw hA108 (op_call rfl en_29 (ev1 (hA108.ev rfl)) (by have h := (least_fn vl62 vs63 v95 ([v065, v166, v368]) fewD _ (show RoundAt _ vl62 vs63 v95 [v065, v166, v368] fewD from ⟨(SlAt.of_row (hS106.ok_row 3 rfl)), (SlAt.of_row (hS106.ok_row 4 rfl)), (SlAt.of_row (hS106.ok_row 0 rfl)), rdsAt3 ((SlAt.of_row (hS106.ok_row 6 rfl))) ((SlAt.of_row (hS106.ok_row 7 rfl))) ((SlAt.of_row (hS106.ok_row 9 rfl))), rfl, rfl⟩)); rw [least_few] at h; exact h)) rfl rfl (by decide) ?_
 rintro a109 _ w111 ⟨u114, rfl, hT112⟩ hA110; clear hA108 a107
 have hS113 : Sep NoB w w111 [(osl u114 1 (([] : List Int).length) (ints ([] : List Int))), (row v95 75 2 3 [(Value.int .i64 3), v065, (Value.int .i64 3), v166, (Value.int .i64 5), v368]), (row (vs82 7) 75 2 1 [(Value.int .i64 5), v368]), (blk b74 34 [vl62, vs63, (Value.int .i64 2), v95]), (row vl62 46 2 2 [(Value.int .i64 100), (Value.int .i64 140), (Value.int .i64 200), (Value.int .i64 260)]), (row vs63 3 1 3 [(Value.int .i64 0), (Value.int .i64 0), (Value.int .i64 1)]), (row vb64 75 2 4 [(Value.int .i64 3), v065, (Value.int .i64 3), v166, (Value.int .i64 2), v267, (Value.int .i64 5), v368]), (row v065 3 1 3 [(Value.int .i64 120), (Value.int .i64 122), (Value.int .i64 230)]), (row v166 3 1 3 [(Value.int .i64 124), (Value.int .i64 121), (Value.int .i64 234)]), (row v267 3 1 3 [(Value.int .i64 131), (Value.int .i64 133), (Value.int .i64 240)]), (row v368 3 1 3 [(Value.int .i64 (-1)), (Value.int .i64 118), (Value.int .i64 229)]), (row u48 3 1 ([2].length) (ints ([2]))), (rndR true vl36 vs37 vb38 lv39 trialD), (blk b15 3 [(Value.int .i64 0), (Value.int .i64 1)]), (rndR true vl6 vs7 vb8 lv9 trialD)] := hS106.callS hT112 rfl; clear hT112 hS106
 refine st hA110 (op_move rfl (hA110.ev rfl)) rfl rfl (by decide) fun a115 hA116 => ?_; clear hA110 a109
 refine st hA116 (op_extract rfl (hA116.ev rfl) rfl) rfl rfl (by decide) fun a117 hA118 => ?_; clear hA116 a115
 refine st hA118 (op_extract rfl (hA118.ev rfl) rfl) rfl rfl (by decide) fun a119 hA120 => ?_; clear hA118 a117
 refine st hA120 (op_assign rfl (hA120.ev rfl)) rfl rfl (by decide) fun a121 hA122 => ?_; clear hA120 a119
 refine st hA122 (op_assign rfl (hA122.ev rfl)) rfl rfl (by decide) fun a123 hA124 => ?_; clear hA122 a121
 refine wl_nil ?_
 refine then_n ?_
 refine c_seq ?_
 have hA125 := hA124.as [(7, (Value.int .i64 0)), (6, u114), (5, (bptr b74 0)), (4, (Value.int .i64 0)), (3, u48), (2, (Value.int .i64 0)), (1, (Value.bool false))] rfl; clear hA124
 refine c_region ?_
 refine st hA125 (op_loadA rfl ty_34 (hA125.ev rfl) (hS113.bk 3 rfl) (l := [vl62, vs63, (Value.int .i64 2), v95]) rfl rfl) rfl rfl (by decide) fun a126 hA127 => ?_; clear hA125 a123
 refine stw hA127 (op_call rfl en_32 (ev2 (hA127.ev rfl) (evc _ _)) (by have h := (shifts_fn vl62 vs63 v95 ([v065, v166, v368]) fewD _ (show RoundAt _ vl62 vs63 v95 [v065, v166, v368] fewD from ⟨(SlAt.of_row (hS113.ok_row 4 rfl)), (SlAt.of_row (hS113.ok_row 5 rfl)), (SlAt.of_row (hS113.ok_row 1 rfl)), rdsAt3 ((SlAt.of_row (hS113.ok_row 7 rfl))) ((SlAt.of_row (hS113.ok_row 8 rfl))) ((SlAt.of_row (hS113.ok_row 10 rfl))), rfl, rfl⟩) 0); rw [hz] at h; exact h)) rfl rfl (by decide) ?_
 rintro a128 _ w130 ⟨rfl, hE131⟩ hA129; have hS132 := hS113.step hE131; clear hE131 hA127 hS113 a126
 refine st hA129 (op_move rfl (hA129.ev rfl)) rfl rfl (by decide) fun a133 hA134 => ?_; clear hA129 a128
 refine st hA134 (op_extract rfl (hA134.ev rfl) rfl) rfl rfl (by decide) fun a135 hA136 => ?_; clear hA134 a133
 refine st hA136 (op_extract rfl (hA136.ev rfl) rfl) rfl rfl (by decide) fun a137 hA138 => ?_; clear hA136 a135
 refine stw hA138 (op_alloc hS132 rfl ze_46 (cs := [(Value.int .i64 0), (Value.int .i64 0)]) rfl) rfl rfl (by decide) ?_
 rintro a139 _ w141 ⟨b142, rfl, hS143⟩ hA140; clear hA138 hS132 a137
 refine sts hA140 (op_store hS143 rfl ty_46 (hA140.ev rfl) (hA140.ev rfl) (i := 0) rfl (vs := [(Value.int .i64 lo), (Value.int .i64 hi)]) rfl rfl rfl (Nat.le_of_ble_eq_true rfl)) rfl rfl ?_
 intro _ w144 hS145 hA146; clear hA140
 have hS147 : Sep NoB w w144 [(blk b142 46 [(Value.int .i64 lo), (Value.int .i64 hi)]), (osl u114 1 (([] : List Int).length) (ints ([] : List Int))), (row v95 75 2 3 [(Value.int .i64 3), v065, (Value.int .i64 3), v166, (Value.int .i64 5), v368]), (row (vs82 7) 75 2 1 [(Value.int .i64 5), v368]), (blk b74 34 [vl62, vs63, (Value.int .i64 2), v95]), (row vl62 46 2 2 [(Value.int .i64 100), (Value.int .i64 140), (Value.int .i64 200), (Value.int .i64 260)]), (row vs63 3 1 3 [(Value.int .i64 0), (Value.int .i64 0), (Value.int .i64 1)]), (row vb64 75 2 4 [(Value.int .i64 3), v065, (Value.int .i64 3), v166, (Value.int .i64 2), v267, (Value.int .i64 5), v368]), (row v065 3 1 3 [(Value.int .i64 120), (Value.int .i64 122), (Value.int .i64 230)]), (row v166 3 1 3 [(Value.int .i64 124), (Value.int .i64 121), (Value.int .i64 234)]), (row v267 3 1 3 [(Value.int .i64 131), (Value.int .i64 133), (Value.int .i64 240)]), (row v368 3 1 3 [(Value.int .i64 (-1)), (Value.int .i64 118), (Value.int .i64 229)]), (row u48 3 1 ([2].length) (ints ([2]))), (rndR true vl36 vs37 vb38 lv39 trialD), (blk b15 3 [(Value.int .i64 0), (Value.int .i64 1)]), (rndR true vl6 vs7 vb8 lv9 trialD)] := hS145; clear hS145 hS143
 refine st hA146 (op_assign rfl (hA146.ev rfl)) rfl rfl (by decide) fun a148 hA149 => ?_; clear hA146 a139
 refine wl_nil ?_
 refine then_n ?_
 refine c_seq ?_
 refine c_seq ?_
 refine c_region ?_
 refine st hA149 (op_move rfl (hA149.ev rfl)) rfl rfl (by decide) fun a150 hA151 => ?_; clear hA149 a148
 refine st hA151 (op_neq rfl (hA151.ev rfl) (evc _ _)) rfl rfl (by decide) fun a152 hA153 => ?_; clear hA151 a150
 refine st hA153 (op_move rfl (hA153.ev rfl)) rfl rfl (by decide) fun a154 hA155 => ?_; clear hA153 a152
 refine stg hA155 (op_move rfl (hA155.ev rfl)) rfl rfl rfl rfl (by decide) fun a156 hA157 => ?_; clear hA155 a154
 refine st hA157 (op_pick_f rfl (hA157.ev rfl) (hA157.ev rfl)) rfl rfl (by decide) fun a158 hA159 => ?_; clear hA157 a156
 refine st hA159 (op_move rfl (hA159.ev rfl)) rfl rfl (by decide) fun a160 hA161 => ?_; clear hA159 a158
 refine stg hA161 (op_move rfl (hA161.ev rfl)) rfl rfl rfl rfl (by decide) fun a162 hA163 => ?_; clear hA161 a160
 refine stg hA163 (op_neq rfl (hA163.ev rfl) (evc _ _)) rfl rfl rfl rfl (by decide) fun a164 hA165 => ?_; clear hA163 a162
 refine st hA165 (op_pick_f rfl (hA165.ev rfl) (hA165.ev rfl)) rfl rfl (by decide) fun a166 hA167 => ?_; clear hA165 a164
 refine st hA167 (op_move rfl (hA167.ev rfl)) rfl rfl (by decide) fun a168 hA169 => ?_; clear hA167 a166
 refine stg hA169 (op_move rfl (hA169.ev rfl)) rfl rfl rfl rfl (by decide) fun a170 hA171 => ?_; clear hA169 a168
 refine stwg hA171 (op_buildSlice hS147 rfl (pv1 (evc _ _)) un_23 ty_3 ze_3 (by decide) (cs := [(Value.int .i64 2)]) (bs_3_1_0i _)) rfl rfl rfl rfl (by decide) ?_
 rintro a172 _ w174 ⟨b175, rfl, hS176⟩ hA173; clear hA171 hS147 a170
 refine stwg hA173 (op_call rfl en_30 (ev2 (hA173.ev rfl) (hA173.ev rfl)) (ints_ok [2] [2] _ _ _ (SlAt.of_row (hS176.ok_row 13 rfl)) (SlAt.of_blk (hS176.bk 0 rfl) rfl (Nat.le_of_ble_eq_true rfl)) (by decide))) rfl rfl rfl rfl (by decide) ?_
 rintro a177 _ w179 ⟨rfl, hE180⟩ hA178; have hS181 := hS176.step hE180; clear hE180 hA173 hS176 a172
 have hd182 : ([2] : List Int) = [2] := (by decide)
 rw [decide_eq_true hd182] at hA178
 refine stg hA178 (op_not rfl (hA178.ev rfl)) rfl rfl rfl rfl (by decide) fun a183 hA184 => ?_; clear hA178 a177
 refine st hA184 (op_pick_f rfl (hA184.ev rfl) (hA184.ev rfl)) rfl rfl (by decide) fun a185 hA186 => ?_; clear hA184 a183
 refine st hA186 (op_move rfl (hA186.ev rfl)) rfl rfl (by decide) fun a187 hA188 => ?_; clear hA186 a185
 refine stg hA188 (op_move rfl (hA188.ev rfl)) rfl rfl rfl rfl (by decide) fun a189 hA190 => ?_; clear hA188 a187
 refine stg hA190 (op_neq rfl (hA190.ev rfl) (evc _ _)) rfl rfl rfl rfl (by decide) fun a191 hA192 => ?_; clear hA190 a189
 refine st hA192 (op_pick_f rfl (hA192.ev rfl) (hA192.ev rfl)) rfl rfl (by decide) fun a193 hA194 => ?_; clear hA192 a191
 refine st hA194 (op_move rfl (hA194.ev rfl)) rfl rfl (by decide) fun a195 hA196 => ?_; clear hA194 a193
 refine stg hA196 (op_move rfl (hA196.ev rfl)) rfl rfl rfl rfl (by decide) fun a197 hA198 => ?_; clear hA196 a195
 refine stg hA198 (op_lenS rfl un_23 (hA198.ev rfl) (show SlAt _ _ _ _ _ from (hS181.ok 2 _ rfl))) rfl rfl rfl rfl (by decide) fun a199 hA200 => ?_; clear hA198 a197
 refine stg hA200 (op_neq rfl (hA200.ev rfl) (evc _ _)) rfl rfl rfl rfl (by decide) fun a201 hA202 => ?_; clear hA200 a199
 have hd203 : (([] : List Int).length : Int) = 0 := (by decide)
 rw [decide_eq_true hd203] at hA202
 refine st hA202 (op_pick_f rfl (hA202.ev rfl) (hA202.ev rfl)) rfl rfl (by decide) fun a204 hA205 => ?_; clear hA202 a201
 refine st hA205 (op_move rfl (hA205.ev rfl)) rfl rfl (by decide) fun a206 hA207 => ?_; clear hA205 a204
 refine stg hA207 (op_move rfl (hA207.ev rfl)) rfl rfl rfl rfl (by decide) fun a208 hA209 => ?_; clear hA207 a206
 refine stg hA209 (op_neq rfl (hA209.ev rfl) (evc _ _)) rfl rfl rfl rfl (by decide) fun a210 hA211 => ?_; clear hA209 a208
 refine st hA211 (op_pick_f rfl (hA211.ev rfl) (hA211.ev rfl)) rfl rfl (by decide) fun a212 hA213 => ?_; clear hA211 a210
 refine st hA213 (op_move rfl (hA213.ev rfl)) rfl rfl (by decide) fun a214 hA215 => ?_; clear hA213 a212
 refine stg hA215 (op_field rfl fd_46_0 (hA215.ev rfl)) rfl rfl rfl rfl (by decide) fun a216 hA217 => ?_; clear hA215 a214
 refine stg hA217 (op_load1 rfl ty_3 (hA217.ev rfl) (hS181.bk 1 rfl) rfl) rfl rfl rfl rfl (by decide) fun a218 hA219 => ?_; clear hA217 a216
 refine stg hA219 (op_gtr rfl (hA219.ev rfl) (evc _ _)) rfl rfl rfl rfl (by decide) fun a220 hA221 => ?_; clear hA219 a218
 have hd222 : ¬ (0 < lo) := (by omega)
 rw [decide_eq_false hd222] at hA221
 refine st hA221 (op_pick_f rfl (hA221.ev rfl) (hA221.ev rfl)) rfl rfl (by decide) fun a223 hA224 => ?_; clear hA221 a220
 refine st hA224 (op_move rfl (hA224.ev rfl)) rfl rfl (by decide) fun a225 hA226 => ?_; clear hA224 a223
 refine stg hA226 (op_field rfl fd_46_1 (hA226.ev rfl)) rfl rfl rfl rfl (by decide) fun a227 hA228 => ?_; clear hA226 a225
 refine stg hA228 (op_load1 rfl ty_3 (hA228.ev rfl) (hS181.bk 1 rfl) rfl) rfl rfl rfl rfl (by decide) fun a229 hA230 => ?_; clear hA228 a227
 refine stg hA230 (op_lss rfl (hA230.ev rfl) (evc _ _)) rfl rfl rfl rfl (by decide) fun a231 hA232 => ?_; clear hA230 a229
 have hd233 : ¬ (hi < 0) := (by omega)
 rw [decide_eq_false hd233] at hA232
 refine st hA232 (op_pick_f rfl (hA232.ev rfl) (hA232.ev rfl)) rfl rfl (by decide) fun a234 hA235 => ?_; clear hA232 a231
 refine wl_nil ?_
 refine then_n ?_
 refine c_false hA235 rfl ?_
 refine c_skip ?_
 refine then_n ?_
 refine c_seq ?_
 have hA236 := hA235.as [(5, (bptr b74 0))] rfl; clear hA235
 refine c_region ?_
 refine stw hA236 (op_call rfl en_40 ev0 (trial_ok _)) rfl rfl (by decide) ?_
 rintro a237 _ w239 ⟨vl240, vs241, vb242, lv243, rfl, hT244⟩ hA238; have hS245 := hS181.callS hT244 rfl; clear hT244 hA236 hS181 a234
 refine stw hA238 (op_buildSlice hS245 rfl (pv2 (evc _ _) (evc _ _)) un_23 ty_3 ze_3 (by decide) (cs := [(Value.int .i64 2), (Value.int .i64 2)]) (bs_3_2_0i_1i _ _)) rfl rfl (by decide) ?_
 rintro a246 _ w248 ⟨b249, rfl, hS250⟩ hA247; clear hA238 hS245 a237
 refine stw hA247 (op_call rfl en_21 (ev2 (hA247.ev rfl) (hA247.ev rfl)) (by have h := (explains_ok vl240 vs241 vb242 lv243 trialD _ (rnd_at (hS250.ok 1 _ rfl)) _ ([2, 2]) (SlAt.of_blk (hS250.bk 0 rfl) rfl (Nat.le_of_ble_eq_true rfl)) (Nat.le_of_ble_eq_true rfl)); rw [explains_n2] at h; exact h)) rfl rfl (by decide) ?_
 rintro a251 _ w253 ⟨rfl, hE254⟩ hA252; have hS255 := hS250.step hE254; clear hE254 hA247 hS250 a246
 refine st hA252 (op_move rfl (hA252.ev rfl)) rfl rfl (by decide) fun a256 hA257 => ?_; clear hA252 a251
 refine st hA257 (op_extract rfl (hA257.ev rfl) rfl) rfl rfl (by decide) fun a258 hA259 => ?_; clear hA257 a256
 refine st hA259 (op_extract rfl (hA259.ev rfl) rfl) rfl rfl (by decide) fun a260 hA261 => ?_; clear hA259 a258
 refine st hA261 (op_assign rfl (hA261.ev rfl)) rfl rfl (by decide) fun a262 hA263 => ?_; clear hA261 a260
 refine wl_nil ?_
 refine then_n ?_
 refine c_seq ?_
 have hA264 := hA263.as [(2, (Value.int .i64 2)), (5, (bptr b74 0))] rfl; clear hA263
 refine c_region ?_
 refine stw hA264 (op_call rfl en_40 ev0 (trial_ok _)) rfl rfl (by decide) ?_
 rintro a265 _ w267 ⟨vl268, vs269, vb270, lv271, rfl, hT272⟩ hA266; have hS273 := hS255.callS hT272 rfl; clear hT272 hA264 hS255 a262
 refine stw hA266 (op_buildSlice hS273 rfl (pv1 (evc _ _)) un_23 ty_3 ze_3 (by decide) (cs := [(Value.int .i64 4)]) (bs_3_1_0i _)) rfl rfl (by decide) ?_
 rintro a274 _ w276 ⟨b277, rfl, hS278⟩ hA275; clear hA266 hS273 a265
 refine stw hA275 (op_call rfl en_26 (ev2 (hA275.ev rfl) (hA275.ev rfl)) (by have h := (spansE_ok vl268 vs269 vb270 lv271 trialD _ (rnd_at (hS278.ok 1 _ rfl)) _ ([4]) (SlAt.of_blk (hS278.bk 0 rfl) rfl (Nat.le_of_ble_eq_true rfl)) (Nat.le_of_ble_eq_true rfl)); rw [spans_n4] at h; exact h)) rfl rfl (by decide) ?_
 rintro a279 _ w281 ⟨u285, rfl, hE282, hO283⟩ hA280; clear hA275 a274
 have hS284 : Sep NoB w w281 [(row u285 46 2 (([] : List (Int × Int)).length) (pairs ([] : List (Int × Int)))), (blk b277 3 [(Value.int .i64 4)]), (rndR true vl268 vs269 vb270 lv271 trialD), (blk b249 3 [(Value.int .i64 2), (Value.int .i64 2)]), (rndR true vl240 vs241 vb242 lv243 trialD), (blk b175 3 [(Value.int .i64 2)]), (blk b142 46 [(Value.int .i64 lo), (Value.int .i64 hi)]), (osl u114 1 (([] : List Int).length) (ints ([] : List Int))), (row v95 75 2 3 [(Value.int .i64 3), v065, (Value.int .i64 3), v166, (Value.int .i64 5), v368]), (row (vs82 7) 75 2 1 [(Value.int .i64 5), v368]), (blk b74 34 [vl62, vs63, (Value.int .i64 2), v95]), (row vl62 46 2 2 [(Value.int .i64 100), (Value.int .i64 140), (Value.int .i64 200), (Value.int .i64 260)]), (row vs63 3 1 3 [(Value.int .i64 0), (Value.int .i64 0), (Value.int .i64 1)]), (row vb64 75 2 4 [(Value.int .i64 3), v065, (Value.int .i64 3), v166, (Value.int .i64 2), v267, (Value.int .i64 5), v368]), (row v065 3 1 3 [(Value.int .i64 120), (Value.int .i64 122), (Value.int .i64 230)]), (row v166 3 1 3 [(Value.int .i64 124), (Value.int .i64 121), (Value.int .i64 234)]), (row v267 3 1 3 [(Value.int .i64 131), (Value.int .i64 133), (Value.int .i64 240)]), (row v368 3 1 3 [(Value.int .i64 (-1)), (Value.int .i64 118), (Value.int .i64 229)]), (row u48 3 1 ([2].length) (ints ([2]))), (rndR true vl36 vs37 vb38 lv39 trialD), (blk b15 3 [(Value.int .i64 0), (Value.int .i64 1)]), (rndR true vl6 vs7 vb8 lv9 trialD)] := hS278.new_row hE282 hO283; clear hE282 hO283 hS278
 refine st hA280 (op_move rfl (hA280.ev rfl)) rfl rfl (by decide) fun a286 hA287 => ?_; clear hA280 a279
 refine st hA287 (op_extract rfl (hA287.ev rfl) rfl) rfl rfl (by decide) fun a288 hA289 => ?_; clear hA287 a286
 refine st hA289 (op_extract rfl (hA289.ev rfl) rfl) rfl rfl (by decide) fun a290 hA291 => ?_; clear hA289 a288
 refine st hA291 (op_assign rfl (hA291.ev rfl)) rfl rfl (by decide) fun a292 hA293 => ?_; clear hA291 a290
 refine wl_nil ?_
 refine then_n ?_
 refine c_seq ?_
 have hA294 := hA293.as [(4, (Value.int .i64 2)), (2, (Value.int .i64 2)), (5, (bptr b74 0))] rfl; clear hA293
 refine c_region ?_
 refine stw hA294 (op_call rfl en_40 ev0 (trial_ok _)) rfl rfl (by decide) ?_
 rintro a295 _ w297 ⟨vl298, vs299, vb300, lv301, rfl, hT302⟩ hA296; have hS303 := hS284.callS hT302 rfl; clear hT302 hA294 hS284 a292
 refine stw hA296 (op_buildSlice hS303 rfl (pv1 (evc _ _)) un_23 ty_3 ze_3 (by decide) (cs := [(Value.int .i64 0)]) (bs_3_1_0i _)) rfl rfl (by decide) ?_
 rintro a304 _ w306 ⟨b307, rfl, hS308⟩ hA305; clear hA296 hS303 a295
 refine stw hA305 (op_call rfl en_26 (ev2 (hA305.ev rfl) (hA305.ev rfl)) (by have h := (spansE_ok vl298 vs299 vb300 lv301 trialD _ (rnd_at (hS308.ok 1 _ rfl)) _ ([0]) (SlAt.of_blk (hS308.bk 0 rfl) rfl (Nat.le_of_ble_eq_true rfl)) (Nat.le_of_ble_eq_true rfl)); rw [spans_n0] at h; exact h)) rfl rfl (by decide) ?_
 rintro a309 _ w311 ⟨u315, rfl, hE312, hO313⟩ hA310; clear hA305 a304
 have hS314 : Sep NoB w w311 [(row u315 46 2 (([] : List (Int × Int)).length) (pairs ([] : List (Int × Int)))), (blk b307 3 [(Value.int .i64 0)]), (rndR true vl298 vs299 vb300 lv301 trialD), (row u285 46 2 (([] : List (Int × Int)).length) (pairs ([] : List (Int × Int)))), (blk b277 3 [(Value.int .i64 4)]), (rndR true vl268 vs269 vb270 lv271 trialD), (blk b249 3 [(Value.int .i64 2), (Value.int .i64 2)]), (rndR true vl240 vs241 vb242 lv243 trialD), (blk b175 3 [(Value.int .i64 2)]), (blk b142 46 [(Value.int .i64 lo), (Value.int .i64 hi)]), (osl u114 1 (([] : List Int).length) (ints ([] : List Int))), (row v95 75 2 3 [(Value.int .i64 3), v065, (Value.int .i64 3), v166, (Value.int .i64 5), v368]), (row (vs82 7) 75 2 1 [(Value.int .i64 5), v368]), (blk b74 34 [vl62, vs63, (Value.int .i64 2), v95]), (row vl62 46 2 2 [(Value.int .i64 100), (Value.int .i64 140), (Value.int .i64 200), (Value.int .i64 260)]), (row vs63 3 1 3 [(Value.int .i64 0), (Value.int .i64 0), (Value.int .i64 1)]), (row vb64 75 2 4 [(Value.int .i64 3), v065, (Value.int .i64 3), v166, (Value.int .i64 2), v267, (Value.int .i64 5), v368]), (row v065 3 1 3 [(Value.int .i64 120), (Value.int .i64 122), (Value.int .i64 230)]), (row v166 3 1 3 [(Value.int .i64 124), (Value.int .i64 121), (Value.int .i64 234)]), (row v267 3 1 3 [(Value.int .i64 131), (Value.int .i64 133), (Value.int .i64 240)]), (row v368 3 1 3 [(Value.int .i64 (-1)), (Value.int .i64 118), (Value.int .i64 229)]), (row u48 3 1 ([2].length) (ints ([2]))), (rndR true vl36 vs37 vb38 lv39 trialD), (blk b15 3 [(Value.int .i64 0), (Value.int .i64 1)]), (rndR true vl6 vs7 vb8 lv9 trialD)] := hS308.new_row hE312 hO313; clear hE312 hO313 hS308
 refine st hA310 (op_move rfl (hA310.ev rfl)) rfl rfl (by decide) fun a316 hA317 => ?_; clear hA310 a309
 refine st hA317 (op_extract rfl (hA317.ev rfl) rfl) rfl rfl (by decide) fun a318 hA319 => ?_; clear hA317 a316
 refine st hA319 (op_extract rfl (hA319.ev rfl) rfl) rfl rfl (by decide) fun a320 hA321 => ?_; clear hA319 a318
 refine st hA321 (op_assign rfl (hA321.ev rfl)) rfl rfl (by decide) fun a322 hA323 => ?_; clear hA321 a320
 refine wl_nil ?_
 refine then_n ?_
 refine c_seq ?_
 have hA324 := hA323.as [(7, (Value.int .i64 9)), (4, (Value.int .i64 2)), (2, (Value.int .i64 2)), (5, (bptr b74 0))] rfl; clear hA323
 refine c_region ?_
 refine st hA324 (op_loadA rfl ty_34 (hA324.ev rfl) (hS314.bk 13 rfl) (l := [vl62, vs63, (Value.int .i64 2), v95]) rfl rfl) rfl rfl (by decide) fun a325 hA326 => ?_; clear hA324 a322
 refine stw hA326 (op_call rfl en_38 (ev1 (hA326.ev rfl)) (by have h := (conv_fn vl62 vs63 v95 ([v065, v166, v368]) fewD _ (show RoundAt _ vl62 vs63 v95 [v065, v166, v368] fewD from ⟨(SlAt.of_row (hS314.ok_row 14 rfl)), (SlAt.of_row (hS314.ok_row 15 rfl)), (SlAt.of_row (hS314.ok_row 11 rfl)), rdsAt3 ((SlAt.of_row (hS314.ok_row 17 rfl))) ((SlAt.of_row (hS314.ok_row 18 rfl))) ((SlAt.of_row (hS314.ok_row 20 rfl))), rfl, rfl⟩)); rw [conv_few] at h; exact h)) rfl rfl (by decide) ?_
 rintro a327 _ w329 ⟨u333, rfl, hE330, hO331⟩ hA328; clear hA326 a325
 have hS332 : Sep NoB w w329 [(row u333 3 1 (([] : List Int).length) (ints ([] : List Int))), (row u315 46 2 (([] : List (Int × Int)).length) (pairs ([] : List (Int × Int)))), (blk b307 3 [(Value.int .i64 0)]), (rndR true vl298 vs299 vb300 lv301 trialD), (row u285 46 2 (([] : List (Int × Int)).length) (pairs ([] : List (Int × Int)))), (blk b277 3 [(Value.int .i64 4)]), (rndR true vl268 vs269 vb270 lv271 trialD), (blk b249 3 [(Value.int .i64 2), (Value.int .i64 2)]), (rndR true vl240 vs241 vb242 lv243 trialD), (blk b175 3 [(Value.int .i64 2)]), (blk b142 46 [(Value.int .i64 lo), (Value.int .i64 hi)]), (osl u114 1 (([] : List Int).length) (ints ([] : List Int))), (row v95 75 2 3 [(Value.int .i64 3), v065, (Value.int .i64 3), v166, (Value.int .i64 5), v368]), (row (vs82 7) 75 2 1 [(Value.int .i64 5), v368]), (blk b74 34 [vl62, vs63, (Value.int .i64 2), v95]), (row vl62 46 2 2 [(Value.int .i64 100), (Value.int .i64 140), (Value.int .i64 200), (Value.int .i64 260)]), (row vs63 3 1 3 [(Value.int .i64 0), (Value.int .i64 0), (Value.int .i64 1)]), (row vb64 75 2 4 [(Value.int .i64 3), v065, (Value.int .i64 3), v166, (Value.int .i64 2), v267, (Value.int .i64 5), v368]), (row v065 3 1 3 [(Value.int .i64 120), (Value.int .i64 122), (Value.int .i64 230)]), (row v166 3 1 3 [(Value.int .i64 124), (Value.int .i64 121), (Value.int .i64 234)]), (row v267 3 1 3 [(Value.int .i64 131), (Value.int .i64 133), (Value.int .i64 240)]), (row v368 3 1 3 [(Value.int .i64 (-1)), (Value.int .i64 118), (Value.int .i64 229)]), (row u48 3 1 ([2].length) (ints ([2]))), (rndR true vl36 vs37 vb38 lv39 trialD), (blk b15 3 [(Value.int .i64 0), (Value.int .i64 1)]), (rndR true vl6 vs7 vb8 lv9 trialD)] := hS314.new_row hE330 hO331; clear hE330 hO331 hS314
 refine st hA328 (op_move rfl (hA328.ev rfl)) rfl rfl (by decide) fun a334 hA335 => ?_; clear hA328 a327
 refine st hA335 (op_extract rfl (hA335.ev rfl) rfl) rfl rfl (by decide) fun a336 hA337 => ?_; clear hA335 a334
 refine st hA337 (op_extract rfl (hA337.ev rfl) rfl) rfl rfl (by decide) fun a338 hA339 => ?_; clear hA337 a336
 refine st hA339 (op_assign rfl (hA339.ev rfl)) rfl rfl (by decide) fun a340 hA341 => ?_; clear hA339 a338
 refine wl_nil ?_
 refine then_n ?_
 refine c_seq ?_
 have hA342 := hA341.as [(9, (Value.int .i64 7)), (7, (Value.int .i64 9)), (4, (Value.int .i64 2)), (2, (Value.int .i64 2))] rfl; clear hA341
 refine c_region ?_
 refine stw hA342 (op_call rfl en_40 ev0 (trial_ok _)) rfl rfl (by decide) ?_
 rintro a343 _ w345 ⟨vl346, vs347, vb348, lv349, rfl, hT350⟩ hA344; have hS351 := hS332.callS hT350 rfl; clear hT350 hA342 hS332 a340
 refine stw hA344 (op_call rfl en_32 (ev2 (hA344.ev rfl) (evc _ _)) (by have h := (shifts_fn vl346 vs347 vb348 lv349 trialD _ (rnd_at (hS351.ok 0 _ rfl)) 4); rw [shifts_n4] at h; exact h)) rfl rfl (by decide) ?_
 rintro a352 _ w354 ⟨rfl, hE355⟩ hA353; have hS356 := hS351.step hE355; clear hE355 hA344 hS351 a343
 refine st hA353 (op_move rfl (hA353.ev rfl)) rfl rfl (by decide) fun a357 hA358 => ?_; clear hA353 a352
 refine st hA358 (op_extract rfl (hA358.ev rfl) rfl) rfl rfl (by decide) fun a359 hA360 => ?_; clear hA358 a357
 refine st hA360 (op_extract rfl (hA360.ev rfl) rfl) rfl rfl (by decide) fun a361 hA362 => ?_; clear hA360 a359
 refine stw hA362 (op_alloc hS356 rfl ze_46 (cs := [(Value.int .i64 0), (Value.int .i64 0)]) rfl) rfl rfl (by decide) ?_
 rintro a363 _ w365 ⟨b366, rfl, hS367⟩ hA364; clear hA362 hS356 a361
 refine sts hA364 (op_store hS367 rfl ty_46 (hA364.ev rfl) (hA364.ev rfl) (i := 0) rfl (vs := [(Value.int .i64 0), (Value.int .i64 0)]) rfl rfl rfl (Nat.le_of_ble_eq_true rfl)) rfl rfl ?_
 intro _ w368 hS369 hA370; clear hA364
 have hS371 : Sep NoB w w368 [(blk b366 46 [(Value.int .i64 0), (Value.int .i64 0)]), (rndR true vl346 vs347 vb348 lv349 trialD), (row u333 3 1 (([] : List Int).length) (ints ([] : List Int))), (row u315 46 2 (([] : List (Int × Int)).length) (pairs ([] : List (Int × Int)))), (blk b307 3 [(Value.int .i64 0)]), (rndR true vl298 vs299 vb300 lv301 trialD), (row u285 46 2 (([] : List (Int × Int)).length) (pairs ([] : List (Int × Int)))), (blk b277 3 [(Value.int .i64 4)]), (rndR true vl268 vs269 vb270 lv271 trialD), (blk b249 3 [(Value.int .i64 2), (Value.int .i64 2)]), (rndR true vl240 vs241 vb242 lv243 trialD), (blk b175 3 [(Value.int .i64 2)]), (blk b142 46 [(Value.int .i64 lo), (Value.int .i64 hi)]), (osl u114 1 (([] : List Int).length) (ints ([] : List Int))), (row v95 75 2 3 [(Value.int .i64 3), v065, (Value.int .i64 3), v166, (Value.int .i64 5), v368]), (row (vs82 7) 75 2 1 [(Value.int .i64 5), v368]), (blk b74 34 [vl62, vs63, (Value.int .i64 2), v95]), (row vl62 46 2 2 [(Value.int .i64 100), (Value.int .i64 140), (Value.int .i64 200), (Value.int .i64 260)]), (row vs63 3 1 3 [(Value.int .i64 0), (Value.int .i64 0), (Value.int .i64 1)]), (row vb64 75 2 4 [(Value.int .i64 3), v065, (Value.int .i64 3), v166, (Value.int .i64 2), v267, (Value.int .i64 5), v368]), (row v065 3 1 3 [(Value.int .i64 120), (Value.int .i64 122), (Value.int .i64 230)]), (row v166 3 1 3 [(Value.int .i64 124), (Value.int .i64 121), (Value.int .i64 234)]), (row v267 3 1 3 [(Value.int .i64 131), (Value.int .i64 133), (Value.int .i64 240)]), (row v368 3 1 3 [(Value.int .i64 (-1)), (Value.int .i64 118), (Value.int .i64 229)]), (row u48 3 1 ([2].length) (ints ([2]))), (rndR true vl36 vs37 vb38 lv39 trialD), (blk b15 3 [(Value.int .i64 0), (Value.int .i64 1)]), (rndR true vl6 vs7 vb8 lv9 trialD)] := hS369; clear hS369 hS367
 refine st hA370 (op_assign rfl (hA370.ev rfl)) rfl rfl (by decide) fun a372 hA373 => ?_; clear hA370 a363
 refine wl_nil ?_
 refine then_n ?_
 refine c_seq ?_
 have hA374 := hA373.as [(11, (Value.int .i64 2)), (9, (Value.int .i64 7)), (7, (Value.int .i64 9)), (4, (Value.int .i64 2)), (2, (Value.int .i64 2))] rfl; clear hA373
 refine c_region ?_
 refine stw hA374 (op_call rfl en_40 ev0 (trial_ok _)) rfl rfl (by decide) ?_
 rintro a375 _ w377 ⟨vl378, vs379, vb380, lv381, rfl, hT382⟩ hA376; have hS383 := hS371.callS hT382 rfl; clear hT382 hA374 hS371 a372
 refine stw hA376 (op_call rfl en_32 (ev2 (hA376.ev rfl) (evc _ _)) (by have h := (shifts_fn vl378 vs379 vb380 lv381 trialD _ (rnd_at (hS383.ok 0 _ rfl)) 0); rw [shifts_n0] at h; exact h)) rfl rfl (by decide) ?_
 rintro a384 _ w386 ⟨rfl, hE387⟩ hA385; have hS388 := hS383.step hE387; clear hE387 hA376 hS383 a375
 refine st hA385 (op_move rfl (hA385.ev rfl)) rfl rfl (by decide) fun a389 hA390 => ?_; clear hA385 a384
 refine st hA390 (op_extract rfl (hA390.ev rfl) rfl) rfl rfl (by decide) fun a391 hA392 => ?_; clear hA390 a389
 refine st hA392 (op_extract rfl (hA392.ev rfl) rfl) rfl rfl (by decide) fun a393 hA394 => ?_; clear hA392 a391
 refine stw hA394 (op_alloc hS388 rfl ze_46 (cs := [(Value.int .i64 0), (Value.int .i64 0)]) rfl) rfl rfl (by decide) ?_
 rintro a395 _ w397 ⟨b398, rfl, hS399⟩ hA396; clear hA394 hS388 a393
 refine sts hA396 (op_store hS399 rfl ty_46 (hA396.ev rfl) (hA396.ev rfl) (i := 0) rfl (vs := [(Value.int .i64 0), (Value.int .i64 0)]) rfl rfl rfl (Nat.le_of_ble_eq_true rfl)) rfl rfl ?_
 intro _ w400 hS401 hA402; clear hA396
 have hS403 : Sep NoB w w400 [(blk b398 46 [(Value.int .i64 0), (Value.int .i64 0)]), (rndR true vl378 vs379 vb380 lv381 trialD), (blk b366 46 [(Value.int .i64 0), (Value.int .i64 0)]), (rndR true vl346 vs347 vb348 lv349 trialD), (row u333 3 1 (([] : List Int).length) (ints ([] : List Int))), (row u315 46 2 (([] : List (Int × Int)).length) (pairs ([] : List (Int × Int)))), (blk b307 3 [(Value.int .i64 0)]), (rndR true vl298 vs299 vb300 lv301 trialD), (row u285 46 2 (([] : List (Int × Int)).length) (pairs ([] : List (Int × Int)))), (blk b277 3 [(Value.int .i64 4)]), (rndR true vl268 vs269 vb270 lv271 trialD), (blk b249 3 [(Value.int .i64 2), (Value.int .i64 2)]), (rndR true vl240 vs241 vb242 lv243 trialD), (blk b175 3 [(Value.int .i64 2)]), (blk b142 46 [(Value.int .i64 lo), (Value.int .i64 hi)]), (osl u114 1 (([] : List Int).length) (ints ([] : List Int))), (row v95 75 2 3 [(Value.int .i64 3), v065, (Value.int .i64 3), v166, (Value.int .i64 5), v368]), (row (vs82 7) 75 2 1 [(Value.int .i64 5), v368]), (blk b74 34 [vl62, vs63, (Value.int .i64 2), v95]), (row vl62 46 2 2 [(Value.int .i64 100), (Value.int .i64 140), (Value.int .i64 200), (Value.int .i64 260)]), (row vs63 3 1 3 [(Value.int .i64 0), (Value.int .i64 0), (Value.int .i64 1)]), (row vb64 75 2 4 [(Value.int .i64 3), v065, (Value.int .i64 3), v166, (Value.int .i64 2), v267, (Value.int .i64 5), v368]), (row v065 3 1 3 [(Value.int .i64 120), (Value.int .i64 122), (Value.int .i64 230)]), (row v166 3 1 3 [(Value.int .i64 124), (Value.int .i64 121), (Value.int .i64 234)]), (row v267 3 1 3 [(Value.int .i64 131), (Value.int .i64 133), (Value.int .i64 240)]), (row v368 3 1 3 [(Value.int .i64 (-1)), (Value.int .i64 118), (Value.int .i64 229)]), (row u48 3 1 ([2].length) (ints ([2]))), (rndR true vl36 vs37 vb38 lv39 trialD), (blk b15 3 [(Value.int .i64 0), (Value.int .i64 1)]), (rndR true vl6 vs7 vb8 lv9 trialD)] := hS401; clear hS401 hS399
 refine st hA402 (op_assign rfl (hA402.ev rfl)) rfl rfl (by decide) fun a404 hA405 => ?_; clear hA402 a395
 refine wl_nil ?_
 refine then_n ?_
 refine c_seq ?_
 have hA406 := hA405.as [(13, (Value.int .i64 9)), (11, (Value.int .i64 2)), (9, (Value.int .i64 7)), (7, (Value.int .i64 9)), (4, (Value.int .i64 2)), (2, (Value.int .i64 2))] rfl; clear hA405
 refine c_region ?_
 refine stw hA406 (op_call rfl en_40 ev0 (trialR_ok _)) rfl rfl (by decide) ?_
 rintro a407 _ w409 ⟨vl410, vs411, vb412, v0413, v1414, v2415, v3416, rfl, hT417⟩ hA408; have hS418 := hS403.callS hT417 rfl; clear hT417 hA406 hS403 a404
 refine stw hA408 (op_alloc hS418 rfl ze_34 (cs := [(Value.slice none 0 0), (Value.slice none 0 0), (Value.int .i64 0), (Value.slice none 0 0)]) rfl) rfl rfl (by decide) ?_
 rintro a419 _ w421 ⟨b422, rfl, hS423⟩ hA420; clear hA408 hS418 a407
 refine sts hA420 (op_store hS423 rfl ty_34 (hA420.ev rfl) (hA420.ev rfl) (i := 0) rfl (vs := [vl410, vs411, (Value.int .i64 2), vb412]) rfl rfl (all_c (SlAt.one (SlAt.of_row (hS423.ok_row 1 rfl))) (all_c (SlAt.one (SlAt.of_row (hS423.ok_row 2 rfl))) (all_c rfl (all_c (SlAt.one (SlAt.of_row (hS423.ok_row 3 rfl))) all_n)))) (Nat.le_of_ble_eq_true rfl)) rfl rfl ?_
 intro _ w424 hS425 hA426; clear hA420
 have hS427 : Sep NoB w w424 [(blk b422 34 [vl410, vs411, (Value.int .i64 2), vb412]), (row vl410 46 2 2 [(Value.int .i64 100), (Value.int .i64 140), (Value.int .i64 200), (Value.int .i64 260)]), (row vs411 3 1 3 [(Value.int .i64 0), (Value.int .i64 0), (Value.int .i64 1)]), (row vb412 75 2 4 [(Value.int .i64 3), v0413, (Value.int .i64 3), v1414, (Value.int .i64 2), v2415, (Value.int .i64 5), v3416]), (row v0413 3 1 3 [(Value.int .i64 120), (Value.int .i64 122), (Value.int .i64 230)]), (row v1414 3 1 3 [(Value.int .i64 124), (Value.int .i64 121), (Value.int .i64 234)]), (row v2415 3 1 3 [(Value.int .i64 131), (Value.int .i64 133), (Value.int .i64 240)]), (row v3416 3 1 3 [(Value.int .i64 (-1)), (Value.int .i64 118), (Value.int .i64 229)]), (blk b398 46 [(Value.int .i64 0), (Value.int .i64 0)]), (rndR true vl378 vs379 vb380 lv381 trialD), (blk b366 46 [(Value.int .i64 0), (Value.int .i64 0)]), (rndR true vl346 vs347 vb348 lv349 trialD), (row u333 3 1 (([] : List Int).length) (ints ([] : List Int))), (row u315 46 2 (([] : List (Int × Int)).length) (pairs ([] : List (Int × Int)))), (blk b307 3 [(Value.int .i64 0)]), (rndR true vl298 vs299 vb300 lv301 trialD), (row u285 46 2 (([] : List (Int × Int)).length) (pairs ([] : List (Int × Int)))), (blk b277 3 [(Value.int .i64 4)]), (rndR true vl268 vs269 vb270 lv271 trialD), (blk b249 3 [(Value.int .i64 2), (Value.int .i64 2)]), (rndR true vl240 vs241 vb242 lv243 trialD), (blk b175 3 [(Value.int .i64 2)]), (blk b142 46 [(Value.int .i64 lo), (Value.int .i64 hi)]), (osl u114 1 (([] : List Int).length) (ints ([] : List Int))), (row v95 75 2 3 [(Value.int .i64 3), v065, (Value.int .i64 3), v166, (Value.int .i64 5), v368]), (row (vs82 7) 75 2 1 [(Value.int .i64 5), v368]), (blk b74 34 [vl62, vs63, (Value.int .i64 2), v95]), (row vl62 46 2 2 [(Value.int .i64 100), (Value.int .i64 140), (Value.int .i64 200), (Value.int .i64 260)]), (row vs63 3 1 3 [(Value.int .i64 0), (Value.int .i64 0), (Value.int .i64 1)]), (row vb64 75 2 4 [(Value.int .i64 3), v065, (Value.int .i64 3), v166, (Value.int .i64 2), v267, (Value.int .i64 5), v368]), (row v065 3 1 3 [(Value.int .i64 120), (Value.int .i64 122), (Value.int .i64 230)]), (row v166 3 1 3 [(Value.int .i64 124), (Value.int .i64 121), (Value.int .i64 234)]), (row v267 3 1 3 [(Value.int .i64 131), (Value.int .i64 133), (Value.int .i64 240)]), (row v368 3 1 3 [(Value.int .i64 (-1)), (Value.int .i64 118), (Value.int .i64 229)]), (row u48 3 1 ([2].length) (ints ([2]))), (rndR true vl36 vs37 vb38 lv39 trialD), (blk b15 3 [(Value.int .i64 0), (Value.int .i64 1)]), (rndR true vl6 vs7 vb8 lv9 trialD)] := hS425; clear hS425 hS423
 refine wl_nil ?_
 refine then_n ?_
 refine c_seq ?_
 refine c_region ?_
 refine st hA426 (op_field rfl fd_34_3 (hA426.ev rfl)) rfl rfl (by decide) fun a428 hA429 => ?_; clear hA426 a419
 refine st hA429 (op_load1 rfl ty_32 (hA429.ev rfl) (hS427.bk 0 rfl) rfl) rfl rfl (by decide) fun a430 hA431 => ?_; clear hA429 a428
 refine st hA431 (op_indexS rfl un_32 ty_75 (hA431.ev rfl) (i := 2) (show _ = Value.int .i64 ((2 : Nat) : Int) from (evc _ _)) (SlAt.of_row (hS427.ok_row 3 rfl)) (by decide) (by decide)) rfl rfl (by decide) fun a432 hA433 => ?_; clear hA431 a430
 refine st hA433 (op_fieldS rfl fd_75_1 (hA433.ev rfl) (SlAt.of_row (hS427.ok_row 3 rfl)) (by rw [((SlAt.of_row (hS427.ok_row 3 rfl))).1]; omega)) rfl rfl (by decide) fun a434 hA435 => ?_; clear hA433 a432
 refine st hA435 (op_load1E rfl ty_23 (hA435.ev rfl) (SlAt.of_row (hS427.ok_row 3 rfl)) rfl) rfl rfl (by decide) fun a436 hA437 => ?_; clear hA435 a434
 refine st hA437 (op_indexS rfl un_23 ty_3 (hA437.ev rfl) (i := 1) (show _ = Value.int .i64 ((1 : Nat) : Int) from (evc _ _)) (SlAt.of_row (hS427.ok_row 6 rfl)) (by decide) (by decide)) rfl rfl (by decide) fun a438 hA439 => ?_; clear hA437 a436
 refine sts hA439 (op_storeE hS427 rfl ty_3 (hA439.ev rfl) (evc _ _) (i := 6) rfl (vs := [(Value.int .i64 600)]) rfl rfl rfl (Nat.le_of_ble_eq_true rfl) (by decide)) rfl rfl ?_
 intro _ w440 hS441 hA443; have hS442 := hS441.row_say (i := 6) rfl (n' := 3) (xs' := [(Value.int .i64 131), (Value.int .i64 600), (Value.int .i64 240)]) rfl rfl; clear hS441 hA439 hS427
 refine wl_nil ?_
 refine then_n ?_
 refine c_seq ?_
 have hA444 := hA443.as [(14, (bptr b422 0)), (13, (Value.int .i64 9)), (11, (Value.int .i64 2)), (9, (Value.int .i64 7)), (7, (Value.int .i64 9)), (4, (Value.int .i64 2)), (2, (Value.int .i64 2))] rfl; clear hA443
 refine c_region ?_
 refine st hA444 (op_loadA rfl ty_34 (hA444.ev rfl) (hS442.bk 0 rfl) (l := [vl410, vs411, (Value.int .i64 2), vb412]) rfl rfl) rfl rfl (by decide) fun a445 hA446 => ?_; clear hA444 a438
 refine stw hA446 (op_call rfl en_32 (ev2 (hA446.ev rfl) (evc _ _)) (by have h := (shifts_fn vl410 vs411 vb412 ([v0413, v1414, v2415, v3416]) wildD _ (show RoundAt _ vl410 vs411 vb412 [v0413, v1414, v2415, v3416] wildD from ⟨(SlAt.of_row (hS442.ok_row 1 rfl)), (SlAt.of_row (hS442.ok_row 2 rfl)), (SlAt.of_row (hS442.ok_row 3 rfl)), rdsAt4 ((SlAt.of_row (hS442.ok_row 4 rfl))) ((SlAt.of_row (hS442.ok_row 5 rfl))) ((SlAt.of_row (hS442.ok_row 6 rfl))) ((SlAt.of_row (hS442.ok_row 7 rfl))), rfl, rfl⟩) 2); rw [shifts_wild] at h; exact h)) rfl rfl (by decide) ?_
 rintro a447 _ w449 ⟨rfl, hE450⟩ hA448; have hS451 := hS442.step hE450; clear hE450 hA446 hS442 a445
 refine st hA448 (op_move rfl (hA448.ev rfl)) rfl rfl (by decide) fun a452 hA453 => ?_; clear hA448 a447
 refine st hA453 (op_extract rfl (hA453.ev rfl) rfl) rfl rfl (by decide) fun a454 hA455 => ?_; clear hA453 a452
 refine st hA455 (op_extract rfl (hA455.ev rfl) rfl) rfl rfl (by decide) fun a456 hA457 => ?_; clear hA455 a454
 refine stw hA457 (op_alloc hS451 rfl ze_46 (cs := [(Value.int .i64 0), (Value.int .i64 0)]) rfl) rfl rfl (by decide) ?_
 rintro a458 _ w460 ⟨b461, rfl, hS462⟩ hA459; clear hA457 hS451 a456
 refine sts hA459 (op_store hS462 rfl ty_46 (hA459.ev rfl) (hA459.ev rfl) (i := 0) rfl (vs := [(Value.int .i64 0), (Value.int .i64 0)]) rfl rfl rfl (Nat.le_of_ble_eq_true rfl)) rfl rfl ?_
 intro _ w463 hS464 hA465; clear hA459
 have hS466 : Sep NoB w w463 [(blk b461 46 [(Value.int .i64 0), (Value.int .i64 0)]), (blk b422 34 [vl410, vs411, (Value.int .i64 2), vb412]), (row vl410 46 2 2 [(Value.int .i64 100), (Value.int .i64 140), (Value.int .i64 200), (Value.int .i64 260)]), (row vs411 3 1 3 [(Value.int .i64 0), (Value.int .i64 0), (Value.int .i64 1)]), (row vb412 75 2 4 [(Value.int .i64 3), v0413, (Value.int .i64 3), v1414, (Value.int .i64 2), v2415, (Value.int .i64 5), v3416]), (row v0413 3 1 3 [(Value.int .i64 120), (Value.int .i64 122), (Value.int .i64 230)]), (row v1414 3 1 3 [(Value.int .i64 124), (Value.int .i64 121), (Value.int .i64 234)]), (row v2415 3 1 3 [(Value.int .i64 131), (Value.int .i64 600), (Value.int .i64 240)]), (row v3416 3 1 3 [(Value.int .i64 (-1)), (Value.int .i64 118), (Value.int .i64 229)]), (blk b398 46 [(Value.int .i64 0), (Value.int .i64 0)]), (rndR true vl378 vs379 vb380 lv381 trialD), (blk b366 46 [(Value.int .i64 0), (Value.int .i64 0)]), (rndR true vl346 vs347 vb348 lv349 trialD), (row u333 3 1 (([] : List Int).length) (ints ([] : List Int))), (row u315 46 2 (([] : List (Int × Int)).length) (pairs ([] : List (Int × Int)))), (blk b307 3 [(Value.int .i64 0)]), (rndR true vl298 vs299 vb300 lv301 trialD), (row u285 46 2 (([] : List (Int × Int)).length) (pairs ([] : List (Int × Int)))), (blk b277 3 [(Value.int .i64 4)]), (rndR true vl268 vs269 vb270 lv271 trialD), (blk b249 3 [(Value.int .i64 2), (Value.int .i64 2)]), (rndR true vl240 vs241 vb242 lv243 trialD), (blk b175 3 [(Value.int .i64 2)]), (blk b142 46 [(Value.int .i64 lo), (Value.int .i64 hi)]), (osl u114 1 (([] : List Int).length) (ints ([] : List Int))), (row v95 75 2 3 [(Value.int .i64 3), v065, (Value.int .i64 3), v166, (Value.int .i64 5), v368]), (row (vs82 7) 75 2 1 [(Value.int .i64 5), v368]), (blk b74 34 [vl62, vs63, (Value.int .i64 2), v95]), (row vl62 46 2 2 [(Value.int .i64 100), (Value.int .i64 140), (Value.int .i64 200), (Value.int .i64 260)]), (row vs63 3 1 3 [(Value.int .i64 0), (Value.int .i64 0), (Value.int .i64 1)]), (row vb64 75 2 4 [(Value.int .i64 3), v065, (Value.int .i64 3), v166, (Value.int .i64 2), v267, (Value.int .i64 5), v368]), (row v065 3 1 3 [(Value.int .i64 120), (Value.int .i64 122), (Value.int .i64 230)]), (row v166 3 1 3 [(Value.int .i64 124), (Value.int .i64 121), (Value.int .i64 234)]), (row v267 3 1 3 [(Value.int .i64 131), (Value.int .i64 133), (Value.int .i64 240)]), (row v368 3 1 3 [(Value.int .i64 (-1)), (Value.int .i64 118), (Value.int .i64 229)]), (row u48 3 1 ([2].length) (ints ([2]))), (rndR true vl36 vs37 vb38 lv39 trialD), (blk b15 3 [(Value.int .i64 0), (Value.int .i64 1)]), (rndR true vl6 vs7 vb8 lv9 trialD)] := hS464; clear hS464 hS462
 refine st hA465 (op_assign rfl (hA465.ev rfl)) rfl rfl (by decide) fun a467 hA468 => ?_; clear hA465 a458
 refine wl_nil ?_
 refine then_n ?_
 refine c_seq ?_
 have hA469 := hA468.as [(16, (Value.int .i64 7)), (13, (Value.int .i64 9)), (11, (Value.int .i64 2)), (9, (Value.int .i64 7)), (7, (Value.int .i64 9)), (4, (Value.int .i64 2)), (2, (Value.int .i64 2))] rfl; clear hA468
 refine c_region ?_
 refine stw hA469 (op_call rfl en_40 ev0 (trialR_ok _)) rfl rfl (by decide) ?_
 rintro a470 _ w472 ⟨vl473, vs474, vb475, v0476, v1477, v2478, v3479, rfl, hT480⟩ hA471; have hS481 := hS466.callS hT480 rfl; clear hT480 hA469 hS466 a467
 refine stw hA471 (op_call rfl en_40 ev0 (trialR_ok _)) rfl rfl (by decide) ?_
 rintro a482 _ w484 ⟨vl485, vs486, vb487, v0488, v1489, v2490, v3491, rfl, hT492⟩ hA483; have hS493 := hS481.callS hT492 rfl; clear hT492 hA471 hS481 a470
 refine stw hA483 (op_alloc hS493 rfl ze_34 (cs := [(Value.slice none 0 0), (Value.slice none 0 0), (Value.int .i64 0), (Value.slice none 0 0)]) rfl) rfl rfl (by decide) ?_
 rintro a494 _ w496 ⟨b497, rfl, hS498⟩ hA495; clear hA483 hS493 a482
 refine stw hA495 (op_alloc hS498 rfl ze_34 (cs := [(Value.slice none 0 0), (Value.slice none 0 0), (Value.int .i64 0), (Value.slice none 0 0)]) rfl) rfl rfl (by decide) ?_
 rintro a499 _ w501 ⟨b502, rfl, hS503⟩ hA500; clear hA495 hS498 a494
 refine sts hA500 (op_store hS503 rfl ty_34 (hA500.ev rfl) (hA500.ev rfl) (i := 1) rfl (vs := [vl473, vs474, (Value.int .i64 2), vb475]) rfl rfl (all_c (SlAt.one (SlAt.of_row (hS503.ok_row 9 rfl))) (all_c (SlAt.one (SlAt.of_row (hS503.ok_row 10 rfl))) (all_c rfl (all_c (SlAt.one (SlAt.of_row (hS503.ok_row 11 rfl))) all_n)))) (Nat.le_of_ble_eq_true rfl)) rfl rfl ?_
 intro _ w504 hS505 hA506; clear hA500
 have hS507 : Sep NoB w w504 [(blk b502 34 [(Value.slice none 0 0), (Value.slice none 0 0), (Value.int .i64 0), (Value.slice none 0 0)]), (blk b497 34 [vl473, vs474, (Value.int .i64 2), vb475]), (row vl485 46 2 2 [(Value.int .i64 100), (Value.int .i64 140), (Value.int .i64 200), (Value.int .i64 260)]), (row vs486 3 1 3 [(Value.int .i64 0), (Value.int .i64 0), (Value.int .i64 1)]), (row vb487 75 2 4 [(Value.int .i64 3), v0488, (Value.int .i64 3), v1489, (Value.int .i64 2), v2490, (Value.int .i64 5), v3491]), (row v0488 3 1 3 [(Value.int .i64 120), (Value.int .i64 122), (Value.int .i64 230)]), (row v1489 3 1 3 [(Value.int .i64 124), (Value.int .i64 121), (Value.int .i64 234)]), (row v2490 3 1 3 [(Value.int .i64 131), (Value.int .i64 133), (Value.int .i64 240)]), (row v3491 3 1 3 [(Value.int .i64 (-1)), (Value.int .i64 118), (Value.int .i64 229)]), (row vl473 46 2 2 [(Value.int .i64 100), (Value.int .i64 140), (Value.int .i64 200), (Value.int .i64 260)]), (row vs474 3 1 3 [(Value.int .i64 0), (Value.int .i64 0), (Value.int .i64 1)]), (row vb475 75 2 4 [(Value.int .i64 3), v0476, (Value.int .i64 3), v1477, (Value.int .i64 2), v2478, (Value.int .i64 5), v3479]), (row v0476 3 1 3 [(Value.int .i64 120), (Value.int .i64 122), (Value.int .i64 230)]), (row v1477 3 1 3 [(Value.int .i64 124), (Value.int .i64 121), (Value.int .i64 234)]), (row v2478 3 1 3 [(Value.int .i64 131), (Value.int .i64 133), (Value.int .i64 240)]), (row v3479 3 1 3 [(Value.int .i64 (-1)), (Value.int .i64 118), (Value.int .i64 229)]), (blk b461 46 [(Value.int .i64 0), (Value.int .i64 0)]), (blk b422 34 [vl410, vs411, (Value.int .i64 2), vb412]), (row vl410 46 2 2 [(Value.int .i64 100), (Value.int .i64 140), (Value.int .i64 200), (Value.int .i64 260)]), (row vs411 3 1 3 [(Value.int .i64 0), (Value.int .i64 0), (Value.int .i64 1)]), (row vb412 75 2 4 [(Value.int .i64 3), v0413, (Value.int .i64 3), v1414, (Value.int .i64 2), v2415, (Value.int .i64 5), v3416]), (row v0413 3 1 3 [(Value.int .i64 120), (Value.int .i64 122), (Value.int .i64 230)]), (row v1414 3 1 3 [(Value.int .i64 124), (Value.int .i64 121), (Value.int .i64 234)]), (row v2415 3 1 3 [(Value.int .i64 131), (Value.int .i64 600), (Value.int .i64 240)]), (row v3416 3 1 3 [(Value.int .i64 (-1)), (Value.int .i64 118), (Value.int .i64 229)]), (blk b398 46 [(Value.int .i64 0), (Value.int .i64 0)]), (rndR true vl378 vs379 vb380 lv381 trialD), (blk b366 46 [(Value.int .i64 0), (Value.int .i64 0)]), (rndR true vl346 vs347 vb348 lv349 trialD), (row u333 3 1 (([] : List Int).length) (ints ([] : List Int))), (row u315 46 2 (([] : List (Int × Int)).length) (pairs ([] : List (Int × Int)))), (blk b307 3 [(Value.int .i64 0)]), (rndR true vl298 vs299 vb300 lv301 trialD), (row u285 46 2 (([] : List (Int × Int)).length) (pairs ([] : List (Int × Int)))), (blk b277 3 [(Value.int .i64 4)]), (rndR true vl268 vs269 vb270 lv271 trialD), (blk b249 3 [(Value.int .i64 2), (Value.int .i64 2)]), (rndR true vl240 vs241 vb242 lv243 trialD), (blk b175 3 [(Value.int .i64 2)]), (blk b142 46 [(Value.int .i64 lo), (Value.int .i64 hi)]), (osl u114 1 (([] : List Int).length) (ints ([] : List Int))), (row v95 75 2 3 [(Value.int .i64 3), v065, (Value.int .i64 3), v166, (Value.int .i64 5), v368]), (row (vs82 7) 75 2 1 [(Value.int .i64 5), v368]), (blk b74 34 [vl62, vs63, (Value.int .i64 2), v95]), (row vl62 46 2 2 [(Value.int .i64 100), (Value.int .i64 140), (Value.int .i64 200), (Value.int .i64 260)]), (row vs63 3 1 3 [(Value.int .i64 0), (Value.int .i64 0), (Value.int .i64 1)]), (row vb64 75 2 4 [(Value.int .i64 3), v065, (Value.int .i64 3), v166, (Value.int .i64 2), v267, (Value.int .i64 5), v368]), (row v065 3 1 3 [(Value.int .i64 120), (Value.int .i64 122), (Value.int .i64 230)]), (row v166 3 1 3 [(Value.int .i64 124), (Value.int .i64 121), (Value.int .i64 234)]), (row v267 3 1 3 [(Value.int .i64 131), (Value.int .i64 133), (Value.int .i64 240)]), (row v368 3 1 3 [(Value.int .i64 (-1)), (Value.int .i64 118), (Value.int .i64 229)]), (row u48 3 1 ([2].length) (ints ([2]))), (rndR true vl36 vs37 vb38 lv39 trialD), (blk b15 3 [(Value.int .i64 0), (Value.int .i64 1)]), (rndR true vl6 vs7 vb8 lv9 trialD)] := hS505; clear hS505 hS503
 refine sts hA506 (op_store hS507 rfl ty_34 (hA506.ev rfl) (hA506.ev rfl) (i := 0) rfl (vs := [vl485, vs486, (Value.int .i64 2), vb487]) rfl rfl (all_c (SlAt.one (SlAt.of_row (hS507.ok_row 2 rfl))) (all_c (SlAt.one (SlAt.of_row (hS507.ok_row 3 rfl))) (all_c rfl (all_c (SlAt.one (SlAt.of_row (hS507.ok_row 4 rfl))) all_n)))) (Nat.le_of_ble_eq_true rfl)) rfl rfl ?_
 intro _ w508 hS509 hA510; clear hA506
 have hS511 : Sep NoB w w508 [(blk b502 34 [vl485, vs486, (Value.int .i64 2), vb487]), (blk b497 34 [vl473, vs474, (Value.int .i64 2), vb475]), (row vl485 46 2 2 [(Value.int .i64 100), (Value.int .i64 140), (Value.int .i64 200), (Value.int .i64 260)]), (row vs486 3 1 3 [(Value.int .i64 0), (Value.int .i64 0), (Value.int .i64 1)]), (row vb487 75 2 4 [(Value.int .i64 3), v0488, (Value.int .i64 3), v1489, (Value.int .i64 2), v2490, (Value.int .i64 5), v3491]), (row v0488 3 1 3 [(Value.int .i64 120), (Value.int .i64 122), (Value.int .i64 230)]), (row v1489 3 1 3 [(Value.int .i64 124), (Value.int .i64 121), (Value.int .i64 234)]), (row v2490 3 1 3 [(Value.int .i64 131), (Value.int .i64 133), (Value.int .i64 240)]), (row v3491 3 1 3 [(Value.int .i64 (-1)), (Value.int .i64 118), (Value.int .i64 229)]), (row vl473 46 2 2 [(Value.int .i64 100), (Value.int .i64 140), (Value.int .i64 200), (Value.int .i64 260)]), (row vs474 3 1 3 [(Value.int .i64 0), (Value.int .i64 0), (Value.int .i64 1)]), (row vb475 75 2 4 [(Value.int .i64 3), v0476, (Value.int .i64 3), v1477, (Value.int .i64 2), v2478, (Value.int .i64 5), v3479]), (row v0476 3 1 3 [(Value.int .i64 120), (Value.int .i64 122), (Value.int .i64 230)]), (row v1477 3 1 3 [(Value.int .i64 124), (Value.int .i64 121), (Value.int .i64 234)]), (row v2478 3 1 3 [(Value.int .i64 131), (Value.int .i64 133), (Value.int .i64 240)]), (row v3479 3 1 3 [(Value.int .i64 (-1)), (Value.int .i64 118), (Value.int .i64 229)]), (blk b461 46 [(Value.int .i64 0), (Value.int .i64 0)]), (blk b422 34 [vl410, vs411, (Value.int .i64 2), vb412]), (row vl410 46 2 2 [(Value.int .i64 100), (Value.int .i64 140), (Value.int .i64 200), (Value.int .i64 260)]), (row vs411 3 1 3 [(Value.int .i64 0), (Value.int .i64 0), (Value.int .i64 1)]), (row vb412 75 2 4 [(Value.int .i64 3), v0413, (Value.int .i64 3), v1414, (Value.int .i64 2), v2415, (Value.int .i64 5), v3416]), (row v0413 3 1 3 [(Value.int .i64 120), (Value.int .i64 122), (Value.int .i64 230)]), (row v1414 3 1 3 [(Value.int .i64 124), (Value.int .i64 121), (Value.int .i64 234)]), (row v2415 3 1 3 [(Value.int .i64 131), (Value.int .i64 600), (Value.int .i64 240)]), (row v3416 3 1 3 [(Value.int .i64 (-1)), (Value.int .i64 118), (Value.int .i64 229)]), (blk b398 46 [(Value.int .i64 0), (Value.int .i64 0)]), (rndR true vl378 vs379 vb380 lv381 trialD), (blk b366 46 [(Value.int .i64 0), (Value.int .i64 0)]), (rndR true vl346 vs347 vb348 lv349 trialD), (row u333 3 1 (([] : List Int).length) (ints ([] : List Int))), (row u315 46 2 (([] : List (Int × Int)).length) (pairs ([] : List (Int × Int)))), (blk b307 3 [(Value.int .i64 0)]), (rndR true vl298 vs299 vb300 lv301 trialD), (row u285 46 2 (([] : List (Int × Int)).length) (pairs ([] : List (Int × Int)))), (blk b277 3 [(Value.int .i64 4)]), (rndR true vl268 vs269 vb270 lv271 trialD), (blk b249 3 [(Value.int .i64 2), (Value.int .i64 2)]), (rndR true vl240 vs241 vb242 lv243 trialD), (blk b175 3 [(Value.int .i64 2)]), (blk b142 46 [(Value.int .i64 lo), (Value.int .i64 hi)]), (osl u114 1 (([] : List Int).length) (ints ([] : List Int))), (row v95 75 2 3 [(Value.int .i64 3), v065, (Value.int .i64 3), v166, (Value.int .i64 5), v368]), (row (vs82 7) 75 2 1 [(Value.int .i64 5), v368]), (blk b74 34 [vl62, vs63, (Value.int .i64 2), v95]), (row vl62 46 2 2 [(Value.int .i64 100), (Value.int .i64 140), (Value.int .i64 200), (Value.int .i64 260)]), (row vs63 3 1 3 [(Value.int .i64 0), (Value.int .i64 0), (Value.int .i64 1)]), (row vb64 75 2 4 [(Value.int .i64 3), v065, (Value.int .i64 3), v166, (Value.int .i64 2), v267, (Value.int .i64 5), v368]), (row v065 3 1 3 [(Value.int .i64 120), (Value.int .i64 122), (Value.int .i64 230)]), (row v166 3 1 3 [(Value.int .i64 124), (Value.int .i64 121), (Value.int .i64 234)]), (row v267 3 1 3 [(Value.int .i64 131), (Value.int .i64 133), (Value.int .i64 240)]), (row v368 3 1 3 [(Value.int .i64 (-1)), (Value.int .i64 118), (Value.int .i64 229)]), (row u48 3 1 ([2].length) (ints ([2]))), (rndR true vl36 vs37 vb38 lv39 trialD), (blk b15 3 [(Value.int .i64 0), (Value.int .i64 1)]), (rndR true vl6 vs7 vb8 lv9 trialD)] := hS509; clear hS509 hS507
 refine wl_nil ?_
 refine then_n ?_
 refine c_seq ?_
 refine c_region ?_
 refine st hA510 (op_field rfl fd_34_3 (hA510.ev rfl)) rfl rfl (by decide) fun a512 hA513 => ?_; clear hA510 a499
 refine st hA513 (op_load1 rfl ty_32 (hA513.ev rfl) (hS511.bk 1 rfl) rfl) rfl rfl (by decide) fun a514 hA515 => ?_; clear hA513 a512
 refine st hA515 (op_indexS rfl un_32 ty_75 (hA515.ev rfl) (i := 0) (show _ = Value.int .i64 ((0 : Nat) : Int) from (evc _ _)) (SlAt.of_row (hS511.ok_row 11 rfl)) (by decide) (by decide)) rfl rfl (by decide) fun a516 hA517 => ?_; clear hA515 a514
 refine st hA517 (op_fieldS rfl fd_75_1 (hA517.ev rfl) (SlAt.of_row (hS511.ok_row 11 rfl)) (by rw [((SlAt.of_row (hS511.ok_row 11 rfl))).1]; omega)) rfl rfl (by decide) fun a518 hA519 => ?_; clear hA517 a516
 refine st hA519 (op_load1E rfl ty_23 (hA519.ev rfl) (SlAt.of_row (hS511.ok_row 11 rfl)) rfl) rfl rfl (by decide) fun a520 hA521 => ?_; clear hA519 a518
 refine st hA521 (op_indexS rfl un_23 ty_3 (hA521.ev rfl) (i := 0) (show _ = Value.int .i64 ((0 : Nat) : Int) from (evc _ _)) (SlAt.of_row (hS511.ok_row 12 rfl)) (by decide) (by decide)) rfl rfl (by decide) fun a522 hA523 => ?_; clear hA521 a520
 refine sts hA523 (op_storeE hS511 rfl ty_3 (hA523.ev rfl) (evc _ _) (i := 12) rfl (vs := [(Value.int .i64 1001)]) rfl rfl rfl (Nat.le_of_ble_eq_true rfl) (by decide)) rfl rfl ?_
 intro _ w524 hS525 hA527; have hS526 := hS525.row_say (i := 12) rfl (n' := 3) (xs' := [(Value.int .i64 1001), (Value.int .i64 122), (Value.int .i64 230)]) rfl rfl; clear hS525 hA523 hS511
 refine wl_nil ?_
 refine then_n ?_
 refine c_seq ?_
 have hA528 := hA527.as [(18, (bptr b502 0)), (17, (bptr b497 0)), (16, (Value.int .i64 7)), (13, (Value.int .i64 9)), (11, (Value.int .i64 2)), (9, (Value.int .i64 7)), (7, (Value.int .i64 9)), (4, (Value.int .i64 2)), (2, (Value.int .i64 2))] rfl; clear hA527
 have hA529 := hA528.as [(18, (bptr b502 0)), (17, (bptr b497 0)), (16, (Value.int .i64 7)), (13, (Value.int .i64 9)), (11, (Value.int .i64 2)), (9, (Value.int .i64 7)), (7, (Value.int .i64 9)), (4, (Value.int .i64 2)), (2, (Value.int .i64 2))] rfl; clear hA528
 refine c_drawV mixed hA529 hS526 8 [[], [0], [], [2], [3], [4], [5], [6]] [(fun (vs530 : Nat → Value) (v_ : Value) (rs_ : List Res) => v_ = (bptr b502 3) ∧ rs_ = []), (fun (vs530 : Nat → Value) (v_ : Value) (rs_ : List Res) => v_ = vb487 ∧ rs_ = []), (fun (vs530 : Nat → Value) (v_ : Value) (rs_ : List Res) => v_ = (bptr b502 3) ∧ rs_ = []), (fun (vs530 : Nat → Value) (v_ : Value) (rs_ : List Res) => v_ = vb487 ∧ rs_ = []), (fun (vs530 : Nat → Value) (v_ : Value) (rs_ : List Res) => v_ = (eptr vb487 (0 * 2)) ∧ rs_ = []), (fun (vs530 : Nat → Value) (v_ : Value) (rs_ : List Res) => v_ = (eptr vb487 (0 * 2 + 1)) ∧ rs_ = []), (fun (vs530 : Nat → Value) (v_ : Value) (rs_ : List Res) => v_ = v0488 ∧ rs_ = []), (fun (vs530 : Nat → Value) (v_ : Value) (rs_ : List Res) => v_ = (slcut v0488 0 2 1) ∧ rs_ = [])] (by decide +kernel) (by decide +kernel) rfl rfl ⟨(fun _ _ _ _ _ h_ => h_), (fun _ _ _ _ _ h_ => h_), (fun _ _ _ _ _ h_ => h_), (fun _ _ _ _ _ h_ => h_), (fun _ _ _ _ _ h_ => h_), (fun _ _ _ _ _ h_ => h_), (fun _ _ _ _ _ h_ => h_), (fun _ _ _ _ _ h_ => h_), trivial⟩ ?_ ?_
 ·skip
  refine ⟨fun a w vs530 hA hS hd => ?_, ?_⟩
  ·skip
   exact opG_of rfl (vv (op_field rfl fd_34_3 (hA.ev rfl)) (And.intro rfl rfl))
  refine ⟨fun a w vs530 hA hS hd => ?_, ?_⟩
  ·skip
   obtain ⟨e0, rs0, hy0, hp0⟩ := hd 0 (by decide)
   obtain ⟨hv0, hr0⟩ := hy0; subst hr0
   rw [hv0] at e0
   exact opG_of rfl (vv (op_load1 rfl ty_32 (tmp_ev (slot_ev e0 rfl)) (hS.bk 0 rfl) rfl) (And.intro rfl rfl))
  refine ⟨fun a w vs530 hA hS hd => ?_, ?_⟩
  ·skip
   exact opG_of rfl (vv (op_field rfl fd_34_3 (hA.ev rfl)) (And.intro rfl rfl))
  refine ⟨fun a w vs530 hA hS hd => ?_, ?_⟩
  ·skip
   obtain ⟨e2, rs2, hy2, hp2⟩ := hd 2 (by decide)
   obtain ⟨hv2, hr2⟩ := hy2; subst hr2
   rw [hv2] at e2
   exact opG_of rfl (vv (op_load1 rfl ty_32 (tmp_ev (slot_ev e2 rfl)) (hS.bk 0 rfl) rfl) (And.intro rfl rfl))
  refine ⟨fun a w vs530 hA hS hd => ?_, ?_⟩
  ·skip
   obtain ⟨e3, rs3, hy3, hp3⟩ := hd 3 (by decide)
   obtain ⟨hv3, hr3⟩ := hy3; subst hr3
   rw [hv3] at e3
   exact opG_of rfl (vv (op_indexS rfl un_32 ty_75 (tmp_ev (slot_ev e3 rfl)) (i := 0) (show _ = Value.int .i64 ((0 : Nat) : Int) from (evc _ _)) (SlAt.of_row (hS.ok_row 4 rfl)) (by decide) (by decide)) (And.intro rfl rfl))
  refine ⟨fun a w vs530 hA hS hd => ?_, ?_⟩
  ·skip
   obtain ⟨e4, rs4, hy4, hp4⟩ := hd 4 (by decide)
   obtain ⟨hv4, hr4⟩ := hy4; subst hr4
   rw [hv4] at e4
   exact opG_of rfl (vv (op_fieldS rfl fd_75_1 (tmp_ev (slot_ev e4 rfl)) (SlAt.of_row (hS.ok_row 4 rfl)) (by rw [((SlAt.of_row (hS.ok_row 4 rfl))).1]; omega)) (And.intro rfl rfl))
  refine ⟨fun a w vs530 hA hS hd => ?_, ?_⟩
  ·skip
   obtain ⟨e5, rs5, hy5, hp5⟩ := hd 5 (by decide)
   obtain ⟨hv5, hr5⟩ := hy5; subst hr5
   rw [hv5] at e5
   exact opG_of rfl (vv (op_load1E rfl ty_23 (tmp_ev (slot_ev e5 rfl)) (SlAt.of_row (hS.ok_row 4 rfl)) rfl) (And.intro rfl rfl))
  refine ⟨fun a w vs530 hA hS hd => ?_, ?_⟩
  ·skip
   obtain ⟨e6, rs6, hy6, hp6⟩ := hd 6 (by decide)
   obtain ⟨hv6, hr6⟩ := hy6; subst hr6
   rw [hv6] at e6
   exact opG_of rfl (vv (op_sliceHi rfl un_23 ty_3 (tmp_ev (slot_ev e6 rfl)) (h := 2) (show _ = Value.int .i64 ((2 : Nat) : Int) from (evc _ _)) (SlAt.of_row (hS.ok_row 5 rfl)) (by decide)) (And.intro rfl rfl))
  trivial
 intro a531 w532 vs530 rsf536 hA533 hH535 hS534; clear hA529 hS526
 obtain ⟨hs_0, hy_0⟩ := hH535 0 (by decide)
 obtain ⟨hv_0, hr_0⟩ := hy_0
 obtain ⟨hs_1, hy_1⟩ := hH535 1 (by decide)
 obtain ⟨hv_1, hr_1⟩ := hy_1
 obtain ⟨hs_2, hy_2⟩ := hH535 2 (by decide)
 obtain ⟨hv_2, hr_2⟩ := hy_2
 obtain ⟨hs_3, hy_3⟩ := hH535 3 (by decide)
 obtain ⟨hv_3, hr_3⟩ := hy_3
 obtain ⟨hs_4, hy_4⟩ := hH535 4 (by decide)
 obtain ⟨hv_4, hr_4⟩ := hy_4
 obtain ⟨hs_5, hy_5⟩ := hH535 5 (by decide)
 obtain ⟨hv_5, hr_5⟩ := hy_5
 obtain ⟨hs_6, hy_6⟩ := hH535 6 (by decide)
 obtain ⟨hv_6, hr_6⟩ := hy_6
 obtain ⟨hs_7, hy_7⟩ := hH535 7 (by decide)
 obtain ⟨hv_7, hr_7⟩ := hy_7
 have hS537 : Sep NoB w w532 [(blk b502 34 [vl485, vs486, (Value.int .i64 2), vb487]), (blk b497 34 [vl473, vs474, (Value.int .i64 2), vb475]), (row vl485 46 2 2 [(Value.int .i64 100), (Value.int .i64 140), (Value.int .i64 200), (Value.int .i64 260)]), (row vs486 3 1 3 [(Value.int .i64 0), (Value.int .i64 0), (Value.int .i64 1)]), (row vb487 75 2 4 [(Value.int .i64 3), v0488, (Value.int .i64 3), v1489, (Value.int .i64 2), v2490, (Value.int .i64 5), v3491]), (row v0488 3 1 3 [(Value.int .i64 120), (Value.int .i64 122), (Value.int .i64 230)]), (row v1489 3 1 3 [(Value.int .i64 124), (Value.int .i64 121), (Value.int .i64 234)]), (row v2490 3 1 3 [(Value.int .i64 131), (Value.int .i64 133), (Value.int .i64 240)]), (row v3491 3 1 3 [(Value.int .i64 (-1)), (Value.int .i64 118), (Value.int .i64 229)]), (row vl473 46 2 2 [(Value.int .i64 100), (Value.int .i64 140), (Value.int .i64 200), (Value.int .i64 260)]), (row vs474 3 1 3 [(Value.int .i64 0), (Value.int .i64 0), (Value.int .i64 1)]), (row vb475 75 2 4 [(Value.int .i64 3), v0476, (Value.int .i64 3), v1477, (Value.int .i64 2), v2478, (Value.int .i64 5), v3479]), (row v0476 3 1 3 [(Value.int .i64 1001), (Value.int .i64 122), (Value.int .i64 230)]), (row v1477 3 1 3 [(Value.int .i64 124), (Value.int .i64 121), (Value.int .i64 234)]), (row v2478 3 1 3 [(Value.int .i64 131), (Value.int .i64 133), (Value.int .i64 240)]), (row v3479 3 1 3 [(Value.int .i64 (-1)), (Value.int .i64 118), (Value.int .i64 229)]), (blk b461 46 [(Value.int .i64 0), (Value.int .i64 0)]), (blk b422 34 [vl410, vs411, (Value.int .i64 2), vb412]), (row vl410 46 2 2 [(Value.int .i64 100), (Value.int .i64 140), (Value.int .i64 200), (Value.int .i64 260)]), (row vs411 3 1 3 [(Value.int .i64 0), (Value.int .i64 0), (Value.int .i64 1)]), (row vb412 75 2 4 [(Value.int .i64 3), v0413, (Value.int .i64 3), v1414, (Value.int .i64 2), v2415, (Value.int .i64 5), v3416]), (row v0413 3 1 3 [(Value.int .i64 120), (Value.int .i64 122), (Value.int .i64 230)]), (row v1414 3 1 3 [(Value.int .i64 124), (Value.int .i64 121), (Value.int .i64 234)]), (row v2415 3 1 3 [(Value.int .i64 131), (Value.int .i64 600), (Value.int .i64 240)]), (row v3416 3 1 3 [(Value.int .i64 (-1)), (Value.int .i64 118), (Value.int .i64 229)]), (blk b398 46 [(Value.int .i64 0), (Value.int .i64 0)]), (rndR true vl378 vs379 vb380 lv381 trialD), (blk b366 46 [(Value.int .i64 0), (Value.int .i64 0)]), (rndR true vl346 vs347 vb348 lv349 trialD), (row u333 3 1 (([] : List Int).length) (ints ([] : List Int))), (row u315 46 2 (([] : List (Int × Int)).length) (pairs ([] : List (Int × Int)))), (blk b307 3 [(Value.int .i64 0)]), (rndR true vl298 vs299 vb300 lv301 trialD), (row u285 46 2 (([] : List (Int × Int)).length) (pairs ([] : List (Int × Int)))), (blk b277 3 [(Value.int .i64 4)]), (rndR true vl268 vs269 vb270 lv271 trialD), (blk b249 3 [(Value.int .i64 2), (Value.int .i64 2)]), (rndR true vl240 vs241 vb242 lv243 trialD), (blk b175 3 [(Value.int .i64 2)]), (blk b142 46 [(Value.int .i64 lo), (Value.int .i64 hi)]), (osl u114 1 (([] : List Int).length) (ints ([] : List Int))), (row v95 75 2 3 [(Value.int .i64 3), v065, (Value.int .i64 3), v166, (Value.int .i64 5), v368]), (row (vs82 7) 75 2 1 [(Value.int .i64 5), v368]), (blk b74 34 [vl62, vs63, (Value.int .i64 2), v95]), (row vl62 46 2 2 [(Value.int .i64 100), (Value.int .i64 140), (Value.int .i64 200), (Value.int .i64 260)]), (row vs63 3 1 3 [(Value.int .i64 0), (Value.int .i64 0), (Value.int .i64 1)]), (row vb64 75 2 4 [(Value.int .i64 3), v065, (Value.int .i64 3), v166, (Value.int .i64 2), v267, (Value.int .i64 5), v368]), (row v065 3 1 3 [(Value.int .i64 120), (Value.int .i64 122), (Value.int .i64 230)]), (row v166 3 1 3 [(Value.int .i64 124), (Value.int .i64 121), (Value.int .i64 234)]), (row v267 3 1 3 [(Value.int .i64 131), (Value.int .i64 133), (Value.int .i64 240)]), (row v368 3 1 3 [(Value.int .i64 (-1)), (Value.int .i64 118), (Value.int .i64 229)]), (row u48 3 1 ([2].length) (ints ([2]))), (rndR true vl36 vs37 vb38 lv39 trialD), (blk b15 3 [(Value.int .i64 0), (Value.int .i64 1)]), (rndR true vl6 vs7 vb8 lv9 trialD)] := by rw [show catR rsf536 0 8 = ([] : List Res) by (try simp only [catR, hr_0, hr_1, hr_2, hr_3, hr_4, hr_5, hr_6, hr_7]); (try rfl)] at hS534; exact hS534
 rw [hv_1] at hs_1
 have hA538 : Fr 202 [] [(143, vb487), (18, (bptr b502 0)), (17, (bptr b497 0)), (16, (Value.int .i64 7)), (13, (Value.int .i64 9)), (11, (Value.int .i64 2)), (9, (Value.int .i64 7)), (7, (Value.int .i64 9)), (4, (Value.int .i64 2)), (2, (Value.int .i64 2))] a531 := hA533.add (slot_ev hs_1 rfl); clear hA533
 rw [hv_7] at hs_7
 have hA539 : Fr 202 [] [(149, (slcut v0488 0 2 1)), (143, vb487), (18, (bptr b502 0)), (17, (bptr b497 0)), (16, (Value.int .i64 7)), (13, (Value.int .i64 9)), (11, (Value.int .i64 2)), (9, (Value.int .i64 7)), (7, (Value.int .i64 9)), (4, (Value.int .i64 2)), (2, (Value.int .i64 2))] a531 := hA538.add (slot_ev hs_7 rfl); clear hA538
 clear hH535 hS534 hs_0 hs_1 hs_2 hs_3 hs_4 hs_5 hs_6 hs_7
 clear hr_0
 clear hv_0
 clear hr_1
 clear hv_1
 clear hr_2
 clear hv_2
 clear hr_3
 clear hv_3
 clear hr_4
 clear hv_4
 clear hr_5
 clear hv_5
 clear hr_6
 clear hv_6
 clear hr_7
 clear hv_7
 refine st hA539 (op_indexS rfl un_32 ty_75 (hA539.ev rfl) (i := 0) (show _ = Value.int .i64 ((0 : Nat) : Int) from (evc _ _)) (SlAt.of_row (hS537.ok_row 4 rfl)) (by decide) (by decide)) rfl rfl (by decide) fun a540 hA541 => ?_; clear hA539 a531
 refine st hA541 (op_fieldS rfl fd_75_1 (hA541.ev rfl) (SlAt.of_row (hS537.ok_row 4 rfl)) (by rw [((SlAt.of_row (hS537.ok_row 4 rfl))).1]; omega)) rfl rfl (by decide) fun a542 hA543 => ?_; clear hA541 a540
 refine sts hA543 (op_storeE hS537 rfl ty_23 (hA543.ev rfl) (hA543.ev rfl) (i := 4) rfl (vs := [(slcut v0488 0 2 1)]) (isSl_cells (SlAt.isSl ((SlAt.cut (SlAt.of_row (hS537.ok_row 5 rfl)) (Nat.zero_le _) (by decide)).say rfl rfl))) rfl (all_c (SlAt.one ((SlAt.cut (SlAt.of_row (hS537.ok_row 5 rfl)) (Nat.zero_le _) (by decide)).say rfl rfl)) all_n) (Nat.le_of_ble_eq_true rfl) (by decide)) rfl rfl ?_
 intro _ w544 hS545 hA547; have hS546 := hS545.row_say (i := 4) rfl (n' := 4) (xs' := [(Value.int .i64 3), (slcut v0488 0 2 1), (Value.int .i64 3), v1489, (Value.int .i64 2), v2490, (Value.int .i64 5), v3491]) rfl rfl; clear hS545 hA543 hS537
 refine wl_nil ?_
 refine then_n ?_
 refine c_seq ?_
 refine c_region ?_
 refine st hA547 (op_move rfl (hA547.ev rfl)) rfl rfl (by decide) fun a548 hA549 => ?_; clear hA547 a542
 refine st hA549 (op_eql rfl (hA549.ev rfl) (evc _ _)) rfl rfl (by decide) fun a550 hA551 => ?_; clear hA549 a548
 refine st hA551 (op_move rfl (hA551.ev rfl)) rfl rfl (by decide) fun a552 hA553 => ?_; clear hA551 a550
 refine stg hA553 (op_move rfl (hA553.ev rfl)) rfl rfl rfl rfl (by decide) fun a554 hA555 => ?_; clear hA553 a552
 refine stg hA555 (op_eql rfl (hA555.ev rfl) (evc _ _)) rfl rfl rfl rfl (by decide) fun a556 hA557 => ?_; clear hA555 a554
 refine st hA557 (op_pick_t rfl (hA557.ev rfl) (hA557.ev rfl)) rfl rfl (by decide) fun a558 hA559 => ?_; clear hA557 a556
 refine st hA559 (op_move rfl (hA559.ev rfl)) rfl rfl (by decide) fun a560 hA561 => ?_; clear hA559 a558
 refine stg hA561 (op_move rfl (hA561.ev rfl)) rfl rfl rfl rfl (by decide) fun a562 hA563 => ?_; clear hA561 a560
 refine stg hA563 (op_eql rfl (hA563.ev rfl) (evc _ _)) rfl rfl rfl rfl (by decide) fun a564 hA565 => ?_; clear hA563 a562
 refine st hA565 (op_pick_t rfl (hA565.ev rfl) (hA565.ev rfl)) rfl rfl (by decide) fun a566 hA567 => ?_; clear hA565 a564
 refine st hA567 (op_move rfl (hA567.ev rfl)) rfl rfl (by decide) fun a568 hA569 => ?_; clear hA567 a566
 refine stg hA569 (op_move rfl (hA569.ev rfl)) rfl rfl rfl rfl (by decide) fun a570 hA571 => ?_; clear hA569 a568
 refine stg hA571 (op_eql rfl (hA571.ev rfl) (evc _ _)) rfl rfl rfl rfl (by decide) fun a572 hA573 => ?_; clear hA571 a570
 refine st hA573 (op_pick_t rfl (hA573.ev rfl) (hA573.ev rfl)) rfl rfl (by decide) fun a574 hA575 => ?_; clear hA573 a572
 refine st hA575 (op_move rfl (hA575.ev rfl)) rfl rfl (by decide) fun a576 hA577 => ?_; clear hA575 a574
 refine stg hA577 (op_move rfl (hA577.ev rfl)) rfl rfl rfl rfl (by decide) fun a578 hA579 => ?_; clear hA577 a576
 refine stg hA579 (op_eql rfl (hA579.ev rfl) (evc _ _)) rfl rfl rfl rfl (by decide) fun a580 hA581 => ?_; clear hA579 a578
 refine st hA581 (op_pick_t rfl (hA581.ev rfl) (hA581.ev rfl)) rfl rfl (by decide) fun a582 hA583 => ?_; clear hA581 a580
 refine st hA583 (op_move rfl (hA583.ev rfl)) rfl rfl (by decide) fun a584 hA585 => ?_; clear hA583 a582
 refine stg hA585 (op_move rfl (hA585.ev rfl)) rfl rfl rfl rfl (by decide) fun a586 hA587 => ?_; clear hA585 a584
 refine stg hA587 (op_eql rfl (hA587.ev rfl) (evc _ _)) rfl rfl rfl rfl (by decide) fun a588 hA589 => ?_; clear hA587 a586
 refine st hA589 (op_pick_t rfl (hA589.ev rfl) (hA589.ev rfl)) rfl rfl (by decide) fun a590 hA591 => ?_; clear hA589 a588
 refine st hA591 (op_move rfl (hA591.ev rfl)) rfl rfl (by decide) fun a592 hA593 => ?_; clear hA591 a590
 refine stg hA593 (op_move rfl (hA593.ev rfl)) rfl rfl rfl rfl (by decide) fun a594 hA595 => ?_; clear hA593 a592
 refine stg hA595 (op_eql rfl (hA595.ev rfl) (evc _ _)) rfl rfl rfl rfl (by decide) fun a596 hA597 => ?_; clear hA595 a594
 refine st hA597 (op_pick_t rfl (hA597.ev rfl) (hA597.ev rfl)) rfl rfl (by decide) fun a598 hA599 => ?_; clear hA597 a596
 refine st hA599 (op_move rfl (hA599.ev rfl)) rfl rfl (by decide) fun a600 hA601 => ?_; clear hA599 a598
 refine stg hA601 (op_loadA rfl ty_34 (hA601.ev rfl) (hS546.bk 1 rfl) (l := [vl473, vs474, (Value.int .i64 2), vb475]) rfl rfl) rfl rfl rfl rfl (by decide) fun a602 hA603 => ?_; clear hA601 a600
 refine stwg hA603 (op_call rfl en_19 (ev1 (hA603.ev rfl)) (by have h := (check_ok vl473 vs474 vb475 ([v0476, v1477, v2478, v3479]) oddD _ (show RoundAt _ vl473 vs474 vb475 [v0476, v1477, v2478, v3479] oddD from ⟨(SlAt.of_row (hS546.ok_row 9 rfl)), (SlAt.of_row (hS546.ok_row 10 rfl)), (SlAt.of_row (hS546.ok_row 11 rfl)), rdsAt4 ((SlAt.of_row (hS546.ok_row 12 rfl))) ((SlAt.of_row (hS546.ok_row 13 rfl))) ((SlAt.of_row (hS546.ok_row 14 rfl))) ((SlAt.of_row (hS546.ok_row 15 rfl))), rfl, rfl⟩)); rw [check_odd] at h; exact h)) rfl rfl rfl rfl (by decide) ?_
 rintro a604 _ w606 ⟨rfl, hE607⟩ hA605; have hS608 := hS546.step hE607; clear hE607 hA603 hS546 a602
 refine stg hA605 (op_eql rfl (hA605.ev rfl) (evc _ _)) rfl rfl rfl rfl (by decide) fun a609 hA610 => ?_; clear hA605 a604
 refine st hA610 (op_pick_t rfl (hA610.ev rfl) (hA610.ev rfl)) rfl rfl (by decide) fun a611 hA612 => ?_; clear hA610 a609
 refine st hA612 (op_move rfl (hA612.ev rfl)) rfl rfl (by decide) fun a613 hA614 => ?_; clear hA612 a611
 refine stg hA614 (op_loadA rfl ty_34 (hA614.ev rfl) (hS608.bk 0 rfl) (l := [vl485, vs486, (Value.int .i64 2), vb487]) rfl rfl) rfl rfl rfl rfl (by decide) fun a615 hA616 => ?_; clear hA614 a613
 refine stwg hA616 (op_call rfl en_19 (ev1 (hA616.ev rfl)) (by have h := (check_ok vl485 vs486 vb487 ([(slcut v0488 0 2 1), v1489, v2490, v3491]) shortD _ (show RoundAt _ vl485 vs486 vb487 [(slcut v0488 0 2 1), v1489, v2490, v3491] shortD from ⟨(SlAt.of_row (hS608.ok_row 2 rfl)), (SlAt.of_row (hS608.ok_row 3 rfl)), (SlAt.of_row (hS608.ok_row 4 rfl)), rdsAt4 (SlAt.say (SlAt.cut (SlAt.of_row (hS608.ok_row 5 rfl)) (Nat.zero_le 2) (by decide)) rfl rfl) ((SlAt.of_row (hS608.ok_row 6 rfl))) ((SlAt.of_row (hS608.ok_row 7 rfl))) ((SlAt.of_row (hS608.ok_row 8 rfl))), rfl, rfl⟩)); rw [check_short] at h; exact h)) rfl rfl rfl rfl (by decide) ?_
 rintro a617 _ w619 ⟨rfl, hE620⟩ hA618; have hS621 := hS608.step hE620; clear hE620 hA616 hS608 a615
 refine stg hA618 (op_eql rfl (hA618.ev rfl) (evc _ _)) rfl rfl rfl rfl (by decide) fun a622 hA623 => ?_; clear hA618 a617
 refine st hA623 (op_pick_t rfl (hA623.ev rfl) (hA623.ev rfl)) rfl rfl (by decide) fun a624 hA625 => ?_; clear hA623 a622
 refine st hA625 (op_move rfl (hA625.ev rfl)) rfl rfl (by decide) fun a626 hA627 => ?_; clear hA625 a624
 refine stg hA627 (op_build rfl pv0 bd_34_) rfl rfl rfl rfl (by decide) fun a628 hA629 => ?_; clear hA627 a626
 refine stwg hA629 (op_call rfl en_19 (ev1 (hA629.ev rfl)) (by have h := (check_ok (Value.slice none 0 0) (Value.slice none 0 0) (Value.slice none 0 0) ([]) emptyD _ (nil_round w619)); rw [check_empty] at h; exact h)) rfl rfl rfl rfl (by decide) ?_
 rintro a630 _ w632 ⟨rfl, hE633⟩ hA631; have hS634 := hS621.step hE633; clear hE633 hA629 hS621 a628
 refine stg hA631 (op_eql rfl (hA631.ev rfl) (evc _ _)) rfl rfl rfl rfl (by decide) fun a635 hA636 => ?_; clear hA631 a630
 refine st hA636 (op_pick_t rfl (hA636.ev rfl) (hA636.ev rfl)) rfl rfl (by decide) fun a637 hA638 => ?_; clear hA636 a635
 refine st hA638 (op_move rfl (hA638.ev rfl)) rfl rfl (by decide) fun a639 hA640 => ?_; clear hA638 a637
 refine stwg hA640 (op_makeFull hS634 rfl un_31 el_46 (show _ = Value.int .i64 ((5 : Nat) : Int) from (evc _ _)) (show _ = Value.int .i64 ((5 : Nat) : Int) from (evc _ _)) (n := 5) (cs := [(Value.int .i64 0), (Value.int .i64 0), (Value.int .i64 0), (Value.int .i64 0), (Value.int .i64 0), (Value.int .i64 0), (Value.int .i64 0), (Value.int .i64 0), (Value.int .i64 0), (Value.int .i64 0)]) mk_46_5 (by decide) (by decide) (by decide)) rfl rfl rfl rfl (by decide) ?_
 intro a641 v644 w643 hS645 hA642; clear hA640 hS634 a639
 refine stg hA642 (op_build rfl (pv1 (hA642.ev rfl)) (bd_34_0s _ (SlAt.isSl (SlAt.of_row (hS645.ok_row 0 rfl))))) rfl rfl rfl rfl (by decide) fun a646 hA647 => ?_; clear hA642 a641
 refine stwg hA647 (op_call rfl en_19 (ev1 (hA647.ev rfl)) (by have h := (check_ok v644 (Value.slice none 0 0) (Value.slice none 0 0) ([]) manyD _ (show RoundAt _ v644 nilS nilS [] manyD from ⟨(SlAt.of_row (hS645.ok_row 0 rfl)), (nil_round _).samples, (nil_round _).labs, (nil_round _).rds, rfl, rfl⟩)); rw [check_many] at h; exact h)) rfl rfl rfl rfl (by decide) ?_
 rintro a648 _ w650 ⟨rfl, hE651⟩ hA649; have hS652 := hS645.step hE651; clear hE651 hA647 hS645 a646
 refine stg hA649 (op_eql rfl (hA649.ev rfl) (evc _ _)) rfl rfl rfl rfl (by decide) fun a653 hA654 => ?_; clear hA649 a648
 refine st hA654 (op_pick_t rfl (hA654.ev rfl) (hA654.ev rfl)) rfl rfl (by decide) fun a655 hA656 => ?_; clear hA654 a653
 refine st hA656 (op_move rfl (hA656.ev rfl)) rfl rfl (by decide) fun a657 hA658 => ?_; clear hA656 a655
 refine stwg hA658 (op_call rfl en_18 ev0 (wakes_ok _)) rfl rfl rfl rfl (by decide) ?_
 rintro a659 _ w661 ⟨rfl, hE662⟩ hA660; have hS663 := hS652.step hE662; clear hE662 hA658 hS652 a657
 refine st hA660 (op_pick_t rfl (hA660.ev rfl) (hA660.ev rfl)) rfl rfl (by decide) fun a664 hA665 => ?_; clear hA660 a659
 refine st hA665 (op_assign rfl (hA665.ev rfl)) rfl rfl (by decide) fun a666 hA667 => ?_; clear hA665 a664
 refine wl_nil ?_
 refine then_n ?_
 refine c_ret ?_
 refine fin_run hA667 (.inl rfl) (run_results1 hA667 rfl (.tmp rfl)) ?_
 exact ⟨rfl, hS663.ext⟩

end Go.Proofs.Ytfhmigoddaaljaa
