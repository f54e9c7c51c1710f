/-
  The engine, part Y: appends onto an empty slice that was just built (its capacity is 0): always new memory, or nothing is done.
  The engine, part Z: drawn regions in which operations without effect may come before or after a store.
  Rounds taken apart, lot by lot: plain.
  One more laboratory; rounds that are kinder; lists of the fewest, told by what they are: plain.
-/
import Derived.Test.YtfhmigoddaaljaaEng
import Derived.Test.YtfhmigoddaaljaaPlain
import Derived.Test.YtfhmigoddaaljaaFg
set_option linter.unusedSimpArgs false
set_option linter.unusedVariables false
namespace Go.Eng

section
variable {r : Option Nat} {P : Program} {o : Oper} {a : Act} {w w0 : World} {X : Nat → Prop} {L : List Res} {y : List Res → Value → Prop}

theorem op_append0 {t e : TypeId} {s x : Operand} {z : Value} {sz bytes : Nat} {b : Addr} {vx : Value} {m : Nat} {news : List Value}
    (ho : o.op = .call { callee := .builtin .append, args := #[s, x], argTypes := #[t, t] }) (ht : P.underlying t = some (.slice e)) (he : elK P e = some (z, sz, bytes))
    (hs : a.eval s = .slice (some b) 0 0) (hx : a.eval x = vx) (hsrc : SlAt w vx sz m news) (h1 : news.all (·.oneCell') = true)
    (h63 : m ≤ maxLen) (hbytes : m * bytes ≤ 140737488355328) (hm : 0 < m) :
    OpY r P o a w (fun v' w' => Ext NoB w w' ∧ w'.ownsRow w.heap.size e sz v' m news) := by
  unfold elK at he
  cases hi0 : P.info? e with
  | none => simp [hi0] at he
  | some ti =>
    simp only [hi0] at he
    cases hz : ti.zero with
    | none => simp [hz] at he
    | some z' =>
      simp only [hz] at he
      split at he
      case isFalse => cases he
      rename_i hcond
      simp only [Option.some.injEq, Prod.mk.injEq] at he
      obtain ⟨rfl, rfl, rfl⟩ := he
      obtain ⟨hl, A, cap', rfl, hc1, hc2, h3⟩ := hsrc
      have hne : news ≠ [] := by
        rintro rfl
        have := Nat.mul_pos hm hcond.2; simp at hl; omega
      obtain ⟨ad, rfl, hcells⟩ := h3 hne
      have hnil : w.ownsRow w.heap.size e ti.size (.slice none 0 0) 0 [] := ⟨by simp, .inl ⟨rfl, rfl⟩⟩
      obtain ⟨v', w', hrun, h2, h4, _, h5⟩ := run_append_own_at (P := P) w w.heap.size t o.type e ti z' ti.size ti.bytes ht hi0 hz rfl rfl hcond.1 hcond.2 (.slice none 0 0) 0 [] hnil ad m cap' news hl hcells (fun u hu => List.all_eq_true.1 h1 u hu) (by omega) (by rw [Nat.zero_add]; exact hbytes) (Nat.le_refl _)
      refine opY_value (v := v') (w' := w') (by rw [ho]; rfl) ?_ ⟨(Ext.of_grownBy h4).mono (fun b hb => by cases hb), by rw [Nat.zero_add, List.nil_append] at h2; exact h2⟩
      have hgo : ∀ R W, (Builtin.append_ #[t, t] o.type #[.slice (some b) 0 0, .slice (some ad) m cap']).run P w = .ok R W → (execOp a.eval o).run P w = .ok (.value R) W := fun R W hr => by
        simp only [execOp, ho, resolve, invoke, builtin, Sem.run_bind, Sem.run_pure, Result.andThen_ok, List.map_toArray, List.map_cons, List.map_nil, hs, hx, hr]
      refine hgo _ _ ?_
      have r1 := run_append_grow (P := P) w t o.type e ti z' ht hi0 hz b 0 0 [] (by simp) (by simp) ad m cap' news hl hcells (by omega) (by simp only [maxLen] at h63; omega) (growslice_fits (by omega) (by rw [Nat.zero_add]; exact hbytes))
      have r2 := run_append_nil (P := P) w t o.type e ti z' ht hi0 hz ad m cap' news hl hcells hm (by simp only [maxLen] at h63; omega) (by omega)
      rw [r2] at hrun
      cases hrun
      rw [r1]; simp

/-- Nothing is appended. -/
theorem op_appendZ {t e : TypeId} {s x : Operand} {z : Value} {sz bytes : Nat} {b : Addr} {vx : Value} {m : Nat} {news : List Value}
    (ho : o.op = .call { callee := .builtin .append, args := #[s, x], argTypes := #[t, t] }) (ht : P.underlying t = some (.slice e)) (he : elK P e = some (z, sz, bytes))
    (hs : a.eval s = .slice (some b) 0 0) (hx : a.eval x = vx) (hsrc : SlAt w vx sz m news) (hm : m = 0) :
    OpY r P o a w (fun v' w' => v' = .slice (some b) 0 0 ∧ w' = w) := by
  unfold elK at he
  cases hi0 : P.info? e with
  | none => simp [hi0] at he
  | some ti =>
    obtain ⟨hl, A, cap', rfl, hc1, hc2, h3⟩ := hsrc
    subst hm
    refine opY_value (v := .slice (some b) 0 0) (w' := w) (by rw [ho]; rfl) ?_ ⟨rfl, rfl⟩
    simp only [execOp, ho, resolve, invoke, builtin, Sem.run_bind, Sem.run_pure, Result.andThen_ok, List.map_toArray, List.map_cons, List.map_nil, hs, hx]
    cases A <;> simp [Builtin.append_, run_underlying ht, sizeOf, typeInfo, hi0, Builtin.lenOf, Builtin.firstCells, storeCells, loadCells, loadCellsFrom]

theorem vblz {t e : TypeId} {sz : Nat} {g : Bool} {parts : Array (Nat × Operand)} {ps : Array (Nat × Value)} {z : Value}
    (ho : o.op = .buildSlice t 0 parts) (hp : (parts.map fun (i, x) => (i, a.eval x)) = ps) (ht : P.underlying t = some (.slice e)) (he : tyK P e = some (g, sz)) (hz : (P.info? e).bind (·.zero) = some z)
    (hf : Instr.fill (fun i => some (i * sz, sz)) ((Array.range (0 * sz)).map (z.cells[· % z.cells.size]!)) ps.toList = some ([] : List Value).toArray) (hy : ∀ b, y [blk b e []] (.slice (some ⟨b, 0, none⟩) 0 0)) :
    OpY r P o a w (fun v w'' => Ext NoB w w'' ∧ ∃ rs, y rs v ∧ Sep NoB w w'' rs ∧ rs.all (·.own) = true) :=
  vn (op_buildSlice (X := NoB) (w0 := w) (L := []) (Sep.start _ _) ho hp ht he hz (by omega) hf) fun v w' ⟨b, h1, h2⟩ => by
    subst h1
    exact ⟨_, hy b, h2, rfl⟩
theorem vap0 {e sz m : Nat} {news : List Value} (h : OpY r P o a w (fun v' w' => Ext NoB w w' ∧ w'.ownsRow w.heap.size e sz v' m news)) (hy : ∀ v, y [row v e sz m news] v) :
    OpY r P o a w (fun v w'' => Ext NoB w w'' ∧ ∃ rs, y rs v ∧ Sep NoB w w'' rs ∧ rs.all (·.own) = true) :=
  vn h fun v w' hv => ⟨_, hy v, (Sep.start NoB _).new_row hv.1 hv.2, rfl⟩
end
end Go.Eng

namespace Go.Eng
open Go.RowKit

section
variable {r : Option Nat} {P : Program} {Q : Exit → Act → World → Prop} {n : Nat} {ds : List Deferred} {m : List (Nat × Value)} {X : Nat → Prop} {w0 : World} {L : List Res}

theorem v_step1 {l : List Oper} {h : Nat} {dl : List (List Nat)} {Y : List YV}
    (hdst : ∀ x, x < h → ∀ x_1, x_1 < h → (decide (x_1 = x) || match (l.toArray[x_1]?).bind (·.dst), (l.toArray[x]?).bind (·.dst) with | some d, some e => decide (d ≠ e) | _, _ => true) = true)
    (hok2 : ∀ x, x < h → ∀ x_1 ∈ dl.getD x [], x_1 < x ∧ (beforeOf l.toArray 12 (bindsOn l.toArray x)).contains x_1 = true) (hfree : freeOf l.toArray h (m.map (·.1)) = true) (hn : (List.range h).all (fun j => match (l.toArray[j]?).bind (·.dst) with | some d => decide (d < n) | none => true) = true)
    (hdep : AllDep dl Y)
    {j : Nat} {o : Oper} (hob : ∀ a w' vs, Fr n ds m a → Sep X w0 w' L → (∀ i ∈ dl.getD j [], SlotIs l.toArray a i (vs i) ∧ ∃ rs, yat Y i vs (vs i) rs ∧ ∀ s ∈ rs, s.p w') → OpG r P l.toArray o a w' (fun v w'' => Ext NoB w' w'' ∧ ∃ rs, yat Y j vs v rs ∧ Sep NoB w' w'' rs ∧ rs.all (·.own) = true))
    (ho : l[j]? = some o) (hj : j < h) {done : Nat → Bool} {a : Act} {w' : World} (hj0 : done j = false) (hcl : ∀ i, done i = true → ∀ k ∈ bindsOn l.toArray i, done k = true) (hjb : ∀ i ∈ bindsOn l.toArray j, done i = true) (hI : VInv l h n ds m X w0 L Y done a w') :
    OpG r P l.toArray o a w' (fun v w'' => VInv l h n ds m X w0 L Y (fun i => done i || (i == j)) (a.put o.dst v) w'') := by
  obtain ⟨hA, vs, rsf, hdone, hnot, hSep⟩ := hI
  have hoj : (l.toArray)[j]? = some o := by simpa using ho
  have hdj : ∀ i ∈ dl.getD j [], i < h ∧ done i = true := fun i hi => by
    have h1 := hok2 j hj i hi
    exact ⟨by omega, before_done hcl 12 _ hjb i (by simpa using h1.2)⟩
  refine opG_mono (hob a w' vs hA hSep.right (fun i hi => ?_)) (fun v w'' hv => ?_)
  · obtain ⟨h1, h2⟩ := hdj i hi
    obtain ⟨h3, h4⟩ := hdone i h1 h2
    exact ⟨h3, rsf i, h4, fun s hs => hSep.mem (List.mem_append_left _ (catR_mem rsf h 0 i (Nat.zero_le _) (by omega) s hs))⟩
  · obtain ⟨hext, rs, hy, hnew, hown⟩ := hv
    have hslot : ∀ i, i < h → i ≠ j → ∀ u, SlotIs l.toArray a i u → SlotIs l.toArray (a.put o.dst v) i u := fun i hi hij u hs => by
      unfold SlotIs at hs ⊢
      have hdd := hdst i hi j hj
      cases hdi : ((l.toArray)[i]?).bind (·.dst) with
      | none => trivial
      | some di =>
        rw [hdi] at hs
        cases hdj' : o.dst with
        | none => exact hs
        | some dj =>
          have hjd : ((l.toArray)[j]?).bind (·.dst) = some dj := by rw [hoj]; exact hdj'
          rw [hdi, hjd] at hdd
          simp only [Bool.or_eq_true, decide_eq_true_eq] at hdd
          have hne : dj ≠ di := fun e' => (hdd.resolve_left (fun e2 => hij e2.symm)) e'
          simp only [Act.put]
          rw [Array.getElem?_setIfInBounds_ne hne]; exact hs
    refine ⟨?_, upd vs j v, upd rsf j rs, fun i hi hdi => ?_, fun i hdi => ?_, ?_⟩
    · cases hd : o.dst with
      | none => exact hA.put_none v
      | some d =>
        have hf := List.all_eq_true.1 hfree j (List.mem_range.2 hj)
        have hjd : ((l.toArray)[j]?).bind (·.dst) = some d := by rw [hoj]; exact hd
        rw [hjd] at hf
        have hdn := List.all_eq_true.1 hn j (List.mem_range.2 hj)
        rw [hjd] at hdn
        refine (hA.put (by simpa using hdn) v).mono (fun i u hi => ?_)
        have : i ≠ d := by
          rintro rfl
          have := lookup_mem m hi
          simp [this] at hf
        have hb : (i == d) = false := by simpa using this
        simp only [List.lookup, hb]; exact hi
    · by_cases e : i = j
      · subst e
        rw [upd_same, upd_same]
        refine ⟨?_, yat_dep hdep (fun k hk => ?_) hy⟩
        · unfold SlotIs
          rw [hoj]
          cases hd : o.dst with
          | none => simp [hd]
          | some d =>
            simp only [Option.bind_some, hd]
            have hdn := List.all_eq_true.1 hn i (List.mem_range.2 hj)
            rw [hoj] at hdn
            simp only [Option.bind_some, hd, decide_eq_true_eq] at hdn
            simp only [Act.put]
            rw [Array.getElem?_setIfInBounds_self_of_lt (by rw [hA.1]; exact hdn)]
        · have := (hdj k hk).2
          rw [upd_ne _ _ (by rintro rfl; rw [hj0] at this; cases this)]
      · have hdi' : done i = true := by
          simp only [Bool.or_eq_true, beq_iff_eq] at hdi
          exact hdi.resolve_right e
        obtain ⟨h3, h4⟩ := hdone i hi hdi'
        rw [upd_ne _ _ e, upd_ne _ _ e]
        refine ⟨hslot i hi e _ h3, yat_dep hdep (fun k hk => ?_) h4⟩
        have hk1 := hok2 i hi k hk
        have := before_done hcl 12 _ (hcl i hdi') k (by simpa using hk1.2)
        rw [upd_ne _ _ (by rintro rfl; rw [hj0] at this; cases this)]
    · simp only [Bool.or_eq_false_iff, beq_eq_false_iff_ne, ne_eq] at hdi
      rw [upd_ne _ _ hdi.2]; exact hnot i hdi.1
    · have h1 := hSep.callS hnew hown
      refine h1.perm ?_
      rw [← List.append_assoc]
      exact (catR_upd rsf j rs (hnot j hj0) h 0 (Nat.zero_le _) (by omega)).append_right L


/-- The store s waits for all that stands before it, but for those of F. -/
def floatsOk (ops : Array Oper) (s : Nat) (F : List Nat) : Bool := (List.range s).all fun i => F.contains i || (beforeOf ops 12 (bindsOn ops s)).contains i

theorem c_drawS {id : Nat} {l : List Oper} {a : Act} {w : World} (hm : P.follows .mixedOrders = true) (hA : Fr n ds m a) (hS : Sep X w0 w L) (s : Nat) (F : List Nat) {os : Oper} (hos : l[s]? = some os) (hod : os.dst = none) (dl : List (List Nat)) (Y : List YV) (L' : List Res)
    (hok : drawOk l.toArray (s + 1) (fun _ => []) = true) (hfl : floatsOk l.toArray s F = true) (hok2 : depsOk l.toArray s dl = true) (hfree : freeOf l.toArray s (m.map (·.1)) = true) (hn : (List.range s).all (fun j => match (l.toArray[j]?).bind (·.dst) with | some d => decide (d < n) | none => true) = true)
    (hdep : AllDep dl Y)
    (hop : AllOps (fun j o => ∀ a w' vs, Fr n ds m a → Sep X w0 w' L → (∀ i ∈ dl.getD j [], SlotIs l.toArray a i (vs i) ∧ ∃ rs, yat Y i vs (vs i) rs ∧ ∀ s ∈ rs, s.p w') → OpG r P l.toArray o a w' (fun v w'' => Ext NoB w' w'' ∧ ∃ rs, yat Y j vs v rs ∧ Sep NoB w' w'' rs ∧ rs.all (·.own) = true)) 0 s l)
    (hop2 : AllOps (fun j o => F.contains j = true → ∀ a w' vs, Fr n ds m a → Sep X w0 w' L' → (∀ i ∈ dl.getD j [], SlotIs l.toArray a i (vs i) ∧ ∃ rs, yat Y i vs (vs i) rs ∧ ∀ s ∈ rs, s.p w') → OpG r P l.toArray o a w' (fun v w'' => Ext NoB w' w'' ∧ ∃ rs, yat Y j vs v rs ∧ Sep NoB w' w'' rs ∧ rs.all (·.own) = true)) 0 s l)
    (hFz : ∀ j, F.contains j = true → ∀ vs v rs, yat Y j vs v rs → rs = [])
    (hst : ∀ a w' vs rsf, Fr n ds m a → (∀ i, i < s → F.contains i = false → SlotIs l.toArray a i (vs i) ∧ yat Y i vs (vs i) (rsf i)) → (∀ i, i < s → F.contains i = true → rsf i = []) → Sep X w0 w' (catR rsf 0 s ++ L) → OpG r P l.toArray os a w' (fun _ w'' => Sep X w0 w'' (catR rsf 0 s ++ L')))
    (htail : ∀ a w' vs rsf, Fr n ds m a → (∀ i, i < s → SlotIs l.toArray a i (vs i) ∧ yat Y i vs (vs i) (rsf i)) → Sep X w0 w' (catR rsf 0 s ++ L') → WL r P l.toArray Q (l.drop (s + 1)) a w') :
    WC r P (.region id l.toArray true) Q a w := by
  have hok' := hok
  simp only [drawOk, Bool.and_eq_true, List.all_eq_true, List.mem_range, decide_eq_true_eq] at hok'
  obtain ⟨⟨⟨⟨hback, _⟩, htl⟩, hdst⟩, hh⟩ := hok'
  simp only [depsOk, List.all_eq_true, List.mem_range, Bool.and_eq_true, decide_eq_true_eq] at hok2
  simp only [floatsOk, List.all_eq_true, List.mem_range, Bool.or_eq_true] at hfl
  have hsa : (l.toArray)[s]? = some os := by simpa using hos
  refine c_drawK hm (s + 1) (fun _ => []) hok (fun done a w' => if done s = true then VInv l s n ds m X w0 L' Y done a w' else VInv l s n ds m X w0 L Y done a w') (fun w' he _ => ?_) (fun j o ho hj done a w' hj0 hcl hjb hI K hK => ?_) (fun done a w' hall hI => ?_)
  · rw [if_neg (by simp)]
    refine ⟨hA, fun _ => undef, fun _ => [], (fun i _ hi => by cases hi), fun _ _ => rfl, ?_⟩
    have : ∀ (h k : Nat), catR (fun _ => []) k h = [] := by
      intro h
      induction h with
      | zero => intro k; rfl
      | succ h ih => intro k; show [] ++ catR _ (k + 1) h = []; rw [ih]; rfl
    rw [this]; exact hS.step he
  · by_cases hs : done s = true
    · rw [if_pos hs] at hI
      have hjs : j < s := by
        rcases Nat.lt_or_ge j s with h1 | h1
        · exact h1
        · rw [show j = s by omega, hs] at hj0; cases hj0
      have hjF : F.contains j = true := by
        rcases hfl j hjs with h1 | h1
        · exact h1
        · have := before_done hcl 12 _ (hcl s hs) j (by simpa using h1)
          rw [this] at hj0; cases hj0
      have hoj : (l.toArray)[j]? = some o := by simpa using ho
      have hob := allOps_at s 0 l hop2 j o ho hjs
      rw [Nat.zero_add] at hob
      refine opG_wp hoj (v_step1 (fun x hx y hy => hdst x (by omega) y (by omega)) hok2 hfree hn hdep (hob hjF) ho hjs hj0 hcl hjb hI) (fun v w'' h => hK _ _ ?_)
      rw [if_pos (by simp only [hs, Bool.true_or])]
      exact h
    · rw [if_neg hs] at hI
      rcases Nat.lt_or_ge j s with h1 | h1
      · have hoj : (l.toArray)[j]? = some o := by simpa using ho
        have hob := allOps_at s 0 l hop j o ho h1
        rw [Nat.zero_add] at hob
        refine opG_wp hoj (v_step1 (fun x hx y hy => hdst x (by omega) y (by omega)) hok2 hfree hn hdep hob ho h1 hj0 hcl hjb hI) (fun v w'' h => hK _ _ ?_)
        rw [if_neg]
        · exact h
        · simp only [Bool.or_eq_true, beq_iff_eq, not_or]; exact ⟨hs, by omega⟩
      · obtain rfl : j = s := by omega
        have heo : o = os := by rw [hos] at ho; exact (Option.some.inj ho).symm
        subst heo
        have hall : ∀ i, i < j → F.contains i = false → done i = true := fun i hi hne => before_done hcl 12 _ hjb i (by have := (hfl i hi).resolve_left (by rw [hne]; simp); simpa using this)
        obtain ⟨hA, vs, rsf, hdone, hnot, hSep⟩ := hI
        refine opG_wp hsa (hst a w' vs rsf hA (fun i hi hne => hdone i hi (hall i hi hne)) (fun i hi hF => by
          cases hd : done i with
          | true => exact hFz i hF _ _ _ (hdone i hi hd).2
          | false => exact hnot i hd) hSep) (fun v w'' h => hK _ _ ?_)
        rw [if_pos (by simp)]
        have hput : a.put o.dst v = a := by rw [hod]; rfl
        rw [hput]
        refine ⟨hA, vs, rsf, fun i hi hd => hdone i hi ?_, fun i hd => hnot i ?_, h⟩
        · simp only [Bool.or_eq_true, beq_iff_eq] at hd
          exact hd.resolve_right (by omega)
        · simp only [Bool.or_eq_false_iff] at hd
          exact hd.1
  · rw [if_pos (hall s (by omega))] at hI
    obtain ⟨hA, vs, rsf, hdone, _, hSep⟩ := hI
    exact htail a w' vs rsf hA (fun i hi => hdone i hi (hall i (by omega))) hSep
end

section
variable {r : Option Nat} {P : Program} {o : Oper} {a : Act} {w : World}
theorem op_nilCheckE {x : Operand} {v : Value} {j sz n : Nat} {cs : List Value} (ho : o.op = .nilCheck x) (hx : a.eval x = eptr v j) (hs : SlAt w v sz n cs) (hl : 0 < cs.length) : OpY r P o a w (fun v' w' => v' = eptr v j ∧ w' = w) := by
  obtain ⟨ad, c, rfl⟩ := hs.addr hl
  exact op_nilCheck ho hx
end
theorem pairs_set0 : ∀ {xs : List (Int × Int)} {i : Nat} {c : Int}, i < xs.length → setFrom (pairs xs) (i * 2 + 0) [.int .i64 c] = pairs (xs.set i (c, (xs.getD i (0, 0)).2))
  | x :: xs, 0, c, _ => by simp [setFrom, pairs_cons]
  | x :: xs, i + 1, c, h => by
    have := pairs_set0 (xs := xs) (i := i) (c := c) (by simpa using h)
    rw [setFrom_one, Nat.add_zero] at this ⊢
    rw [pairs_cons, show (i + 1) * 2 = i * 2 + 1 + 1 by omega, List.set_cons_succ, List.set_cons_succ, this, List.set_cons_succ, pairs_cons]
    simp
theorem pairs_set1 : ∀ {xs : List (Int × Int)} {i : Nat} {c : Int}, i < xs.length → setFrom (pairs xs) (i * 2 + 1) [.int .i64 c] = pairs (xs.set i ((xs.getD i (0, 0)).1, c))
  | x :: xs, 0, c, _ => by simp [setFrom, pairs_cons]
  | x :: xs, i + 1, c, h => by
    have := pairs_set1 (xs := xs) (i := i) (c := c) (by simpa using h)
    rw [setFrom_one] at this ⊢
    rw [pairs_cons, show (i + 1) * 2 + 1 = (i * 2 + 1) + 1 + 1 by omega, List.set_cons_succ, List.set_cons_succ, this, List.set_cons_succ, pairs_cons]
    simp
theorem labs_set0 : ∀ {T : List Int} {V : List Value} {i : Nat} {c : Int}, V.length = T.length → i < T.length → setFrom (vpairs (T.zip V)) (i * 2 + 0) [.int .i64 c] = vpairs ((T.set i c).zip V)
  | t :: T, v :: V, 0, c, _, _ => by simp [setFrom, vpairs_cons]
  | t :: T, v :: V, i + 1, c, hl, h => by
    have := labs_set0 (T := T) (V := V) (i := i) (c := c) (by simpa using hl) (by simpa using h)
    rw [setFrom_one, Nat.add_zero] at this ⊢
    rw [List.zip_cons_cons, vpairs_cons, show (i + 1) * 2 = i * 2 + 1 + 1 by omega, List.set_cons_succ, List.set_cons_succ, this, List.set_cons_succ, List.zip_cons_cons, vpairs_cons]
  | t :: T, [], i, c, hl, _ => by simp at hl
theorem labs_set1 : ∀ {T : List Int} {V : List Value} {i : Nat} {c : Value}, V.length = T.length → i < T.length → setFrom (vpairs (T.zip V)) (i * 2 + 1) [c] = vpairs (T.zip (V.set i c))
  | t :: T, v :: V, 0, c, _, _ => by simp [setFrom, vpairs_cons]
  | t :: T, v :: V, i + 1, c, hl, h => by
    have := labs_set1 (T := T) (V := V) (i := i) (c := c) (by simpa using hl) (by simpa using h)
    rw [setFrom_one] at this ⊢
    rw [List.zip_cons_cons, vpairs_cons, show (i + 1) * 2 + 1 = (i * 2 + 1) + 1 + 1 by omega, List.set_cons_succ, List.set_cons_succ, this, List.set_cons_succ, List.zip_cons_cons, vpairs_cons]
  | t :: T, [], i, c, hl, _ => by simp at hl
theorem vals_set {V : List Value} {i : Nat} {c : Value} (h : i < V.length) : (V.set i c).getD i nilS = c := by simp [List.getD, h]
end Go.Eng

namespace Go.Proofs.Ytfhmigoddaaljaa
open Go.RowKit Go.Eng

/-- The readings of laboratory k, those of the first j samples struck out that are of another lot than i. -/
def apUpto (d : RD) (i k : Nat) : Nat → List Int
  | 0 => d.rds.getD k []
  | j + 1 => if d.samples.getD j 0 = (i : Int) then apUpto d i k j else (apUpto d i k j).set j (-1)
def apRow (d : RD) (i k : Nat) : List Int := apUpto d i k d.samples.length
def apartD (d : RD) (i : Nat) : RD := { d with rds := (List.range d.tols.length).map fun k => apRow d i k }
section
variable {d : RD} {i : Nat}
theorem apUpto_yes {k j : Nat} (h : d.samples.getD j 0 = (i : Int)) : apUpto d i k (j + 1) = apUpto d i k j := by rw [apUpto, if_pos h]
theorem apUpto_no {k j : Nat} (h : ¬ d.samples.getD j 0 = (i : Int)) : apUpto d i k (j + 1) = (apUpto d i k j).set j (-1) := by rw [apUpto, if_neg h]
theorem apUpto_len (k : Nat) : ∀ j, (apUpto d i k j).length = (d.rds.getD k []).length
  | 0 => rfl
  | j + 1 => by
    unfold apUpto; split
    · exact apUpto_len k j
    · rw [List.length_set]; exact apUpto_len k j
theorem apUpto_at (k : Nat) : ∀ j t, t < (d.rds.getD k []).length → (apUpto d i k j).getD t 0 = if t < j ∧ d.samples.getD t 0 ≠ (i : Int) then -1 else (d.rds.getD k []).getD t 0
  | 0, t, _ => by rw [if_neg (by omega)]; rfl
  | j + 1, t, ht => by
    have ih := apUpto_at k j t ht
    unfold apUpto; split
    · rename_i h
      rw [ih]
      by_cases e : t = j
      · subst e; rw [if_neg (by omega), if_neg (fun e => e.2 h)]
      · simp only [show (t < j + 1) ↔ t < j by omega]
    · rename_i h
      by_cases e : t = j
      · subst e
        rw [if_pos ⟨by omega, h⟩]
        have : t < (apUpto d i k t).length := by rw [apUpto_len]; exact ht
        simp [List.getD, this]
      · have e2 : ((apUpto d i k j).set j (-1)).getD t 0 = (apUpto d i k j).getD t 0 := by
          simp only [List.getD]; rw [List.getElem?_set_ne (fun e' => e e'.symm)]
        rw [e2, ih]
        simp only [show (t < j + 1) ↔ t < j by omega]
theorem apart_rds {q : Nat} (hq : q < d.tols.length) : (apartD d i).rds.getD q [] = apRow d i q := by
  simp [apartD, List.getD, hq]
theorem apart_rd (hV : Valid d) {q t : Nat} (hq : q < d.tols.length) (ht : t < d.samples.length) : rdv (apartD d i) q t = if d.samples.getD t 0 = (i : Int) then rdv d q t else -1 := by
  unfold rdv; rw [apart_rds hq]; unfold apRow
  rw [apUpto_at q _ t (by rw [hV.rdl q hq]; exact ht)]
  by_cases h : d.samples.getD t 0 = (i : Int)
  · rw [if_neg (fun e => e.2 h), if_pos h]
  · rw [if_pos ⟨ht, h⟩, if_neg h]
theorem apart_valid (hV : Valid d) : Valid (apartD d i) := by
  refine ⟨hV.nl, hV.ns, hV.nb, hV.lots, hV.samples, hV.spread, hV.tols, fun q hq => ?_, fun q hq j hj => ?_⟩
  · rw [apart_rds (d := d) hq]; unfold apRow; rw [apUpto_len]; exact hV.rdl q hq
  · have := hV.rds q hq j hj
    show -1 ≤ rdv (apartD d i) q j ∧ rdv (apartD d i) q j ≤ 1000
    rw [apart_rd hV hq hj]
    split
    · exact this
    · omega
theorem apart_check (hV : Valid d) : checkR (apartD d i) = 0 := check_of (apart_valid hV)
theorem apart_thin (hV : Valid d) : (apartD d i).lots.length ≤ 6 ∧ (apartD d i).samples.length ≤ 10 ∧ (apartD d i).tols.length ≤ 8 ∧ ∀ k, k < (apartD d i).tols.length → ((apartD d i).rds.getD k []).length ≤ 10 := by
  have h := apart_valid (i := i) hV
  have h1 := h.nl; have h2 := h.ns; have h3 := h.nb
  exact ⟨by omega, by omega, by omega, fun k hk => by have := h.rdl k hk; omega⟩
theorem apart_rdl : (apartD d i).rds.length = d.tols.length := by simp [apartD]
end
/-- A round is explained if each lot of it is. -/
theorem apart_all {d : RD} (hV : Valid d) {off : List Bool} : explB d off = (List.range d.lots.length).all fun i => explB (apartD d i) off := by
  rw [Bool.eq_iff_iff, List.all_eq_true, explB_iff hV]
  constructor
  · rintro ⟨L, v, h⟩ i _
    refine (explB_iff (apart_valid hV)).2 ⟨L, v, h.lots, h.near, fun k hk q hq ho hr => ?_⟩
    have hrd := apart_rd (i := i) hV hq hk
    rw [hrd] at hr ⊢
    split at hr
    · rename_i e
      rw [if_pos e]
      exact h.agree k hk q hq ho hr
    · exact absurd rfl hr
  · intro h
    have hi : ∀ i, ∃ L v, i < d.lots.length → Truth (apartD d i) off (-1) 0 L v := fun i => by
      by_cases hi : i < d.lots.length
      · obtain ⟨L, v, hT⟩ := (explB_iff (apart_valid hV)).1 (h i (List.mem_range.2 hi))
        exact ⟨L, v, fun _ => hT⟩
      · exact ⟨fun _ => 0, fun _ => 0, fun e => absurd e hi⟩
    let L : Nat → Nat → Int := fun i => Classical.choose (hi i)
    have hL := fun i => Classical.choose_spec (hi i)
    let v : Nat → Nat → Int := fun i => Classical.choose (hL i)
    have hv : ∀ i, i < d.lots.length → Truth (apartD d i) off (-1) 0 (L i) (v i) := fun i => Classical.choose_spec (hL i)
    refine ⟨fun i => L i i, fun k => v (lotOf d k) k, fun i hi => (hv i hi).lots i hi, fun k hk => ?_, fun k hk q hq ho hr => ?_⟩
    · have hs := hV.samples k hk
      exact (hv (lotOf d k) (by unfold lotOf; omega)).near k hk
    · have hs := hV.samples k hk
      have hT := hv (lotOf d k) (by unfold lotOf; omega)
      have hrd := apart_rd (i := lotOf d k) hV hq hk
      rw [if_pos (by unfold lotOf; omega)] at hrd
      have := hT.agree k hk q hq ho (by rw [hrd]; exact hr)
      rw [hrd] at this
      exact this
def apAll (d : RD) (off : List Bool) (n : Nat) : Bool := (List.range n).all fun i => explB (apartD d i) off
theorem apAll_succ (d : RD) (off : List Bool) (n : Nat) : apAll d off (n + 1) = (apAll d off n && explB (apartD d n) off) := by
  unfold apAll; rw [List.range_succ, List.all_append]; simp
end Go.Proofs.Ytfhmigoddaaljaa

namespace Go.Proofs.Ytfhmigoddaaljaa
open Go.RowKit Go.Eng

/-! ### One more laboratory -/
def endsRow (d : RD) (k : Nat) (n : Int) : List Int := (List.replicate d.samples.length (-1)).set k n
def endsD (d : RD) (k : Nat) (n : Int) : RD := { d with tols := d.tols ++ [0], rds := d.rds ++ [endsRow d k n] }
section
variable {d : RD} {k : Nat} {n : Int}
theorem getD_snocI (l : List Int) (a : Int) (q : Nat) : (l ++ [a]).getD q 0 = if q < l.length then l.getD q 0 else if q = l.length then a else 0 := by
  simp only [List.getD, List.getElem?_append]
  split
  · rfl
  · rename_i h
    split
    · rename_i e; subst e; simp
    · rw [List.getElem?_eq_none (by simp; omega)]; rfl
theorem getD_snocL (l : List (List Int)) (a : List Int) (q : Nat) : (l ++ [a]).getD q [] = if q < l.length then l.getD q [] else if q = l.length then a else [] := by
  simp only [List.getD, List.getElem?_append]
  split
  · rfl
  · rename_i h
    split
    · rename_i e; subst e; simp
    · rw [List.getElem?_eq_none (by simp; omega)]; rfl
theorem ends_rds (hr : d.rds.length = d.tols.length) (q : Nat) : (endsD d k n).rds.getD q [] = if q < d.tols.length then d.rds.getD q [] else if q = d.tols.length then endsRow d k n else [] := by
  show (d.rds ++ [endsRow d k n]).getD q [] = _
  rw [getD_snocL, hr]
theorem endsRow_at {i : Nat} (hi : i < d.samples.length) : (endsRow d k n).getD i 0 = if i = k then n else -1 := by
  unfold endsRow
  simp only [List.getD, List.getElem?_set]
  by_cases e : k = i
  · subst e; simp [hi]
  · rw [if_neg e, if_neg (fun h => e h.symm)]; simp [hi]
theorem endsRow_len : (endsRow d k n).length = d.samples.length := by simp [endsRow]
theorem ends_len : (endsD d k n).tols.length = d.tols.length + 1 := by simp [endsD]
theorem ends_tol {q : Nat} (hq : q < d.tols.length) : (endsD d k n).tols.getD q 0 = d.tols.getD q 0 := by
  show (d.tols ++ [0]).getD q 0 = _
  rw [getD_snocI, if_pos hq]
theorem ends_tolN : (endsD d k n).tols.getD d.tols.length 0 = 0 := by
  show (d.tols ++ [0]).getD _ 0 = _
  rw [getD_snocI, if_neg (by omega), if_pos rfl]
theorem ends_rd (hr : d.rds.length = d.tols.length) {q i : Nat} (hq : q < d.tols.length) : rdv (endsD d k n) q i = rdv d q i := by
  unfold rdv; rw [ends_rds hr, if_pos hq]
theorem ends_rdN (hr : d.rds.length = d.tols.length) {i : Nat} (hi : i < d.samples.length) : rdv (endsD d k n) d.tols.length i = if i = k then n else -1 := by
  unfold rdv; rw [ends_rds hr, if_neg (by omega), if_pos rfl, endsRow_at hi]
theorem ends_valid (hV : Valid d) (hr : d.rds.length = d.tols.length) (h5 : d.tols.length ≤ 5) (hn : 0 ≤ n ∧ n ≤ 1000) : Valid (endsD d k n) := by
  refine ⟨hV.nl, hV.ns, by rw [ends_len]; omega, hV.lots, hV.samples, hV.spread, fun q hq => ?_, fun q hq => ?_, fun q hq j hj => ?_⟩
  · rw [ends_len] at hq
    by_cases e : q < d.tols.length
    · rw [ends_tol e]; exact hV.tols q e
    · rw [show q = d.tols.length by omega, ends_tolN]; omega
  · rw [ends_len] at hq
    rw [ends_rds hr]
    by_cases e : q < d.tols.length
    · rw [if_pos e]; exact hV.rdl q e
    · rw [if_neg e, if_pos (by omega)]; exact endsRow_len
  · rw [ends_len] at hq
    have hj' : j < d.samples.length := hj
    show -1 ≤ rdv (endsD d k n) q j ∧ rdv (endsD d k n) q j ≤ 1000
    by_cases e : q < d.tols.length
    · rw [ends_rd hr e]; exact hV.rds q e j hj'
    · rw [show q = d.tols.length by omega, ends_rdN hr hj']; split <;> omega
theorem ends_thin (hV : Valid d) (hr : d.rds.length = d.tols.length) (h5 : d.tols.length ≤ 5) (hn : 0 ≤ n ∧ n ≤ 1000) : (endsD d k n).lots.length ≤ 6 ∧ (endsD d k n).samples.length ≤ 10 ∧ (endsD d k n).tols.length ≤ 8 ∧ ∀ q, q < (endsD d k n).tols.length → ((endsD d k n).rds.getD q []).length ≤ 10 := by
  have h := ends_valid (k := k) hV hr h5 hn
  have h1 := h.nl; have h2 := h.ns; have h3 := h.nb
  exact ⟨by omega, by omega, by omega, fun q hq => by have := h.rdl q hq; omega⟩
theorem ends_rdl (hr : d.rds.length = d.tols.length) : (endsD d k n).rds.length = (endsD d k n).tols.length := by simp [endsD, hr]
theorem ends_iff (hV : Valid d) (hr : d.rds.length = d.tols.length) (h5 : d.tols.length ≤ 5) (hn : 0 ≤ n ∧ n ≤ 1000) {off : List Bool} (hoff : off.getD d.tols.length false = false) (hok : explB d off = true) (hk : k < d.samples.length) :
    explB (endsD d k n) off = (decide (((spansF d off (-1) 0).1.getD k (0, 0)).1 ≤ n) && decide (n ≤ ((spansF d off (-1) 0).1.getD k (0, 0)).2)) := by
  rw [Bool.eq_iff_iff, explB_iff (ends_valid hV hr h5 hn)]
  simp only [Bool.and_eq_true, decide_eq_true_eq]
  rw [span_iff hV hok hk n]
  constructor
  · rintro ⟨L, v, h⟩
    refine ⟨L, v, ⟨h.lots, h.near, fun i hi q hq ho hrd => ?_⟩, ?_⟩
    · have := h.agree i hi q (by rw [ends_len]; omega) ho (by rw [ends_rd hr hq]; exact hrd)
      rw [ends_rd hr hq, ends_tol hq] at this; exact this
    · have e : rdv (endsD d k n) d.tols.length k = n := by rw [ends_rdN hr hk, if_pos rfl]
      have := h.agree k hk d.tols.length (by rw [ends_len]; omega) hoff (by rw [e]; omega)
      rw [e, ends_tolN] at this
      split at this <;> omega
  · rintro ⟨L, v, h, e⟩
    refine ⟨L, v, h.lots, h.near, fun i hi q hq ho hrd => ?_⟩
    have hi' : i < d.samples.length := hi
    rw [ends_len] at hq
    by_cases hq' : q < d.tols.length
    · rw [ends_rd hr hq'] at hrd ⊢
      rw [ends_tol hq']
      exact h.agree i hi q hq' ho hrd
    · have eq : q = d.tols.length := by omega
      subst eq
      rw [ends_rdN hr hi'] at hrd ⊢
      rw [ends_tolN]
      by_cases ei : i = k
      · subst ei; rw [if_pos rfl, e]; split <;> omega
      · rw [if_neg ei] at hrd; exact absurd rfl hrd
theorem offB_out {nb x : Nat} (h : nb < 6) : (offB nb x).getD nb false = false := by
  unfold offB
  rw [off_has (chosen_rise nb x) h, Bool.eq_false_iff]
  intro e
  rw [hasB_iff, mem_chosen] at e
  obtain ⟨q, h1, _, h2⟩ := e
  omega
theorem rise_more {nb : Nat} {l : List Int} (h : riseB nb l = true) : riseB (nb + 1) l = true := by
  unfold riseB at *
  rw [List.all_eq_true] at *
  intro i hi
  have := h i hi
  unfold riseAt at *
  simp only [Bool.and_eq_true, decide_eq_true_eq] at *
  exact ⟨⟨this.1.1, by omega⟩, this.2⟩
theorem ends_explains (hV : Valid d) (hr : d.rds.length = d.tols.length) (h5 : d.tols.length ≤ 5) (hn : 0 ≤ n ∧ n ≤ 1000) {x : Nat} (hok : explB d (offB d.tols.length x) = true) (hk : k < d.samples.length) :
    explainsF (endsD d k n) (chosenF d.tols.length x) = ((decide (((spansF d (offB d.tols.length x) (-1) 0).1.getD k (0, 0)).1 ≤ n) && decide (n ≤ ((spansF d (offB d.tols.length x) (-1) 0).1.getD k (0, 0)).2)), 0) := by
  rw [explainsF_yes (check_of (ends_valid hV hr h5 hn)) (by rw [ends_len]; exact rise_more (chosen_rise _ _))]
  rw [← ends_iff hV hr h5 hn (offB_out (by omega)) hok hk]; rfl
end

/-! ### Lists of the fewest -/
theorem fromL_mem (d : RD) : ∀ (m : Nat) (l : List Int) (off : List Bool) (next : Nat) (z : List Int), z ∈ fromL d m l off next →
    ∃ ys, z = l ++ ys ∧ ys.length = m ∧ (∀ y ∈ ys, (next : Int) ≤ y ∧ y ≤ (d.tols.length : Int) - 1) ∧ ys.Pairwise (· < ·) ∧ explB d (ys.foldl (fun bs n => bs.set n.toNat true) off) = true
  | 0, l, off, next, z, h => by
    rw [fromL] at h
    split at h
    · rename_i he
      rw [List.mem_singleton] at h
      exact ⟨[], by rw [h, List.append_nil], rfl, by simp, List.Pairwise.nil, he⟩
    · cases h
  | m + 1, l, off, next, z, h => by
    rw [fromL, List.mem_flatMap] at h
    obtain ⟨k, hk, hz⟩ := h
    rw [List.mem_range'_1] at hk
    obtain ⟨ys, e, hl, hb, hp, hx⟩ := fromL_mem d m (l ++ [(k : Int)]) (off.set k true) (k + 1) z hz
    refine ⟨(k : Int) :: ys, by rw [e, List.append_assoc]; rfl, by simp [hl], fun y hy => ?_, List.pairwise_cons.2 ⟨fun y hy => by have := hb y hy; omega, hp⟩, hx⟩
    rcases List.mem_cons.1 hy with rfl | hy
    · omega
    · have := hb y hy; omega
theorem fewUpto_spec (d : RD) : ∀ k, (fewUpto d k = [] ∧ ∀ j, j < k → fromL d j [] off0 0 = []) ∨ ∃ m, m < k ∧ fewUpto d k = fromL d m [] off0 0 ∧ fewUpto d k ≠ [] ∧ ∀ j, j < m → fromL d j [] off0 0 = []
  | 0 => .inl ⟨rfl, fun j h => absurd h (Nat.not_lt_zero _)⟩
  | k + 1 => by
    simp only [fewUpto]
    rcases fewUpto_spec d k with ⟨h1, h2⟩ | ⟨m, h1, h2, h3, h4⟩
    · rw [if_pos h1]
      by_cases hk : fromL d k [] off0 0 = []
      · refine .inl ⟨hk, fun j hj => ?_⟩
        rcases Nat.lt_succ_iff_lt_or_eq.1 hj with h | h
        · exact h2 j h
        · subst h; exact hk
      · exact .inr ⟨k, by omega, rfl, hk, h2⟩
    · rw [if_neg h3]
      exact .inr ⟨m, by omega, h2, h3, h4⟩
theorem fewest_spec {d : RD} (hV : Valid d) : ∃ m, m ≤ d.tols.length ∧ fewestF d = fromL d m [] off0 0 ∧ ∀ j, j < m → fromL d j [] off0 0 = [] := by
  rcases fewUpto_spec d (d.tols.length + 1) with ⟨h1, _⟩ | ⟨m, h1, h2, _, h4⟩
  · exact absurd h1 (fewest_ne hV)
  · exact ⟨m, by omega, h2, h4⟩
/-- What a list of the fewest is. -/
structure Few (d : RD) (ys : List Int) : Prop where
  b : ∀ y ∈ ys, (0 : Int) ≤ y ∧ y ≤ (d.tols.length : Int) - 1
  p : ys.Pairwise (· < ·)
  x : explB d (offUpto ys ys.length) = true
theorem off_fold (ys : List Int) : offUpto ys ys.length = ys.foldl (fun bs n => bs.set n.toNat true) off0 := by unfold offUpto off0; rw [List.take_length]
theorem few_of {d : RD} {m : Nat} {ys : List Int} (h : ys ∈ fromL d m [] off0 0) : Few d ys ∧ ys.length = m := by
  obtain ⟨zs, e, hl, hb, hp, hx⟩ := fromL_mem d m [] off0 0 ys h
  rw [List.nil_append] at e; subst e
  exact ⟨⟨fun y hy => by have := hb y hy; omega, hp, by rw [off_fold]; exact hx⟩, hl⟩
theorem Few.mem {d : RD} {ys : List Int} (h : Few d ys) : ys ∈ fromL d ys.length [] off0 0 := mem_from0 h.b h.p h.x
theorem Few.nodup {d : RD} {ys : List Int} (h : Few d ys) : ys.Nodup := h.p.imp (fun h => by omega)
theorem Few.len {d : RD} {ys : List Int} (h : Few d ys) : ys.length ≤ d.tols.length := by
  have : ys ⊆ (List.range d.tols.length).map fun (k : Nat) => (k : Int) := fun y hy => by
    have := h.b y hy
    exact List.mem_map.2 ⟨y.toNat, List.mem_range.2 (by omega), by omega⟩
  have := h.nodup.length_le_of_subset this
  simpa using this
theorem fewest_few {d : RD} (hV : Valid d) {ys : List Int} (h : ys ∈ fewestF d) : Few d ys := by
  obtain ⟨m, _, e, _⟩ := fewest_spec hV
  rw [e] at h; exact (few_of h).1
theorem fewest_len {d : RD} (hV : Valid d) {ys : List Int} (h : ys ∈ fewestF d) : ys.length = ((fewestF d).getD 0 []).length := by
  obtain ⟨m, _, e, _⟩ := fewest_spec hV
  have h0 : (fewestF d).getD 0 [] ∈ fewestF d := by
    have := fewest_pos hV
    simp only [List.getD, List.getElem?_eq_getElem this, Option.getD_some]; exact List.getElem_mem this
  rw [e] at h
  have h1 : (fewestF d).getD 0 [] ∈ fromL d m [] off0 0 := by rw [← e]; exact h0
  rw [(few_of h).2, (few_of h1).2]
theorem fewest_first {d : RD} (hV : Valid d) : (fewestF d).getD 0 [] ∈ fewestF d := by
  have := fewest_pos hV
  simp only [List.getD, List.getElem?_eq_getElem this, Option.getD_some]; exact List.getElem_mem this

/-! ### Kinder rounds -/
structure Kinder (d x : RD) : Prop where
  nl : x.lots.length = d.lots.length
  sm : x.samples = d.samples
  nb : x.tols.length = d.tols.length
  lots : ∀ i, i < d.lots.length → (x.lots.getD i (0, 0)).1 ≤ (d.lots.getD i (0, 0)).1 ∧ (d.lots.getD i (0, 0)).2 ≤ (x.lots.getD i (0, 0)).2
  sp : d.spread ≤ x.spread
  tols : ∀ i, i < d.tols.length → d.tols.getD i 0 ≤ x.tols.getD i 0
  rds : ∀ q, q < d.tols.length → ∀ i, i < d.samples.length → rdv x q i = rdv d q i ∨ rdv x q i = -1
theorem Kinder.truth {d x : RD} (h : Kinder d x) {off : List Bool} {L v : Nat → Int} (hT : Truth d off (-1) 0 L v) : Truth x off (-1) 0 L v := by
  refine ⟨fun i hi => ?_, fun k hk => ?_, fun k hk q hq ho hr => ?_⟩
  · rw [h.nl] at hi
    have := h.lots i hi; have := hT.lots i hi; omega
  · rw [h.sm] at hk
    have := hT.near k hk; have hs := h.sp
    have e : lotOf x k = lotOf d k := by unfold lotOf; rw [h.sm]
    rw [e]; omega
  · rw [h.sm] at hk; rw [h.nb] at hq
    have ht := h.tols q hq
    rcases h.rds q hq k hk with e | e
    · rw [e] at hr ⊢
      have := hT.agree k hk q hq ho hr
      omega
    · exact absurd e hr
theorem Kinder.expl {d x : RD} (h : Kinder d x) (hV : Valid d) (hX : Valid x) {off : List Bool} (he : explB d off = true) : explB x off = true := by
  obtain ⟨L, v, hT⟩ := (explB_iff hV).1 he
  exact (explB_iff hX).2 ⟨L, v, h.truth hT⟩
theorem Kinder.least {d x : RD} (h : Kinder d x) (hV : Valid d) (hX : Valid x) : ((fewestF x).getD 0 []).length ≤ ((fewestF d).getD 0 []).length := by
  have hf := fewest_few hV (fewest_first hV)
  have hx : Few x ((fewestF d).getD 0 []) := ⟨by rw [h.nb]; exact hf.b, hf.p, h.expl hV hX hf.x⟩
  exact (fewest_le hx.len hx.mem).1
theorem Kinder.refl (d : RD) : Kinder d d := ⟨rfl, rfl, rfl, fun _ _ => ⟨Int.le_refl _, Int.le_refl _⟩, Int.le_refl _, fun _ _ => Int.le_refl _, fun _ _ _ _ => .inl rfl⟩
/-- The round that RoundKinder plays: one change. -/
def kindLot (p : Int × Int) (n : Int) : Int × Int := (max 0 (p.1 - n), min 1000 (p.2 + n.tmod 7))
def kindSp (d : RD) (n : Int) : RD := { d with spread := min 100 (d.spread + n) }
def kindLots (d : RD) (i : Nat) (n : Int) : RD := { d with lots := d.lots.set i (kindLot (d.lots.getD i (0, 0)) n) }
def kindTol (d : RD) (i : Nat) (n : Int) : RD := { d with tols := d.tols.set i (min 100 (d.tols.getD i 0 + n)) }
def kindRd (d : RD) (i j : Nat) : RD := { d with rds := d.rds.set i ((d.rds.getD i []).set j (-1)) }
theorem getD_setI (l : List Int) (i j : Nat) (p : Int) : (l.set i p).getD j 0 = if i = j ∧ j < l.length then p else l.getD j 0 := by
  simp only [List.getD, List.getElem?_set]
  by_cases e : i = j
  · subst e
    by_cases h : i < l.length
    · simp [h]
    · simp [h]
  · simp [e]
theorem getD_setL (l : List (List Int)) (i j : Nat) (p : List Int) : (l.set i p).getD j [] = if i = j ∧ j < l.length then p else l.getD j [] := by
  simp only [List.getD, List.getElem?_set]
  by_cases e : i = j
  · subst e
    by_cases h : i < l.length
    · simp [h]
    · simp [h]
  · simp [e]
section
variable {d : RD} {n : Int}
theorem kindSp_valid (hV : Valid d) (hn : 0 ≤ n) : Valid (kindSp d n) ∧ Kinder d (kindSp d n) := by
  have hs := hV.spread
  have e : (kindSp d n).spread = min 100 (d.spread + n) := rfl
  exact ⟨⟨hV.nl, hV.ns, hV.nb, hV.lots, hV.samples, by rw [e]; omega, hV.tols, hV.rdl, hV.rds⟩, ⟨rfl, rfl, rfl, fun _ _ => ⟨Int.le_refl _, Int.le_refl _⟩, by rw [e]; omega, fun _ _ => Int.le_refl _, fun _ _ _ _ => .inl rfl⟩⟩
theorem kindLots_valid (hV : Valid d) (hn : 0 ≤ n) (i : Nat) : Valid (kindLots d i n) ∧ Kinder d (kindLots d i n) := by
  have hl : (kindLots d i n).lots.length = d.lots.length := by simp [kindLots]
  have hg : ∀ j, (kindLots d i n).lots.getD j (0, 0) = if i = j ∧ j < d.lots.length then kindLot (d.lots.getD i (0, 0)) n else d.lots.getD j (0, 0) := fun j => by
    show (d.lots.set i _).getD j (0, 0) = _
    rw [getD_setP]
  have h7 := Int.tmod_nonneg 7 hn
  refine ⟨⟨by rw [hl]; exact hV.nl, hV.ns, hV.nb, fun j hj => ?_, by rw [hl]; exact hV.samples, hV.spread, hV.tols, hV.rdl, hV.rds⟩, ⟨hl, rfl, rfl, fun j hj => ?_, Int.le_refl _, fun _ _ => Int.le_refl _, fun _ _ _ _ => .inl rfl⟩⟩
  · rw [hl] at hj
    have := hV.lots j hj
    rw [hg]; split
    · rename_i e; rw [e.1]; unfold kindLot; dsimp only; omega
    · exact this
  · have := hV.lots j hj
    rw [hg]; split
    · rename_i e; rw [e.1]; unfold kindLot; dsimp only; omega
    · exact ⟨Int.le_refl _, Int.le_refl _⟩
theorem kindTol_valid (hV : Valid d) (hn : 0 ≤ n) (i : Nat) : Valid (kindTol d i n) ∧ Kinder d (kindTol d i n) := by
  have hl : (kindTol d i n).tols.length = d.tols.length := by simp [kindTol]
  have hg : ∀ j, (kindTol d i n).tols.getD j 0 = if i = j ∧ j < d.tols.length then min 100 (d.tols.getD i 0 + n) else d.tols.getD j 0 := fun j => by
    show (d.tols.set i _).getD j 0 = _
    rw [getD_setI]
  refine ⟨⟨hV.nl, hV.ns, by rw [hl]; exact hV.nb, hV.lots, hV.samples, hV.spread, fun j hj => ?_, fun j hj => hV.rdl j (by rw [hl] at hj; exact hj), fun j hj => hV.rds j (by rw [hl] at hj; exact hj)⟩, ⟨rfl, rfl, hl, fun _ _ => ⟨Int.le_refl _, Int.le_refl _⟩, Int.le_refl _, fun j hj => ?_, fun _ _ _ _ => .inl rfl⟩⟩
  · rw [hl] at hj
    have := hV.tols j hj
    rw [hg]; split
    · rename_i e; rw [e.1]; omega
    · exact this
  · have := hV.tols j hj
    rw [hg]; split
    · rename_i e; rw [e.1]; omega
    · exact Int.le_refl _
theorem kindRd_valid (hV : Valid d) (i j : Nat) : Valid (kindRd d i j) ∧ Kinder d (kindRd d i j) := by
  have hg : ∀ q, (kindRd d i j).rds.getD q [] = if i = q ∧ q < d.rds.length then (d.rds.getD i []).set j (-1) else d.rds.getD q [] := fun q => by
    show (d.rds.set i _).getD q [] = _
    rw [getD_setL]
  have hrd : ∀ q t, rdv (kindRd d i j) q t = rdv d q t ∨ rdv (kindRd d i j) q t = -1 := fun q t => by
    unfold rdv; rw [hg]; split
    · rename_i e; rw [e.1, getD_setI]; split
      · exact .inr rfl
      · exact .inl rfl
    · exact .inl rfl
  refine ⟨⟨hV.nl, hV.ns, hV.nb, hV.lots, hV.samples, hV.spread, hV.tols, fun q hq => ?_, fun q hq t ht => ?_⟩, ⟨rfl, rfl, rfl, fun _ _ => ⟨Int.le_refl _, Int.le_refl _⟩, Int.le_refl _, fun _ _ => Int.le_refl _, fun q _ t _ => hrd q t⟩⟩
  · rw [hg]; split
    · rename_i e; rw [List.length_set, e.1]; exact hV.rdl q hq
    · exact hV.rdl q hq
  · have := hV.rds q hq t ht
    show -1 ≤ rdv (kindRd d i j) q t ∧ rdv (kindRd d i j) q t ≤ 1000
    rcases hrd q t with e | e
    · rw [e]; exact this
    · rw [e]; omega
end
theorem valid_thin {d : RD} (h : Valid d) : d.lots.length ≤ 6 ∧ d.samples.length ≤ 10 ∧ d.tols.length ≤ 8 ∧ ∀ k, k < d.tols.length → (d.rds.getD k []).length ≤ 10 := by
  have h1 := h.nl; have h2 := h.ns; have h3 := h.nb
  exact ⟨by omega, by omega, by omega, fun k hk => by have := h.rdl k hk; omega⟩
/-! ### Rounds in memory -/
theorem labs_one {w : World} {vl vs vb : Value} {lv : List Value} {d : RD} (h : RoundAt w vl vs vb lv d) : (vpairs (d.tols.zip lv)).all (·.oneCell') = true := by
  have h1 : ∀ v ∈ lv, v.oneCell' = true := fun v hv => by
    obtain ⟨i, hi, rfl⟩ := List.getElem_of_mem hv
    have := (h.rds i (by rw [h.rdl, ← h.lvl]; exact hi)).one
    simpa [List.getD, hi] using this
  rw [List.all_eq_true]
  intro u hu
  unfold vpairs at hu
  rw [List.mem_flatMap] at hu
  obtain ⟨p, hp, hu⟩ := hu
  have h2 := (List.of_mem_zip (a := p.1) (b := p.2) hp).2
  simp only [List.mem_cons, List.not_mem_nil, or_false] at hu
  rcases hu with rfl | rfl
  · rfl
  · exact h1 _ h2
theorem rdsAt_snoc {w : World} {lv : List Value} {rds : List (List Int)} {v : Value} {l : List Int} (h : RdsAt w lv rds) (hl : lv.length = rds.length) (hv : SlAt w v 1 l.length (ints l)) : RdsAt w (lv ++ [v]) (rds ++ [l]) := by
  intro i hi
  rw [List.length_append, List.length_singleton] at hi
  by_cases e : i < rds.length
  · have h1 : (rds ++ [l]).getD i [] = rds.getD i [] := by simp [List.getD, List.getElem?_append_left e]
    have h2 : (lv ++ [v]).getD i nilS = lv.getD i nilS := by simp [List.getD, List.getElem?_append_left (show i < lv.length by omega)]
    rw [h1, h2]; exact h i e
  · have ei : i = rds.length := by omega
    have h1 : (rds ++ [l]).getD i [] = l := by subst ei; simp [List.getD]
    have h2 : (lv ++ [v]).getD i nilS = v := by rw [ei, ← hl]; simp [List.getD]
    rw [h1, h2]; exact hv
theorem ends_zip {d : RD} {k : Nat} {n : Int} {lv : List Value} {v : Value} (hl : lv.length = d.tols.length) : (endsD d k n).tols.zip (lv ++ [v]) = d.tols.zip lv ++ [(0, v)] := zip_snoc hl.symm 0 v
theorem ends_zip0 {d : RD} {k : Nat} {n : Int} {lv : List Value} {v : Value} (hl : lv.length = d.tols.length) (h0 : ¬ 0 < d.tols.length) : (endsD d k n).tols.zip (lv ++ [v]) = [(0, v)] := by
  rw [ends_zip hl, List.eq_nil_of_length_eq_zero (show d.tols.length = 0 by omega)]; rfl
theorem kind_two {l : List (Int × Int)} {i : Nat} {a b c : Int} (h : i < l.length) : (l.set i (a, b)).set i (((l.set i (a, b)).getD i (0, 0)).1, c) = l.set i (a, c) := by
  have : (l.set i (a, b)).getD i (0, 0) = (a, b) := by rw [getD_setP, if_pos ⟨rfl, h⟩]
  rw [this, List.set_set]
theorem rdsAt_set {w : World} {lv : List Value} {rds : List (List Int)} {v : Value} {l : List Int} {i : Nat} (h : RdsAt w lv rds) (hv : SlAt w v 1 l.length (ints l)) (hl : lv.length = rds.length := by first | assumption | omega) : RdsAt w (lv.set i v) (rds.set i l) := by
  intro j hj
  rw [List.length_set] at hj
  rw [getD_setL]
  by_cases e : i = j
  · subst e
    rw [if_pos ⟨rfl, hj⟩]
    have h2 : (lv.set i v).getD i nilS = v := by simp [List.getD, show i < lv.length by omega]
    rw [h2]; exact hv
  · rw [if_neg (fun h => e h.1)]
    have h2 : (lv.set i v).getD j nilS = lv.getD j nilS := by simp only [List.getD]; rw [List.getElem?_set_ne e]
    rw [h2]; exact h j hj
theorem kind_all {d M : RD} (hc : checkR d = 0) (hVM : Valid M) (hK : Kinder d M) (x : Nat) :
    ∃ ba bb La Lb, explainsF d (chosenF d.tols.length x) = (ba, 0) ∧ explainsF M (chosenF d.tols.length x) = (bb, 0) ∧ (ba = true → bb = true) ∧ leastR d = (La, 0) ∧ leastR M = (Lb, 0) ∧ Lb.length ≤ La.length := by
  have hV := valid_of hc
  have h := chosen_explains (check_of hVM) x
  rw [hK.nb] at h
  exact ⟨_, _, _, _, chosen_explains hc x, h, fun e => hK.expl hV hVM e, leastR_yes hc, leastR_yes (check_of hVM), hK.least hV hVM⟩
end Go.Proofs.Ytfhmigoddaaljaa

namespace Go.Proofs.Ytfhmigoddaaljaa
open Go.RowKit Go.Shelf Go.Eng
set_option maxHeartbeats 4000000 in
theorem RoundKinder_a (rl rs rb : Value) (rlv : List Value) (d : RD) (w : World) (hR : RoundAt w rl rs rb rlv d) (x : Nat) (hxb : x < 256) (z : Nat) (hzb : z < 256) (y : Nat) (hyb : y < 256) (q : Nat) (hqb : q < 256) (hf : readyB d = false) :
  Calls Try.prog 9 #[(Value.agg #[rl, rs, (Value.int .i64 d.spread), rb]), (Value.int .u8 (x : Int)), (Value.int .u8 (z : Int)), (Value.int .u8 (y : Int)), (Value.int .u8 (q : Int))] w (Ret fun v w' => v = .bool true ∧ Ext NoB w w') := by
 refine calls_enter Try.func9 rfl fun a0 hA0 => ?_
 replace hA0 : Fr 201 [] [(0, (Value.agg #[rl, rs, (Value.int .i64 d.spread), rb])), (1, (Value.int .u8 (x : Int))), (2, (Value.int .u8 (z : Int))), (3, (Value.int .u8 (y : Int))), (4, (Value.int .u8 (q : Int)))] a0 := hA0
 have hS0 : Sep NoB w w [(rndR false rl rs rb rlv d)] := sep_ro ⟨rfl, hR, trivial⟩
 refine c_seq ?_
 refine c_region ?_
 refine stw hA0 (op_box hS0 rfl (hA0.ev rfl) (cs := [rl, rs, (Value.int .i64 d.spread), rb]) rfl) rfl rfl (by decide) ?_
 rintro a1 _ w3 ⟨b4, rfl, hS5⟩ hA2; clear hA0 hS0 a0
 refine st hA2 (op_assign rfl (evc _ _)) rfl rfl (by decide) fun a6 hA7 => ?_; clear hA2 a1
 refine wl_nil ?_
 refine then_n ?_
 refine c_seq ?_
 refine c_seq ?_
 refine c_region ?_
 refine st hA7 (op_loadA rfl ty_26 (hA7.ev rfl) (hS5.bk 0 rfl) (l := [rl, rs, (Value.int .i64 d.spread), rb]) rfl rfl) rfl rfl (by decide) fun a8 hA9 => ?_; clear hA7 a6
 refine stw hA9 (op_call rfl en_35 (ev1 (hA9.ev rfl)) (ready_ok rl rs rb rlv d _ (rnd_at (hS5.ok 1 _ rfl)))) rfl rfl (by decide) ?_
 rintro a10 _ w12 ⟨rfl, hE13⟩ hA11; have hS14 := hS5.step hE13; clear hE13 hA9 hS5 a8
 rw [hf] at hA11
 refine st hA11 (op_not rfl (hA11.ev rfl)) rfl rfl (by decide) fun a15 hA16 => ?_; clear hA11 a10
 refine wl_nil ?_
 refine then_n ?_
 refine c_true hA16 rfl ?_
 refine c_seq ?_
 have hA17 := hA16.as [] rfl; clear hA16
 refine c_region ?_
 refine stw hA17 (op_call rfl en_18 ev0 (wakes_ok _)) rfl rfl (by decide) ?_
 rintro a18 _ w20 ⟨rfl, hE21⟩ hA19; have hS22 := hS14.step hE21; clear hE21 hA17 hS14 a15
 refine st hA19 (op_assign rfl (hA19.ev rfl)) rfl rfl (by decide) fun a23 hA24 => ?_; clear hA19 a18
 refine wl_nil ?_
 refine then_n ?_
 refine c_ret ?_
 refine then_ret ?_
 refine fin_run hA24 (.inl rfl) (run_results1 hA24 rfl (.tmp rfl)) ?_
 exact ⟨rfl, hS22.ext⟩

set_option maxHeartbeats 4000000 in
theorem RoundKinder_c0 (rl rs rb : Value) (rlv : List Value) (d : RD) (w : World) (hR : RoundAt w rl rs rb rlv d) (x : Nat) (hxb : x < 256) (z : Nat) (hzb : z < 256) (y : Nat) (hyb : y < 256) (q : Nat) (hqb : q < 256) (hf : readyB d = true) (hz : (z : Int).tmod 4 = 0) (hVM : Valid (kindSp d (((q : Int)).tmod 20))) (ba bb : Bool) (he : explainsF d (chosenF d.tols.length x) = (ba, 0)) (heM : explainsF (kindSp d (((q : Int)).tmod 20)) (chosenF d.tols.length x) = (bb, 0)) (hab : ba = true → bb = true) (La Lb : List Int) (hl : leastR d = (La, 0)) (hlM : leastR (kindSp d (((q : Int)).tmod 20)) = (Lb, 0)) (hle : Lb.length ≤ La.length) :
  Calls Try.prog 9 #[(Value.agg #[rl, rs, (Value.int .i64 d.spread), rb]), (Value.int .u8 (x : Int)), (Value.int .u8 (z : Int)), (Value.int .u8 (y : Int)), (Value.int .u8 (q : Int))] w (Ret fun v w' => v = .bool true ∧ Ext NoB w w') := by
 refine calls_enter Try.func9 rfl fun a0 hA0 => ?_
 replace hA0 : Fr 201 [] [(0, (Value.agg #[rl, rs, (Value.int .i64 d.spread), rb])), (1, (Value.int .u8 (x : Int))), (2, (Value.int .u8 (z : Int))), (3, (Value.int .u8 (y : Int))), (4, (Value.int .u8 (q : Int)))] a0 := hA0
 have hth := thin_of (ready_of hf).1; have hc := (ready_of hf).2; have hV := valid_of hc; have hnb := hV.nb; have hns := hV.ns; have hnl := hV.nl; have hsp := hV.spread; have hlv0 := hR.lvl; have hrl8 := hR.rdl; have hN := tmod_nn (a := (q : Int)) (by omega) (show (0 : Int) < 20 by decide); have hN7 := tmod_nn hN.1 (show (0 : Int) < 7 by decide); have hIL := tmod_nn (a := (y : Int)) (by omega) (show (0 : Int) < (d.lots.length : Int) by omega); have hIl := hV.lots (((y : Int)).tmod (d.lots.length : Int)).toNat (by omega)
 have hS0 : Sep NoB w w [(rndR false rl rs rb rlv d)] := sep_ro ⟨rfl, hR, trivial⟩
 refine c_seq ?_
 refine c_region ?_
 refine stw hA0 (op_box hS0 rfl (hA0.ev rfl) (cs := [rl, rs, (Value.int .i64 d.spread), rb]) rfl) rfl rfl (by decide) ?_
 rintro a1 _ w3 ⟨b4, rfl, hS5⟩ hA2; clear hA0 hS0 a0
 refine st hA2 (op_assign rfl (evc _ _)) rfl rfl (by decide) fun a6 hA7 => ?_; clear hA2 a1
 refine wl_nil ?_
 refine then_n ?_
 refine c_seq ?_
 refine c_seq ?_
 refine c_region ?_
 refine st hA7 (op_loadA rfl ty_26 (hA7.ev rfl) (hS5.bk 0 rfl) (l := [rl, rs, (Value.int .i64 d.spread), rb]) rfl rfl) rfl rfl (by decide) fun a8 hA9 => ?_; clear hA7 a6
 refine stw hA9 (op_call rfl en_35 (ev1 (hA9.ev rfl)) (ready_ok rl rs rb rlv d _ (rnd_at (hS5.ok 1 _ rfl)))) rfl rfl (by decide) ?_
 rintro a10 _ w12 ⟨rfl, hE13⟩ hA11; have hS14 := hS5.step hE13; clear hE13 hA9 hS5 a8
 rw [hf] at hA11
 refine st hA11 (op_not rfl (hA11.ev rfl)) rfl rfl (by decide) fun a15 hA16 => ?_; clear hA11 a10
 refine wl_nil ?_
 refine then_n ?_
 refine c_false hA16 rfl ?_
 refine c_skip ?_
 refine then_n ?_
 refine c_seq ?_
 refine c_region ?_
 refine st hA16 (op_loadA rfl ty_26 (hA16.ev rfl) (hS14.bk 0 rfl) (l := [rl, rs, (Value.int .i64 d.spread), rb]) rfl rfl) rfl rfl (by decide) fun a17 hA18 => ?_; clear hA16 a15
 refine stw hA18 (op_alloc hS14 rfl ze_26 (cs := [(Value.slice none 0 0), (Value.slice none 0 0), (Value.int .i64 0), (Value.slice none 0 0)]) rfl) rfl rfl (by decide) ?_
 rintro a19 _ w21 ⟨b22, rfl, hS23⟩ hA20; clear hA18 hS14 a17
 refine sts hA20 (op_store hS23 rfl ty_26 (hA20.ev rfl) (hA20.ev rfl) (i := 0) rfl (vs := [rl, rs, (Value.int .i64 d.spread), rb]) rfl rfl (all_c (SlAt.one (rnd_at (hS23.ok 2 _ rfl)).lots) (all_c (SlAt.one (rnd_at (hS23.ok 2 _ rfl)).samples) (all_c rfl (all_c (SlAt.one (rnd_at (hS23.ok 2 _ rfl)).labs) all_n)))) (Nat.le_of_ble_eq_true rfl)) rfl rfl ?_
 intro _ w24 hS25 hA26; clear hA20
 have hS27 : Sep NoB w w24 [(blk b22 26 [rl, rs, (Value.int .i64 d.spread), rb]), (blk b4 26 [rl, rs, (Value.int .i64 d.spread), rb]), (rndR false rl rs rb rlv d)] := hS25; clear hS25 hS23
 refine wl_nil ?_
 refine then_n ?_
 refine c_seq ?_
 have hA28 := hA26.as [(11, (bptr b22 0)), (5, (bptr b4 0)), (1, (Value.int .u8 (x : Int))), (2, (Value.int .u8 (z : Int))), (3, (Value.int .u8 (y : Int))), (4, (Value.int .u8 (q : Int)))] rfl; clear hA26
 refine c_region ?_
 refine stw hA28 (op_buildSlice hS27 rfl pv0 un_22 ty_44 ze_44 (by decide) (cs := []) bs_44_0_) rfl rfl (by decide) ?_
 rintro a29 _ w31 ⟨b32, rfl, hS33⟩ hA30; clear hA28 hS27 a19
 refine st hA30 (op_field rfl fd_26_0 (hA30.ev rfl)) rfl rfl (by decide) fun a34 hA35 => ?_; clear hA30 a29
 refine st hA35 (op_load1 rfl ty_22 (hA35.ev rfl) (hS33.bk 2 rfl) rfl) rfl rfl (by decide) fun a36 hA37 => ?_; clear hA35 a34
 have hS38 := hS33.blk_row (i := 0) (sz := 2) (n := 0) rfl rfl (by decide); clear hS33
 refine stw hA37 (op_append hS38 rfl un_22 el_44 (hA37.ev rfl) (hA37.ev rfl) (i := 0) rfl (rnd_at (hS38.ok 3 _ rfl)).lots (pairs_one _) (by simp only [maxLen]; omega) (by omega)) rfl rfl (by decide) ?_
 intro a39 v42 w41 hS43 hA40
 have hS44 := hS43.row_say (i := 0) rfl (n' := d.lots.length) (xs' := (pairs d.lots)) (by simp) (by simp); clear hS43 hA37 hS38 a36
 refine st hA40 (op_field rfl fd_26_0 (hA40.ev rfl)) rfl rfl (by decide) fun a45 hA46 => ?_; clear hA40 a39
 refine sts hA46 (op_store hS44 rfl ty_22 (hA46.ev rfl) (hA46.ev rfl) (i := 1) rfl (vs := [v42]) (isSl_cells (SlAt.isSl (SlAt.of_row (hS44.ok_row 0 rfl)))) rfl (all_c (SlAt.one (SlAt.of_row (hS44.ok_row 0 rfl))) all_n) (Nat.le_of_ble_eq_true rfl)) rfl rfl ?_
 intro _ w47 hS48 hA49; clear hA46
 have hS50 : Sep NoB w w47 [(row v42 44 2 d.lots.length (pairs d.lots)), (blk b22 26 [v42, rs, (Value.int .i64 d.spread), rb]), (blk b4 26 [rl, rs, (Value.int .i64 d.spread), rb]), (rndR false rl rs rb rlv d)] := hS48; clear hS48 hS44
 refine wl_nil ?_
 refine then_n ?_
 refine c_seq ?_
 refine c_region ?_
 refine stw hA49 (op_buildSlice hS50 rfl pv0 un_24 ty_62 ze_62 (by decide) (cs := []) bs_62_0_) rfl rfl (by decide) ?_
 rintro a51 _ w53 ⟨b54, rfl, hS55⟩ hA52; clear hA49 hS50 a45
 refine st hA52 (op_field rfl fd_26_3 (hA52.ev rfl)) rfl rfl (by decide) fun a56 hA57 => ?_; clear hA52 a51
 refine st hA57 (op_load1 rfl ty_24 (hA57.ev rfl) (hS55.bk 3 rfl) rfl) rfl rfl (by decide) fun a58 hA59 => ?_; clear hA57 a56
 have hS60 := hS55.blk_row (i := 0) (sz := 2) (n := 0) rfl rfl (by decide); clear hS55
 refine stw hA59 (op_append hS60 rfl un_24 el_62 (hA59.ev rfl) (hA59.ev rfl) (i := 0) rfl (rnd_at (hS60.ok 4 _ rfl)).labs (labs_one (rnd_at (hS60.ok 4 _ rfl))) (by simp only [maxLen]; omega) (by omega)) rfl rfl (by decide) ?_
 intro a61 v64 w63 hS65 hA62
 have hS66 := hS65.row_say (i := 0) rfl (n' := d.tols.length) (xs' := (vpairs (d.tols.zip rlv))) (by simp) (by simp); clear hS65 hA59 hS60 a58
 refine st hA62 (op_field rfl fd_26_3 (hA62.ev rfl)) rfl rfl (by decide) fun a67 hA68 => ?_; clear hA62 a61
 refine sts hA68 (op_store hS66 rfl ty_24 (hA68.ev rfl) (hA68.ev rfl) (i := 2) rfl (vs := [v64]) (isSl_cells (SlAt.isSl (SlAt.of_row (hS66.ok_row 0 rfl)))) rfl (all_c (SlAt.one (SlAt.of_row (hS66.ok_row 0 rfl))) all_n) (Nat.le_of_ble_eq_true rfl)) rfl rfl ?_
 intro _ w69 hS70 hA71; clear hA68
 have hS72 : Sep NoB w w69 [(row v64 62 2 d.tols.length (vpairs (d.tols.zip rlv))), (row v42 44 2 d.lots.length (pairs d.lots)), (blk b22 26 [v42, rs, (Value.int .i64 d.spread), v64]), (blk b4 26 [rl, rs, (Value.int .i64 d.spread), rb]), (rndR false rl rs rb rlv d)] := hS70; clear hS70 hS66
 refine wl_nil ?_
 refine then_n ?_
 refine c_seq ?_
 have hA73 := hA71.as [(11, (bptr b22 0)), (5, (bptr b4 0)), (1, (Value.int .u8 (x : Int))), (2, (Value.int .u8 (z : Int))), (3, (Value.int .u8 (y : Int))), (4, (Value.int .u8 (q : Int)))] rfl; clear hA71
 refine c_region ?_
 refine st hA73 (op_move rfl (hA73.ev rfl)) rfl rfl (by decide) fun a74 hA75 => ?_; clear hA73 a67
 refine st hA75 (op_conv un_5 un_3 rfl (hA75.ev rfl) (v := (q : Int)) (wrap_i64 (by omega) (by omega))) rfl rfl (by decide) fun a76 hA77 => ?_; clear hA75 a74
 refine st hA77 (op_rem rfl (hA77.ev rfl) (evc _ _) (by omega)) rfl rfl (by decide) fun a78 hA79 => ?_; clear hA77 a76
 refine st hA79 (op_assign rfl (hA79.ev rfl)) rfl rfl (by decide) fun a80 hA81 => ?_; clear hA79 a78
 refine wl_nil ?_
 refine then_n ?_
 refine c_seq ?_
 refine c_block ?_
 refine c_seq ?_
 refine c_region ?_
 refine st hA81 (op_move rfl (hA81.ev rfl)) rfl rfl (by decide) fun a82 hA83 => ?_; clear hA81 a80
 refine st hA83 (op_rem rfl (hA83.ev rfl) (evc _ _) (by omega)) rfl rfl (by decide) fun a84 hA85 => ?_; clear hA83 a82
 refine st hA85 (op_eql rfl (hA85.ev rfl) (evc _ _)) rfl rfl (by decide) fun a86 hA87 => ?_; clear hA85 a84
 have hd88 : (((z : Int)).tmod 4) = 0 := (by omega)
 rw [decide_eq_true hd88] at hA87
 refine st hA87 (op_assign rfl (hA87.ev rfl)) rfl rfl (by decide) fun a89 hA90 => ?_; clear hA87 a86
 refine wl_nil ?_
 refine then_n ?_
 refine c_true hA90 rfl ?_
 have hA91 := hA90.as [(12, (Value.int .i64 (((q : Int)).tmod 20))), (11, (bptr b22 0)), (5, (bptr b4 0)), (1, (Value.int .u8 (x : Int)))] rfl; clear hA90
 refine c_region ?_
 refine st hA91 (op_field rfl fd_26_2 (hA91.ev rfl)) rfl rfl (by decide) fun a92 hA93 => ?_; clear hA91 a89
 refine st hA93 (op_load1 rfl ty_3 (hA93.ev rfl) (hS72.bk 2 rfl) rfl) rfl rfl (by decide) fun a94 hA95 => ?_; clear hA93 a92
 refine st hA95 (op_move rfl (hA95.ev rfl)) rfl rfl (by decide) fun a96 hA97 => ?_; clear hA95 a94
 refine st hA97 (op_add rfl (hA97.ev rfl) (hA97.ev rfl) (by omega) (by omega)) rfl rfl (by decide) fun a98 hA99 => ?_; clear hA97 a96
 refine st hA99 (op_min rfl (evc _ _) (hA99.ev rfl)) rfl rfl (by decide) fun a100 hA101 => ?_; clear hA99 a98
 refine st hA101 (op_field rfl fd_26_2 (hA101.ev rfl)) rfl rfl (by decide) fun a102 hA103 => ?_; clear hA101 a100
 refine sts hA103 (op_store hS72 rfl ty_3 (hA103.ev rfl) (hA103.ev rfl) (i := 2) rfl (vs := [(Value.int .i64 (min 100 (d.spread + (((q : Int)).tmod 20))))]) rfl rfl rfl (Nat.le_of_ble_eq_true rfl)) rfl rfl ?_
 intro _ w104 hS105 hA106; clear hA103
 have hS107 : Sep NoB w w104 [(row v64 62 2 d.tols.length (vpairs (d.tols.zip rlv))), (row v42 44 2 d.lots.length (pairs d.lots)), (blk b22 26 [v42, rs, (Value.int .i64 (min 100 (d.spread + (((q : Int)).tmod 20)))), v64]), (blk b4 26 [rl, rs, (Value.int .i64 d.spread), rb]), (rndR false rl rs rb rlv d)] := hS105; clear hS105 hS72
 refine wl_nil ?_
 refine blk_n ?_
 refine then_n ?_
 refine c_seq ?_
 have hA108 := hA106.as [(11, (bptr b22 0)), (5, (bptr b4 0)), (1, (Value.int .u8 (x : Int)))] rfl; clear hA106
 refine c_region ?_
 refine st hA108 (op_loadA rfl ty_26 (hA108.ev rfl) (hS107.bk 3 rfl) (l := [rl, rs, (Value.int .i64 d.spread), rb]) rfl rfl) rfl rfl (by decide) fun a109 hA110 => ?_; clear hA108 a102
 refine st hA110 (op_move rfl (hA110.ev rfl)) rfl rfl (by decide) fun a111 hA112 => ?_; clear hA110 a109
 refine stw hA112 (op_call rfl en_36 (ev2 (hA112.ev rfl) (hA112.ev rfl)) (chosen_ok rl rs rb rlv d _ (rnd_at (hS107.ok 4 _ rfl)) x (by omega))) rfl rfl (by decide) ?_
 rintro a113 v119 w115 ⟨hE116, hO117⟩ hA114; have hS118 := hS107.new_row hE116 hO117; clear hE116 hO117 hA112 hS107 a111
 refine st hA114 (op_assign rfl (hA114.ev rfl)) rfl rfl (by decide) fun a120 hA121 => ?_; clear hA114 a113
 refine wl_nil ?_
 refine then_n ?_
 refine c_seq ?_
 refine c_region ?_
 refine st hA121 (op_loadA rfl ty_26 (hA121.ev rfl) (hS118.bk 4 rfl) (l := [rl, rs, (Value.int .i64 d.spread), rb]) rfl rfl) rfl rfl (by decide) fun a122 hA123 => ?_; clear hA121 a120
 refine stw hA123 (op_call rfl en_20 (ev1 (hA123.ev rfl)) (Round_ok rl rs rb rlv d _ (rnd_at (hS118.ok 5 _ rfl)) hth)) rfl rfl (by decide) ?_
 rintro a124 _ w126 ⟨vl127, vs128, vb129, lv130, rfl, hT131⟩ hA125; have hS132 := hS118.callS hT131 rfl; clear hT131 hA123 hS118 a122
 refine st hA125 (op_move rfl (hA125.ev rfl)) rfl rfl (by decide) fun a133 hA134 => ?_; clear hA125 a124
 refine stw hA134 (op_call rfl en_22 (ev1 (hA134.ev rfl)) (list_ok (chosenF d.tols.length x) _ _ (SlAt.of_row (hS132.ok_row 1 rfl)) (Nat.le_trans (chosenF_len _ _) (by omega)))) rfl rfl (by decide) ?_
 rintro a135 v141 w137 ⟨hE138, hO139⟩ hA136; have hS140 := hS132.new_row hE138 hO139; clear hE138 hO139 hA134 hS132 a133
 refine stw hA136 (op_call rfl en_21 (ev2 (hA136.ev rfl) (hA136.ev rfl)) (by have h := (explains_ok vl127 vs128 vb129 lv130 d _ (rnd_at (hS140.ok 1 _ rfl)) _ (chosenF d.tols.length x) (SlAt.of_row (hS140.ok_row 0 rfl)) (Nat.le_trans (chosenF_len _ _) (by omega))); rw [he] at h; exact h)) rfl rfl (by decide) ?_
 rintro a142 _ w144 ⟨rfl, hE145⟩ hA143; have hS146 := hS140.step hE145; clear hE145 hA136 hS140 a135
 refine st hA143 (op_move rfl (hA143.ev rfl)) rfl rfl (by decide) fun a147 hA148 => ?_; clear hA143 a142
 refine st hA148 (op_extract rfl (hA148.ev rfl) rfl) rfl rfl (by decide) fun a149 hA150 => ?_; clear hA148 a147
 refine st hA150 (op_extract rfl (hA150.ev rfl) rfl) rfl rfl (by decide) fun a151 hA152 => ?_; clear hA150 a149
 refine st hA152 (op_assign rfl (hA152.ev rfl)) rfl rfl (by decide) fun a153 hA154 => ?_; clear hA152 a151
 refine st hA154 (op_assign rfl (hA154.ev rfl)) rfl rfl (by decide) fun a155 hA156 => ?_; clear hA154 a153
 refine wl_nil ?_
 refine then_n ?_
 refine c_seq ?_
 have hA157 := hA156.as [(17, (Value.int .i64 0)), (16, (Value.bool ba)), (15, v119), (11, (bptr b22 0)), (5, (bptr b4 0))] rfl; clear hA156
 have hS158 := ((hS146.row_say (i := 4) rfl (n' := (kindSp d (((q : Int)).tmod 20)).lots.length) (xs' := pairs (kindSp d (((q : Int)).tmod 20)).lots) rfl rfl).row_say (i := 3) rfl (n' := (kindSp d (((q : Int)).tmod 20)).tols.length) (xs' := vpairs ((kindSp d (((q : Int)).tmod 20)).tols.zip rlv)) rfl rfl); clear hS146
 refine c_region ?_
 refine st hA157 (op_loadA rfl ty_26 (hA157.ev rfl) (hS158.bk 5 rfl) (l := [v42, rs, (Value.int .i64 (min 100 (d.spread + (((q : Int)).tmod 20)))), v64]) rfl rfl) rfl rfl (by decide) fun a159 hA160 => ?_; clear hA157 a155
 refine stw hA160 (op_call rfl en_20 (ev1 (hA160.ev rfl)) (Round_ok v42 rs v64 rlv (kindSp d (((q : Int)).tmod 20)) _ (show RoundAt _ v42 rs v64 rlv (kindSp d (((q : Int)).tmod 20)) from ⟨SlAt.of_row (hS158.ok_row 4 rfl), (rnd_at (hS158.ok 7 _ rfl)).samples, SlAt.of_row (hS158.ok_row 3 rfl), (rnd_at (hS158.ok 7 _ rfl)).rds, (by first | exact hlv0 | (simp only [kindTol, kindRd, List.length_set]; exact hlv0)), (by first | exact hrl8 | (simp only [kindTol, kindRd, List.length_set]; exact hrl8))⟩) (valid_thin hVM))) rfl rfl (by decide) ?_
 rintro a161 _ w163 ⟨vl164, vs165, vb166, lv167, rfl, hT168⟩ hA162; have hS169 := hS158.callS hT168 rfl; clear hT168 hA160 hS158 a159
 refine st hA162 (op_move rfl (hA162.ev rfl)) rfl rfl (by decide) fun a170 hA171 => ?_; clear hA162 a161
 refine stw hA171 (op_call rfl en_22 (ev1 (hA171.ev rfl)) (list_ok (chosenF d.tols.length x) _ _ (SlAt.of_row (hS169.ok_row 3 rfl)) (Nat.le_trans (chosenF_len _ _) (by omega)))) rfl rfl (by decide) ?_
 rintro a172 v178 w174 ⟨hE175, hO176⟩ hA173; have hS177 := hS169.new_row hE175 hO176; clear hE175 hO176 hA171 hS169 a170
 refine stw hA173 (op_call rfl en_21 (ev2 (hA173.ev rfl) (hA173.ev rfl)) (by have h := (explains_ok vl164 vs165 vb166 lv167 (kindSp d (((q : Int)).tmod 20)) _ (rnd_at (hS177.ok 1 _ rfl)) _ (chosenF d.tols.length x) (SlAt.of_row (hS177.ok_row 0 rfl)) (Nat.le_trans (chosenF_len _ _) (by omega))); rw [heM] at h; exact h)) rfl rfl (by decide) ?_
 rintro a179 _ w181 ⟨rfl, hE182⟩ hA180; have hS183 := hS177.step hE182; clear hE182 hA173 hS177 a172
 refine st hA180 (op_move rfl (hA180.ev rfl)) rfl rfl (by decide) fun a184 hA185 => ?_; clear hA180 a179
 refine st hA185 (op_extract rfl (hA185.ev rfl) rfl) rfl rfl (by decide) fun a186 hA187 => ?_; clear hA185 a184
 refine st hA187 (op_extract rfl (hA187.ev rfl) rfl) rfl rfl (by decide) fun a188 hA189 => ?_; clear hA187 a186
 refine st hA189 (op_assign rfl (hA189.ev rfl)) rfl rfl (by decide) fun a190 hA191 => ?_; clear hA189 a188
 refine st hA191 (op_assign rfl (hA191.ev rfl)) rfl rfl (by decide) fun a192 hA193 => ?_; clear hA191 a190
 refine wl_nil ?_
 refine then_n ?_
 refine c_seq ?_
 have hA194 := hA193.as [(19, (Value.int .i64 0)), (18, (Value.bool bb)), (17, (Value.int .i64 0)), (16, (Value.bool ba)), (11, (bptr b22 0)), (5, (bptr b4 0))] rfl; clear hA193
 refine c_region ?_
 refine st hA194 (op_loadA rfl ty_26 (hA194.ev rfl) (hS183.bk 8 rfl) (l := [rl, rs, (Value.int .i64 d.spread), rb]) rfl rfl) rfl rfl (by decide) fun a195 hA196 => ?_; clear hA194 a192
 refine stw hA196 (op_call rfl en_20 (ev1 (hA196.ev rfl)) (Round_ok rl rs rb rlv d _ (rnd_at (hS183.ok 9 _ rfl)) hth)) rfl rfl (by decide) ?_
 rintro a197 _ w199 ⟨vl200, vs201, vb202, lv203, rfl, hT204⟩ hA198; have hS205 := hS183.callS hT204 rfl; clear hT204 hA196 hS183 a195
 refine stw hA198 (op_call rfl en_29 (ev1 (hA198.ev rfl)) (by have h := (least_fn vl200 vs201 vb202 lv203 d _ (rnd_at (hS205.ok 0 _ rfl))); rw [hl] at h; exact h)) rfl rfl (by decide) ?_
 rintro a206 _ w208 ⟨u211, rfl, hT209⟩ hA207; clear hA198 a197
 have hS210 : Sep NoB w w208 [(osl u211 1 La.length (ints La)), (rndR true vl200 vs201 vb202 lv203 d), (row v178 3 1 ((chosenF d.tols.length x).length) (ints (chosenF d.tols.length x))), (rndR true vl164 vs165 vb166 lv167 (kindSp d (((q : Int)).tmod 20))), (row v141 3 1 ((chosenF d.tols.length x).length) (ints (chosenF d.tols.length x))), (rndR true vl127 vs128 vb129 lv130 d), (row v119 3 1 ((chosenF d.tols.length x).length) (ints (chosenF d.tols.length x))), (row v64 62 2 ((kindSp d (((q : Int)).tmod 20)).tols.length) (vpairs ((kindSp d (((q : Int)).tmod 20)).tols.zip rlv))), (row v42 44 2 ((kindSp d (((q : Int)).tmod 20)).lots.length) (pairs ((kindSp d (((q : Int)).tmod 20)).lots))), (blk b22 26 [v42, rs, (Value.int .i64 (min 100 (d.spread + (((q : Int)).tmod 20)))), v64]), (blk b4 26 [rl, rs, (Value.int .i64 d.spread), rb]), (rndR false rl rs rb rlv d)] := hS205.callS hT209 rfl; clear hT209 hS205
 refine st hA207 (op_move rfl (hA207.ev rfl)) rfl rfl (by decide) fun a212 hA213 => ?_; clear hA207 a206
 refine st hA213 (op_extract rfl (hA213.ev rfl) rfl) rfl rfl (by decide) fun a214 hA215 => ?_; clear hA213 a212
 refine st hA215 (op_extract rfl (hA215.ev rfl) rfl) rfl rfl (by decide) fun a216 hA217 => ?_; clear hA215 a214
 refine st hA217 (op_assign rfl (hA217.ev rfl)) rfl rfl (by decide) fun a218 hA219 => ?_; clear hA217 a216
 refine st hA219 (op_assign rfl (hA219.ev rfl)) rfl rfl (by decide) fun a220 hA221 => ?_; clear hA219 a218
 refine wl_nil ?_
 refine then_n ?_
 refine c_seq ?_
 have hA222 := hA221.as [(21, (Value.int .i64 0)), (20, u211), (19, (Value.int .i64 0)), (18, (Value.bool bb)), (17, (Value.int .i64 0)), (16, (Value.bool ba)), (11, (bptr b22 0))] rfl; clear hA221
 refine c_region ?_
 refine st hA222 (op_loadA rfl ty_26 (hA222.ev rfl) (hS210.bk 9 rfl) (l := [v42, rs, (Value.int .i64 (min 100 (d.spread + (((q : Int)).tmod 20)))), v64]) rfl rfl) rfl rfl (by decide) fun a223 hA224 => ?_; clear hA222 a220
 refine stw hA224 (op_call rfl en_20 (ev1 (hA224.ev rfl)) (Round_ok v42 rs v64 rlv (kindSp d (((q : Int)).tmod 20)) _ (show RoundAt _ v42 rs v64 rlv (kindSp d (((q : Int)).tmod 20)) from ⟨SlAt.of_row (hS210.ok_row 8 rfl), (rnd_at (hS210.ok 11 _ rfl)).samples, SlAt.of_row (hS210.ok_row 7 rfl), (rnd_at (hS210.ok 11 _ rfl)).rds, (by first | exact hlv0 | (simp only [kindTol, kindRd, List.length_set]; exact hlv0)), (by first | exact hrl8 | (simp only [kindTol, kindRd, List.length_set]; exact hrl8))⟩) (valid_thin hVM))) rfl rfl (by decide) ?_
 rintro a225 _ w227 ⟨vl228, vs229, vb230, lv231, rfl, hT232⟩ hA226; have hS233 := hS210.callS hT232 rfl; clear hT232 hA224 hS210 a223
 refine stw hA226 (op_call rfl en_29 (ev1 (hA226.ev rfl)) (by have h := (least_fn vl228 vs229 vb230 lv231 (kindSp d (((q : Int)).tmod 20)) _ (rnd_at (hS233.ok 0 _ rfl))); rw [hlM] at h; exact h)) rfl rfl (by decide) ?_
 rintro a234 _ w236 ⟨u239, rfl, hT237⟩ hA235; clear hA226 a225
 have hS238 : Sep NoB w w236 [(osl u239 1 Lb.length (ints Lb)), (rndR true vl228 vs229 vb230 lv231 (kindSp d (((q : Int)).tmod 20))), (osl u211 1 La.length (ints La)), (rndR true vl200 vs201 vb202 lv203 d), (row v178 3 1 ((chosenF d.tols.length x).length) (ints (chosenF d.tols.length x))), (rndR true vl164 vs165 vb166 lv167 (kindSp d (((q : Int)).tmod 20))), (row v141 3 1 ((chosenF d.tols.length x).length) (ints (chosenF d.tols.length x))), (rndR true vl127 vs128 vb129 lv130 d), (row v119 3 1 ((chosenF d.tols.length x).length) (ints (chosenF d.tols.length x))), (row v64 62 2 ((kindSp d (((q : Int)).tmod 20)).tols.length) (vpairs ((kindSp d (((q : Int)).tmod 20)).tols.zip rlv))), (row v42 44 2 ((kindSp d (((q : Int)).tmod 20)).lots.length) (pairs ((kindSp d (((q : Int)).tmod 20)).lots))), (blk b22 26 [v42, rs, (Value.int .i64 (min 100 (d.spread + (((q : Int)).tmod 20)))), v64]), (blk b4 26 [rl, rs, (Value.int .i64 d.spread), rb]), (rndR false rl rs rb rlv d)] := hS233.callS hT237 rfl; clear hT237 hS233
 refine st hA235 (op_move rfl (hA235.ev rfl)) rfl rfl (by decide) fun a240 hA241 => ?_; clear hA235 a234
 refine st hA241 (op_extract rfl (hA241.ev rfl) rfl) rfl rfl (by decide) fun a242 hA243 => ?_; clear hA241 a240
 refine st hA243 (op_extract rfl (hA243.ev rfl) rfl) rfl rfl (by decide) fun a244 hA245 => ?_; clear hA243 a242
 refine st hA245 (op_assign rfl (hA245.ev rfl)) rfl rfl (by decide) fun a246 hA247 => ?_; clear hA245 a244
 refine st hA247 (op_assign rfl (hA247.ev rfl)) rfl rfl (by decide) fun a248 hA249 => ?_; clear hA247 a246
 refine wl_nil ?_
 refine then_n ?_
 refine c_seq ?_
 have hA250 := hA249.as [(23, (Value.int .i64 0)), (22, u239), (21, (Value.int .i64 0)), (20, u211), (19, (Value.int .i64 0)), (18, (Value.bool bb)), (17, (Value.int .i64 0)), (16, (Value.bool ba))] rfl; clear hA249
 refine c_region ?_
 refine st hA250 (op_move rfl (hA250.ev rfl)) rfl rfl (by decide) fun a251 hA252 => ?_; clear hA250 a248
 refine st hA252 (op_eql rfl (hA252.ev rfl) (evc _ _)) rfl rfl (by decide) fun a253 hA254 => ?_; clear hA252 a251
 refine st hA254 (op_move rfl (hA254.ev rfl)) rfl rfl (by decide) fun a255 hA256 => ?_; clear hA254 a253
 refine stg hA256 (op_move rfl (hA256.ev rfl)) rfl rfl rfl rfl (by decide) fun a257 hA258 => ?_; clear hA256 a255
 refine stg hA258 (op_eql rfl (hA258.ev rfl) (evc _ _)) rfl rfl rfl rfl (by decide) fun a259 hA260 => ?_; clear hA258 a257
 refine st hA260 (op_pick_t rfl (hA260.ev rfl) (hA260.ev rfl)) rfl rfl (by decide) fun a261 hA262 => ?_; clear hA260 a259
 refine st hA262 (op_move rfl (hA262.ev rfl)) rfl rfl (by decide) fun a263 hA264 => ?_; clear hA262 a261
 refine stg hA264 (op_move rfl (hA264.ev rfl)) rfl rfl rfl rfl (by decide) fun a265 hA266 => ?_; clear hA264 a263
 refine stg hA266 (op_eql rfl (hA266.ev rfl) (evc _ _)) rfl rfl rfl rfl (by decide) fun a267 hA268 => ?_; clear hA266 a265
 refine st hA268 (op_pick_t rfl (hA268.ev rfl) (hA268.ev rfl)) rfl rfl (by decide) fun a269 hA270 => ?_; clear hA268 a267
 refine st hA270 (op_move rfl (hA270.ev rfl)) rfl rfl (by decide) fun a271 hA272 => ?_; clear hA270 a269
 refine stg hA272 (op_move rfl (hA272.ev rfl)) rfl rfl rfl rfl (by decide) fun a273 hA274 => ?_; clear hA272 a271
 refine stg hA274 (op_eql rfl (hA274.ev rfl) (evc _ _)) rfl rfl rfl rfl (by decide) fun a275 hA276 => ?_; clear hA274 a273
 refine st hA276 (op_pick_t rfl (hA276.ev rfl) (hA276.ev rfl)) rfl rfl (by decide) fun a277 hA278 => ?_; clear hA276 a275
 refine st hA278 (op_move rfl (hA278.ev rfl)) rfl rfl (by decide) fun a279 hA280 => ?_; clear hA278 a277
 refine stg hA280 (op_move rfl (hA280.ev rfl)) rfl rfl rfl rfl (by decide) fun a281 hA282 => ?_; clear hA280 a279
 refine stg hA282 (op_not rfl (hA282.ev rfl)) rfl rfl rfl rfl (by decide) fun a283 hA284 => ?_; clear hA282 a281
 refine stg hA284 (op_move rfl (hA284.ev rfl)) rfl rfl rfl rfl (by decide) fun a285 hA286 => ?_; clear hA284 a283
 rcases Bool.eq_false_or_eq_true (ba) with hb287 | hb287
 ·skip
  rw [hb287] at hA286
  refine stg hA286 (op_move rfl (hA286.ev rfl)) rfl rfl rfl rfl (by decide) fun a288 hA289 => ?_; clear hA286 a285
  have hd290 : bb = true := (hab hb287)
  rw [hd290] at hA289
  refine stg hA289 (op_pick_f rfl (hA289.ev rfl) (hA289.ev rfl)) rfl rfl rfl rfl (by decide) fun a291 hA292 => ?_; clear hA289 a288
  refine st hA292 (op_pick_t rfl (hA292.ev rfl) (hA292.ev rfl)) rfl rfl (by decide) fun a293 hA294 => ?_; clear hA292 a291
  refine st hA294 (op_move rfl (hA294.ev rfl)) rfl rfl (by decide) fun a295 hA296 => ?_; clear hA294 a293
  refine stg hA296 (op_move rfl (hA296.ev rfl)) rfl rfl rfl rfl (by decide) fun a297 hA298 => ?_; clear hA296 a295
  refine stg hA298 (op_lenS rfl un_23 (hA298.ev rfl) (show SlAt _ _ _ _ _ from (hS238.ok 0 _ rfl))) rfl rfl rfl rfl (by decide) fun a299 hA300 => ?_; clear hA298 a297
  refine stg hA300 (op_move rfl (hA300.ev rfl)) rfl rfl rfl rfl (by decide) fun a301 hA302 => ?_; clear hA300 a299
  refine stg hA302 (op_lenS rfl un_23 (hA302.ev rfl) (show SlAt _ _ _ _ _ from (hS238.ok 2 _ rfl))) rfl rfl rfl rfl (by decide) fun a303 hA304 => ?_; clear hA302 a301
  refine stg hA304 (op_leq rfl (hA304.ev rfl) (hA304.ev rfl)) rfl rfl rfl rfl (by decide) fun a305 hA306 => ?_; clear hA304 a303
  have hd307 : (Lb.length : Int) ≤ (La.length : Int) := (by omega)
  rw [decide_eq_true hd307] at hA306
  refine st hA306 (op_pick_t rfl (hA306.ev rfl) (hA306.ev rfl)) rfl rfl (by decide) fun a308 hA309 => ?_; clear hA306 a305
  refine st hA309 (op_move rfl (hA309.ev rfl)) rfl rfl (by decide) fun a310 hA311 => ?_; clear hA309 a308
  refine stwg hA311 (op_call rfl en_18 ev0 (wakes_ok _)) rfl rfl rfl rfl (by decide) ?_
  rintro a312 _ w314 ⟨rfl, hE315⟩ hA313; have hS316 := hS238.step hE315; clear hE315 hA311 hS238 a310
  refine st hA313 (op_pick_t rfl (hA313.ev rfl) (hA313.ev rfl)) rfl rfl (by decide) fun a317 hA318 => ?_; clear hA313 a312
  refine st hA318 (op_assign rfl (hA318.ev rfl)) rfl rfl (by decide) fun a319 hA320 => ?_; clear hA318 a317
  refine wl_nil ?_
  refine then_n ?_
  refine c_ret ?_
  refine fin_run hA320 (.inl rfl) (run_results1 hA320 rfl (.tmp rfl)) ?_
  exact ⟨rfl, hS316.ext⟩
 ·skip
  rw [hb287] at hA286
  refine skp hA286 rfl rfl rfl rfl rfl (by decide) fun a321 hA322 => ?_; clear hA286 a285
  refine stg hA322 (op_pick_t rfl (hA322.ev rfl) (evc _ _)) rfl rfl rfl rfl (by decide) fun a323 hA324 => ?_; clear hA322 a321
  refine st hA324 (op_pick_t rfl (hA324.ev rfl) (hA324.ev rfl)) rfl rfl (by decide) fun a325 hA326 => ?_; clear hA324 a323
  refine st hA326 (op_move rfl (hA326.ev rfl)) rfl rfl (by decide) fun a327 hA328 => ?_; clear hA326 a325
  refine stg hA328 (op_move rfl (hA328.ev rfl)) rfl rfl rfl rfl (by decide) fun a329 hA330 => ?_; clear hA328 a327
  refine stg hA330 (op_lenS rfl un_23 (hA330.ev rfl) (show SlAt _ _ _ _ _ from (hS238.ok 0 _ rfl))) rfl rfl rfl rfl (by decide) fun a331 hA332 => ?_; clear hA330 a329
  refine stg hA332 (op_move rfl (hA332.ev rfl)) rfl rfl rfl rfl (by decide) fun a333 hA334 => ?_; clear hA332 a331
  refine stg hA334 (op_lenS rfl un_23 (hA334.ev rfl) (show SlAt _ _ _ _ _ from (hS238.ok 2 _ rfl))) rfl rfl rfl rfl (by decide) fun a335 hA336 => ?_; clear hA334 a333
  refine stg hA336 (op_leq rfl (hA336.ev rfl) (hA336.ev rfl)) rfl rfl rfl rfl (by decide) fun a337 hA338 => ?_; clear hA336 a335
  have hd339 : (Lb.length : Int) ≤ (La.length : Int) := (by omega)
  rw [decide_eq_true hd339] at hA338
  refine st hA338 (op_pick_t rfl (hA338.ev rfl) (hA338.ev rfl)) rfl rfl (by decide) fun a340 hA341 => ?_; clear hA338 a337
  refine st hA341 (op_move rfl (hA341.ev rfl)) rfl rfl (by decide) fun a342 hA343 => ?_; clear hA341 a340
  refine stwg hA343 (op_call rfl en_18 ev0 (wakes_ok _)) rfl rfl rfl rfl (by decide) ?_
  rintro a344 _ w346 ⟨rfl, hE347⟩ hA345; have hS348 := hS238.step hE347; clear hE347 hA343 hS238 a342
  refine st hA345 (op_pick_t rfl (hA345.ev rfl) (hA345.ev rfl)) rfl rfl (by decide) fun a349 hA350 => ?_; clear hA345 a344
  refine st hA350 (op_assign rfl (hA350.ev rfl)) rfl rfl (by decide) fun a351 hA352 => ?_; clear hA350 a349
  refine wl_nil ?_
  refine then_n ?_
  refine c_ret ?_
  refine fin_run hA352 (.inl rfl) (run_results1 hA352 rfl (.tmp rfl)) ?_
  exact ⟨rfl, hS348.ext⟩

set_option maxHeartbeats 4000000 in
theorem RoundKinder_c1 (rl rs rb : Value) (rlv : List Value) (d : RD) (w : World) (hR : RoundAt w rl rs rb rlv d) (x : Nat) (hxb : x < 256) (z : Nat) (hzb : z < 256) (y : Nat) (hyb : y < 256) (q : Nat) (hqb : q < 256) (hf : readyB d = true) (hz : (z : Int).tmod 4 = 1) (hVM : Valid (kindLots d ((((y : Int)).tmod (d.lots.length : Int)).toNat) (((q : Int)).tmod 20))) (ba bb : Bool) (he : explainsF d (chosenF d.tols.length x) = (ba, 0)) (heM : explainsF (kindLots d ((((y : Int)).tmod (d.lots.length : Int)).toNat) (((q : Int)).tmod 20)) (chosenF d.tols.length x) = (bb, 0)) (hab : ba = true → bb = true) (La Lb : List Int) (hl : leastR d = (La, 0)) (hlM : leastR (kindLots d ((((y : Int)).tmod (d.lots.length : Int)).toNat) (((q : Int)).tmod 20)) = (Lb, 0)) (hle : Lb.length ≤ La.length) :
  Calls Try.prog 9 #[(Value.agg #[rl, rs, (Value.int .i64 d.spread), rb]), (Value.int .u8 (x : Int)), (Value.int .u8 (z : Int)), (Value.int .u8 (y : Int)), (Value.int .u8 (q : Int))] w (Ret fun v w' => v = .bool true ∧ Ext NoB w w') := by
 refine calls_enter Try.func9 rfl fun a0 hA0 => ?_
 replace hA0 : Fr 201 [] [(0, (Value.agg #[rl, rs, (Value.int .i64 d.spread), rb])), (1, (Value.int .u8 (x : Int))), (2, (Value.int .u8 (z : Int))), (3, (Value.int .u8 (y : Int))), (4, (Value.int .u8 (q : Int)))] a0 := hA0
 have hth := thin_of (ready_of hf).1; have hc := (ready_of hf).2; have hV := valid_of hc; have hnb := hV.nb; have hns := hV.ns; have hnl := hV.nl; have hsp := hV.spread; have hlv0 := hR.lvl; have hrl8 := hR.rdl; have hN := tmod_nn (a := (q : Int)) (by omega) (show (0 : Int) < 20 by decide); have hN7 := tmod_nn hN.1 (show (0 : Int) < 7 by decide); have hIL := tmod_nn (a := (y : Int)) (by omega) (show (0 : Int) < (d.lots.length : Int) by omega); have hIl := hV.lots (((y : Int)).tmod (d.lots.length : Int)).toNat (by omega)
 have hS0 : Sep NoB w w [(rndR false rl rs rb rlv d)] := sep_ro ⟨rfl, hR, trivial⟩
 refine c_seq ?_
 refine c_region ?_
 refine stw hA0 (op_box hS0 rfl (hA0.ev rfl) (cs := [rl, rs, (Value.int .i64 d.spread), rb]) rfl) rfl rfl (by decide) ?_
 rintro a1 _ w3 ⟨b4, rfl, hS5⟩ hA2; clear hA0 hS0 a0
 refine st hA2 (op_assign rfl (evc _ _)) rfl rfl (by decide) fun a6 hA7 => ?_; clear hA2 a1
 refine wl_nil ?_
 refine then_n ?_
 refine c_seq ?_
 refine c_seq ?_
 refine c_region ?_
 refine st hA7 (op_loadA rfl ty_26 (hA7.ev rfl) (hS5.bk 0 rfl) (l := [rl, rs, (Value.int .i64 d.spread), rb]) rfl rfl) rfl rfl (by decide) fun a8 hA9 => ?_; clear hA7 a6
 refine stw hA9 (op_call rfl en_35 (ev1 (hA9.ev rfl)) (ready_ok rl rs rb rlv d _ (rnd_at (hS5.ok 1 _ rfl)))) rfl rfl (by decide) ?_
 rintro a10 _ w12 ⟨rfl, hE13⟩ hA11; have hS14 := hS5.step hE13; clear hE13 hA9 hS5 a8
 rw [hf] at hA11
 refine st hA11 (op_not rfl (hA11.ev rfl)) rfl rfl (by decide) fun a15 hA16 => ?_; clear hA11 a10
 refine wl_nil ?_
 refine then_n ?_
 refine c_false hA16 rfl ?_
 refine c_skip ?_
 refine then_n ?_
 refine c_seq ?_
 refine c_region ?_
 refine st hA16 (op_loadA rfl ty_26 (hA16.ev rfl) (hS14.bk 0 rfl) (l := [rl, rs, (Value.int .i64 d.spread), rb]) rfl rfl) rfl rfl (by decide) fun a17 hA18 => ?_; clear hA16 a15
 refine stw hA18 (op_alloc hS14 rfl ze_26 (cs := [(Value.slice none 0 0), (Value.slice none 0 0), (Value.int .i64 0), (Value.slice none 0 0)]) rfl) rfl rfl (by decide) ?_
 rintro a19 _ w21 ⟨b22, rfl, hS23⟩ hA20; clear hA18 hS14 a17
 refine sts hA20 (op_store hS23 rfl ty_26 (hA20.ev rfl) (hA20.ev rfl) (i := 0) rfl (vs := [rl, rs, (Value.int .i64 d.spread), rb]) rfl rfl (all_c (SlAt.one (rnd_at (hS23.ok 2 _ rfl)).lots) (all_c (SlAt.one (rnd_at (hS23.ok 2 _ rfl)).samples) (all_c rfl (all_c (SlAt.one (rnd_at (hS23.ok 2 _ rfl)).labs) all_n)))) (Nat.le_of_ble_eq_true rfl)) rfl rfl ?_
 intro _ w24 hS25 hA26; clear hA20
 have hS27 : Sep NoB w w24 [(blk b22 26 [rl, rs, (Value.int .i64 d.spread), rb]), (blk b4 26 [rl, rs, (Value.int .i64 d.spread), rb]), (rndR false rl rs rb rlv d)] := hS25; clear hS25 hS23
 refine wl_nil ?_
 refine then_n ?_
 refine c_seq ?_
 have hA28 := hA26.as [(11, (bptr b22 0)), (5, (bptr b4 0)), (1, (Value.int .u8 (x : Int))), (2, (Value.int .u8 (z : Int))), (3, (Value.int .u8 (y : Int))), (4, (Value.int .u8 (q : Int)))] rfl; clear hA26
 refine c_region ?_
 refine stw hA28 (op_buildSlice hS27 rfl pv0 un_22 ty_44 ze_44 (by decide) (cs := []) bs_44_0_) rfl rfl (by decide) ?_
 rintro a29 _ w31 ⟨b32, rfl, hS33⟩ hA30; clear hA28 hS27 a19
 refine st hA30 (op_field rfl fd_26_0 (hA30.ev rfl)) rfl rfl (by decide) fun a34 hA35 => ?_; clear hA30 a29
 refine st hA35 (op_load1 rfl ty_22 (hA35.ev rfl) (hS33.bk 2 rfl) rfl) rfl rfl (by decide) fun a36 hA37 => ?_; clear hA35 a34
 have hS38 := hS33.blk_row (i := 0) (sz := 2) (n := 0) rfl rfl (by decide); clear hS33
 refine stw hA37 (op_append hS38 rfl un_22 el_44 (hA37.ev rfl) (hA37.ev rfl) (i := 0) rfl (rnd_at (hS38.ok 3 _ rfl)).lots (pairs_one _) (by simp only [maxLen]; omega) (by omega)) rfl rfl (by decide) ?_
 intro a39 v42 w41 hS43 hA40
 have hS44 := hS43.row_say (i := 0) rfl (n' := d.lots.length) (xs' := (pairs d.lots)) (by simp) (by simp); clear hS43 hA37 hS38 a36
 refine st hA40 (op_field rfl fd_26_0 (hA40.ev rfl)) rfl rfl (by decide) fun a45 hA46 => ?_; clear hA40 a39
 refine sts hA46 (op_store hS44 rfl ty_22 (hA46.ev rfl) (hA46.ev rfl) (i := 1) rfl (vs := [v42]) (isSl_cells (SlAt.isSl (SlAt.of_row (hS44.ok_row 0 rfl)))) rfl (all_c (SlAt.one (SlAt.of_row (hS44.ok_row 0 rfl))) all_n) (Nat.le_of_ble_eq_true rfl)) rfl rfl ?_
 intro _ w47 hS48 hA49; clear hA46
 have hS50 : Sep NoB w w47 [(row v42 44 2 d.lots.length (pairs d.lots)), (blk b22 26 [v42, rs, (Value.int .i64 d.spread), rb]), (blk b4 26 [rl, rs, (Value.int .i64 d.spread), rb]), (rndR false rl rs rb rlv d)] := hS48; clear hS48 hS44
 refine wl_nil ?_
 refine then_n ?_
 refine c_seq ?_
 refine c_region ?_
 refine stw hA49 (op_buildSlice hS50 rfl pv0 un_24 ty_62 ze_62 (by decide) (cs := []) bs_62_0_) rfl rfl (by decide) ?_
 rintro a51 _ w53 ⟨b54, rfl, hS55⟩ hA52; clear hA49 hS50 a45
 refine st hA52 (op_field rfl fd_26_3 (hA52.ev rfl)) rfl rfl (by decide) fun a56 hA57 => ?_; clear hA52 a51
 refine st hA57 (op_load1 rfl ty_24 (hA57.ev rfl) (hS55.bk 3 rfl) rfl) rfl rfl (by decide) fun a58 hA59 => ?_; clear hA57 a56
 have hS60 := hS55.blk_row (i := 0) (sz := 2) (n := 0) rfl rfl (by decide); clear hS55
 refine stw hA59 (op_append hS60 rfl un_24 el_62 (hA59.ev rfl) (hA59.ev rfl) (i := 0) rfl (rnd_at (hS60.ok 4 _ rfl)).labs (labs_one (rnd_at (hS60.ok 4 _ rfl))) (by simp only [maxLen]; omega) (by omega)) rfl rfl (by decide) ?_
 intro a61 v64 w63 hS65 hA62
 have hS66 := hS65.row_say (i := 0) rfl (n' := d.tols.length) (xs' := (vpairs (d.tols.zip rlv))) (by simp) (by simp); clear hS65 hA59 hS60 a58
 refine st hA62 (op_field rfl fd_26_3 (hA62.ev rfl)) rfl rfl (by decide) fun a67 hA68 => ?_; clear hA62 a61
 refine sts hA68 (op_store hS66 rfl ty_24 (hA68.ev rfl) (hA68.ev rfl) (i := 2) rfl (vs := [v64]) (isSl_cells (SlAt.isSl (SlAt.of_row (hS66.ok_row 0 rfl)))) rfl (all_c (SlAt.one (SlAt.of_row (hS66.ok_row 0 rfl))) all_n) (Nat.le_of_ble_eq_true rfl)) rfl rfl ?_
 intro _ w69 hS70 hA71; clear hA68
 have hS72 : Sep NoB w w69 [(row v64 62 2 d.tols.length (vpairs (d.tols.zip rlv))), (row v42 44 2 d.lots.length (pairs d.lots)), (blk b22 26 [v42, rs, (Value.int .i64 d.spread), v64]), (blk b4 26 [rl, rs, (Value.int .i64 d.spread), rb]), (rndR false rl rs rb rlv d)] := hS70; clear hS70 hS66
 refine wl_nil ?_
 refine then_n ?_
 refine c_seq ?_
 have hA73 := hA71.as [(11, (bptr b22 0)), (5, (bptr b4 0)), (1, (Value.int .u8 (x : Int))), (2, (Value.int .u8 (z : Int))), (3, (Value.int .u8 (y : Int))), (4, (Value.int .u8 (q : Int)))] rfl; clear hA71
 refine c_region ?_
 refine st hA73 (op_move rfl (hA73.ev rfl)) rfl rfl (by decide) fun a74 hA75 => ?_; clear hA73 a67
 refine st hA75 (op_conv un_5 un_3 rfl (hA75.ev rfl) (v := (q : Int)) (wrap_i64 (by omega) (by omega))) rfl rfl (by decide) fun a76 hA77 => ?_; clear hA75 a74
 refine st hA77 (op_rem rfl (hA77.ev rfl) (evc _ _) (by omega)) rfl rfl (by decide) fun a78 hA79 => ?_; clear hA77 a76
 refine st hA79 (op_assign rfl (hA79.ev rfl)) rfl rfl (by decide) fun a80 hA81 => ?_; clear hA79 a78
 refine wl_nil ?_
 refine then_n ?_
 refine c_seq ?_
 refine c_block ?_
 refine c_seq ?_
 refine c_region ?_
 refine st hA81 (op_move rfl (hA81.ev rfl)) rfl rfl (by decide) fun a82 hA83 => ?_; clear hA81 a80
 refine st hA83 (op_rem rfl (hA83.ev rfl) (evc _ _) (by omega)) rfl rfl (by decide) fun a84 hA85 => ?_; clear hA83 a82
 refine st hA85 (op_eql rfl (hA85.ev rfl) (evc _ _)) rfl rfl (by decide) fun a86 hA87 => ?_; clear hA85 a84
 have hd88 : ¬ ((((z : Int)).tmod 4) = 0) := (by omega)
 rw [decide_eq_false hd88] at hA87
 refine st hA87 (op_assign rfl (hA87.ev rfl)) rfl rfl (by decide) fun a89 hA90 => ?_; clear hA87 a86
 refine wl_nil ?_
 refine then_n ?_
 refine c_false hA90 rfl ?_
 refine c_seq ?_
 have hA91 := hA90.as [(12, (Value.int .i64 (((q : Int)).tmod 20))), (11, (bptr b22 0)), (5, (bptr b4 0)), (1, (Value.int .u8 (x : Int))), (2, (Value.int .u8 (z : Int))), (3, (Value.int .u8 (y : Int)))] rfl; clear hA90
 refine c_region ?_
 refine st hA91 (op_move rfl (hA91.ev rfl)) rfl rfl (by decide) fun a92 hA93 => ?_; clear hA91 a89
 refine st hA93 (op_rem rfl (hA93.ev rfl) (evc _ _) (by omega)) rfl rfl (by decide) fun a94 hA95 => ?_; clear hA93 a92
 refine st hA95 (op_eql rfl (hA95.ev rfl) (evc _ _)) rfl rfl (by decide) fun a96 hA97 => ?_; clear hA95 a94
 have hd98 : (((z : Int)).tmod 4) = 1 := (by omega)
 rw [decide_eq_true hd98] at hA97
 refine st hA97 (op_assign rfl (hA97.ev rfl)) rfl rfl (by decide) fun a99 hA100 => ?_; clear hA97 a96
 refine wl_nil ?_
 refine then_n ?_
 refine c_true hA100 rfl ?_
 refine c_seq ?_
 have hA101 := hA100.as [(12, (Value.int .i64 (((q : Int)).tmod 20))), (11, (bptr b22 0)), (5, (bptr b4 0)), (1, (Value.int .u8 (x : Int))), (3, (Value.int .u8 (y : Int)))] rfl; clear hA100
 refine c_drawV mixed hA101 hS72 8 [[], [0], [], [2], [], [4], [5], [3, 6]] [(fun (vs102 : Nat → Value) (v_ : Value) (rs_ : List Res) => v_ = (bptr b22 0) ∧ rs_ = []), (fun (vs102 : Nat → Value) (v_ : Value) (rs_ : List Res) => v_ = v42 ∧ rs_ = []), (fun (vs102 : Nat → Value) (v_ : Value) (rs_ : List Res) => v_ = (Value.int .u8 (y : Int)) ∧ rs_ = []), (fun (vs102 : Nat → Value) (v_ : Value) (rs_ : List Res) => v_ = (Value.int .i64 (y : Int)) ∧ rs_ = []), (fun (vs102 : Nat → Value) (v_ : Value) (rs_ : List Res) => v_ = (bptr b22 0) ∧ rs_ = []), (fun (vs102 : Nat → Value) (v_ : Value) (rs_ : List Res) => v_ = v42 ∧ rs_ = []), (fun (vs102 : Nat → Value) (v_ : Value) (rs_ : List Res) => v_ = (Value.int .i64 (d.lots.length : Int)) ∧ rs_ = []), (fun (vs102 : Nat → Value) (v_ : Value) (rs_ : List Res) => v_ = (Value.int .i64 (((y : Int)).tmod (d.lots.length : Int))) ∧ rs_ = [])] (by decide +kernel) (by decide +kernel) rfl rfl ⟨(fun _ _ _ _ _ h_ => h_), (fun _ _ _ _ _ h_ => h_), (fun _ _ _ _ _ h_ => h_), (fun _ _ _ _ _ h_ => h_), (fun _ _ _ _ _ h_ => h_), (fun _ _ _ _ _ h_ => h_), (fun _ _ _ _ _ h_ => h_), (fun _ _ _ _ _ h_ => h_), trivial⟩ ?_ ?_
 ·skip
  refine ⟨fun a w vs102 hA hS hd => ?_, ?_⟩
  ·skip
   exact opG_of rfl (vv (op_field rfl fd_26_0 (hA.ev rfl)) (And.intro rfl rfl))
  refine ⟨fun a w vs102 hA hS hd => ?_, ?_⟩
  ·skip
   obtain ⟨e0, rs0, hy0, hp0⟩ := hd 0 (by decide)
   obtain ⟨hv0, hr0⟩ := hy0; subst hr0
   rw [hv0] at e0
   exact opG_of rfl (vv (op_load1 rfl ty_22 (tmp_ev (slot_ev e0 rfl)) (hS.bk 2 rfl) rfl) (And.intro rfl rfl))
  refine ⟨fun a w vs102 hA hS hd => ?_, ?_⟩
  ·skip
   exact opG_of rfl (vv (op_move rfl (hA.ev rfl)) (And.intro rfl rfl))
  refine ⟨fun a w vs102 hA hS hd => ?_, ?_⟩
  ·skip
   obtain ⟨e2, rs2, hy2, hp2⟩ := hd 2 (by decide)
   obtain ⟨hv2, hr2⟩ := hy2; subst hr2
   rw [hv2] at e2
   exact opG_of rfl (vv (op_conv un_5 un_3 rfl (tmp_ev (slot_ev e2 rfl)) (v := (y : Int)) (wrap_i64 (by omega) (by omega))) (And.intro rfl rfl))
  refine ⟨fun a w vs102 hA hS hd => ?_, ?_⟩
  ·skip
   exact opG_of rfl (vv (op_field rfl fd_26_0 (hA.ev rfl)) (And.intro rfl rfl))
  refine ⟨fun a w vs102 hA hS hd => ?_, ?_⟩
  ·skip
   obtain ⟨e4, rs4, hy4, hp4⟩ := hd 4 (by decide)
   obtain ⟨hv4, hr4⟩ := hy4; subst hr4
   rw [hv4] at e4
   exact opG_of rfl (vv (op_load1 rfl ty_22 (tmp_ev (slot_ev e4 rfl)) (hS.bk 2 rfl) rfl) (And.intro rfl rfl))
  refine ⟨fun a w vs102 hA hS hd => ?_, ?_⟩
  ·skip
   obtain ⟨e5, rs5, hy5, hp5⟩ := hd 5 (by decide)
   obtain ⟨hv5, hr5⟩ := hy5; subst hr5
   rw [hv5] at e5
   exact opG_of rfl (vv (op_lenS rfl un_22 (tmp_ev (slot_ev e5 rfl)) (SlAt.of_row (hS.ok_row 1 rfl))) (And.intro rfl rfl))
  refine ⟨fun a w vs102 hA hS hd => ?_, ?_⟩
  ·skip
   obtain ⟨e3, rs3, hy3, hp3⟩ := hd 3 (by decide)
   obtain ⟨hv3, hr3⟩ := hy3; subst hr3
   rw [hv3] at e3
   obtain ⟨e6, rs6, hy6, hp6⟩ := hd 6 (by decide)
   obtain ⟨hv6, hr6⟩ := hy6; subst hr6
   rw [hv6] at e6
   exact opG_of rfl (vv (op_rem rfl (tmp_ev (slot_ev e3 rfl)) (tmp_ev (slot_ev e6 rfl)) (by omega)) (And.intro rfl rfl))
  trivial
 intro a103 w104 vs102 rsf108 hA105 hH107 hS106; clear hA101 hS72
 obtain ⟨hs_0, hy_0⟩ := hH107 0 (by decide)
 obtain ⟨hv_0, hr_0⟩ := hy_0
 obtain ⟨hs_1, hy_1⟩ := hH107 1 (by decide)
 obtain ⟨hv_1, hr_1⟩ := hy_1
 obtain ⟨hs_2, hy_2⟩ := hH107 2 (by decide)
 obtain ⟨hv_2, hr_2⟩ := hy_2
 obtain ⟨hs_3, hy_3⟩ := hH107 3 (by decide)
 obtain ⟨hv_3, hr_3⟩ := hy_3
 obtain ⟨hs_4, hy_4⟩ := hH107 4 (by decide)
 obtain ⟨hv_4, hr_4⟩ := hy_4
 obtain ⟨hs_5, hy_5⟩ := hH107 5 (by decide)
 obtain ⟨hv_5, hr_5⟩ := hy_5
 obtain ⟨hs_6, hy_6⟩ := hH107 6 (by decide)
 obtain ⟨hv_6, hr_6⟩ := hy_6
 obtain ⟨hs_7, hy_7⟩ := hH107 7 (by decide)
 obtain ⟨hv_7, hr_7⟩ := hy_7
 have hS109 : Sep NoB w w104 [(row v64 62 2 d.tols.length (vpairs (d.tols.zip rlv))), (row v42 44 2 d.lots.length (pairs d.lots)), (blk b22 26 [v42, rs, (Value.int .i64 d.spread), v64]), (blk b4 26 [rl, rs, (Value.int .i64 d.spread), rb]), (rndR false rl rs rb rlv d)] := by rw [show catR rsf108 0 8 = ([] : List Res) by (try simp only [catR, hr_0, hr_1, hr_2, hr_3, hr_4, hr_5, hr_6, hr_7]); (try rfl)] at hS106; exact hS106
 rw [hv_1] at hs_1
 have hA110 : Fr 201 [] [(57, v42), (12, (Value.int .i64 (((q : Int)).tmod 20))), (11, (bptr b22 0)), (5, (bptr b4 0)), (1, (Value.int .u8 (x : Int))), (3, (Value.int .u8 (y : Int)))] a103 := hA105.add (slot_ev hs_1 rfl); clear hA105
 rw [hv_7] at hs_7
 have hA111 : Fr 201 [] [(63, (Value.int .i64 (((y : Int)).tmod (d.lots.length : Int)))), (57, v42), (12, (Value.int .i64 (((q : Int)).tmod 20))), (11, (bptr b22 0)), (5, (bptr b4 0)), (1, (Value.int .u8 (x : Int))), (3, (Value.int .u8 (y : Int)))] a103 := hA110.add (slot_ev hs_7 rfl); clear hA110
 clear hH107 hS106 hs_0 hs_1 hs_2 hs_3 hs_4 hs_5 hs_6 hs_7
 clear hr_0
 clear hv_0
 clear hr_1
 clear hv_1
 clear hr_2
 clear hv_2
 clear hr_3
 clear hv_3
 clear hr_4
 clear hv_4
 clear hr_5
 clear hv_5
 clear hr_6
 clear hv_6
 clear hr_7
 clear hv_7
 refine st hA111 (op_indexS rfl un_22 ty_44 (hA111.ev rfl) (i := (((y : Int)).tmod (d.lots.length : Int)).toNat) ((hA111.ev rfl).trans (int_nat (by omega))) (SlAt.of_row (hS109.ok_row 1 rfl)) (by decide) (by omega)) rfl rfl (by decide) fun a112 hA113 => ?_; clear hA111 a103
 refine st hA113 (op_assign rfl (hA113.ev rfl)) rfl rfl (by decide) fun a114 hA115 => ?_; clear hA113 a112
 refine wl_nil ?_
 refine then_n ?_
 have hA116 := hA115.as [(13, (eptr v42 ((((y : Int)).tmod (d.lots.length : Int)).toNat * 2))), (12, (Value.int .i64 (((q : Int)).tmod 20))), (11, (bptr b22 0)), (5, (bptr b4 0)), (1, (Value.int .u8 (x : Int)))] rfl; clear hA115
 refine c_drawS mixed hA116 hS109 19 [1, 13, 14, 15, 16] rfl rfl [[], [], [], [2], [3], [4], [], [5, 6], [7], [], [9], [10], [11], [], [13], [12, 14], [15], [0], [17]] [(fun (vs117 : Nat → Value) (v_ : Value) (rs_ : List Res) => v_ = (eptr v42 ((((y : Int)).tmod (d.lots.length : Int)).toNat * 2)) ∧ rs_ = []), (fun (vs117 : Nat → Value) (v_ : Value) (rs_ : List Res) => v_ = (eptr v42 ((((y : Int)).tmod (d.lots.length : Int)).toNat * 2)) ∧ rs_ = []), (fun (vs117 : Nat → Value) (v_ : Value) (rs_ : List Res) => v_ = (eptr v42 ((((y : Int)).tmod (d.lots.length : Int)).toNat * 2)) ∧ rs_ = []), (fun (vs117 : Nat → Value) (v_ : Value) (rs_ : List Res) => v_ = (eptr v42 ((((y : Int)).tmod (d.lots.length : Int)).toNat * 2)) ∧ rs_ = []), (fun (vs117 : Nat → Value) (v_ : Value) (rs_ : List Res) => v_ = (eptr v42 ((((y : Int)).tmod (d.lots.length : Int)).toNat * 2 + 0)) ∧ rs_ = []), (fun (vs117 : Nat → Value) (v_ : Value) (rs_ : List Res) => v_ = (Value.int .i64 ((d.lots.getD ((((y : Int)).tmod (d.lots.length : Int)).toNat) (0, 0)).1)) ∧ rs_ = []), (fun (vs117 : Nat → Value) (v_ : Value) (rs_ : List Res) => v_ = (Value.int .i64 (((q : Int)).tmod 20)) ∧ rs_ = []), (fun (vs117 : Nat → Value) (v_ : Value) (rs_ : List Res) => v_ = (Value.int .i64 (((d.lots.getD ((((y : Int)).tmod (d.lots.length : Int)).toNat) (0, 0)).1) - (((q : Int)).tmod 20))) ∧ rs_ = []), (fun (vs117 : Nat → Value) (v_ : Value) (rs_ : List Res) => v_ = (Value.int .i64 (max 0 (((d.lots.getD ((((y : Int)).tmod (d.lots.length : Int)).toNat) (0, 0)).1) - (((q : Int)).tmod 20)))) ∧ rs_ = []), (fun (vs117 : Nat → Value) (v_ : Value) (rs_ : List Res) => v_ = (eptr v42 ((((y : Int)).tmod (d.lots.length : Int)).toNat * 2)) ∧ rs_ = []), (fun (vs117 : Nat → Value) (v_ : Value) (rs_ : List Res) => v_ = (eptr v42 ((((y : Int)).tmod (d.lots.length : Int)).toNat * 2)) ∧ rs_ = []), (fun (vs117 : Nat → Value) (v_ : Value) (rs_ : List Res) => v_ = (eptr v42 ((((y : Int)).tmod (d.lots.length : Int)).toNat * 2 + 1)) ∧ rs_ = []), (fun (vs117 : Nat → Value) (v_ : Value) (rs_ : List Res) => v_ = (Value.int .i64 ((d.lots.getD ((((y : Int)).tmod (d.lots.length : Int)).toNat) (0, 0)).2)) ∧ rs_ = []), (fun (vs117 : Nat → Value) (v_ : Value) (rs_ : List Res) => v_ = (Value.int .i64 (((q : Int)).tmod 20)) ∧ rs_ = []), (fun (vs117 : Nat → Value) (v_ : Value) (rs_ : List Res) => v_ = (Value.int .i64 (((((q : Int)).tmod 20)).tmod 7)) ∧ rs_ = []), (fun (vs117 : Nat → Value) (v_ : Value) (rs_ : List Res) => v_ = (Value.int .i64 (((d.lots.getD ((((y : Int)).tmod (d.lots.length : Int)).toNat) (0, 0)).2) + (((((q : Int)).tmod 20)).tmod 7))) ∧ rs_ = []), (fun (vs117 : Nat → Value) (v_ : Value) (rs_ : List Res) => v_ = (Value.int .i64 (min 1000 (((d.lots.getD ((((y : Int)).tmod (d.lots.length : Int)).toNat) (0, 0)).2) + (((((q : Int)).tmod 20)).tmod 7)))) ∧ rs_ = []), (fun (vs117 : Nat → Value) (v_ : Value) (rs_ : List Res) => v_ = (eptr v42 ((((y : Int)).tmod (d.lots.length : Int)).toNat * 2)) ∧ rs_ = []), (fun (vs117 : Nat → Value) (v_ : Value) (rs_ : List Res) => v_ = (eptr v42 ((((y : Int)).tmod (d.lots.length : Int)).toNat * 2 + 0)) ∧ rs_ = [])] [(row v64 62 2 d.tols.length (vpairs (d.tols.zip rlv))), (row v42 44 2 ((d.lots.set ((((y : Int)).tmod (d.lots.length : Int)).toNat) (max 0 (((d.lots.getD ((((y : Int)).tmod (d.lots.length : Int)).toNat) (0, 0)).1) - (((q : Int)).tmod 20)), (d.lots.getD ((((y : Int)).tmod (d.lots.length : Int)).toNat) (0, 0)).2)).length) (pairs (d.lots.set ((((y : Int)).tmod (d.lots.length : Int)).toNat) (max 0 (((d.lots.getD ((((y : Int)).tmod (d.lots.length : Int)).toNat) (0, 0)).1) - (((q : Int)).tmod 20)), (d.lots.getD ((((y : Int)).tmod (d.lots.length : Int)).toNat) (0, 0)).2)))), (blk b22 26 [v42, rs, (Value.int .i64 d.spread), v64]), (blk b4 26 [rl, rs, (Value.int .i64 d.spread), rb]), (rndR false rl rs rb rlv d)] (by decide +kernel) (by decide +kernel) (by decide +kernel) rfl rfl ⟨(fun _ _ _ _ _ h_ => h_), (fun _ _ _ _ _ h_ => h_), (fun _ _ _ _ _ h_ => h_), (fun _ _ _ _ _ h_ => h_), (fun _ _ _ _ _ h_ => h_), (fun _ _ _ _ _ h_ => h_), (fun _ _ _ _ _ h_ => h_), (fun _ _ _ _ _ h_ => h_), (fun _ _ _ _ _ h_ => h_), (fun _ _ _ _ _ h_ => h_), (fun _ _ _ _ _ h_ => h_), (fun _ _ _ _ _ h_ => h_), (fun _ _ _ _ _ h_ => h_), (fun _ _ _ _ _ h_ => h_), (fun _ _ _ _ _ h_ => h_), (fun _ _ _ _ _ h_ => h_), (fun _ _ _ _ _ h_ => h_), (fun _ _ _ _ _ h_ => h_), (fun _ _ _ _ _ h_ => h_), trivial⟩ ?_ ?_ ?_ ?_ ?_
 ·skip
  refine ⟨fun a w vs117 hA hS hd => ?_, ?_⟩
  ·skip
   exact opG_of rfl (vv (op_move rfl (hA.ev rfl)) (And.intro rfl rfl))
  refine ⟨fun a w vs117 hA hS hd => ?_, ?_⟩
  ·skip
   exact opG_of rfl (vv (op_move rfl (hA.ev rfl)) (And.intro rfl rfl))
  refine ⟨fun a w vs117 hA hS hd => ?_, ?_⟩
  ·skip
   exact opG_of rfl (vv (op_move rfl (hA.ev rfl)) (And.intro rfl rfl))
  refine ⟨fun a w vs117 hA hS hd => ?_, ?_⟩
  ·skip
   obtain ⟨e2, rs2, hy2, hp2⟩ := hd 2 (by decide)
   obtain ⟨hv2, hr2⟩ := hy2; subst hr2
   rw [hv2] at e2
   exact opG_of rfl (vv (op_nilCheckE rfl (tmp_ev (slot_ev e2 rfl)) (SlAt.of_row (hS.ok_row 1 rfl)) (by rw [((SlAt.of_row (hS.ok_row 1 rfl))).1]; first | omega | (simp only [List.length_set]; omega))) (And.intro rfl rfl))
  refine ⟨fun a w vs117 hA hS hd => ?_, ?_⟩
  ·skip
   obtain ⟨e3, rs3, hy3, hp3⟩ := hd 3 (by decide)
   obtain ⟨hv3, hr3⟩ := hy3; subst hr3
   rw [hv3] at e3
   exact opG_of rfl (vv (op_fieldS rfl fd_44_0 (tmp_ev (slot_ev e3 rfl)) (SlAt.of_row (hS.ok_row 1 rfl)) (by rw [((SlAt.of_row (hS.ok_row 1 rfl))).1]; first | omega | (simp only [List.length_set]; omega))) (And.intro rfl rfl))
  refine ⟨fun a w vs117 hA hS hd => ?_, ?_⟩
  ·skip
   obtain ⟨e4, rs4, hy4, hp4⟩ := hd 4 (by decide)
   obtain ⟨hv4, hr4⟩ := hy4; subst hr4
   rw [hv4] at e4
   exact opG_of rfl (vv (op_load1E rfl ty_3 (tmp_ev (slot_ev e4 rfl)) (SlAt.of_row (hS.ok_row 1 rfl)) (pairs_at0 (by omega))) (And.intro rfl rfl))
  refine ⟨fun a w vs117 hA hS hd => ?_, ?_⟩
  ·skip
   exact opG_of rfl (vv (op_move rfl (hA.ev rfl)) (And.intro rfl rfl))
  refine ⟨fun a w vs117 hA hS hd => ?_, ?_⟩
  ·skip
   obtain ⟨e5, rs5, hy5, hp5⟩ := hd 5 (by decide)
   obtain ⟨hv5, hr5⟩ := hy5; subst hr5
   rw [hv5] at e5
   obtain ⟨e6, rs6, hy6, hp6⟩ := hd 6 (by decide)
   obtain ⟨hv6, hr6⟩ := hy6; subst hr6
   rw [hv6] at e6
   exact opG_of rfl (vv (op_sub rfl (tmp_ev (slot_ev e5 rfl)) (tmp_ev (slot_ev e6 rfl)) (by omega) (by omega)) (And.intro rfl rfl))
  refine ⟨fun a w vs117 hA hS hd => ?_, ?_⟩
  ·skip
   obtain ⟨e7, rs7, hy7, hp7⟩ := hd 7 (by decide)
   obtain ⟨hv7, hr7⟩ := hy7; subst hr7
   rw [hv7] at e7
   exact opG_of rfl (vv (op_max rfl (evc _ _) (tmp_ev (slot_ev e7 rfl))) (And.intro rfl rfl))
  refine ⟨fun a w vs117 hA hS hd => ?_, ?_⟩
  ·skip
   exact opG_of rfl (vv (op_move rfl (hA.ev rfl)) (And.intro rfl rfl))
  refine ⟨fun a w vs117 hA hS hd => ?_, ?_⟩
  ·skip
   obtain ⟨e9, rs9, hy9, hp9⟩ := hd 9 (by decide)
   obtain ⟨hv9, hr9⟩ := hy9; subst hr9
   rw [hv9] at e9
   exact opG_of rfl (vv (op_nilCheckE rfl (tmp_ev (slot_ev e9 rfl)) (SlAt.of_row (hS.ok_row 1 rfl)) (by rw [((SlAt.of_row (hS.ok_row 1 rfl))).1]; first | omega | (simp only [List.length_set]; omega))) (And.intro rfl rfl))
  refine ⟨fun a w vs117 hA hS hd => ?_, ?_⟩
  ·skip
   obtain ⟨e10, rs10, hy10, hp10⟩ := hd 10 (by decide)
   obtain ⟨hv10, hr10⟩ := hy10; subst hr10
   rw [hv10] at e10
   exact opG_of rfl (vv (op_fieldS rfl fd_44_1 (tmp_ev (slot_ev e10 rfl)) (SlAt.of_row (hS.ok_row 1 rfl)) (by rw [((SlAt.of_row (hS.ok_row 1 rfl))).1]; first | omega | (simp only [List.length_set]; omega))) (And.intro rfl rfl))
  refine ⟨fun a w vs117 hA hS hd => ?_, ?_⟩
  ·skip
   obtain ⟨e11, rs11, hy11, hp11⟩ := hd 11 (by decide)
   obtain ⟨hv11, hr11⟩ := hy11; subst hr11
   rw [hv11] at e11
   exact opG_of rfl (vv (op_load1E rfl ty_3 (tmp_ev (slot_ev e11 rfl)) (SlAt.of_row (hS.ok_row 1 rfl)) (pairs_at1 (by omega))) (And.intro rfl rfl))
  refine ⟨fun a w vs117 hA hS hd => ?_, ?_⟩
  ·skip
   exact opG_of rfl (vv (op_move rfl (hA.ev rfl)) (And.intro rfl rfl))
  refine ⟨fun a w vs117 hA hS hd => ?_, ?_⟩
  ·skip
   obtain ⟨e13, rs13, hy13, hp13⟩ := hd 13 (by decide)
   obtain ⟨hv13, hr13⟩ := hy13; subst hr13
   rw [hv13] at e13
   exact opG_of rfl (vv (op_rem rfl (tmp_ev (slot_ev e13 rfl)) (evc _ _) (by omega)) (And.intro rfl rfl))
  refine ⟨fun a w vs117 hA hS hd => ?_, ?_⟩
  ·skip
   obtain ⟨e12, rs12, hy12, hp12⟩ := hd 12 (by decide)
   obtain ⟨hv12, hr12⟩ := hy12; subst hr12
   rw [hv12] at e12
   obtain ⟨e14, rs14, hy14, hp14⟩ := hd 14 (by decide)
   obtain ⟨hv14, hr14⟩ := hy14; subst hr14
   rw [hv14] at e14
   exact opG_of rfl (vv (op_add rfl (tmp_ev (slot_ev e12 rfl)) (tmp_ev (slot_ev e14 rfl)) (by omega) (by omega)) (And.intro rfl rfl))
  refine ⟨fun a w vs117 hA hS hd => ?_, ?_⟩
  ·skip
   obtain ⟨e15, rs15, hy15, hp15⟩ := hd 15 (by decide)
   obtain ⟨hv15, hr15⟩ := hy15; subst hr15
   rw [hv15] at e15
   exact opG_of rfl (vv (op_min rfl (evc _ _) (tmp_ev (slot_ev e15 rfl))) (And.intro rfl rfl))
  refine ⟨fun a w vs117 hA hS hd => ?_, ?_⟩
  ·skip
   obtain ⟨e0, rs0, hy0, hp0⟩ := hd 0 (by decide)
   obtain ⟨hv0, hr0⟩ := hy0; subst hr0
   rw [hv0] at e0
   exact opG_of rfl (vv (op_nilCheckE rfl (tmp_ev (slot_ev e0 rfl)) (SlAt.of_row (hS.ok_row 1 rfl)) (by rw [((SlAt.of_row (hS.ok_row 1 rfl))).1]; first | omega | (simp only [List.length_set]; omega))) (And.intro rfl rfl))
  refine ⟨fun a w vs117 hA hS hd => ?_, ?_⟩
  ·skip
   obtain ⟨e17, rs17, hy17, hp17⟩ := hd 17 (by decide)
   obtain ⟨hv17, hr17⟩ := hy17; subst hr17
   rw [hv17] at e17
   exact opG_of rfl (vv (op_fieldS rfl fd_44_0 (tmp_ev (slot_ev e17 rfl)) (SlAt.of_row (hS.ok_row 1 rfl)) (by rw [((SlAt.of_row (hS.ok_row 1 rfl))).1]; first | omega | (simp only [List.length_set]; omega))) (And.intro rfl rfl))
  trivial
 ·skip
  refine ⟨fun hF_ => absurd hF_ (by decide), ?_⟩
  refine ⟨fun hF_ a w vs117 hA hS hd => ?_, ?_⟩
  ·skip
   exact opG_of rfl (vv (op_move rfl (hA.ev rfl)) (And.intro rfl rfl))
  refine ⟨fun hF_ => absurd hF_ (by decide), ?_⟩
  refine ⟨fun hF_ => absurd hF_ (by decide), ?_⟩
  refine ⟨fun hF_ => absurd hF_ (by decide), ?_⟩
  refine ⟨fun hF_ => absurd hF_ (by decide), ?_⟩
  refine ⟨fun hF_ => absurd hF_ (by decide), ?_⟩
  refine ⟨fun hF_ => absurd hF_ (by decide), ?_⟩
  refine ⟨fun hF_ => absurd hF_ (by decide), ?_⟩
  refine ⟨fun hF_ => absurd hF_ (by decide), ?_⟩
  refine ⟨fun hF_ => absurd hF_ (by decide), ?_⟩
  refine ⟨fun hF_ => absurd hF_ (by decide), ?_⟩
  refine ⟨fun hF_ => absurd hF_ (by decide), ?_⟩
  refine ⟨fun hF_ a w vs117 hA hS hd => ?_, ?_⟩
  ·skip
   exact opG_of rfl (vv (op_move rfl (hA.ev rfl)) (And.intro rfl rfl))
  refine ⟨fun hF_ a w vs117 hA hS hd => ?_, ?_⟩
  ·skip
   obtain ⟨e13, rs13, hy13, hp13⟩ := hd 13 (by decide)
   obtain ⟨hv13, hr13⟩ := hy13; subst hr13
   rw [hv13] at e13
   exact opG_of rfl (vv (op_rem rfl (tmp_ev (slot_ev e13 rfl)) (evc _ _) (by omega)) (And.intro rfl rfl))
  refine ⟨fun hF_ a w vs117 hA hS hd => ?_, ?_⟩
  ·skip
   obtain ⟨e12, rs12, hy12, hp12⟩ := hd 12 (by decide)
   obtain ⟨hv12, hr12⟩ := hy12; subst hr12
   rw [hv12] at e12
   obtain ⟨e14, rs14, hy14, hp14⟩ := hd 14 (by decide)
   obtain ⟨hv14, hr14⟩ := hy14; subst hr14
   rw [hv14] at e14
   exact opG_of rfl (vv (op_add rfl (tmp_ev (slot_ev e12 rfl)) (tmp_ev (slot_ev e14 rfl)) (by omega) (by omega)) (And.intro rfl rfl))
  refine ⟨fun hF_ a w vs117 hA hS hd => ?_, ?_⟩
  ·skip
   obtain ⟨e15, rs15, hy15, hp15⟩ := hd 15 (by decide)
   obtain ⟨hv15, hr15⟩ := hy15; subst hr15
   rw [hv15] at e15
   exact opG_of rfl (vv (op_min rfl (evc _ _) (tmp_ev (slot_ev e15 rfl))) (And.intro rfl rfl))
  refine ⟨fun hF_ => absurd hF_ (by decide), ?_⟩
  refine ⟨fun hF_ => absurd hF_ (by decide), ?_⟩
  trivial
 ·intro j hj; have hj2 : j = 1 ∨ j = 13 ∨ j = 14 ∨ j = 15 ∨ j = 16 := (by simpa using hj); rcases hj2 with rfl | rfl | rfl | rfl | rfl <;> exact fun _ _ _ h => And.right h
 ·skip
  intro a118 w119 vs117 rsf124 hA120 hH122 hZ123 hS121
  obtain ⟨hs_0, hy_0⟩ := hH122 0 (by decide) (by decide)
  obtain ⟨hv_0, hr_0⟩ := hy_0
  have hr_1 := hZ123 1 (by decide) (by decide)
  obtain ⟨hs_2, hy_2⟩ := hH122 2 (by decide) (by decide)
  obtain ⟨hv_2, hr_2⟩ := hy_2
  obtain ⟨hs_3, hy_3⟩ := hH122 3 (by decide) (by decide)
  obtain ⟨hv_3, hr_3⟩ := hy_3
  obtain ⟨hs_4, hy_4⟩ := hH122 4 (by decide) (by decide)
  obtain ⟨hv_4, hr_4⟩ := hy_4
  obtain ⟨hs_5, hy_5⟩ := hH122 5 (by decide) (by decide)
  obtain ⟨hv_5, hr_5⟩ := hy_5
  obtain ⟨hs_6, hy_6⟩ := hH122 6 (by decide) (by decide)
  obtain ⟨hv_6, hr_6⟩ := hy_6
  obtain ⟨hs_7, hy_7⟩ := hH122 7 (by decide) (by decide)
  obtain ⟨hv_7, hr_7⟩ := hy_7
  obtain ⟨hs_8, hy_8⟩ := hH122 8 (by decide) (by decide)
  obtain ⟨hv_8, hr_8⟩ := hy_8
  obtain ⟨hs_9, hy_9⟩ := hH122 9 (by decide) (by decide)
  obtain ⟨hv_9, hr_9⟩ := hy_9
  obtain ⟨hs_10, hy_10⟩ := hH122 10 (by decide) (by decide)
  obtain ⟨hv_10, hr_10⟩ := hy_10
  obtain ⟨hs_11, hy_11⟩ := hH122 11 (by decide) (by decide)
  obtain ⟨hv_11, hr_11⟩ := hy_11
  obtain ⟨hs_12, hy_12⟩ := hH122 12 (by decide) (by decide)
  obtain ⟨hv_12, hr_12⟩ := hy_12
  have hr_13 := hZ123 13 (by decide) (by decide)
  have hr_14 := hZ123 14 (by decide) (by decide)
  have hr_15 := hZ123 15 (by decide) (by decide)
  have hr_16 := hZ123 16 (by decide) (by decide)
  obtain ⟨hs_17, hy_17⟩ := hH122 17 (by decide) (by decide)
  obtain ⟨hv_17, hr_17⟩ := hy_17
  obtain ⟨hs_18, hy_18⟩ := hH122 18 (by decide) (by decide)
  obtain ⟨hv_18, hr_18⟩ := hy_18
  have hc126 : catR rsf124 0 19 = ([] : List Res) := by (try simp only [catR, hr_0, hr_1, hr_2, hr_3, hr_4, hr_5, hr_6, hr_7, hr_8, hr_9, hr_10, hr_11, hr_12, hr_13, hr_14, hr_15, hr_16, hr_17, hr_18]); (try rfl)
  have hS125 : Sep NoB w w119 [(row v64 62 2 d.tols.length (vpairs (d.tols.zip rlv))), (row v42 44 2 d.lots.length (pairs d.lots)), (blk b22 26 [v42, rs, (Value.int .i64 d.spread), v64]), (blk b4 26 [rl, rs, (Value.int .i64 d.spread), rb]), (rndR false rl rs rb rlv d)] := by rw [hc126] at hS121; exact hS121
  rw [hv_8] at hs_8
  have hA127 : Fr 201 [] [(73, (Value.int .i64 (max 0 (((d.lots.getD ((((y : Int)).tmod (d.lots.length : Int)).toNat) (0, 0)).1) - (((q : Int)).tmod 20))))), (13, (eptr v42 ((((y : Int)).tmod (d.lots.length : Int)).toNat * 2))), (12, (Value.int .i64 (((q : Int)).tmod 20))), (11, (bptr b22 0)), (5, (bptr b4 0)), (1, (Value.int .u8 (x : Int)))] a118 := hA120.add (slot_ev hs_8 rfl); clear hA120
  rw [hv_18] at hs_18
  have hA128 : Fr 201 [] [(83, (eptr v42 ((((y : Int)).tmod (d.lots.length : Int)).toNat * 2 + 0))), (73, (Value.int .i64 (max 0 (((d.lots.getD ((((y : Int)).tmod (d.lots.length : Int)).toNat) (0, 0)).1) - (((q : Int)).tmod 20))))), (13, (eptr v42 ((((y : Int)).tmod (d.lots.length : Int)).toNat * 2))), (12, (Value.int .i64 (((q : Int)).tmod 20))), (11, (bptr b22 0)), (5, (bptr b4 0)), (1, (Value.int .u8 (x : Int)))] a118 := hA127.add (slot_ev hs_18 rfl); clear hA127
  refine opG_of rfl (opY_mono (op_storeE hS125 rfl ty_3 (hA128.ev rfl) (hA128.ev rfl) (i := 1) rfl (vs := [(Value.int .i64 (max 0 (((d.lots.getD ((((y : Int)).tmod (d.lots.length : Int)).toNat) (0, 0)).1) - (((q : Int)).tmod 20))))]) rfl rfl rfl (by first | (simp only [pairs_length, List.length_set]; omega) | (simp only [vpairs_length, List.length_zip, List.length_set]; omega) | (simp only [ints, List.length_map, List.length_set]; omega)) (by decide)) fun _ w_ h_ => ?_)
  rw [hc126]; exact h_.row_say (i := 1) rfl (n' := (d.lots.set ((((y : Int)).tmod (d.lots.length : Int)).toNat) (max 0 (((d.lots.getD ((((y : Int)).tmod (d.lots.length : Int)).toNat) (0, 0)).1) - (((q : Int)).tmod 20)), (d.lots.getD ((((y : Int)).tmod (d.lots.length : Int)).toNat) (0, 0)).2)).length) (xs' := (pairs (d.lots.set ((((y : Int)).tmod (d.lots.length : Int)).toNat) (max 0 (((d.lots.getD ((((y : Int)).tmod (d.lots.length : Int)).toNat) (0, 0)).1) - (((q : Int)).tmod 20)), (d.lots.getD ((((y : Int)).tmod (d.lots.length : Int)).toNat) (0, 0)).2)))) (by simp) (pairs_set0 (by first | omega | (simp only [List.length_set]; omega)))
 ·skip
  intro a129 w130 vs117 rsf134 hA131 hH133 hS132; clear hA116 hS109
  obtain ⟨hs_0, hy_0⟩ := hH133 0 (by decide)
  obtain ⟨hv_0, hr_0⟩ := hy_0
  obtain ⟨hs_1, hy_1⟩ := hH133 1 (by decide)
  obtain ⟨hv_1, hr_1⟩ := hy_1
  obtain ⟨hs_2, hy_2⟩ := hH133 2 (by decide)
  obtain ⟨hv_2, hr_2⟩ := hy_2
  obtain ⟨hs_3, hy_3⟩ := hH133 3 (by decide)
  obtain ⟨hv_3, hr_3⟩ := hy_3
  obtain ⟨hs_4, hy_4⟩ := hH133 4 (by decide)
  obtain ⟨hv_4, hr_4⟩ := hy_4
  obtain ⟨hs_5, hy_5⟩ := hH133 5 (by decide)
  obtain ⟨hv_5, hr_5⟩ := hy_5
  obtain ⟨hs_6, hy_6⟩ := hH133 6 (by decide)
  obtain ⟨hv_6, hr_6⟩ := hy_6
  obtain ⟨hs_7, hy_7⟩ := hH133 7 (by decide)
  obtain ⟨hv_7, hr_7⟩ := hy_7
  obtain ⟨hs_8, hy_8⟩ := hH133 8 (by decide)
  obtain ⟨hv_8, hr_8⟩ := hy_8
  obtain ⟨hs_9, hy_9⟩ := hH133 9 (by decide)
  obtain ⟨hv_9, hr_9⟩ := hy_9
  obtain ⟨hs_10, hy_10⟩ := hH133 10 (by decide)
  obtain ⟨hv_10, hr_10⟩ := hy_10
  obtain ⟨hs_11, hy_11⟩ := hH133 11 (by decide)
  obtain ⟨hv_11, hr_11⟩ := hy_11
  obtain ⟨hs_12, hy_12⟩ := hH133 12 (by decide)
  obtain ⟨hv_12, hr_12⟩ := hy_12
  obtain ⟨hs_13, hy_13⟩ := hH133 13 (by decide)
  obtain ⟨hv_13, hr_13⟩ := hy_13
  obtain ⟨hs_14, hy_14⟩ := hH133 14 (by decide)
  obtain ⟨hv_14, hr_14⟩ := hy_14
  obtain ⟨hs_15, hy_15⟩ := hH133 15 (by decide)
  obtain ⟨hv_15, hr_15⟩ := hy_15
  obtain ⟨hs_16, hy_16⟩ := hH133 16 (by decide)
  obtain ⟨hv_16, hr_16⟩ := hy_16
  obtain ⟨hs_17, hy_17⟩ := hH133 17 (by decide)
  obtain ⟨hv_17, hr_17⟩ := hy_17
  obtain ⟨hs_18, hy_18⟩ := hH133 18 (by decide)
  obtain ⟨hv_18, hr_18⟩ := hy_18
  have hS135 : Sep NoB w w130 [(row v64 62 2 d.tols.length (vpairs (d.tols.zip rlv))), (row v42 44 2 ((d.lots.set ((((y : Int)).tmod (d.lots.length : Int)).toNat) (max 0 (((d.lots.getD ((((y : Int)).tmod (d.lots.length : Int)).toNat) (0, 0)).1) - (((q : Int)).tmod 20)), (d.lots.getD ((((y : Int)).tmod (d.lots.length : Int)).toNat) (0, 0)).2)).length) (pairs (d.lots.set ((((y : Int)).tmod (d.lots.length : Int)).toNat) (max 0 (((d.lots.getD ((((y : Int)).tmod (d.lots.length : Int)).toNat) (0, 0)).1) - (((q : Int)).tmod 20)), (d.lots.getD ((((y : Int)).tmod (d.lots.length : Int)).toNat) (0, 0)).2)))), (blk b22 26 [v42, rs, (Value.int .i64 d.spread), v64]), (blk b4 26 [rl, rs, (Value.int .i64 d.spread), rb]), (rndR false rl rs rb rlv d)] := by rw [show catR rsf134 0 19 = ([] : List Res) by (try simp only [catR, hr_0, hr_1, hr_2, hr_3, hr_4, hr_5, hr_6, hr_7, hr_8, hr_9, hr_10, hr_11, hr_12, hr_13, hr_14, hr_15, hr_16, hr_17, hr_18]); (try rfl)] at hS132; exact hS132
  rw [hv_1] at hs_1
  have hA136 : Fr 201 [] [(66, (eptr v42 ((((y : Int)).tmod (d.lots.length : Int)).toNat * 2))), (13, (eptr v42 ((((y : Int)).tmod (d.lots.length : Int)).toNat * 2))), (12, (Value.int .i64 (((q : Int)).tmod 20))), (11, (bptr b22 0)), (5, (bptr b4 0)), (1, (Value.int .u8 (x : Int)))] a129 := hA131.add (slot_ev hs_1 rfl); clear hA131
  rw [hv_8] at hs_8
  have hA137 : Fr 201 [] [(73, (Value.int .i64 (max 0 (((d.lots.getD ((((y : Int)).tmod (d.lots.length : Int)).toNat) (0, 0)).1) - (((q : Int)).tmod 20))))), (66, (eptr v42 ((((y : Int)).tmod (d.lots.length : Int)).toNat * 2))), (13, (eptr v42 ((((y : Int)).tmod (d.lots.length : Int)).toNat * 2))), (12, (Value.int .i64 (((q : Int)).tmod 20))), (11, (bptr b22 0)), (5, (bptr b4 0)), (1, (Value.int .u8 (x : Int)))] a129 := hA136.add (slot_ev hs_8 rfl); clear hA136
  rw [hv_16] at hs_16
  have hA138 : Fr 201 [] [(81, (Value.int .i64 (min 1000 (((d.lots.getD ((((y : Int)).tmod (d.lots.length : Int)).toNat) (0, 0)).2) + (((((q : Int)).tmod 20)).tmod 7))))), (73, (Value.int .i64 (max 0 (((d.lots.getD ((((y : Int)).tmod (d.lots.length : Int)).toNat) (0, 0)).1) - (((q : Int)).tmod 20))))), (66, (eptr v42 ((((y : Int)).tmod (d.lots.length : Int)).toNat * 2))), (13, (eptr v42 ((((y : Int)).tmod (d.lots.length : Int)).toNat * 2))), (12, (Value.int .i64 (((q : Int)).tmod 20))), (11, (bptr b22 0)), (5, (bptr b4 0)), (1, (Value.int .u8 (x : Int)))] a129 := hA137.add (slot_ev hs_16 rfl); clear hA137
  rw [hv_18] at hs_18
  have hA139 : Fr 201 [] [(83, (eptr v42 ((((y : Int)).tmod (d.lots.length : Int)).toNat * 2 + 0))), (81, (Value.int .i64 (min 1000 (((d.lots.getD ((((y : Int)).tmod (d.lots.length : Int)).toNat) (0, 0)).2) + (((((q : Int)).tmod 20)).tmod 7))))), (73, (Value.int .i64 (max 0 (((d.lots.getD ((((y : Int)).tmod (d.lots.length : Int)).toNat) (0, 0)).1) - (((q : Int)).tmod 20))))), (66, (eptr v42 ((((y : Int)).tmod (d.lots.length : Int)).toNat * 2))), (13, (eptr v42 ((((y : Int)).tmod (d.lots.length : Int)).toNat * 2))), (12, (Value.int .i64 (((q : Int)).tmod 20))), (11, (bptr b22 0)), (5, (bptr b4 0)), (1, (Value.int .u8 (x : Int)))] a129 := hA138.add (slot_ev hs_18 rfl); clear hA138
  clear hH133 hS132 hs_0 hs_1 hs_2 hs_3 hs_4 hs_5 hs_6 hs_7 hs_8 hs_9 hs_10 hs_11 hs_12 hs_13 hs_14 hs_15 hs_16 hs_17 hs_18
  clear hr_0
  clear hv_0
  clear hr_1
  clear hv_1
  clear hr_2
  clear hv_2
  clear hr_3
  clear hv_3
  clear hr_4
  clear hv_4
  clear hr_5
  clear hv_5
  clear hr_6
  clear hv_6
  clear hr_7
  clear hv_7
  clear hr_8
  clear hv_8
  clear hr_9
  clear hv_9
  clear hr_10
  clear hv_10
  clear hr_11
  clear hv_11
  clear hr_12
  clear hv_12
  clear hr_13
  clear hv_13
  clear hr_14
  clear hv_14
  clear hr_15
  clear hv_15
  clear hr_16
  clear hv_16
  clear hr_17
  clear hv_17
  clear hr_18
  clear hv_18
  refine st hA139 (op_nilCheckE rfl (hA139.ev rfl) (SlAt.of_row (hS135.ok_row 1 rfl)) (by rw [((SlAt.of_row (hS135.ok_row 1 rfl))).1]; first | omega | (simp only [List.length_set]; omega))) rfl rfl (by decide) fun a140 hA141 => ?_; clear hA139 a129
  refine st hA141 (op_fieldS rfl fd_44_1 (hA141.ev rfl) (SlAt.of_row (hS135.ok_row 1 rfl)) (by rw [((SlAt.of_row (hS135.ok_row 1 rfl))).1]; first | omega | (simp only [List.length_set]; omega))) rfl rfl (by decide) fun a142 hA143 => ?_; clear hA141 a140
  refine sts hA143 (op_storeE hS135 rfl ty_3 (hA143.ev rfl) (hA143.ev rfl) (i := 1) rfl (vs := [(Value.int .i64 (min 1000 (((d.lots.getD ((((y : Int)).tmod (d.lots.length : Int)).toNat) (0, 0)).2) + (((((q : Int)).tmod 20)).tmod 7))))]) rfl rfl rfl (by first | (simp only [pairs_length, List.length_set]; omega) | (simp only [vpairs_length, List.length_zip, List.length_set]; omega) | (simp only [ints, List.length_map, List.length_set]; omega)) (by decide)) rfl rfl ?_
  intro _ w144 hS145 hA147; have hS146 := hS145.row_say (i := 1) rfl (n' := ((d.lots.set ((((y : Int)).tmod (d.lots.length : Int)).toNat) (max 0 (((d.lots.getD ((((y : Int)).tmod (d.lots.length : Int)).toNat) (0, 0)).1) - (((q : Int)).tmod 20)), (d.lots.getD ((((y : Int)).tmod (d.lots.length : Int)).toNat) (0, 0)).2)).set ((((y : Int)).tmod (d.lots.length : Int)).toNat) (((d.lots.set ((((y : Int)).tmod (d.lots.length : Int)).toNat) (max 0 (((d.lots.getD ((((y : Int)).tmod (d.lots.length : Int)).toNat) (0, 0)).1) - (((q : Int)).tmod 20)), (d.lots.getD ((((y : Int)).tmod (d.lots.length : Int)).toNat) (0, 0)).2)).getD ((((y : Int)).tmod (d.lots.length : Int)).toNat) (0, 0)).1, min 1000 (((d.lots.getD ((((y : Int)).tmod (d.lots.length : Int)).toNat) (0, 0)).2) + (((((q : Int)).tmod 20)).tmod 7)))).length) (xs' := (pairs ((d.lots.set ((((y : Int)).tmod (d.lots.length : Int)).toNat) (max 0 (((d.lots.getD ((((y : Int)).tmod (d.lots.length : Int)).toNat) (0, 0)).1) - (((q : Int)).tmod 20)), (d.lots.getD ((((y : Int)).tmod (d.lots.length : Int)).toNat) (0, 0)).2)).set ((((y : Int)).tmod (d.lots.length : Int)).toNat) (((d.lots.set ((((y : Int)).tmod (d.lots.length : Int)).toNat) (max 0 (((d.lots.getD ((((y : Int)).tmod (d.lots.length : Int)).toNat) (0, 0)).1) - (((q : Int)).tmod 20)), (d.lots.getD ((((y : Int)).tmod (d.lots.length : Int)).toNat) (0, 0)).2)).getD ((((y : Int)).tmod (d.lots.length : Int)).toNat) (0, 0)).1, min 1000 (((d.lots.getD ((((y : Int)).tmod (d.lots.length : Int)).toNat) (0, 0)).2) + (((((q : Int)).tmod 20)).tmod 7)))))) (by simp) (pairs_set1 (by first | omega | (simp only [List.length_set]; omega))); clear hS145 hA143 hS135
  refine wl_nil ?_
  refine blk_n ?_
  refine then_n ?_
  refine c_seq ?_
  have hA148 := hA147.as [(11, (bptr b22 0)), (5, (bptr b4 0)), (1, (Value.int .u8 (x : Int)))] rfl; clear hA147
  refine c_region ?_
  refine st hA148 (op_loadA rfl ty_26 (hA148.ev rfl) (hS146.bk 3 rfl) (l := [rl, rs, (Value.int .i64 d.spread), rb]) rfl rfl) rfl rfl (by decide) fun a149 hA150 => ?_; clear hA148 a142
  refine st hA150 (op_move rfl (hA150.ev rfl)) rfl rfl (by decide) fun a151 hA152 => ?_; clear hA150 a149
  refine stw hA152 (op_call rfl en_36 (ev2 (hA152.ev rfl) (hA152.ev rfl)) (chosen_ok rl rs rb rlv d _ (rnd_at (hS146.ok 4 _ rfl)) x (by omega))) rfl rfl (by decide) ?_
  rintro a153 v159 w155 ⟨hE156, hO157⟩ hA154; have hS158 := hS146.new_row hE156 hO157; clear hE156 hO157 hA152 hS146 a151
  refine st hA154 (op_assign rfl (hA154.ev rfl)) rfl rfl (by decide) fun a160 hA161 => ?_; clear hA154 a153
  refine wl_nil ?_
  refine then_n ?_
  refine c_seq ?_
  refine c_region ?_
  refine st hA161 (op_loadA rfl ty_26 (hA161.ev rfl) (hS158.bk 4 rfl) (l := [rl, rs, (Value.int .i64 d.spread), rb]) rfl rfl) rfl rfl (by decide) fun a162 hA163 => ?_; clear hA161 a160
  refine stw hA163 (op_call rfl en_20 (ev1 (hA163.ev rfl)) (Round_ok rl rs rb rlv d _ (rnd_at (hS158.ok 5 _ rfl)) hth)) rfl rfl (by decide) ?_
  rintro a164 _ w166 ⟨vl167, vs168, vb169, lv170, rfl, hT171⟩ hA165; have hS172 := hS158.callS hT171 rfl; clear hT171 hA163 hS158 a162
  refine st hA165 (op_move rfl (hA165.ev rfl)) rfl rfl (by decide) fun a173 hA174 => ?_; clear hA165 a164
  refine stw hA174 (op_call rfl en_22 (ev1 (hA174.ev rfl)) (list_ok (chosenF d.tols.length x) _ _ (SlAt.of_row (hS172.ok_row 1 rfl)) (Nat.le_trans (chosenF_len _ _) (by omega)))) rfl rfl (by decide) ?_
  rintro a175 v181 w177 ⟨hE178, hO179⟩ hA176; have hS180 := hS172.new_row hE178 hO179; clear hE178 hO179 hA174 hS172 a173
  refine stw hA176 (op_call rfl en_21 (ev2 (hA176.ev rfl) (hA176.ev rfl)) (by have h := (explains_ok vl167 vs168 vb169 lv170 d _ (rnd_at (hS180.ok 1 _ rfl)) _ (chosenF d.tols.length x) (SlAt.of_row (hS180.ok_row 0 rfl)) (Nat.le_trans (chosenF_len _ _) (by omega))); rw [he] at h; exact h)) rfl rfl (by decide) ?_
  rintro a182 _ w184 ⟨rfl, hE185⟩ hA183; have hS186 := hS180.step hE185; clear hE185 hA176 hS180 a175
  refine st hA183 (op_move rfl (hA183.ev rfl)) rfl rfl (by decide) fun a187 hA188 => ?_; clear hA183 a182
  refine st hA188 (op_extract rfl (hA188.ev rfl) rfl) rfl rfl (by decide) fun a189 hA190 => ?_; clear hA188 a187
  refine st hA190 (op_extract rfl (hA190.ev rfl) rfl) rfl rfl (by decide) fun a191 hA192 => ?_; clear hA190 a189
  refine st hA192 (op_assign rfl (hA192.ev rfl)) rfl rfl (by decide) fun a193 hA194 => ?_; clear hA192 a191
  refine st hA194 (op_assign rfl (hA194.ev rfl)) rfl rfl (by decide) fun a195 hA196 => ?_; clear hA194 a193
  refine wl_nil ?_
  refine then_n ?_
  refine c_seq ?_
  have hA197 := hA196.as [(17, (Value.int .i64 0)), (16, (Value.bool ba)), (15, v159), (11, (bptr b22 0)), (5, (bptr b4 0))] rfl; clear hA196
  have hS198 := ((hS186.row_say (i := 4) rfl (n' := (kindLots d ((((y : Int)).tmod (d.lots.length : Int)).toNat) (((q : Int)).tmod 20)).lots.length) (xs' := pairs (kindLots d ((((y : Int)).tmod (d.lots.length : Int)).toNat) (((q : Int)).tmod 20)).lots) (by simp [kindLots]) (congrArg pairs (kind_two (by omega)))).row_say (i := 3) rfl (n' := (kindLots d ((((y : Int)).tmod (d.lots.length : Int)).toNat) (((q : Int)).tmod 20)).tols.length) (xs' := vpairs ((kindLots d ((((y : Int)).tmod (d.lots.length : Int)).toNat) (((q : Int)).tmod 20)).tols.zip rlv)) rfl rfl); clear hS186
  refine c_region ?_
  refine st hA197 (op_loadA rfl ty_26 (hA197.ev rfl) (hS198.bk 5 rfl) (l := [v42, rs, (Value.int .i64 d.spread), v64]) rfl rfl) rfl rfl (by decide) fun a199 hA200 => ?_; clear hA197 a195
  refine stw hA200 (op_call rfl en_20 (ev1 (hA200.ev rfl)) (Round_ok v42 rs v64 rlv (kindLots d ((((y : Int)).tmod (d.lots.length : Int)).toNat) (((q : Int)).tmod 20)) _ (show RoundAt _ v42 rs v64 rlv (kindLots d ((((y : Int)).tmod (d.lots.length : Int)).toNat) (((q : Int)).tmod 20)) from ⟨SlAt.of_row (hS198.ok_row 4 rfl), (rnd_at (hS198.ok 7 _ rfl)).samples, SlAt.of_row (hS198.ok_row 3 rfl), (rnd_at (hS198.ok 7 _ rfl)).rds, (by first | exact hlv0 | (simp only [kindTol, kindRd, List.length_set]; exact hlv0)), (by first | exact hrl8 | (simp only [kindTol, kindRd, List.length_set]; exact hrl8))⟩) (valid_thin hVM))) rfl rfl (by decide) ?_
  rintro a201 _ w203 ⟨vl204, vs205, vb206, lv207, rfl, hT208⟩ hA202; have hS209 := hS198.callS hT208 rfl; clear hT208 hA200 hS198 a199
  refine st hA202 (op_move rfl (hA202.ev rfl)) rfl rfl (by decide) fun a210 hA211 => ?_; clear hA202 a201
  refine stw hA211 (op_call rfl en_22 (ev1 (hA211.ev rfl)) (list_ok (chosenF d.tols.length x) _ _ (SlAt.of_row (hS209.ok_row 3 rfl)) (Nat.le_trans (chosenF_len _ _) (by omega)))) rfl rfl (by decide) ?_
  rintro a212 v218 w214 ⟨hE215, hO216⟩ hA213; have hS217 := hS209.new_row hE215 hO216; clear hE215 hO216 hA211 hS209 a210
  refine stw hA213 (op_call rfl en_21 (ev2 (hA213.ev rfl) (hA213.ev rfl)) (by have h := (explains_ok vl204 vs205 vb206 lv207 (kindLots d ((((y : Int)).tmod (d.lots.length : Int)).toNat) (((q : Int)).tmod 20)) _ (rnd_at (hS217.ok 1 _ rfl)) _ (chosenF d.tols.length x) (SlAt.of_row (hS217.ok_row 0 rfl)) (Nat.le_trans (chosenF_len _ _) (by omega))); rw [heM] at h; exact h)) rfl rfl (by decide) ?_
  rintro a219 _ w221 ⟨rfl, hE222⟩ hA220; have hS223 := hS217.step hE222; clear hE222 hA213 hS217 a212
  refine st hA220 (op_move rfl (hA220.ev rfl)) rfl rfl (by decide) fun a224 hA225 => ?_; clear hA220 a219
  refine st hA225 (op_extract rfl (hA225.ev rfl) rfl) rfl rfl (by decide) fun a226 hA227 => ?_; clear hA225 a224
  refine st hA227 (op_extract rfl (hA227.ev rfl) rfl) rfl rfl (by decide) fun a228 hA229 => ?_; clear hA227 a226
  refine st hA229 (op_assign rfl (hA229.ev rfl)) rfl rfl (by decide) fun a230 hA231 => ?_; clear hA229 a228
  refine st hA231 (op_assign rfl (hA231.ev rfl)) rfl rfl (by decide) fun a232 hA233 => ?_; clear hA231 a230
  refine wl_nil ?_
  refine then_n ?_
  refine c_seq ?_
  have hA234 := hA233.as [(19, (Value.int .i64 0)), (18, (Value.bool bb)), (17, (Value.int .i64 0)), (16, (Value.bool ba)), (11, (bptr b22 0)), (5, (bptr b4 0))] rfl; clear hA233
  refine c_region ?_
  refine st hA234 (op_loadA rfl ty_26 (hA234.ev rfl) (hS223.bk 8 rfl) (l := [rl, rs, (Value.int .i64 d.spread), rb]) rfl rfl) rfl rfl (by decide) fun a235 hA236 => ?_; clear hA234 a232
  refine stw hA236 (op_call rfl en_20 (ev1 (hA236.ev rfl)) (Round_ok rl rs rb rlv d _ (rnd_at (hS223.ok 9 _ rfl)) hth)) rfl rfl (by decide) ?_
  rintro a237 _ w239 ⟨vl240, vs241, vb242, lv243, rfl, hT244⟩ hA238; have hS245 := hS223.callS hT244 rfl; clear hT244 hA236 hS223 a235
  refine stw hA238 (op_call rfl en_29 (ev1 (hA238.ev rfl)) (by have h := (least_fn vl240 vs241 vb242 lv243 d _ (rnd_at (hS245.ok 0 _ rfl))); rw [hl] at h; exact h)) rfl rfl (by decide) ?_
  rintro a246 _ w248 ⟨u251, rfl, hT249⟩ hA247; clear hA238 a237
  have hS250 : Sep NoB w w248 [(osl u251 1 La.length (ints La)), (rndR true vl240 vs241 vb242 lv243 d), (row v218 3 1 ((chosenF d.tols.length x).length) (ints (chosenF d.tols.length x))), (rndR true vl204 vs205 vb206 lv207 (kindLots d ((((y : Int)).tmod (d.lots.length : Int)).toNat) (((q : Int)).tmod 20))), (row v181 3 1 ((chosenF d.tols.length x).length) (ints (chosenF d.tols.length x))), (rndR true vl167 vs168 vb169 lv170 d), (row v159 3 1 ((chosenF d.tols.length x).length) (ints (chosenF d.tols.length x))), (row v64 62 2 ((kindLots d ((((y : Int)).tmod (d.lots.length : Int)).toNat) (((q : Int)).tmod 20)).tols.length) (vpairs ((kindLots d ((((y : Int)).tmod (d.lots.length : Int)).toNat) (((q : Int)).tmod 20)).tols.zip rlv))), (row v42 44 2 ((kindLots d ((((y : Int)).tmod (d.lots.length : Int)).toNat) (((q : Int)).tmod 20)).lots.length) (pairs ((kindLots d ((((y : Int)).tmod (d.lots.length : Int)).toNat) (((q : Int)).tmod 20)).lots))), (blk b22 26 [v42, rs, (Value.int .i64 d.spread), v64]), (blk b4 26 [rl, rs, (Value.int .i64 d.spread), rb]), (rndR false rl rs rb rlv d)] := hS245.callS hT249 rfl; clear hT249 hS245
  refine st hA247 (op_move rfl (hA247.ev rfl)) rfl rfl (by decide) fun a252 hA253 => ?_; clear hA247 a246
  refine st hA253 (op_extract rfl (hA253.ev rfl) rfl) rfl rfl (by decide) fun a254 hA255 => ?_; clear hA253 a252
  refine st hA255 (op_extract rfl (hA255.ev rfl) rfl) rfl rfl (by decide) fun a256 hA257 => ?_; clear hA255 a254
  refine st hA257 (op_assign rfl (hA257.ev rfl)) rfl rfl (by decide) fun a258 hA259 => ?_; clear hA257 a256
  refine st hA259 (op_assign rfl (hA259.ev rfl)) rfl rfl (by decide) fun a260 hA261 => ?_; clear hA259 a258
  refine wl_nil ?_
  refine then_n ?_
  refine c_seq ?_
  have hA262 := hA261.as [(21, (Value.int .i64 0)), (20, u251), (19, (Value.int .i64 0)), (18, (Value.bool bb)), (17, (Value.int .i64 0)), (16, (Value.bool ba)), (11, (bptr b22 0))] rfl; clear hA261
  refine c_region ?_
  refine st hA262 (op_loadA rfl ty_26 (hA262.ev rfl) (hS250.bk 9 rfl) (l := [v42, rs, (Value.int .i64 d.spread), v64]) rfl rfl) rfl rfl (by decide) fun a263 hA264 => ?_; clear hA262 a260
  refine stw hA264 (op_call rfl en_20 (ev1 (hA264.ev rfl)) (Round_ok v42 rs v64 rlv (kindLots d ((((y : Int)).tmod (d.lots.length : Int)).toNat) (((q : Int)).tmod 20)) _ (show RoundAt _ v42 rs v64 rlv (kindLots d ((((y : Int)).tmod (d.lots.length : Int)).toNat) (((q : Int)).tmod 20)) from ⟨SlAt.of_row (hS250.ok_row 8 rfl), (rnd_at (hS250.ok 11 _ rfl)).samples, SlAt.of_row (hS250.ok_row 7 rfl), (rnd_at (hS250.ok 11 _ rfl)).rds, (by first | exact hlv0 | (simp only [kindTol, kindRd, List.length_set]; exact hlv0)), (by first | exact hrl8 | (simp only [kindTol, kindRd, List.length_set]; exact hrl8))⟩) (valid_thin hVM))) rfl rfl (by decide) ?_
  rintro a265 _ w267 ⟨vl268, vs269, vb270, lv271, rfl, hT272⟩ hA266; have hS273 := hS250.callS hT272 rfl; clear hT272 hA264 hS250 a263
  refine stw hA266 (op_call rfl en_29 (ev1 (hA266.ev rfl)) (by have h := (least_fn vl268 vs269 vb270 lv271 (kindLots d ((((y : Int)).tmod (d.lots.length : Int)).toNat) (((q : Int)).tmod 20)) _ (rnd_at (hS273.ok 0 _ rfl))); rw [hlM] at h; exact h)) rfl rfl (by decide) ?_
  rintro a274 _ w276 ⟨u279, rfl, hT277⟩ hA275; clear hA266 a265
  have hS278 : Sep NoB w w276 [(osl u279 1 Lb.length (ints Lb)), (rndR true vl268 vs269 vb270 lv271 (kindLots d ((((y : Int)).tmod (d.lots.length : Int)).toNat) (((q : Int)).tmod 20))), (osl u251 1 La.length (ints La)), (rndR true vl240 vs241 vb242 lv243 d), (row v218 3 1 ((chosenF d.tols.length x).length) (ints (chosenF d.tols.length x))), (rndR true vl204 vs205 vb206 lv207 (kindLots d ((((y : Int)).tmod (d.lots.length : Int)).toNat) (((q : Int)).tmod 20))), (row v181 3 1 ((chosenF d.tols.length x).length) (ints (chosenF d.tols.length x))), (rndR true vl167 vs168 vb169 lv170 d), (row v159 3 1 ((chosenF d.tols.length x).length) (ints (chosenF d.tols.length x))), (row v64 62 2 ((kindLots d ((((y : Int)).tmod (d.lots.length : Int)).toNat) (((q : Int)).tmod 20)).tols.length) (vpairs ((kindLots d ((((y : Int)).tmod (d.lots.length : Int)).toNat) (((q : Int)).tmod 20)).tols.zip rlv))), (row v42 44 2 ((kindLots d ((((y : Int)).tmod (d.lots.length : Int)).toNat) (((q : Int)).tmod 20)).lots.length) (pairs ((kindLots d ((((y : Int)).tmod (d.lots.length : Int)).toNat) (((q : Int)).tmod 20)).lots))), (blk b22 26 [v42, rs, (Value.int .i64 d.spread), v64]), (blk b4 26 [rl, rs, (Value.int .i64 d.spread), rb]), (rndR false rl rs rb rlv d)] := hS273.callS hT277 rfl; clear hT277 hS273
  refine st hA275 (op_move rfl (hA275.ev rfl)) rfl rfl (by decide) fun a280 hA281 => ?_; clear hA275 a274
  refine st hA281 (op_extract rfl (hA281.ev rfl) rfl) rfl rfl (by decide) fun a282 hA283 => ?_; clear hA281 a280
  refine st hA283 (op_extract rfl (hA283.ev rfl) rfl) rfl rfl (by decide) fun a284 hA285 => ?_; clear hA283 a282
  refine st hA285 (op_assign rfl (hA285.ev rfl)) rfl rfl (by decide) fun a286 hA287 => ?_; clear hA285 a284
  refine st hA287 (op_assign rfl (hA287.ev rfl)) rfl rfl (by decide) fun a288 hA289 => ?_; clear hA287 a286
  refine wl_nil ?_
  refine then_n ?_
  refine c_seq ?_
  have hA290 := hA289.as [(23, (Value.int .i64 0)), (22, u279), (21, (Value.int .i64 0)), (20, u251), (19, (Value.int .i64 0)), (18, (Value.bool bb)), (17, (Value.int .i64 0)), (16, (Value.bool ba))] rfl; clear hA289
  refine c_region ?_
  refine st hA290 (op_move rfl (hA290.ev rfl)) rfl rfl (by decide) fun a291 hA292 => ?_; clear hA290 a288
  refine st hA292 (op_eql rfl (hA292.ev rfl) (evc _ _)) rfl rfl (by decide) fun a293 hA294 => ?_; clear hA292 a291
  refine st hA294 (op_move rfl (hA294.ev rfl)) rfl rfl (by decide) fun a295 hA296 => ?_; clear hA294 a293
  refine stg hA296 (op_move rfl (hA296.ev rfl)) rfl rfl rfl rfl (by decide) fun a297 hA298 => ?_; clear hA296 a295
  refine stg hA298 (op_eql rfl (hA298.ev rfl) (evc _ _)) rfl rfl rfl rfl (by decide) fun a299 hA300 => ?_; clear hA298 a297
  refine st hA300 (op_pick_t rfl (hA300.ev rfl) (hA300.ev rfl)) rfl rfl (by decide) fun a301 hA302 => ?_; clear hA300 a299
  refine st hA302 (op_move rfl (hA302.ev rfl)) rfl rfl (by decide) fun a303 hA304 => ?_; clear hA302 a301
  refine stg hA304 (op_move rfl (hA304.ev rfl)) rfl rfl rfl rfl (by decide) fun a305 hA306 => ?_; clear hA304 a303
  refine stg hA306 (op_eql rfl (hA306.ev rfl) (evc _ _)) rfl rfl rfl rfl (by decide) fun a307 hA308 => ?_; clear hA306 a305
  refine st hA308 (op_pick_t rfl (hA308.ev rfl) (hA308.ev rfl)) rfl rfl (by decide) fun a309 hA310 => ?_; clear hA308 a307
  refine st hA310 (op_move rfl (hA310.ev rfl)) rfl rfl (by decide) fun a311 hA312 => ?_; clear hA310 a309
  refine stg hA312 (op_move rfl (hA312.ev rfl)) rfl rfl rfl rfl (by decide) fun a313 hA314 => ?_; clear hA312 a311
  refine stg hA314 (op_eql rfl (hA314.ev rfl) (evc _ _)) rfl rfl rfl rfl (by decide) fun a315 hA316 => ?_; clear hA314 a313
  refine st hA316 (op_pick_t rfl (hA316.ev rfl) (hA316.ev rfl)) rfl rfl (by decide) fun a317 hA318 => ?_; clear hA316 a315
  refine st hA318 (op_move rfl (hA318.ev rfl)) rfl rfl (by decide) fun a319 hA320 => ?_; clear hA318 a317
  refine stg hA320 (op_move rfl (hA320.ev rfl)) rfl rfl rfl rfl (by decide) fun a321 hA322 => ?_; clear hA320 a319
  refine stg hA322 (op_not rfl (hA322.ev rfl)) rfl rfl rfl rfl (by decide) fun a323 hA324 => ?_; clear hA322 a321
  refine stg hA324 (op_move rfl (hA324.ev rfl)) rfl rfl rfl rfl (by decide) fun a325 hA326 => ?_; clear hA324 a323
  rcases Bool.eq_false_or_eq_true (ba) with hb327 | hb327
  ·skip
   rw [hb327] at hA326
   refine stg hA326 (op_move rfl (hA326.ev rfl)) rfl rfl rfl rfl (by decide) fun a328 hA329 => ?_; clear hA326 a325
   have hd330 : bb = true := (hab hb327)
   rw [hd330] at hA329
   refine stg hA329 (op_pick_f rfl (hA329.ev rfl) (hA329.ev rfl)) rfl rfl rfl rfl (by decide) fun a331 hA332 => ?_; clear hA329 a328
   refine st hA332 (op_pick_t rfl (hA332.ev rfl) (hA332.ev rfl)) rfl rfl (by decide) fun a333 hA334 => ?_; clear hA332 a331
   refine st hA334 (op_move rfl (hA334.ev rfl)) rfl rfl (by decide) fun a335 hA336 => ?_; clear hA334 a333
   refine stg hA336 (op_move rfl (hA336.ev rfl)) rfl rfl rfl rfl (by decide) fun a337 hA338 => ?_; clear hA336 a335
   refine stg hA338 (op_lenS rfl un_23 (hA338.ev rfl) (show SlAt _ _ _ _ _ from (hS278.ok 0 _ rfl))) rfl rfl rfl rfl (by decide) fun a339 hA340 => ?_; clear hA338 a337
   refine stg hA340 (op_move rfl (hA340.ev rfl)) rfl rfl rfl rfl (by decide) fun a341 hA342 => ?_; clear hA340 a339
   refine stg hA342 (op_lenS rfl un_23 (hA342.ev rfl) (show SlAt _ _ _ _ _ from (hS278.ok 2 _ rfl))) rfl rfl rfl rfl (by decide) fun a343 hA344 => ?_; clear hA342 a341
   refine stg hA344 (op_leq rfl (hA344.ev rfl) (hA344.ev rfl)) rfl rfl rfl rfl (by decide) fun a345 hA346 => ?_; clear hA344 a343
   have hd347 : (Lb.length : Int) ≤ (La.length : Int) := (by omega)
   rw [decide_eq_true hd347] at hA346
   refine st hA346 (op_pick_t rfl (hA346.ev rfl) (hA346.ev rfl)) rfl rfl (by decide) fun a348 hA349 => ?_; clear hA346 a345
   refine st hA349 (op_move rfl (hA349.ev rfl)) rfl rfl (by decide) fun a350 hA351 => ?_; clear hA349 a348
   refine stwg hA351 (op_call rfl en_18 ev0 (wakes_ok _)) rfl rfl rfl rfl (by decide) ?_
   rintro a352 _ w354 ⟨rfl, hE355⟩ hA353; have hS356 := hS278.step hE355; clear hE355 hA351 hS278 a350
   refine st hA353 (op_pick_t rfl (hA353.ev rfl) (hA353.ev rfl)) rfl rfl (by decide) fun a357 hA358 => ?_; clear hA353 a352
   refine st hA358 (op_assign rfl (hA358.ev rfl)) rfl rfl (by decide) fun a359 hA360 => ?_; clear hA358 a357
   refine wl_nil ?_
   refine then_n ?_
   refine c_ret ?_
   refine fin_run hA360 (.inl rfl) (run_results1 hA360 rfl (.tmp rfl)) ?_
   exact ⟨rfl, hS356.ext⟩
  ·skip
   rw [hb327] at hA326
   refine skp hA326 rfl rfl rfl rfl rfl (by decide) fun a361 hA362 => ?_; clear hA326 a325
   refine stg hA362 (op_pick_t rfl (hA362.ev rfl) (evc _ _)) rfl rfl rfl rfl (by decide) fun a363 hA364 => ?_; clear hA362 a361
   refine st hA364 (op_pick_t rfl (hA364.ev rfl) (hA364.ev rfl)) rfl rfl (by decide) fun a365 hA366 => ?_; clear hA364 a363
   refine st hA366 (op_move rfl (hA366.ev rfl)) rfl rfl (by decide) fun a367 hA368 => ?_; clear hA366 a365
   refine stg hA368 (op_move rfl (hA368.ev rfl)) rfl rfl rfl rfl (by decide) fun a369 hA370 => ?_; clear hA368 a367
   refine stg hA370 (op_lenS rfl un_23 (hA370.ev rfl) (show SlAt _ _ _ _ _ from (hS278.ok 0 _ rfl))) rfl rfl rfl rfl (by decide) fun a371 hA372 => ?_; clear hA370 a369
   refine stg hA372 (op_move rfl (hA372.ev rfl)) rfl rfl rfl rfl (by decide) fun a373 hA374 => ?_; clear hA372 a371
   refine stg hA374 (op_lenS rfl un_23 (hA374.ev rfl) (show SlAt _ _ _ _ _ from (hS278.ok 2 _ rfl))) rfl rfl rfl rfl (by decide) fun a375 hA376 => ?_; clear hA374 a373
   refine stg hA376 (op_leq rfl (hA376.ev rfl) (hA376.ev rfl)) rfl rfl rfl rfl (by decide) fun a377 hA378 => ?_; clear hA376 a375
   have hd379 : (Lb.length : Int) ≤ (La.length : Int) := (by omega)
   rw [decide_eq_true hd379] at hA378
   refine st hA378 (op_pick_t rfl (hA378.ev rfl) (hA378.ev rfl)) rfl rfl (by decide) fun a380 hA381 => ?_; clear hA378 a377
   refine st hA381 (op_move rfl (hA381.ev rfl)) rfl rfl (by decide) fun a382 hA383 => ?_; clear hA381 a380
   refine stwg hA383 (op_call rfl en_18 ev0 (wakes_ok _)) rfl rfl rfl rfl (by decide) ?_
   rintro a384 _ w386 ⟨rfl, hE387⟩ hA385; have hS388 := hS278.step hE387; clear hE387 hA383 hS278 a382
   refine st hA385 (op_pick_t rfl (hA385.ev rfl) (hA385.ev rfl)) rfl rfl (by decide) fun a389 hA390 => ?_; clear hA385 a384
   refine st hA390 (op_assign rfl (hA390.ev rfl)) rfl rfl (by decide) fun a391 hA392 => ?_; clear hA390 a389
   refine wl_nil ?_
   refine then_n ?_
   refine c_ret ?_
   refine fin_run hA392 (.inl rfl) (run_results1 hA392 rfl (.tmp rfl)) ?_
   exact ⟨rfl, hS388.ext⟩

set_option maxHeartbeats 4000000 in
theorem RoundKinder_c2 (rl rs rb : Value) (rlv : List Value) (d : RD) (w : World) (hR : RoundAt w rl rs rb rlv d) (x : Nat) (hxb : x < 256) (z : Nat) (hzb : z < 256) (y : Nat) (hyb : y < 256) (q : Nat) (hqb : q < 256) (hf : readyB d = true) (hz : (z : Int).tmod 4 = 2) (hk : 0 < d.tols.length) (hVM : Valid (kindTol d ((((y : Int)).tmod (d.tols.length : Int)).toNat) (((q : Int)).tmod 20))) (ba bb : Bool) (he : explainsF d (chosenF d.tols.length x) = (ba, 0)) (heM : explainsF (kindTol d ((((y : Int)).tmod (d.tols.length : Int)).toNat) (((q : Int)).tmod 20)) (chosenF d.tols.length x) = (bb, 0)) (hab : ba = true → bb = true) (La Lb : List Int) (hl : leastR d = (La, 0)) (hlM : leastR (kindTol d ((((y : Int)).tmod (d.tols.length : Int)).toNat) (((q : Int)).tmod 20)) = (Lb, 0)) (hle : Lb.length ≤ La.length) :
  Calls Try.prog 9 #[(Value.agg #[rl, rs, (Value.int .i64 d.spread), rb]), (Value.int .u8 (x : Int)), (Value.int .u8 (z : Int)), (Value.int .u8 (y : Int)), (Value.int .u8 (q : Int))] w (Ret fun v w' => v = .bool true ∧ Ext NoB w w') := by
 refine calls_enter Try.func9 rfl fun a0 hA0 => ?_
 replace hA0 : Fr 201 [] [(0, (Value.agg #[rl, rs, (Value.int .i64 d.spread), rb])), (1, (Value.int .u8 (x : Int))), (2, (Value.int .u8 (z : Int))), (3, (Value.int .u8 (y : Int))), (4, (Value.int .u8 (q : Int)))] a0 := hA0
 have hth := thin_of (ready_of hf).1; have hc := (ready_of hf).2; have hV := valid_of hc; have hnb := hV.nb; have hns := hV.ns; have hnl := hV.nl; have hsp := hV.spread; have hlv0 := hR.lvl; have hrl8 := hR.rdl; have hN := tmod_nn (a := (q : Int)) (by omega) (show (0 : Int) < 20 by decide); have hN7 := tmod_nn hN.1 (show (0 : Int) < 7 by decide); have hIL := tmod_nn (a := (y : Int)) (by omega) (show (0 : Int) < (d.lots.length : Int) by omega); have hIl := hV.lots (((y : Int)).tmod (d.lots.length : Int)).toNat (by omega); have hIK := tmod_nn (a := (y : Int)) (by omega) (show (0 : Int) < (d.tols.length : Int) by omega); have hIt := hV.tols (((y : Int)).tmod (d.tols.length : Int)).toNat (by omega); have hIr := hV.rdl (((y : Int)).tmod (d.tols.length : Int)).toNat (by omega)
 have hS0 : Sep NoB w w [(rndR false rl rs rb rlv d)] := sep_ro ⟨rfl, hR, trivial⟩
 refine c_seq ?_
 refine c_region ?_
 refine stw hA0 (op_box hS0 rfl (hA0.ev rfl) (cs := [rl, rs, (Value.int .i64 d.spread), rb]) rfl) rfl rfl (by decide) ?_
 rintro a1 _ w3 ⟨b4, rfl, hS5⟩ hA2; clear hA0 hS0 a0
 refine st hA2 (op_assign rfl (evc _ _)) rfl rfl (by decide) fun a6 hA7 => ?_; clear hA2 a1
 refine wl_nil ?_
 refine then_n ?_
 refine c_seq ?_
 refine c_seq ?_
 refine c_region ?_
 refine st hA7 (op_loadA rfl ty_26 (hA7.ev rfl) (hS5.bk 0 rfl) (l := [rl, rs, (Value.int .i64 d.spread), rb]) rfl rfl) rfl rfl (by decide) fun a8 hA9 => ?_; clear hA7 a6
 refine stw hA9 (op_call rfl en_35 (ev1 (hA9.ev rfl)) (ready_ok rl rs rb rlv d _ (rnd_at (hS5.ok 1 _ rfl)))) rfl rfl (by decide) ?_
 rintro a10 _ w12 ⟨rfl, hE13⟩ hA11; have hS14 := hS5.step hE13; clear hE13 hA9 hS5 a8
 rw [hf] at hA11
 refine st hA11 (op_not rfl (hA11.ev rfl)) rfl rfl (by decide) fun a15 hA16 => ?_; clear hA11 a10
 refine wl_nil ?_
 refine then_n ?_
 refine c_false hA16 rfl ?_
 refine c_skip ?_
 refine then_n ?_
 refine c_seq ?_
 refine c_region ?_
 refine st hA16 (op_loadA rfl ty_26 (hA16.ev rfl) (hS14.bk 0 rfl) (l := [rl, rs, (Value.int .i64 d.spread), rb]) rfl rfl) rfl rfl (by decide) fun a17 hA18 => ?_; clear hA16 a15
 refine stw hA18 (op_alloc hS14 rfl ze_26 (cs := [(Value.slice none 0 0), (Value.slice none 0 0), (Value.int .i64 0), (Value.slice none 0 0)]) rfl) rfl rfl (by decide) ?_
 rintro a19 _ w21 ⟨b22, rfl, hS23⟩ hA20; clear hA18 hS14 a17
 refine sts hA20 (op_store hS23 rfl ty_26 (hA20.ev rfl) (hA20.ev rfl) (i := 0) rfl (vs := [rl, rs, (Value.int .i64 d.spread), rb]) rfl rfl (all_c (SlAt.one (rnd_at (hS23.ok 2 _ rfl)).lots) (all_c (SlAt.one (rnd_at (hS23.ok 2 _ rfl)).samples) (all_c rfl (all_c (SlAt.one (rnd_at (hS23.ok 2 _ rfl)).labs) all_n)))) (Nat.le_of_ble_eq_true rfl)) rfl rfl ?_
 intro _ w24 hS25 hA26; clear hA20
 have hS27 : Sep NoB w w24 [(blk b22 26 [rl, rs, (Value.int .i64 d.spread), rb]), (blk b4 26 [rl, rs, (Value.int .i64 d.spread), rb]), (rndR false rl rs rb rlv d)] := hS25; clear hS25 hS23
 refine wl_nil ?_
 refine then_n ?_
 refine c_seq ?_
 have hA28 := hA26.as [(11, (bptr b22 0)), (5, (bptr b4 0)), (1, (Value.int .u8 (x : Int))), (2, (Value.int .u8 (z : Int))), (3, (Value.int .u8 (y : Int))), (4, (Value.int .u8 (q : Int)))] rfl; clear hA26
 refine c_region ?_
 refine stw hA28 (op_buildSlice hS27 rfl pv0 un_22 ty_44 ze_44 (by decide) (cs := []) bs_44_0_) rfl rfl (by decide) ?_
 rintro a29 _ w31 ⟨b32, rfl, hS33⟩ hA30; clear hA28 hS27 a19
 refine st hA30 (op_field rfl fd_26_0 (hA30.ev rfl)) rfl rfl (by decide) fun a34 hA35 => ?_; clear hA30 a29
 refine st hA35 (op_load1 rfl ty_22 (hA35.ev rfl) (hS33.bk 2 rfl) rfl) rfl rfl (by decide) fun a36 hA37 => ?_; clear hA35 a34
 have hS38 := hS33.blk_row (i := 0) (sz := 2) (n := 0) rfl rfl (by decide); clear hS33
 refine stw hA37 (op_append hS38 rfl un_22 el_44 (hA37.ev rfl) (hA37.ev rfl) (i := 0) rfl (rnd_at (hS38.ok 3 _ rfl)).lots (pairs_one _) (by simp only [maxLen]; omega) (by omega)) rfl rfl (by decide) ?_
 intro a39 v42 w41 hS43 hA40
 have hS44 := hS43.row_say (i := 0) rfl (n' := d.lots.length) (xs' := (pairs d.lots)) (by simp) (by simp); clear hS43 hA37 hS38 a36
 refine st hA40 (op_field rfl fd_26_0 (hA40.ev rfl)) rfl rfl (by decide) fun a45 hA46 => ?_; clear hA40 a39
 refine sts hA46 (op_store hS44 rfl ty_22 (hA46.ev rfl) (hA46.ev rfl) (i := 1) rfl (vs := [v42]) (isSl_cells (SlAt.isSl (SlAt.of_row (hS44.ok_row 0 rfl)))) rfl (all_c (SlAt.one (SlAt.of_row (hS44.ok_row 0 rfl))) all_n) (Nat.le_of_ble_eq_true rfl)) rfl rfl ?_
 intro _ w47 hS48 hA49; clear hA46
 have hS50 : Sep NoB w w47 [(row v42 44 2 d.lots.length (pairs d.lots)), (blk b22 26 [v42, rs, (Value.int .i64 d.spread), rb]), (blk b4 26 [rl, rs, (Value.int .i64 d.spread), rb]), (rndR false rl rs rb rlv d)] := hS48; clear hS48 hS44
 refine wl_nil ?_
 refine then_n ?_
 refine c_seq ?_
 refine c_region ?_
 refine stw hA49 (op_buildSlice hS50 rfl pv0 un_24 ty_62 ze_62 (by decide) (cs := []) bs_62_0_) rfl rfl (by decide) ?_
 rintro a51 _ w53 ⟨b54, rfl, hS55⟩ hA52; clear hA49 hS50 a45
 refine st hA52 (op_field rfl fd_26_3 (hA52.ev rfl)) rfl rfl (by decide) fun a56 hA57 => ?_; clear hA52 a51
 refine st hA57 (op_load1 rfl ty_24 (hA57.ev rfl) (hS55.bk 3 rfl) rfl) rfl rfl (by decide) fun a58 hA59 => ?_; clear hA57 a56
 have hS60 := hS55.blk_row (i := 0) (sz := 2) (n := 0) rfl rfl (by decide); clear hS55
 refine stw hA59 (op_append hS60 rfl un_24 el_62 (hA59.ev rfl) (hA59.ev rfl) (i := 0) rfl (rnd_at (hS60.ok 4 _ rfl)).labs (labs_one (rnd_at (hS60.ok 4 _ rfl))) (by simp only [maxLen]; omega) (by omega)) rfl rfl (by decide) ?_
 intro a61 v64 w63 hS65 hA62
 have hS66 := hS65.row_say (i := 0) rfl (n' := d.tols.length) (xs' := (vpairs (d.tols.zip rlv))) (by simp) (by simp); clear hS65 hA59 hS60 a58
 refine st hA62 (op_field rfl fd_26_3 (hA62.ev rfl)) rfl rfl (by decide) fun a67 hA68 => ?_; clear hA62 a61
 refine sts hA68 (op_store hS66 rfl ty_24 (hA68.ev rfl) (hA68.ev rfl) (i := 2) rfl (vs := [v64]) (isSl_cells (SlAt.isSl (SlAt.of_row (hS66.ok_row 0 rfl)))) rfl (all_c (SlAt.one (SlAt.of_row (hS66.ok_row 0 rfl))) all_n) (Nat.le_of_ble_eq_true rfl)) rfl rfl ?_
 intro _ w69 hS70 hA71; clear hA68
 have hS72 : Sep NoB w w69 [(row v64 62 2 d.tols.length (vpairs (d.tols.zip rlv))), (row v42 44 2 d.lots.length (pairs d.lots)), (blk b22 26 [v42, rs, (Value.int .i64 d.spread), v64]), (blk b4 26 [rl, rs, (Value.int .i64 d.spread), rb]), (rndR false rl rs rb rlv d)] := hS70; clear hS70 hS66
 refine wl_nil ?_
 refine then_n ?_
 refine c_seq ?_
 have hA73 := hA71.as [(11, (bptr b22 0)), (5, (bptr b4 0)), (1, (Value.int .u8 (x : Int))), (2, (Value.int .u8 (z : Int))), (3, (Value.int .u8 (y : Int))), (4, (Value.int .u8 (q : Int)))] rfl; clear hA71
 refine c_region ?_
 refine st hA73 (op_move rfl (hA73.ev rfl)) rfl rfl (by decide) fun a74 hA75 => ?_; clear hA73 a67
 refine st hA75 (op_conv un_5 un_3 rfl (hA75.ev rfl) (v := (q : Int)) (wrap_i64 (by omega) (by omega))) rfl rfl (by decide) fun a76 hA77 => ?_; clear hA75 a74
 refine st hA77 (op_rem rfl (hA77.ev rfl) (evc _ _) (by omega)) rfl rfl (by decide) fun a78 hA79 => ?_; clear hA77 a76
 refine st hA79 (op_assign rfl (hA79.ev rfl)) rfl rfl (by decide) fun a80 hA81 => ?_; clear hA79 a78
 refine wl_nil ?_
 refine then_n ?_
 refine c_seq ?_
 refine c_block ?_
 refine c_seq ?_
 refine c_region ?_
 refine st hA81 (op_move rfl (hA81.ev rfl)) rfl rfl (by decide) fun a82 hA83 => ?_; clear hA81 a80
 refine st hA83 (op_rem rfl (hA83.ev rfl) (evc _ _) (by omega)) rfl rfl (by decide) fun a84 hA85 => ?_; clear hA83 a82
 refine st hA85 (op_eql rfl (hA85.ev rfl) (evc _ _)) rfl rfl (by decide) fun a86 hA87 => ?_; clear hA85 a84
 have hd88 : ¬ ((((z : Int)).tmod 4) = 0) := (by omega)
 rw [decide_eq_false hd88] at hA87
 refine st hA87 (op_assign rfl (hA87.ev rfl)) rfl rfl (by decide) fun a89 hA90 => ?_; clear hA87 a86
 refine wl_nil ?_
 refine then_n ?_
 refine c_false hA90 rfl ?_
 refine c_seq ?_
 have hA91 := hA90.as [(12, (Value.int .i64 (((q : Int)).tmod 20))), (11, (bptr b22 0)), (5, (bptr b4 0)), (1, (Value.int .u8 (x : Int))), (2, (Value.int .u8 (z : Int))), (3, (Value.int .u8 (y : Int)))] rfl; clear hA90
 refine c_region ?_
 refine st hA91 (op_move rfl (hA91.ev rfl)) rfl rfl (by decide) fun a92 hA93 => ?_; clear hA91 a89
 refine st hA93 (op_rem rfl (hA93.ev rfl) (evc _ _) (by omega)) rfl rfl (by decide) fun a94 hA95 => ?_; clear hA93 a92
 refine st hA95 (op_eql rfl (hA95.ev rfl) (evc _ _)) rfl rfl (by decide) fun a96 hA97 => ?_; clear hA95 a94
 have hd98 : ¬ ((((z : Int)).tmod 4) = 1) := (by omega)
 rw [decide_eq_false hd98] at hA97
 refine st hA97 (op_assign rfl (hA97.ev rfl)) rfl rfl (by decide) fun a99 hA100 => ?_; clear hA97 a96
 refine wl_nil ?_
 refine then_n ?_
 refine c_false hA100 rfl ?_
 refine c_seq ?_
 refine c_region ?_
 refine st hA100 (op_field rfl fd_26_3 (hA100.ev rfl)) rfl rfl (by decide) fun a101 hA102 => ?_; clear hA100 a99
 refine st hA102 (op_load1 rfl ty_24 (hA102.ev rfl) (hS72.bk 2 rfl) rfl) rfl rfl (by decide) fun a103 hA104 => ?_; clear hA102 a101
 refine st hA104 (op_lenS rfl un_24 (hA104.ev rfl) (SlAt.of_row (hS72.ok_row 0 rfl))) rfl rfl (by decide) fun a105 hA106 => ?_; clear hA104 a103
 refine st hA106 (op_gtr rfl (hA106.ev rfl) (evc _ _)) rfl rfl (by decide) fun a107 hA108 => ?_; clear hA106 a105
 have hd109 : 0 < (d.tols.length : Int) := (by omega)
 rw [decide_eq_true hd109] at hA108
 refine st hA108 (op_assign rfl (hA108.ev rfl)) rfl rfl (by decide) fun a110 hA111 => ?_; clear hA108 a107
 refine wl_nil ?_
 refine then_n ?_
 refine c_true hA111 rfl ?_
 refine c_seq ?_
 have hA112 := hA111.as [(12, (Value.int .i64 (((q : Int)).tmod 20))), (11, (bptr b22 0)), (5, (bptr b4 0)), (1, (Value.int .u8 (x : Int))), (2, (Value.int .u8 (z : Int))), (3, (Value.int .u8 (y : Int)))] rfl; clear hA111
 have hA113 := hA112.as [(12, (Value.int .i64 (((q : Int)).tmod 20))), (11, (bptr b22 0)), (5, (bptr b4 0)), (1, (Value.int .u8 (x : Int))), (2, (Value.int .u8 (z : Int))), (3, (Value.int .u8 (y : Int)))] rfl; clear hA112
 refine c_drawV mixed hA113 hS72 8 [[], [0], [], [2], [], [4], [5], [3, 6]] [(fun (vs114 : Nat → Value) (v_ : Value) (rs_ : List Res) => v_ = (bptr b22 3) ∧ rs_ = []), (fun (vs114 : Nat → Value) (v_ : Value) (rs_ : List Res) => v_ = v64 ∧ rs_ = []), (fun (vs114 : Nat → Value) (v_ : Value) (rs_ : List Res) => v_ = (Value.int .u8 (y : Int)) ∧ rs_ = []), (fun (vs114 : Nat → Value) (v_ : Value) (rs_ : List Res) => v_ = (Value.int .i64 (y : Int)) ∧ rs_ = []), (fun (vs114 : Nat → Value) (v_ : Value) (rs_ : List Res) => v_ = (bptr b22 3) ∧ rs_ = []), (fun (vs114 : Nat → Value) (v_ : Value) (rs_ : List Res) => v_ = v64 ∧ rs_ = []), (fun (vs114 : Nat → Value) (v_ : Value) (rs_ : List Res) => v_ = (Value.int .i64 (d.tols.length : Int)) ∧ rs_ = []), (fun (vs114 : Nat → Value) (v_ : Value) (rs_ : List Res) => v_ = (Value.int .i64 (((y : Int)).tmod (d.tols.length : Int))) ∧ rs_ = [])] (by decide +kernel) (by decide +kernel) rfl rfl ⟨(fun _ _ _ _ _ h_ => h_), (fun _ _ _ _ _ h_ => h_), (fun _ _ _ _ _ h_ => h_), (fun _ _ _ _ _ h_ => h_), (fun _ _ _ _ _ h_ => h_), (fun _ _ _ _ _ h_ => h_), (fun _ _ _ _ _ h_ => h_), (fun _ _ _ _ _ h_ => h_), trivial⟩ ?_ ?_
 ·skip
  refine ⟨fun a w vs114 hA hS hd => ?_, ?_⟩
  ·skip
   exact opG_of rfl (vv (op_field rfl fd_26_3 (hA.ev rfl)) (And.intro rfl rfl))
  refine ⟨fun a w vs114 hA hS hd => ?_, ?_⟩
  ·skip
   obtain ⟨e0, rs0, hy0, hp0⟩ := hd 0 (by decide)
   obtain ⟨hv0, hr0⟩ := hy0; subst hr0
   rw [hv0] at e0
   exact opG_of rfl (vv (op_load1 rfl ty_24 (tmp_ev (slot_ev e0 rfl)) (hS.bk 2 rfl) rfl) (And.intro rfl rfl))
  refine ⟨fun a w vs114 hA hS hd => ?_, ?_⟩
  ·skip
   exact opG_of rfl (vv (op_move rfl (hA.ev rfl)) (And.intro rfl rfl))
  refine ⟨fun a w vs114 hA hS hd => ?_, ?_⟩
  ·skip
   obtain ⟨e2, rs2, hy2, hp2⟩ := hd 2 (by decide)
   obtain ⟨hv2, hr2⟩ := hy2; subst hr2
   rw [hv2] at e2
   exact opG_of rfl (vv (op_conv un_5 un_3 rfl (tmp_ev (slot_ev e2 rfl)) (v := (y : Int)) (wrap_i64 (by omega) (by omega))) (And.intro rfl rfl))
  refine ⟨fun a w vs114 hA hS hd => ?_, ?_⟩
  ·skip
   exact opG_of rfl (vv (op_field rfl fd_26_3 (hA.ev rfl)) (And.intro rfl rfl))
  refine ⟨fun a w vs114 hA hS hd => ?_, ?_⟩
  ·skip
   obtain ⟨e4, rs4, hy4, hp4⟩ := hd 4 (by decide)
   obtain ⟨hv4, hr4⟩ := hy4; subst hr4
   rw [hv4] at e4
   exact opG_of rfl (vv (op_load1 rfl ty_24 (tmp_ev (slot_ev e4 rfl)) (hS.bk 2 rfl) rfl) (And.intro rfl rfl))
  refine ⟨fun a w vs114 hA hS hd => ?_, ?_⟩
  ·skip
   obtain ⟨e5, rs5, hy5, hp5⟩ := hd 5 (by decide)
   obtain ⟨hv5, hr5⟩ := hy5; subst hr5
   rw [hv5] at e5
   exact opG_of rfl (vv (op_lenS rfl un_24 (tmp_ev (slot_ev e5 rfl)) (SlAt.of_row (hS.ok_row 0 rfl))) (And.intro rfl rfl))
  refine ⟨fun a w vs114 hA hS hd => ?_, ?_⟩
  ·skip
   obtain ⟨e3, rs3, hy3, hp3⟩ := hd 3 (by decide)
   obtain ⟨hv3, hr3⟩ := hy3; subst hr3
   rw [hv3] at e3
   obtain ⟨e6, rs6, hy6, hp6⟩ := hd 6 (by decide)
   obtain ⟨hv6, hr6⟩ := hy6; subst hr6
   rw [hv6] at e6
   exact opG_of rfl (vv (op_rem rfl (tmp_ev (slot_ev e3 rfl)) (tmp_ev (slot_ev e6 rfl)) (by omega)) (And.intro rfl rfl))
  trivial
 intro a115 w116 vs114 rsf120 hA117 hH119 hS118; clear hA113 hS72
 obtain ⟨hs_0, hy_0⟩ := hH119 0 (by decide)
 obtain ⟨hv_0, hr_0⟩ := hy_0
 obtain ⟨hs_1, hy_1⟩ := hH119 1 (by decide)
 obtain ⟨hv_1, hr_1⟩ := hy_1
 obtain ⟨hs_2, hy_2⟩ := hH119 2 (by decide)
 obtain ⟨hv_2, hr_2⟩ := hy_2
 obtain ⟨hs_3, hy_3⟩ := hH119 3 (by decide)
 obtain ⟨hv_3, hr_3⟩ := hy_3
 obtain ⟨hs_4, hy_4⟩ := hH119 4 (by decide)
 obtain ⟨hv_4, hr_4⟩ := hy_4
 obtain ⟨hs_5, hy_5⟩ := hH119 5 (by decide)
 obtain ⟨hv_5, hr_5⟩ := hy_5
 obtain ⟨hs_6, hy_6⟩ := hH119 6 (by decide)
 obtain ⟨hv_6, hr_6⟩ := hy_6
 obtain ⟨hs_7, hy_7⟩ := hH119 7 (by decide)
 obtain ⟨hv_7, hr_7⟩ := hy_7
 have hS121 : Sep NoB w w116 [(row v64 62 2 d.tols.length (vpairs (d.tols.zip rlv))), (row v42 44 2 d.lots.length (pairs d.lots)), (blk b22 26 [v42, rs, (Value.int .i64 d.spread), v64]), (blk b4 26 [rl, rs, (Value.int .i64 d.spread), rb]), (rndR false rl rs rb rlv d)] := by rw [show catR rsf120 0 8 = ([] : List Res) by (try simp only [catR, hr_0, hr_1, hr_2, hr_3, hr_4, hr_5, hr_6, hr_7]); (try rfl)] at hS118; exact hS118
 rw [hv_1] at hs_1
 have hA122 : Fr 201 [] [(92, v64), (12, (Value.int .i64 (((q : Int)).tmod 20))), (11, (bptr b22 0)), (5, (bptr b4 0)), (1, (Value.int .u8 (x : Int))), (2, (Value.int .u8 (z : Int))), (3, (Value.int .u8 (y : Int)))] a115 := hA117.add (slot_ev hs_1 rfl); clear hA117
 rw [hv_7] at hs_7
 have hA123 : Fr 201 [] [(98, (Value.int .i64 (((y : Int)).tmod (d.tols.length : Int)))), (92, v64), (12, (Value.int .i64 (((q : Int)).tmod 20))), (11, (bptr b22 0)), (5, (bptr b4 0)), (1, (Value.int .u8 (x : Int))), (2, (Value.int .u8 (z : Int))), (3, (Value.int .u8 (y : Int)))] a115 := hA122.add (slot_ev hs_7 rfl); clear hA122
 clear hH119 hS118 hs_0 hs_1 hs_2 hs_3 hs_4 hs_5 hs_6 hs_7
 clear hr_0
 clear hv_0
 clear hr_1
 clear hv_1
 clear hr_2
 clear hv_2
 clear hr_3
 clear hv_3
 clear hr_4
 clear hv_4
 clear hr_5
 clear hv_5
 clear hr_6
 clear hv_6
 clear hr_7
 clear hv_7
 refine st hA123 (op_indexS rfl un_24 ty_62 (hA123.ev rfl) (i := (((y : Int)).tmod (d.tols.length : Int)).toNat) ((hA123.ev rfl).trans (int_nat (by omega))) (SlAt.of_row (hS121.ok_row 0 rfl)) (by decide) (by omega)) rfl rfl (by decide) fun a124 hA125 => ?_; clear hA123 a115
 refine st hA125 (op_assign rfl (hA125.ev rfl)) rfl rfl (by decide) fun a126 hA127 => ?_; clear hA125 a124
 refine wl_nil ?_
 refine then_n ?_
 refine c_seq ?_
 refine c_region ?_
 refine st hA127 (op_move rfl (hA127.ev rfl)) rfl rfl (by decide) fun a128 hA129 => ?_; clear hA127 a126
 refine st hA129 (op_rem rfl (hA129.ev rfl) (evc _ _) (by omega)) rfl rfl (by decide) fun a130 hA131 => ?_; clear hA129 a128
 refine st hA131 (op_eql rfl (hA131.ev rfl) (evc _ _)) rfl rfl (by decide) fun a132 hA133 => ?_; clear hA131 a130
 have hd134 : (((z : Int)).tmod 4) = 2 := (by omega)
 rw [decide_eq_true hd134] at hA133
 refine wl_nil ?_
 refine then_n ?_
 refine c_true hA133 rfl ?_
 have hA135 := hA133.as [(14, (eptr v64 ((((y : Int)).tmod (d.tols.length : Int)).toNat * 2))), (12, (Value.int .i64 (((q : Int)).tmod 20))), (11, (bptr b22 0)), (5, (bptr b4 0)), (1, (Value.int .u8 (x : Int)))] rfl; clear hA133
 refine c_region ?_
 refine st hA135 (op_move rfl (hA135.ev rfl)) rfl rfl (by decide) fun a136 hA137 => ?_; clear hA135 a132
 refine st hA137 (op_move rfl (hA137.ev rfl)) rfl rfl (by decide) fun a138 hA139 => ?_; clear hA137 a136
 refine st hA139 (op_nilCheckE rfl (hA139.ev rfl) (SlAt.of_row (hS121.ok_row 0 rfl)) (by rw [((SlAt.of_row (hS121.ok_row 0 rfl))).1]; first | omega | (simp only [List.length_set]; omega))) rfl rfl (by decide) fun a140 hA141 => ?_; clear hA139 a138
 refine st hA141 (op_fieldS rfl fd_62_0 (hA141.ev rfl) (SlAt.of_row (hS121.ok_row 0 rfl)) (by rw [((SlAt.of_row (hS121.ok_row 0 rfl))).1]; first | omega | (simp only [List.length_set]; omega))) rfl rfl (by decide) fun a142 hA143 => ?_; clear hA141 a140
 refine st hA143 (op_load1E rfl ty_3 (hA143.ev rfl) (SlAt.of_row (hS121.ok_row 0 rfl)) (labs_at0 (rnd_at (hS121.ok 4 _ rfl)).lvl (by omega))) rfl rfl (by decide) fun a144 hA145 => ?_; clear hA143 a142
 refine st hA145 (op_move rfl (hA145.ev rfl)) rfl rfl (by decide) fun a146 hA147 => ?_; clear hA145 a144
 refine st hA147 (op_add rfl (hA147.ev rfl) (hA147.ev rfl) (by omega) (by omega)) rfl rfl (by decide) fun a148 hA149 => ?_; clear hA147 a146
 refine st hA149 (op_min rfl (evc _ _) (hA149.ev rfl)) rfl rfl (by decide) fun a150 hA151 => ?_; clear hA149 a148
 refine st hA151 (op_nilCheckE rfl (hA151.ev rfl) (SlAt.of_row (hS121.ok_row 0 rfl)) (by rw [((SlAt.of_row (hS121.ok_row 0 rfl))).1]; first | omega | (simp only [List.length_set]; omega))) rfl rfl (by decide) fun a152 hA153 => ?_; clear hA151 a150
 refine st hA153 (op_fieldS rfl fd_62_0 (hA153.ev rfl) (SlAt.of_row (hS121.ok_row 0 rfl)) (by rw [((SlAt.of_row (hS121.ok_row 0 rfl))).1]; first | omega | (simp only [List.length_set]; omega))) rfl rfl (by decide) fun a154 hA155 => ?_; clear hA153 a152
 refine sts hA155 (op_storeE hS121 rfl ty_3 (hA155.ev rfl) (hA155.ev rfl) (i := 0) rfl (vs := [(Value.int .i64 (min 100 ((d.tols.getD ((((y : Int)).tmod (d.tols.length : Int)).toNat) 0) + (((q : Int)).tmod 20))))]) rfl rfl rfl (by first | (simp only [pairs_length, List.length_set]; omega) | (simp only [vpairs_length, List.length_zip, List.length_set]; omega) | (simp only [ints, List.length_map, List.length_set]; omega)) (by decide)) rfl rfl ?_
 intro _ w156 hS157 hA159; have hS158 := hS157.row_say (i := 0) rfl (n' := d.tols.length) (xs' := (vpairs ((d.tols.set ((((y : Int)).tmod (d.tols.length : Int)).toNat) (min 100 ((d.tols.getD ((((y : Int)).tmod (d.tols.length : Int)).toNat) 0) + (((q : Int)).tmod 20)))).zip rlv))) rfl (labs_set0 (rnd_at (hS121.ok 4 _ rfl)).lvl (by omega)); clear hS157 hA155 hS121
 refine wl_nil ?_
 refine blk_n ?_
 refine then_n ?_
 refine c_seq ?_
 have hA160 := hA159.as [(11, (bptr b22 0)), (5, (bptr b4 0)), (1, (Value.int .u8 (x : Int)))] rfl; clear hA159
 refine c_region ?_
 refine st hA160 (op_loadA rfl ty_26 (hA160.ev rfl) (hS158.bk 3 rfl) (l := [rl, rs, (Value.int .i64 d.spread), rb]) rfl rfl) rfl rfl (by decide) fun a161 hA162 => ?_; clear hA160 a154
 refine st hA162 (op_move rfl (hA162.ev rfl)) rfl rfl (by decide) fun a163 hA164 => ?_; clear hA162 a161
 refine stw hA164 (op_call rfl en_36 (ev2 (hA164.ev rfl) (hA164.ev rfl)) (chosen_ok rl rs rb rlv d _ (rnd_at (hS158.ok 4 _ rfl)) x (by omega))) rfl rfl (by decide) ?_
 rintro a165 v171 w167 ⟨hE168, hO169⟩ hA166; have hS170 := hS158.new_row hE168 hO169; clear hE168 hO169 hA164 hS158 a163
 refine st hA166 (op_assign rfl (hA166.ev rfl)) rfl rfl (by decide) fun a172 hA173 => ?_; clear hA166 a165
 refine wl_nil ?_
 refine then_n ?_
 refine c_seq ?_
 refine c_region ?_
 refine st hA173 (op_loadA rfl ty_26 (hA173.ev rfl) (hS170.bk 4 rfl) (l := [rl, rs, (Value.int .i64 d.spread), rb]) rfl rfl) rfl rfl (by decide) fun a174 hA175 => ?_; clear hA173 a172
 refine stw hA175 (op_call rfl en_20 (ev1 (hA175.ev rfl)) (Round_ok rl rs rb rlv d _ (rnd_at (hS170.ok 5 _ rfl)) hth)) rfl rfl (by decide) ?_
 rintro a176 _ w178 ⟨vl179, vs180, vb181, lv182, rfl, hT183⟩ hA177; have hS184 := hS170.callS hT183 rfl; clear hT183 hA175 hS170 a174
 refine st hA177 (op_move rfl (hA177.ev rfl)) rfl rfl (by decide) fun a185 hA186 => ?_; clear hA177 a176
 refine stw hA186 (op_call rfl en_22 (ev1 (hA186.ev rfl)) (list_ok (chosenF d.tols.length x) _ _ (SlAt.of_row (hS184.ok_row 1 rfl)) (Nat.le_trans (chosenF_len _ _) (by omega)))) rfl rfl (by decide) ?_
 rintro a187 v193 w189 ⟨hE190, hO191⟩ hA188; have hS192 := hS184.new_row hE190 hO191; clear hE190 hO191 hA186 hS184 a185
 refine stw hA188 (op_call rfl en_21 (ev2 (hA188.ev rfl) (hA188.ev rfl)) (by have h := (explains_ok vl179 vs180 vb181 lv182 d _ (rnd_at (hS192.ok 1 _ rfl)) _ (chosenF d.tols.length x) (SlAt.of_row (hS192.ok_row 0 rfl)) (Nat.le_trans (chosenF_len _ _) (by omega))); rw [he] at h; exact h)) rfl rfl (by decide) ?_
 rintro a194 _ w196 ⟨rfl, hE197⟩ hA195; have hS198 := hS192.step hE197; clear hE197 hA188 hS192 a187
 refine st hA195 (op_move rfl (hA195.ev rfl)) rfl rfl (by decide) fun a199 hA200 => ?_; clear hA195 a194
 refine st hA200 (op_extract rfl (hA200.ev rfl) rfl) rfl rfl (by decide) fun a201 hA202 => ?_; clear hA200 a199
 refine st hA202 (op_extract rfl (hA202.ev rfl) rfl) rfl rfl (by decide) fun a203 hA204 => ?_; clear hA202 a201
 refine st hA204 (op_assign rfl (hA204.ev rfl)) rfl rfl (by decide) fun a205 hA206 => ?_; clear hA204 a203
 refine st hA206 (op_assign rfl (hA206.ev rfl)) rfl rfl (by decide) fun a207 hA208 => ?_; clear hA206 a205
 refine wl_nil ?_
 refine then_n ?_
 refine c_seq ?_
 have hA209 := hA208.as [(17, (Value.int .i64 0)), (16, (Value.bool ba)), (15, v171), (11, (bptr b22 0)), (5, (bptr b4 0))] rfl; clear hA208
 have hS210 := ((hS198.row_say (i := 4) rfl (n' := (kindTol d ((((y : Int)).tmod (d.tols.length : Int)).toNat) (((q : Int)).tmod 20)).lots.length) (xs' := pairs (kindTol d ((((y : Int)).tmod (d.tols.length : Int)).toNat) (((q : Int)).tmod 20)).lots) rfl rfl).row_say (i := 3) rfl (n' := (kindTol d ((((y : Int)).tmod (d.tols.length : Int)).toNat) (((q : Int)).tmod 20)).tols.length) (xs' := vpairs ((kindTol d ((((y : Int)).tmod (d.tols.length : Int)).toNat) (((q : Int)).tmod 20)).tols.zip rlv)) (by simp [kindTol]) rfl); clear hS198
 refine c_region ?_
 refine st hA209 (op_loadA rfl ty_26 (hA209.ev rfl) (hS210.bk 5 rfl) (l := [v42, rs, (Value.int .i64 d.spread), v64]) rfl rfl) rfl rfl (by decide) fun a211 hA212 => ?_; clear hA209 a207
 refine stw hA212 (op_call rfl en_20 (ev1 (hA212.ev rfl)) (Round_ok v42 rs v64 rlv (kindTol d ((((y : Int)).tmod (d.tols.length : Int)).toNat) (((q : Int)).tmod 20)) _ (show RoundAt _ v42 rs v64 rlv (kindTol d ((((y : Int)).tmod (d.tols.length : Int)).toNat) (((q : Int)).tmod 20)) from ⟨SlAt.of_row (hS210.ok_row 4 rfl), (rnd_at (hS210.ok 7 _ rfl)).samples, SlAt.of_row (hS210.ok_row 3 rfl), (rnd_at (hS210.ok 7 _ rfl)).rds, (by first | exact hlv0 | (simp only [kindTol, kindRd, List.length_set]; exact hlv0)), (by first | exact hrl8 | (simp only [kindTol, kindRd, List.length_set]; exact hrl8))⟩) (valid_thin hVM))) rfl rfl (by decide) ?_
 rintro a213 _ w215 ⟨vl216, vs217, vb218, lv219, rfl, hT220⟩ hA214; have hS221 := hS210.callS hT220 rfl; clear hT220 hA212 hS210 a211
 refine st hA214 (op_move rfl (hA214.ev rfl)) rfl rfl (by decide) fun a222 hA223 => ?_; clear hA214 a213
 refine stw hA223 (op_call rfl en_22 (ev1 (hA223.ev rfl)) (list_ok (chosenF d.tols.length x) _ _ (SlAt.of_row (hS221.ok_row 3 rfl)) (Nat.le_trans (chosenF_len _ _) (by omega)))) rfl rfl (by decide) ?_
 rintro a224 v230 w226 ⟨hE227, hO228⟩ hA225; have hS229 := hS221.new_row hE227 hO228; clear hE227 hO228 hA223 hS221 a222
 refine stw hA225 (op_call rfl en_21 (ev2 (hA225.ev rfl) (hA225.ev rfl)) (by have h := (explains_ok vl216 vs217 vb218 lv219 (kindTol d ((((y : Int)).tmod (d.tols.length : Int)).toNat) (((q : Int)).tmod 20)) _ (rnd_at (hS229.ok 1 _ rfl)) _ (chosenF d.tols.length x) (SlAt.of_row (hS229.ok_row 0 rfl)) (Nat.le_trans (chosenF_len _ _) (by omega))); rw [heM] at h; exact h)) rfl rfl (by decide) ?_
 rintro a231 _ w233 ⟨rfl, hE234⟩ hA232; have hS235 := hS229.step hE234; clear hE234 hA225 hS229 a224
 refine st hA232 (op_move rfl (hA232.ev rfl)) rfl rfl (by decide) fun a236 hA237 => ?_; clear hA232 a231
 refine st hA237 (op_extract rfl (hA237.ev rfl) rfl) rfl rfl (by decide) fun a238 hA239 => ?_; clear hA237 a236
 refine st hA239 (op_extract rfl (hA239.ev rfl) rfl) rfl rfl (by decide) fun a240 hA241 => ?_; clear hA239 a238
 refine st hA241 (op_assign rfl (hA241.ev rfl)) rfl rfl (by decide) fun a242 hA243 => ?_; clear hA241 a240
 refine st hA243 (op_assign rfl (hA243.ev rfl)) rfl rfl (by decide) fun a244 hA245 => ?_; clear hA243 a242
 refine wl_nil ?_
 refine then_n ?_
 refine c_seq ?_
 have hA246 := hA245.as [(19, (Value.int .i64 0)), (18, (Value.bool bb)), (17, (Value.int .i64 0)), (16, (Value.bool ba)), (11, (bptr b22 0)), (5, (bptr b4 0))] rfl; clear hA245
 refine c_region ?_
 refine st hA246 (op_loadA rfl ty_26 (hA246.ev rfl) (hS235.bk 8 rfl) (l := [rl, rs, (Value.int .i64 d.spread), rb]) rfl rfl) rfl rfl (by decide) fun a247 hA248 => ?_; clear hA246 a244
 refine stw hA248 (op_call rfl en_20 (ev1 (hA248.ev rfl)) (Round_ok rl rs rb rlv d _ (rnd_at (hS235.ok 9 _ rfl)) hth)) rfl rfl (by decide) ?_
 rintro a249 _ w251 ⟨vl252, vs253, vb254, lv255, rfl, hT256⟩ hA250; have hS257 := hS235.callS hT256 rfl; clear hT256 hA248 hS235 a247
 refine stw hA250 (op_call rfl en_29 (ev1 (hA250.ev rfl)) (by have h := (least_fn vl252 vs253 vb254 lv255 d _ (rnd_at (hS257.ok 0 _ rfl))); rw [hl] at h; exact h)) rfl rfl (by decide) ?_
 rintro a258 _ w260 ⟨u263, rfl, hT261⟩ hA259; clear hA250 a249
 have hS262 : Sep NoB w w260 [(osl u263 1 La.length (ints La)), (rndR true vl252 vs253 vb254 lv255 d), (row v230 3 1 ((chosenF d.tols.length x).length) (ints (chosenF d.tols.length x))), (rndR true vl216 vs217 vb218 lv219 (kindTol d ((((y : Int)).tmod (d.tols.length : Int)).toNat) (((q : Int)).tmod 20))), (row v193 3 1 ((chosenF d.tols.length x).length) (ints (chosenF d.tols.length x))), (rndR true vl179 vs180 vb181 lv182 d), (row v171 3 1 ((chosenF d.tols.length x).length) (ints (chosenF d.tols.length x))), (row v64 62 2 ((kindTol d ((((y : Int)).tmod (d.tols.length : Int)).toNat) (((q : Int)).tmod 20)).tols.length) (vpairs ((kindTol d ((((y : Int)).tmod (d.tols.length : Int)).toNat) (((q : Int)).tmod 20)).tols.zip rlv))), (row v42 44 2 ((kindTol d ((((y : Int)).tmod (d.tols.length : Int)).toNat) (((q : Int)).tmod 20)).lots.length) (pairs ((kindTol d ((((y : Int)).tmod (d.tols.length : Int)).toNat) (((q : Int)).tmod 20)).lots))), (blk b22 26 [v42, rs, (Value.int .i64 d.spread), v64]), (blk b4 26 [rl, rs, (Value.int .i64 d.spread), rb]), (rndR false rl rs rb rlv d)] := hS257.callS hT261 rfl; clear hT261 hS257
 refine st hA259 (op_move rfl (hA259.ev rfl)) rfl rfl (by decide) fun a264 hA265 => ?_; clear hA259 a258
 refine st hA265 (op_extract rfl (hA265.ev rfl) rfl) rfl rfl (by decide) fun a266 hA267 => ?_; clear hA265 a264
 refine st hA267 (op_extract rfl (hA267.ev rfl) rfl) rfl rfl (by decide) fun a268 hA269 => ?_; clear hA267 a266
 refine st hA269 (op_assign rfl (hA269.ev rfl)) rfl rfl (by decide) fun a270 hA271 => ?_; clear hA269 a268
 refine st hA271 (op_assign rfl (hA271.ev rfl)) rfl rfl (by decide) fun a272 hA273 => ?_; clear hA271 a270
 refine wl_nil ?_
 refine then_n ?_
 refine c_seq ?_
 have hA274 := hA273.as [(21, (Value.int .i64 0)), (20, u263), (19, (Value.int .i64 0)), (18, (Value.bool bb)), (17, (Value.int .i64 0)), (16, (Value.bool ba)), (11, (bptr b22 0))] rfl; clear hA273
 refine c_region ?_
 refine st hA274 (op_loadA rfl ty_26 (hA274.ev rfl) (hS262.bk 9 rfl) (l := [v42, rs, (Value.int .i64 d.spread), v64]) rfl rfl) rfl rfl (by decide) fun a275 hA276 => ?_; clear hA274 a272
 refine stw hA276 (op_call rfl en_20 (ev1 (hA276.ev rfl)) (Round_ok v42 rs v64 rlv (kindTol d ((((y : Int)).tmod (d.tols.length : Int)).toNat) (((q : Int)).tmod 20)) _ (show RoundAt _ v42 rs v64 rlv (kindTol d ((((y : Int)).tmod (d.tols.length : Int)).toNat) (((q : Int)).tmod 20)) from ⟨SlAt.of_row (hS262.ok_row 8 rfl), (rnd_at (hS262.ok 11 _ rfl)).samples, SlAt.of_row (hS262.ok_row 7 rfl), (rnd_at (hS262.ok 11 _ rfl)).rds, (by first | exact hlv0 | (simp only [kindTol, kindRd, List.length_set]; exact hlv0)), (by first | exact hrl8 | (simp only [kindTol, kindRd, List.length_set]; exact hrl8))⟩) (valid_thin hVM))) rfl rfl (by decide) ?_
 rintro a277 _ w279 ⟨vl280, vs281, vb282, lv283, rfl, hT284⟩ hA278; have hS285 := hS262.callS hT284 rfl; clear hT284 hA276 hS262 a275
 refine stw hA278 (op_call rfl en_29 (ev1 (hA278.ev rfl)) (by have h := (least_fn vl280 vs281 vb282 lv283 (kindTol d ((((y : Int)).tmod (d.tols.length : Int)).toNat) (((q : Int)).tmod 20)) _ (rnd_at (hS285.ok 0 _ rfl))); rw [hlM] at h; exact h)) rfl rfl (by decide) ?_
 rintro a286 _ w288 ⟨u291, rfl, hT289⟩ hA287; clear hA278 a277
 have hS290 : Sep NoB w w288 [(osl u291 1 Lb.length (ints Lb)), (rndR true vl280 vs281 vb282 lv283 (kindTol d ((((y : Int)).tmod (d.tols.length : Int)).toNat) (((q : Int)).tmod 20))), (osl u263 1 La.length (ints La)), (rndR true vl252 vs253 vb254 lv255 d), (row v230 3 1 ((chosenF d.tols.length x).length) (ints (chosenF d.tols.length x))), (rndR true vl216 vs217 vb218 lv219 (kindTol d ((((y : Int)).tmod (d.tols.length : Int)).toNat) (((q : Int)).tmod 20))), (row v193 3 1 ((chosenF d.tols.length x).length) (ints (chosenF d.tols.length x))), (rndR true vl179 vs180 vb181 lv182 d), (row v171 3 1 ((chosenF d.tols.length x).length) (ints (chosenF d.tols.length x))), (row v64 62 2 ((kindTol d ((((y : Int)).tmod (d.tols.length : Int)).toNat) (((q : Int)).tmod 20)).tols.length) (vpairs ((kindTol d ((((y : Int)).tmod (d.tols.length : Int)).toNat) (((q : Int)).tmod 20)).tols.zip rlv))), (row v42 44 2 ((kindTol d ((((y : Int)).tmod (d.tols.length : Int)).toNat) (((q : Int)).tmod 20)).lots.length) (pairs ((kindTol d ((((y : Int)).tmod (d.tols.length : Int)).toNat) (((q : Int)).tmod 20)).lots))), (blk b22 26 [v42, rs, (Value.int .i64 d.spread), v64]), (blk b4 26 [rl, rs, (Value.int .i64 d.spread), rb]), (rndR false rl rs rb rlv d)] := hS285.callS hT289 rfl; clear hT289 hS285
 refine st hA287 (op_move rfl (hA287.ev rfl)) rfl rfl (by decide) fun a292 hA293 => ?_; clear hA287 a286
 refine st hA293 (op_extract rfl (hA293.ev rfl) rfl) rfl rfl (by decide) fun a294 hA295 => ?_; clear hA293 a292
 refine st hA295 (op_extract rfl (hA295.ev rfl) rfl) rfl rfl (by decide) fun a296 hA297 => ?_; clear hA295 a294
 refine st hA297 (op_assign rfl (hA297.ev rfl)) rfl rfl (by decide) fun a298 hA299 => ?_; clear hA297 a296
 refine st hA299 (op_assign rfl (hA299.ev rfl)) rfl rfl (by decide) fun a300 hA301 => ?_; clear hA299 a298
 refine wl_nil ?_
 refine then_n ?_
 refine c_seq ?_
 have hA302 := hA301.as [(23, (Value.int .i64 0)), (22, u291), (21, (Value.int .i64 0)), (20, u263), (19, (Value.int .i64 0)), (18, (Value.bool bb)), (17, (Value.int .i64 0)), (16, (Value.bool ba))] rfl; clear hA301
 refine c_region ?_
 refine st hA302 (op_move rfl (hA302.ev rfl)) rfl rfl (by decide) fun a303 hA304 => ?_; clear hA302 a300
 refine st hA304 (op_eql rfl (hA304.ev rfl) (evc _ _)) rfl rfl (by decide) fun a305 hA306 => ?_; clear hA304 a303
 refine st hA306 (op_move rfl (hA306.ev rfl)) rfl rfl (by decide) fun a307 hA308 => ?_; clear hA306 a305
 refine stg hA308 (op_move rfl (hA308.ev rfl)) rfl rfl rfl rfl (by decide) fun a309 hA310 => ?_; clear hA308 a307
 refine stg hA310 (op_eql rfl (hA310.ev rfl) (evc _ _)) rfl rfl rfl rfl (by decide) fun a311 hA312 => ?_; clear hA310 a309
 refine st hA312 (op_pick_t rfl (hA312.ev rfl) (hA312.ev rfl)) rfl rfl (by decide) fun a313 hA314 => ?_; clear hA312 a311
 refine st hA314 (op_move rfl (hA314.ev rfl)) rfl rfl (by decide) fun a315 hA316 => ?_; clear hA314 a313
 refine stg hA316 (op_move rfl (hA316.ev rfl)) rfl rfl rfl rfl (by decide) fun a317 hA318 => ?_; clear hA316 a315
 refine stg hA318 (op_eql rfl (hA318.ev rfl) (evc _ _)) rfl rfl rfl rfl (by decide) fun a319 hA320 => ?_; clear hA318 a317
 refine st hA320 (op_pick_t rfl (hA320.ev rfl) (hA320.ev rfl)) rfl rfl (by decide) fun a321 hA322 => ?_; clear hA320 a319
 refine st hA322 (op_move rfl (hA322.ev rfl)) rfl rfl (by decide) fun a323 hA324 => ?_; clear hA322 a321
 refine stg hA324 (op_move rfl (hA324.ev rfl)) rfl rfl rfl rfl (by decide) fun a325 hA326 => ?_; clear hA324 a323
 refine stg hA326 (op_eql rfl (hA326.ev rfl) (evc _ _)) rfl rfl rfl rfl (by decide) fun a327 hA328 => ?_; clear hA326 a325
 refine st hA328 (op_pick_t rfl (hA328.ev rfl) (hA328.ev rfl)) rfl rfl (by decide) fun a329 hA330 => ?_; clear hA328 a327
 refine st hA330 (op_move rfl (hA330.ev rfl)) rfl rfl (by decide) fun a331 hA332 => ?_; clear hA330 a329
 refine stg hA332 (op_move rfl (hA332.ev rfl)) rfl rfl rfl rfl (by decide) fun a333 hA334 => ?_; clear hA332 a331
 refine stg hA334 (op_not rfl (hA334.ev rfl)) rfl rfl rfl rfl (by decide) fun a335 hA336 => ?_; clear hA334 a333
 refine stg hA336 (op_move rfl (hA336.ev rfl)) rfl rfl rfl rfl (by decide) fun a337 hA338 => ?_; clear hA336 a335
 rcases Bool.eq_false_or_eq_true (ba) with hb339 | hb339
 ·skip
  rw [hb339] at hA338
  refine stg hA338 (op_move rfl (hA338.ev rfl)) rfl rfl rfl rfl (by decide) fun a340 hA341 => ?_; clear hA338 a337
  have hd342 : bb = true := (hab hb339)
  rw [hd342] at hA341
  refine stg hA341 (op_pick_f rfl (hA341.ev rfl) (hA341.ev rfl)) rfl rfl rfl rfl (by decide) fun a343 hA344 => ?_; clear hA341 a340
  refine st hA344 (op_pick_t rfl (hA344.ev rfl) (hA344.ev rfl)) rfl rfl (by decide) fun a345 hA346 => ?_; clear hA344 a343
  refine st hA346 (op_move rfl (hA346.ev rfl)) rfl rfl (by decide) fun a347 hA348 => ?_; clear hA346 a345
  refine stg hA348 (op_move rfl (hA348.ev rfl)) rfl rfl rfl rfl (by decide) fun a349 hA350 => ?_; clear hA348 a347
  refine stg hA350 (op_lenS rfl un_23 (hA350.ev rfl) (show SlAt _ _ _ _ _ from (hS290.ok 0 _ rfl))) rfl rfl rfl rfl (by decide) fun a351 hA352 => ?_; clear hA350 a349
  refine stg hA352 (op_move rfl (hA352.ev rfl)) rfl rfl rfl rfl (by decide) fun a353 hA354 => ?_; clear hA352 a351
  refine stg hA354 (op_lenS rfl un_23 (hA354.ev rfl) (show SlAt _ _ _ _ _ from (hS290.ok 2 _ rfl))) rfl rfl rfl rfl (by decide) fun a355 hA356 => ?_; clear hA354 a353
  refine stg hA356 (op_leq rfl (hA356.ev rfl) (hA356.ev rfl)) rfl rfl rfl rfl (by decide) fun a357 hA358 => ?_; clear hA356 a355
  have hd359 : (Lb.length : Int) ≤ (La.length : Int) := (by omega)
  rw [decide_eq_true hd359] at hA358
  refine st hA358 (op_pick_t rfl (hA358.ev rfl) (hA358.ev rfl)) rfl rfl (by decide) fun a360 hA361 => ?_; clear hA358 a357
  refine st hA361 (op_move rfl (hA361.ev rfl)) rfl rfl (by decide) fun a362 hA363 => ?_; clear hA361 a360
  refine stwg hA363 (op_call rfl en_18 ev0 (wakes_ok _)) rfl rfl rfl rfl (by decide) ?_
  rintro a364 _ w366 ⟨rfl, hE367⟩ hA365; have hS368 := hS290.step hE367; clear hE367 hA363 hS290 a362
  refine st hA365 (op_pick_t rfl (hA365.ev rfl) (hA365.ev rfl)) rfl rfl (by decide) fun a369 hA370 => ?_; clear hA365 a364
  refine st hA370 (op_assign rfl (hA370.ev rfl)) rfl rfl (by decide) fun a371 hA372 => ?_; clear hA370 a369
  refine wl_nil ?_
  refine then_n ?_
  refine c_ret ?_
  refine fin_run hA372 (.inl rfl) (run_results1 hA372 rfl (.tmp rfl)) ?_
  exact ⟨rfl, hS368.ext⟩
 ·skip
  rw [hb339] at hA338
  refine skp hA338 rfl rfl rfl rfl rfl (by decide) fun a373 hA374 => ?_; clear hA338 a337
  refine stg hA374 (op_pick_t rfl (hA374.ev rfl) (evc _ _)) rfl rfl rfl rfl (by decide) fun a375 hA376 => ?_; clear hA374 a373
  refine st hA376 (op_pick_t rfl (hA376.ev rfl) (hA376.ev rfl)) rfl rfl (by decide) fun a377 hA378 => ?_; clear hA376 a375
  refine st hA378 (op_move rfl (hA378.ev rfl)) rfl rfl (by decide) fun a379 hA380 => ?_; clear hA378 a377
  refine stg hA380 (op_move rfl (hA380.ev rfl)) rfl rfl rfl rfl (by decide) fun a381 hA382 => ?_; clear hA380 a379
  refine stg hA382 (op_lenS rfl un_23 (hA382.ev rfl) (show SlAt _ _ _ _ _ from (hS290.ok 0 _ rfl))) rfl rfl rfl rfl (by decide) fun a383 hA384 => ?_; clear hA382 a381
  refine stg hA384 (op_move rfl (hA384.ev rfl)) rfl rfl rfl rfl (by decide) fun a385 hA386 => ?_; clear hA384 a383
  refine stg hA386 (op_lenS rfl un_23 (hA386.ev rfl) (show SlAt _ _ _ _ _ from (hS290.ok 2 _ rfl))) rfl rfl rfl rfl (by decide) fun a387 hA388 => ?_; clear hA386 a385
  refine stg hA388 (op_leq rfl (hA388.ev rfl) (hA388.ev rfl)) rfl rfl rfl rfl (by decide) fun a389 hA390 => ?_; clear hA388 a387
  have hd391 : (Lb.length : Int) ≤ (La.length : Int) := (by omega)
  rw [decide_eq_true hd391] at hA390
  refine st hA390 (op_pick_t rfl (hA390.ev rfl) (hA390.ev rfl)) rfl rfl (by decide) fun a392 hA393 => ?_; clear hA390 a389
  refine st hA393 (op_move rfl (hA393.ev rfl)) rfl rfl (by decide) fun a394 hA395 => ?_; clear hA393 a392
  refine stwg hA395 (op_call rfl en_18 ev0 (wakes_ok _)) rfl rfl rfl rfl (by decide) ?_
  rintro a396 _ w398 ⟨rfl, hE399⟩ hA397; have hS400 := hS290.step hE399; clear hE399 hA395 hS290 a394
  refine st hA397 (op_pick_t rfl (hA397.ev rfl) (hA397.ev rfl)) rfl rfl (by decide) fun a401 hA402 => ?_; clear hA397 a396
  refine st hA402 (op_assign rfl (hA402.ev rfl)) rfl rfl (by decide) fun a403 hA404 => ?_; clear hA402 a401
  refine wl_nil ?_
  refine then_n ?_
  refine c_ret ?_
  refine fin_run hA404 (.inl rfl) (run_results1 hA404 rfl (.tmp rfl)) ?_
  exact ⟨rfl, hS400.ext⟩

set_option maxHeartbeats 4000000 in
theorem RoundKinder_c3 (rl rs rb : Value) (rlv : List Value) (d : RD) (w : World) (hR : RoundAt w rl rs rb rlv d) (x : Nat) (hxb : x < 256) (z : Nat) (hzb : z < 256) (y : Nat) (hyb : y < 256) (q : Nat) (hqb : q < 256) (hf : readyB d = true) (hz : (z : Int).tmod 4 = 3) (hk : 0 < d.tols.length) (h0 : 0 < d.samples.length) (hVM : Valid (kindRd d ((((y : Int)).tmod (d.tols.length : Int)).toNat) (((((q : Int)).tmod 20).tmod ((d.rds.getD ((((y : Int)).tmod (d.tols.length : Int)).toNat) []).length : Int)).toNat))) (ba bb : Bool) (he : explainsF d (chosenF d.tols.length x) = (ba, 0)) (heM : explainsF (kindRd d ((((y : Int)).tmod (d.tols.length : Int)).toNat) (((((q : Int)).tmod 20).tmod ((d.rds.getD ((((y : Int)).tmod (d.tols.length : Int)).toNat) []).length : Int)).toNat)) (chosenF d.tols.length x) = (bb, 0)) (hab : ba = true → bb = true) (La Lb : List Int) (hl : leastR d = (La, 0)) (hlM : leastR (kindRd d ((((y : Int)).tmod (d.tols.length : Int)).toNat) (((((q : Int)).tmod 20).tmod ((d.rds.getD ((((y : Int)).tmod (d.tols.length : Int)).toNat) []).length : Int)).toNat)) = (Lb, 0)) (hle : Lb.length ≤ La.length) :
  Calls Try.prog 9 #[(Value.agg #[rl, rs, (Value.int .i64 d.spread), rb]), (Value.int .u8 (x : Int)), (Value.int .u8 (z : Int)), (Value.int .u8 (y : Int)), (Value.int .u8 (q : Int))] w (Ret fun v w' => v = .bool true ∧ Ext NoB w w') := by
 refine calls_enter Try.func9 rfl fun a0 hA0 => ?_
 replace hA0 : Fr 201 [] [(0, (Value.agg #[rl, rs, (Value.int .i64 d.spread), rb])), (1, (Value.int .u8 (x : Int))), (2, (Value.int .u8 (z : Int))), (3, (Value.int .u8 (y : Int))), (4, (Value.int .u8 (q : Int)))] a0 := hA0
 have hth := thin_of (ready_of hf).1; have hc := (ready_of hf).2; have hV := valid_of hc; have hnb := hV.nb; have hns := hV.ns; have hnl := hV.nl; have hsp := hV.spread; have hlv0 := hR.lvl; have hrl8 := hR.rdl; have hN := tmod_nn (a := (q : Int)) (by omega) (show (0 : Int) < 20 by decide); have hN7 := tmod_nn hN.1 (show (0 : Int) < 7 by decide); have hIL := tmod_nn (a := (y : Int)) (by omega) (show (0 : Int) < (d.lots.length : Int) by omega); have hIl := hV.lots (((y : Int)).tmod (d.lots.length : Int)).toNat (by omega); have hIK := tmod_nn (a := (y : Int)) (by omega) (show (0 : Int) < (d.tols.length : Int) by omega); have hIt := hV.tols (((y : Int)).tmod (d.tols.length : Int)).toNat (by omega); have hIr := hV.rdl (((y : Int)).tmod (d.tols.length : Int)).toNat (by omega); have hJ := tmod_nn hN.1 (show (0 : Int) < ((d.rds.getD ((((y : Int)).tmod (d.tols.length : Int)).toNat) []).length : Int) by omega)
 have hS0 : Sep NoB w w [(rndR false rl rs rb rlv d)] := sep_ro ⟨rfl, hR, trivial⟩
 refine c_seq ?_
 refine c_region ?_
 refine stw hA0 (op_box hS0 rfl (hA0.ev rfl) (cs := [rl, rs, (Value.int .i64 d.spread), rb]) rfl) rfl rfl (by decide) ?_
 rintro a1 _ w3 ⟨b4, rfl, hS5⟩ hA2; clear hA0 hS0 a0
 refine st hA2 (op_assign rfl (evc _ _)) rfl rfl (by decide) fun a6 hA7 => ?_; clear hA2 a1
 refine wl_nil ?_
 refine then_n ?_
 refine c_seq ?_
 refine c_seq ?_
 refine c_region ?_
 refine st hA7 (op_loadA rfl ty_26 (hA7.ev rfl) (hS5.bk 0 rfl) (l := [rl, rs, (Value.int .i64 d.spread), rb]) rfl rfl) rfl rfl (by decide) fun a8 hA9 => ?_; clear hA7 a6
 refine stw hA9 (op_call rfl en_35 (ev1 (hA9.ev rfl)) (ready_ok rl rs rb rlv d _ (rnd_at (hS5.ok 1 _ rfl)))) rfl rfl (by decide) ?_
 rintro a10 _ w12 ⟨rfl, hE13⟩ hA11; have hS14 := hS5.step hE13; clear hE13 hA9 hS5 a8
 rw [hf] at hA11
 refine st hA11 (op_not rfl (hA11.ev rfl)) rfl rfl (by decide) fun a15 hA16 => ?_; clear hA11 a10
 refine wl_nil ?_
 refine then_n ?_
 refine c_false hA16 rfl ?_
 refine c_skip ?_
 refine then_n ?_
 refine c_seq ?_
 refine c_region ?_
 refine st hA16 (op_loadA rfl ty_26 (hA16.ev rfl) (hS14.bk 0 rfl) (l := [rl, rs, (Value.int .i64 d.spread), rb]) rfl rfl) rfl rfl (by decide) fun a17 hA18 => ?_; clear hA16 a15
 refine stw hA18 (op_alloc hS14 rfl ze_26 (cs := [(Value.slice none 0 0), (Value.slice none 0 0), (Value.int .i64 0), (Value.slice none 0 0)]) rfl) rfl rfl (by decide) ?_
 rintro a19 _ w21 ⟨b22, rfl, hS23⟩ hA20; clear hA18 hS14 a17
 refine sts hA20 (op_store hS23 rfl ty_26 (hA20.ev rfl) (hA20.ev rfl) (i := 0) rfl (vs := [rl, rs, (Value.int .i64 d.spread), rb]) rfl rfl (all_c (SlAt.one (rnd_at (hS23.ok 2 _ rfl)).lots) (all_c (SlAt.one (rnd_at (hS23.ok 2 _ rfl)).samples) (all_c rfl (all_c (SlAt.one (rnd_at (hS23.ok 2 _ rfl)).labs) all_n)))) (Nat.le_of_ble_eq_true rfl)) rfl rfl ?_
 intro _ w24 hS25 hA26; clear hA20
 have hS27 : Sep NoB w w24 [(blk b22 26 [rl, rs, (Value.int .i64 d.spread), rb]), (blk b4 26 [rl, rs, (Value.int .i64 d.spread), rb]), (rndR false rl rs rb rlv d)] := hS25; clear hS25 hS23
 refine wl_nil ?_
 refine then_n ?_
 refine c_seq ?_
 have hA28 := hA26.as [(11, (bptr b22 0)), (5, (bptr b4 0)), (1, (Value.int .u8 (x : Int))), (2, (Value.int .u8 (z : Int))), (3, (Value.int .u8 (y : Int))), (4, (Value.int .u8 (q : Int)))] rfl; clear hA26
 refine c_region ?_
 refine stw hA28 (op_buildSlice hS27 rfl pv0 un_22 ty_44 ze_44 (by decide) (cs := []) bs_44_0_) rfl rfl (by decide) ?_
 rintro a29 _ w31 ⟨b32, rfl, hS33⟩ hA30; clear hA28 hS27 a19
 refine st hA30 (op_field rfl fd_26_0 (hA30.ev rfl)) rfl rfl (by decide) fun a34 hA35 => ?_; clear hA30 a29
 refine st hA35 (op_load1 rfl ty_22 (hA35.ev rfl) (hS33.bk 2 rfl) rfl) rfl rfl (by decide) fun a36 hA37 => ?_; clear hA35 a34
 have hS38 := hS33.blk_row (i := 0) (sz := 2) (n := 0) rfl rfl (by decide); clear hS33
 refine stw hA37 (op_append hS38 rfl un_22 el_44 (hA37.ev rfl) (hA37.ev rfl) (i := 0) rfl (rnd_at (hS38.ok 3 _ rfl)).lots (pairs_one _) (by simp only [maxLen]; omega) (by omega)) rfl rfl (by decide) ?_
 intro a39 v42 w41 hS43 hA40
 have hS44 := hS43.row_say (i := 0) rfl (n' := d.lots.length) (xs' := (pairs d.lots)) (by simp) (by simp); clear hS43 hA37 hS38 a36
 refine st hA40 (op_field rfl fd_26_0 (hA40.ev rfl)) rfl rfl (by decide) fun a45 hA46 => ?_; clear hA40 a39
 refine sts hA46 (op_store hS44 rfl ty_22 (hA46.ev rfl) (hA46.ev rfl) (i := 1) rfl (vs := [v42]) (isSl_cells (SlAt.isSl (SlAt.of_row (hS44.ok_row 0 rfl)))) rfl (all_c (SlAt.one (SlAt.of_row (hS44.ok_row 0 rfl))) all_n) (Nat.le_of_ble_eq_true rfl)) rfl rfl ?_
 intro _ w47 hS48 hA49; clear hA46
 have hS50 : Sep NoB w w47 [(row v42 44 2 d.lots.length (pairs d.lots)), (blk b22 26 [v42, rs, (Value.int .i64 d.spread), rb]), (blk b4 26 [rl, rs, (Value.int .i64 d.spread), rb]), (rndR false rl rs rb rlv d)] := hS48; clear hS48 hS44
 refine wl_nil ?_
 refine then_n ?_
 refine c_seq ?_
 refine c_region ?_
 refine stw hA49 (op_buildSlice hS50 rfl pv0 un_24 ty_62 ze_62 (by decide) (cs := []) bs_62_0_) rfl rfl (by decide) ?_
 rintro a51 _ w53 ⟨b54, rfl, hS55⟩ hA52; clear hA49 hS50 a45
 refine st hA52 (op_field rfl fd_26_3 (hA52.ev rfl)) rfl rfl (by decide) fun a56 hA57 => ?_; clear hA52 a51
 refine st hA57 (op_load1 rfl ty_24 (hA57.ev rfl) (hS55.bk 3 rfl) rfl) rfl rfl (by decide) fun a58 hA59 => ?_; clear hA57 a56
 have hS60 := hS55.blk_row (i := 0) (sz := 2) (n := 0) rfl rfl (by decide); clear hS55
 refine stw hA59 (op_append hS60 rfl un_24 el_62 (hA59.ev rfl) (hA59.ev rfl) (i := 0) rfl (rnd_at (hS60.ok 4 _ rfl)).labs (labs_one (rnd_at (hS60.ok 4 _ rfl))) (by simp only [maxLen]; omega) (by omega)) rfl rfl (by decide) ?_
 intro a61 v64 w63 hS65 hA62
 have hS66 := hS65.row_say (i := 0) rfl (n' := d.tols.length) (xs' := (vpairs (d.tols.zip rlv))) (by simp) (by simp); clear hS65 hA59 hS60 a58
 refine st hA62 (op_field rfl fd_26_3 (hA62.ev rfl)) rfl rfl (by decide) fun a67 hA68 => ?_; clear hA62 a61
 refine sts hA68 (op_store hS66 rfl ty_24 (hA68.ev rfl) (hA68.ev rfl) (i := 2) rfl (vs := [v64]) (isSl_cells (SlAt.isSl (SlAt.of_row (hS66.ok_row 0 rfl)))) rfl (all_c (SlAt.one (SlAt.of_row (hS66.ok_row 0 rfl))) all_n) (Nat.le_of_ble_eq_true rfl)) rfl rfl ?_
 intro _ w69 hS70 hA71; clear hA68
 have hS72 : Sep NoB w w69 [(row v64 62 2 d.tols.length (vpairs (d.tols.zip rlv))), (row v42 44 2 d.lots.length (pairs d.lots)), (blk b22 26 [v42, rs, (Value.int .i64 d.spread), v64]), (blk b4 26 [rl, rs, (Value.int .i64 d.spread), rb]), (rndR false rl rs rb rlv d)] := hS70; clear hS70 hS66
 refine wl_nil ?_
 refine then_n ?_
 refine c_seq ?_
 have hA73 := hA71.as [(11, (bptr b22 0)), (5, (bptr b4 0)), (1, (Value.int .u8 (x : Int))), (2, (Value.int .u8 (z : Int))), (3, (Value.int .u8 (y : Int))), (4, (Value.int .u8 (q : Int)))] rfl; clear hA71
 refine c_region ?_
 refine st hA73 (op_move rfl (hA73.ev rfl)) rfl rfl (by decide) fun a74 hA75 => ?_; clear hA73 a67
 refine st hA75 (op_conv un_5 un_3 rfl (hA75.ev rfl) (v := (q : Int)) (wrap_i64 (by omega) (by omega))) rfl rfl (by decide) fun a76 hA77 => ?_; clear hA75 a74
 refine st hA77 (op_rem rfl (hA77.ev rfl) (evc _ _) (by omega)) rfl rfl (by decide) fun a78 hA79 => ?_; clear hA77 a76
 refine st hA79 (op_assign rfl (hA79.ev rfl)) rfl rfl (by decide) fun a80 hA81 => ?_; clear hA79 a78
 refine wl_nil ?_
 refine then_n ?_
 refine c_seq ?_
 refine c_block ?_
 refine c_seq ?_
 refine c_region ?_
 refine st hA81 (op_move rfl (hA81.ev rfl)) rfl rfl (by decide) fun a82 hA83 => ?_; clear hA81 a80
 refine st hA83 (op_rem rfl (hA83.ev rfl) (evc _ _) (by omega)) rfl rfl (by decide) fun a84 hA85 => ?_; clear hA83 a82
 refine st hA85 (op_eql rfl (hA85.ev rfl) (evc _ _)) rfl rfl (by decide) fun a86 hA87 => ?_; clear hA85 a84
 have hd88 : ¬ ((((z : Int)).tmod 4) = 0) := (by omega)
 rw [decide_eq_false hd88] at hA87
 refine st hA87 (op_assign rfl (hA87.ev rfl)) rfl rfl (by decide) fun a89 hA90 => ?_; clear hA87 a86
 refine wl_nil ?_
 refine then_n ?_
 refine c_false hA90 rfl ?_
 refine c_seq ?_
 have hA91 := hA90.as [(12, (Value.int .i64 (((q : Int)).tmod 20))), (11, (bptr b22 0)), (5, (bptr b4 0)), (1, (Value.int .u8 (x : Int))), (2, (Value.int .u8 (z : Int))), (3, (Value.int .u8 (y : Int)))] rfl; clear hA90
 refine c_region ?_
 refine st hA91 (op_move rfl (hA91.ev rfl)) rfl rfl (by decide) fun a92 hA93 => ?_; clear hA91 a89
 refine st hA93 (op_rem rfl (hA93.ev rfl) (evc _ _) (by omega)) rfl rfl (by decide) fun a94 hA95 => ?_; clear hA93 a92
 refine st hA95 (op_eql rfl (hA95.ev rfl) (evc _ _)) rfl rfl (by decide) fun a96 hA97 => ?_; clear hA95 a94
 have hd98 : ¬ ((((z : Int)).tmod 4) = 1) := (by omega)
 rw [decide_eq_false hd98] at hA97
 refine st hA97 (op_assign rfl (hA97.ev rfl)) rfl rfl (by decide) fun a99 hA100 => ?_; clear hA97 a96
 refine wl_nil ?_
 refine then_n ?_
 refine c_false hA100 rfl ?_
 refine c_seq ?_
 refine c_region ?_
 refine st hA100 (op_field rfl fd_26_3 (hA100.ev rfl)) rfl rfl (by decide) fun a101 hA102 => ?_; clear hA100 a99
 refine st hA102 (op_load1 rfl ty_24 (hA102.ev rfl) (hS72.bk 2 rfl) rfl) rfl rfl (by decide) fun a103 hA104 => ?_; clear hA102 a101
 refine st hA104 (op_lenS rfl un_24 (hA104.ev rfl) (SlAt.of_row (hS72.ok_row 0 rfl))) rfl rfl (by decide) fun a105 hA106 => ?_; clear hA104 a103
 refine st hA106 (op_gtr rfl (hA106.ev rfl) (evc _ _)) rfl rfl (by decide) fun a107 hA108 => ?_; clear hA106 a105
 have hd109 : 0 < (d.tols.length : Int) := (by omega)
 rw [decide_eq_true hd109] at hA108
 refine st hA108 (op_assign rfl (hA108.ev rfl)) rfl rfl (by decide) fun a110 hA111 => ?_; clear hA108 a107
 refine wl_nil ?_
 refine then_n ?_
 refine c_true hA111 rfl ?_
 refine c_seq ?_
 have hA112 := hA111.as [(12, (Value.int .i64 (((q : Int)).tmod 20))), (11, (bptr b22 0)), (5, (bptr b4 0)), (1, (Value.int .u8 (x : Int))), (2, (Value.int .u8 (z : Int))), (3, (Value.int .u8 (y : Int)))] rfl; clear hA111
 have hA113 := hA112.as [(12, (Value.int .i64 (((q : Int)).tmod 20))), (11, (bptr b22 0)), (5, (bptr b4 0)), (1, (Value.int .u8 (x : Int))), (2, (Value.int .u8 (z : Int))), (3, (Value.int .u8 (y : Int)))] rfl; clear hA112
 refine c_drawV mixed hA113 hS72 8 [[], [0], [], [2], [], [4], [5], [3, 6]] [(fun (vs114 : Nat → Value) (v_ : Value) (rs_ : List Res) => v_ = (bptr b22 3) ∧ rs_ = []), (fun (vs114 : Nat → Value) (v_ : Value) (rs_ : List Res) => v_ = v64 ∧ rs_ = []), (fun (vs114 : Nat → Value) (v_ : Value) (rs_ : List Res) => v_ = (Value.int .u8 (y : Int)) ∧ rs_ = []), (fun (vs114 : Nat → Value) (v_ : Value) (rs_ : List Res) => v_ = (Value.int .i64 (y : Int)) ∧ rs_ = []), (fun (vs114 : Nat → Value) (v_ : Value) (rs_ : List Res) => v_ = (bptr b22 3) ∧ rs_ = []), (fun (vs114 : Nat → Value) (v_ : Value) (rs_ : List Res) => v_ = v64 ∧ rs_ = []), (fun (vs114 : Nat → Value) (v_ : Value) (rs_ : List Res) => v_ = (Value.int .i64 (d.tols.length : Int)) ∧ rs_ = []), (fun (vs114 : Nat → Value) (v_ : Value) (rs_ : List Res) => v_ = (Value.int .i64 (((y : Int)).tmod (d.tols.length : Int))) ∧ rs_ = [])] (by decide +kernel) (by decide +kernel) rfl rfl ⟨(fun _ _ _ _ _ h_ => h_), (fun _ _ _ _ _ h_ => h_), (fun _ _ _ _ _ h_ => h_), (fun _ _ _ _ _ h_ => h_), (fun _ _ _ _ _ h_ => h_), (fun _ _ _ _ _ h_ => h_), (fun _ _ _ _ _ h_ => h_), (fun _ _ _ _ _ h_ => h_), trivial⟩ ?_ ?_
 ·skip
  refine ⟨fun a w vs114 hA hS hd => ?_, ?_⟩
  ·skip
   exact opG_of rfl (vv (op_field rfl fd_26_3 (hA.ev rfl)) (And.intro rfl rfl))
  refine ⟨fun a w vs114 hA hS hd => ?_, ?_⟩
  ·skip
   obtain ⟨e0, rs0, hy0, hp0⟩ := hd 0 (by decide)
   obtain ⟨hv0, hr0⟩ := hy0; subst hr0
   rw [hv0] at e0
   exact opG_of rfl (vv (op_load1 rfl ty_24 (tmp_ev (slot_ev e0 rfl)) (hS.bk 2 rfl) rfl) (And.intro rfl rfl))
  refine ⟨fun a w vs114 hA hS hd => ?_, ?_⟩
  ·skip
   exact opG_of rfl (vv (op_move rfl (hA.ev rfl)) (And.intro rfl rfl))
  refine ⟨fun a w vs114 hA hS hd => ?_, ?_⟩
  ·skip
   obtain ⟨e2, rs2, hy2, hp2⟩ := hd 2 (by decide)
   obtain ⟨hv2, hr2⟩ := hy2; subst hr2
   rw [hv2] at e2
   exact opG_of rfl (vv (op_conv un_5 un_3 rfl (tmp_ev (slot_ev e2 rfl)) (v := (y : Int)) (wrap_i64 (by omega) (by omega))) (And.intro rfl rfl))
  refine ⟨fun a w vs114 hA hS hd => ?_, ?_⟩
  ·skip
   exact opG_of rfl (vv (op_field rfl fd_26_3 (hA.ev rfl)) (And.intro rfl rfl))
  refine ⟨fun a w vs114 hA hS hd => ?_, ?_⟩
  ·skip
   obtain ⟨e4, rs4, hy4, hp4⟩ := hd 4 (by decide)
   obtain ⟨hv4, hr4⟩ := hy4; subst hr4
   rw [hv4] at e4
   exact opG_of rfl (vv (op_load1 rfl ty_24 (tmp_ev (slot_ev e4 rfl)) (hS.bk 2 rfl) rfl) (And.intro rfl rfl))
  refine ⟨fun a w vs114 hA hS hd => ?_, ?_⟩
  ·skip
   obtain ⟨e5, rs5, hy5, hp5⟩ := hd 5 (by decide)
   obtain ⟨hv5, hr5⟩ := hy5; subst hr5
   rw [hv5] at e5
   exact opG_of rfl (vv (op_lenS rfl un_24 (tmp_ev (slot_ev e5 rfl)) (SlAt.of_row (hS.ok_row 0 rfl))) (And.intro rfl rfl))
  refine ⟨fun a w vs114 hA hS hd => ?_, ?_⟩
  ·skip
   obtain ⟨e3, rs3, hy3, hp3⟩ := hd 3 (by decide)
   obtain ⟨hv3, hr3⟩ := hy3; subst hr3
   rw [hv3] at e3
   obtain ⟨e6, rs6, hy6, hp6⟩ := hd 6 (by decide)
   obtain ⟨hv6, hr6⟩ := hy6; subst hr6
   rw [hv6] at e6
   exact opG_of rfl (vv (op_rem rfl (tmp_ev (slot_ev e3 rfl)) (tmp_ev (slot_ev e6 rfl)) (by omega)) (And.intro rfl rfl))
  trivial
 intro a115 w116 vs114 rsf120 hA117 hH119 hS118; clear hA113 hS72
 obtain ⟨hs_0, hy_0⟩ := hH119 0 (by decide)
 obtain ⟨hv_0, hr_0⟩ := hy_0
 obtain ⟨hs_1, hy_1⟩ := hH119 1 (by decide)
 obtain ⟨hv_1, hr_1⟩ := hy_1
 obtain ⟨hs_2, hy_2⟩ := hH119 2 (by decide)
 obtain ⟨hv_2, hr_2⟩ := hy_2
 obtain ⟨hs_3, hy_3⟩ := hH119 3 (by decide)
 obtain ⟨hv_3, hr_3⟩ := hy_3
 obtain ⟨hs_4, hy_4⟩ := hH119 4 (by decide)
 obtain ⟨hv_4, hr_4⟩ := hy_4
 obtain ⟨hs_5, hy_5⟩ := hH119 5 (by decide)
 obtain ⟨hv_5, hr_5⟩ := hy_5
 obtain ⟨hs_6, hy_6⟩ := hH119 6 (by decide)
 obtain ⟨hv_6, hr_6⟩ := hy_6
 obtain ⟨hs_7, hy_7⟩ := hH119 7 (by decide)
 obtain ⟨hv_7, hr_7⟩ := hy_7
 have hS121 : Sep NoB w w116 [(row v64 62 2 d.tols.length (vpairs (d.tols.zip rlv))), (row v42 44 2 d.lots.length (pairs d.lots)), (blk b22 26 [v42, rs, (Value.int .i64 d.spread), v64]), (blk b4 26 [rl, rs, (Value.int .i64 d.spread), rb]), (rndR false rl rs rb rlv d)] := by rw [show catR rsf120 0 8 = ([] : List Res) by (try simp only [catR, hr_0, hr_1, hr_2, hr_3, hr_4, hr_5, hr_6, hr_7]); (try rfl)] at hS118; exact hS118
 rw [hv_1] at hs_1
 have hA122 : Fr 201 [] [(92, v64), (12, (Value.int .i64 (((q : Int)).tmod 20))), (11, (bptr b22 0)), (5, (bptr b4 0)), (1, (Value.int .u8 (x : Int))), (2, (Value.int .u8 (z : Int))), (3, (Value.int .u8 (y : Int)))] a115 := hA117.add (slot_ev hs_1 rfl); clear hA117
 rw [hv_7] at hs_7
 have hA123 : Fr 201 [] [(98, (Value.int .i64 (((y : Int)).tmod (d.tols.length : Int)))), (92, v64), (12, (Value.int .i64 (((q : Int)).tmod 20))), (11, (bptr b22 0)), (5, (bptr b4 0)), (1, (Value.int .u8 (x : Int))), (2, (Value.int .u8 (z : Int))), (3, (Value.int .u8 (y : Int)))] a115 := hA122.add (slot_ev hs_7 rfl); clear hA122
 clear hH119 hS118 hs_0 hs_1 hs_2 hs_3 hs_4 hs_5 hs_6 hs_7
 clear hr_0
 clear hv_0
 clear hr_1
 clear hv_1
 clear hr_2
 clear hv_2
 clear hr_3
 clear hv_3
 clear hr_4
 clear hv_4
 clear hr_5
 clear hv_5
 clear hr_6
 clear hv_6
 clear hr_7
 clear hv_7
 refine st hA123 (op_indexS rfl un_24 ty_62 (hA123.ev rfl) (i := (((y : Int)).tmod (d.tols.length : Int)).toNat) ((hA123.ev rfl).trans (int_nat (by omega))) (SlAt.of_row (hS121.ok_row 0 rfl)) (by decide) (by omega)) rfl rfl (by decide) fun a124 hA125 => ?_; clear hA123 a115
 refine st hA125 (op_assign rfl (hA125.ev rfl)) rfl rfl (by decide) fun a126 hA127 => ?_; clear hA125 a124
 refine wl_nil ?_
 refine then_n ?_
 refine c_seq ?_
 refine c_region ?_
 refine st hA127 (op_move rfl (hA127.ev rfl)) rfl rfl (by decide) fun a128 hA129 => ?_; clear hA127 a126
 refine st hA129 (op_rem rfl (hA129.ev rfl) (evc _ _) (by omega)) rfl rfl (by decide) fun a130 hA131 => ?_; clear hA129 a128
 refine st hA131 (op_eql rfl (hA131.ev rfl) (evc _ _)) rfl rfl (by decide) fun a132 hA133 => ?_; clear hA131 a130
 have hd134 : ¬ ((((z : Int)).tmod 4) = 2) := (by omega)
 rw [decide_eq_false hd134] at hA133
 refine wl_nil ?_
 refine then_n ?_
 refine c_false hA133 rfl ?_
 refine c_seq ?_
 have hA135 := hA133.as [(14, (eptr v64 ((((y : Int)).tmod (d.tols.length : Int)).toNat * 2))), (12, (Value.int .i64 (((q : Int)).tmod 20))), (11, (bptr b22 0)), (5, (bptr b4 0)), (1, (Value.int .u8 (x : Int)))] rfl; clear hA133
 refine c_region ?_
 refine st hA135 (op_move rfl (hA135.ev rfl)) rfl rfl (by decide) fun a136 hA137 => ?_; clear hA135 a132
 refine st hA137 (op_nilCheckE rfl (hA137.ev rfl) (SlAt.of_row (hS121.ok_row 0 rfl)) (by rw [((SlAt.of_row (hS121.ok_row 0 rfl))).1]; first | omega | (simp only [List.length_set]; omega))) rfl rfl (by decide) fun a138 hA139 => ?_; clear hA137 a136
 refine st hA139 (op_fieldS rfl fd_62_1 (hA139.ev rfl) (SlAt.of_row (hS121.ok_row 0 rfl)) (by rw [((SlAt.of_row (hS121.ok_row 0 rfl))).1]; first | omega | (simp only [List.length_set]; omega))) rfl rfl (by decide) fun a140 hA141 => ?_; clear hA139 a138
 refine st hA141 (op_load1E rfl ty_23 (hA141.ev rfl) (SlAt.of_row (hS121.ok_row 0 rfl)) (labs_at1 (rnd_at (hS121.ok 4 _ rfl)).lvl (by omega))) rfl rfl (by decide) fun a142 hA143 => ?_; clear hA141 a140
 refine st hA143 (op_lenS rfl un_23 (hA143.ev rfl) ((rnd_at (hS121.ok 4 _ rfl)).rds ((((y : Int)).tmod (d.tols.length : Int)).toNat) (by rw [(rnd_at (hS121.ok 4 _ rfl)).rdl]; omega))) rfl rfl (by decide) fun a144 hA145 => ?_; clear hA143 a142
 refine st hA145 (op_gtr rfl (hA145.ev rfl) (evc _ _)) rfl rfl (by decide) fun a146 hA147 => ?_; clear hA145 a144
 have hd148 : 0 < ((d.rds.getD ((((y : Int)).tmod (d.tols.length : Int)).toNat) []).length : Int) := (by omega)
 rw [decide_eq_true hd148] at hA147
 refine wl_nil ?_
 refine then_n ?_
 refine c_true hA147 rfl ?_
 refine c_seq ?_
 have hA149 := hA147.as [(14, (eptr v64 ((((y : Int)).tmod (d.tols.length : Int)).toNat * 2))), (12, (Value.int .i64 (((q : Int)).tmod 20))), (11, (bptr b22 0)), (5, (bptr b4 0)), (1, (Value.int .u8 (x : Int)))] rfl; clear hA147
 refine c_region ?_
 refine st hA149 (op_move rfl (hA149.ev rfl)) rfl rfl (by decide) fun a150 hA151 => ?_; clear hA149 a146
 refine st hA151 (op_move rfl (hA151.ev rfl)) rfl rfl (by decide) fun a152 hA153 => ?_; clear hA151 a150
 refine st hA153 (op_nilCheckE rfl (hA153.ev rfl) (SlAt.of_row (hS121.ok_row 0 rfl)) (by rw [((SlAt.of_row (hS121.ok_row 0 rfl))).1]; first | omega | (simp only [List.length_set]; omega))) rfl rfl (by decide) fun a154 hA155 => ?_; clear hA153 a152
 refine st hA155 (op_fieldS rfl fd_62_1 (hA155.ev rfl) (SlAt.of_row (hS121.ok_row 0 rfl)) (by rw [((SlAt.of_row (hS121.ok_row 0 rfl))).1]; first | omega | (simp only [List.length_set]; omega))) rfl rfl (by decide) fun a156 hA157 => ?_; clear hA155 a154
 refine st hA157 (op_load1E rfl ty_23 (hA157.ev rfl) (SlAt.of_row (hS121.ok_row 0 rfl)) (labs_at1 (rnd_at (hS121.ok 4 _ rfl)).lvl (by omega))) rfl rfl (by decide) fun a158 hA159 => ?_; clear hA157 a156
 refine stw hA159 (op_call rfl en_22 (ev1 (hA159.ev rfl)) (list_ok (d.rds.getD ((((y : Int)).tmod (d.tols.length : Int)).toNat) []) _ _ ((rnd_at (hS121.ok 4 _ rfl)).rds ((((y : Int)).tmod (d.tols.length : Int)).toNat) (by rw [(rnd_at (hS121.ok 4 _ rfl)).rdl]; omega)) (by omega))) rfl rfl (by decide) ?_
 rintro a160 v166 w162 ⟨hE163, hO164⟩ hA161; have hS165 := hS121.new_row hE163 hO164; clear hE163 hO164 hA159 hS121 a158
 refine st hA161 (op_nilCheckE rfl (hA161.ev rfl) (SlAt.of_row (hS165.ok_row 1 rfl)) (by rw [((SlAt.of_row (hS165.ok_row 1 rfl))).1]; first | omega | (simp only [List.length_set]; omega))) rfl rfl (by decide) fun a167 hA168 => ?_; clear hA161 a160
 refine st hA168 (op_fieldS rfl fd_62_1 (hA168.ev rfl) (SlAt.of_row (hS165.ok_row 1 rfl)) (by rw [((SlAt.of_row (hS165.ok_row 1 rfl))).1]; first | omega | (simp only [List.length_set]; omega))) rfl rfl (by decide) fun a169 hA170 => ?_; clear hA168 a167
 refine sts hA170 (op_storeE hS165 rfl ty_23 (hA170.ev rfl) (hA170.ev rfl) (i := 1) rfl (vs := [v166]) (isSl_cells (SlAt.isSl (SlAt.of_row (hS165.ok_row 0 rfl)))) rfl (all_c (SlAt.one (SlAt.of_row (hS165.ok_row 0 rfl))) all_n) (by first | (simp only [pairs_length, List.length_set]; omega) | (simp only [vpairs_length, List.length_zip, List.length_set]; omega) | (simp only [ints, List.length_map, List.length_set]; omega)) (by decide)) rfl rfl ?_
 intro _ w171 hS172 hA174; have hS173 := hS172.row_say (i := 1) rfl (n' := d.tols.length) (xs' := (vpairs (d.tols.zip (rlv.set ((((y : Int)).tmod (d.tols.length : Int)).toNat) v166)))) rfl (labs_set1 (rnd_at (hS165.ok 5 _ rfl)).lvl (by omega)); clear hS172 hA170 hS165
 refine wl_nil ?_
 refine then_n ?_
 have hA175 := hA174.as [(14, (eptr v64 ((((y : Int)).tmod (d.tols.length : Int)).toNat * 2))), (12, (Value.int .i64 (((q : Int)).tmod 20))), (11, (bptr b22 0)), (5, (bptr b4 0)), (1, (Value.int .u8 (x : Int)))] rfl; clear hA174
 have hA176 := hA175.as [(14, (eptr v64 ((((y : Int)).tmod (d.tols.length : Int)).toNat * 2))), (12, (Value.int .i64 (((q : Int)).tmod 20))), (11, (bptr b22 0)), (5, (bptr b4 0)), (1, (Value.int .u8 (x : Int)))] rfl; clear hA175
 refine c_drawV mixed hA176 hS173 11 [[], [0], [1], [2], [], [], [5], [6], [7], [8], [4, 9]] [(fun (vs177 : Nat → Value) (v_ : Value) (rs_ : List Res) => v_ = (eptr v64 ((((y : Int)).tmod (d.tols.length : Int)).toNat * 2)) ∧ rs_ = []), (fun (vs177 : Nat → Value) (v_ : Value) (rs_ : List Res) => v_ = (eptr v64 ((((y : Int)).tmod (d.tols.length : Int)).toNat * 2)) ∧ rs_ = []), (fun (vs177 : Nat → Value) (v_ : Value) (rs_ : List Res) => v_ = (eptr v64 ((((y : Int)).tmod (d.tols.length : Int)).toNat * 2 + 1)) ∧ rs_ = []), (fun (vs177 : Nat → Value) (v_ : Value) (rs_ : List Res) => v_ = v166 ∧ rs_ = []), (fun (vs177 : Nat → Value) (v_ : Value) (rs_ : List Res) => v_ = (Value.int .i64 (((q : Int)).tmod 20)) ∧ rs_ = []), (fun (vs177 : Nat → Value) (v_ : Value) (rs_ : List Res) => v_ = (eptr v64 ((((y : Int)).tmod (d.tols.length : Int)).toNat * 2)) ∧ rs_ = []), (fun (vs177 : Nat → Value) (v_ : Value) (rs_ : List Res) => v_ = (eptr v64 ((((y : Int)).tmod (d.tols.length : Int)).toNat * 2)) ∧ rs_ = []), (fun (vs177 : Nat → Value) (v_ : Value) (rs_ : List Res) => v_ = (eptr v64 ((((y : Int)).tmod (d.tols.length : Int)).toNat * 2 + 1)) ∧ rs_ = []), (fun (vs177 : Nat → Value) (v_ : Value) (rs_ : List Res) => v_ = v166 ∧ rs_ = []), (fun (vs177 : Nat → Value) (v_ : Value) (rs_ : List Res) => v_ = (Value.int .i64 ((d.rds.getD ((((y : Int)).tmod (d.tols.length : Int)).toNat) []).length : Int)) ∧ rs_ = []), (fun (vs177 : Nat → Value) (v_ : Value) (rs_ : List Res) => v_ = (Value.int .i64 (((((q : Int)).tmod 20)).tmod ((d.rds.getD ((((y : Int)).tmod (d.tols.length : Int)).toNat) []).length : Int))) ∧ rs_ = [])] (by decide +kernel) (by decide +kernel) rfl rfl ⟨(fun _ _ _ _ _ h_ => h_), (fun _ _ _ _ _ h_ => h_), (fun _ _ _ _ _ h_ => h_), (fun _ _ _ _ _ h_ => h_), (fun _ _ _ _ _ h_ => h_), (fun _ _ _ _ _ h_ => h_), (fun _ _ _ _ _ h_ => h_), (fun _ _ _ _ _ h_ => h_), (fun _ _ _ _ _ h_ => h_), (fun _ _ _ _ _ h_ => h_), (fun _ _ _ _ _ h_ => h_), trivial⟩ ?_ ?_
 ·skip
  refine ⟨fun a w vs177 hA hS hd => ?_, ?_⟩
  ·skip
   exact opG_of rfl (vv (op_move rfl (hA.ev rfl)) (And.intro rfl rfl))
  refine ⟨fun a w vs177 hA hS hd => ?_, ?_⟩
  ·skip
   obtain ⟨e0, rs0, hy0, hp0⟩ := hd 0 (by decide)
   obtain ⟨hv0, hr0⟩ := hy0; subst hr0
   rw [hv0] at e0
   exact opG_of rfl (vv (op_nilCheckE rfl (tmp_ev (slot_ev e0 rfl)) (SlAt.of_row (hS.ok_row 1 rfl)) (by rw [((SlAt.of_row (hS.ok_row 1 rfl))).1]; first | omega | (simp only [List.length_set]; omega))) (And.intro rfl rfl))
  refine ⟨fun a w vs177 hA hS hd => ?_, ?_⟩
  ·skip
   obtain ⟨e1, rs1, hy1, hp1⟩ := hd 1 (by decide)
   obtain ⟨hv1, hr1⟩ := hy1; subst hr1
   rw [hv1] at e1
   exact opG_of rfl (vv (op_fieldS rfl fd_62_1 (tmp_ev (slot_ev e1 rfl)) (SlAt.of_row (hS.ok_row 1 rfl)) (by rw [((SlAt.of_row (hS.ok_row 1 rfl))).1]; first | omega | (simp only [List.length_set]; omega))) (And.intro rfl rfl))
  refine ⟨fun a w vs177 hA hS hd => ?_, ?_⟩
  ·skip
   obtain ⟨e2, rs2, hy2, hp2⟩ := hd 2 (by decide)
   obtain ⟨hv2, hr2⟩ := hy2; subst hr2
   rw [hv2] at e2
   exact opG_of rfl (vv (op_load1E rfl ty_23 (tmp_ev (slot_ev e2 rfl)) (SlAt.of_row (hS.ok_row 1 rfl)) ((labs_at1 (by rw [List.length_set]; exact (rnd_at (hS.ok 5 _ rfl)).lvl) (by omega)).trans (congrArg some (vals_set (by rw [(rnd_at (hS.ok 5 _ rfl)).lvl]; omega))))) (And.intro rfl rfl))
  refine ⟨fun a w vs177 hA hS hd => ?_, ?_⟩
  ·skip
   exact opG_of rfl (vv (op_move rfl (hA.ev rfl)) (And.intro rfl rfl))
  refine ⟨fun a w vs177 hA hS hd => ?_, ?_⟩
  ·skip
   exact opG_of rfl (vv (op_move rfl (hA.ev rfl)) (And.intro rfl rfl))
  refine ⟨fun a w vs177 hA hS hd => ?_, ?_⟩
  ·skip
   obtain ⟨e5, rs5, hy5, hp5⟩ := hd 5 (by decide)
   obtain ⟨hv5, hr5⟩ := hy5; subst hr5
   rw [hv5] at e5
   exact opG_of rfl (vv (op_nilCheckE rfl (tmp_ev (slot_ev e5 rfl)) (SlAt.of_row (hS.ok_row 1 rfl)) (by rw [((SlAt.of_row (hS.ok_row 1 rfl))).1]; first | omega | (simp only [List.length_set]; omega))) (And.intro rfl rfl))
  refine ⟨fun a w vs177 hA hS hd => ?_, ?_⟩
  ·skip
   obtain ⟨e6, rs6, hy6, hp6⟩ := hd 6 (by decide)
   obtain ⟨hv6, hr6⟩ := hy6; subst hr6
   rw [hv6] at e6
   exact opG_of rfl (vv (op_fieldS rfl fd_62_1 (tmp_ev (slot_ev e6 rfl)) (SlAt.of_row (hS.ok_row 1 rfl)) (by rw [((SlAt.of_row (hS.ok_row 1 rfl))).1]; first | omega | (simp only [List.length_set]; omega))) (And.intro rfl rfl))
  refine ⟨fun a w vs177 hA hS hd => ?_, ?_⟩
  ·skip
   obtain ⟨e7, rs7, hy7, hp7⟩ := hd 7 (by decide)
   obtain ⟨hv7, hr7⟩ := hy7; subst hr7
   rw [hv7] at e7
   exact opG_of rfl (vv (op_load1E rfl ty_23 (tmp_ev (slot_ev e7 rfl)) (SlAt.of_row (hS.ok_row 1 rfl)) ((labs_at1 (by rw [List.length_set]; exact (rnd_at (hS.ok 5 _ rfl)).lvl) (by omega)).trans (congrArg some (vals_set (by rw [(rnd_at (hS.ok 5 _ rfl)).lvl]; omega))))) (And.intro rfl rfl))
  refine ⟨fun a w vs177 hA hS hd => ?_, ?_⟩
  ·skip
   obtain ⟨e8, rs8, hy8, hp8⟩ := hd 8 (by decide)
   obtain ⟨hv8, hr8⟩ := hy8; subst hr8
   rw [hv8] at e8
   exact opG_of rfl (vv (op_lenS rfl un_23 (tmp_ev (slot_ev e8 rfl)) (SlAt.of_row (hS.ok_row 0 rfl))) (And.intro rfl rfl))
  refine ⟨fun a w vs177 hA hS hd => ?_, ?_⟩
  ·skip
   obtain ⟨e4, rs4, hy4, hp4⟩ := hd 4 (by decide)
   obtain ⟨hv4, hr4⟩ := hy4; subst hr4
   rw [hv4] at e4
   obtain ⟨e9, rs9, hy9, hp9⟩ := hd 9 (by decide)
   obtain ⟨hv9, hr9⟩ := hy9; subst hr9
   rw [hv9] at e9
   exact opG_of rfl (vv (op_rem rfl (tmp_ev (slot_ev e4 rfl)) (tmp_ev (slot_ev e9 rfl)) (by omega)) (And.intro rfl rfl))
  trivial
 intro a178 w179 vs177 rsf183 hA180 hH182 hS181; clear hA176 hS173
 obtain ⟨hs_0, hy_0⟩ := hH182 0 (by decide)
 obtain ⟨hv_0, hr_0⟩ := hy_0
 obtain ⟨hs_1, hy_1⟩ := hH182 1 (by decide)
 obtain ⟨hv_1, hr_1⟩ := hy_1
 obtain ⟨hs_2, hy_2⟩ := hH182 2 (by decide)
 obtain ⟨hv_2, hr_2⟩ := hy_2
 obtain ⟨hs_3, hy_3⟩ := hH182 3 (by decide)
 obtain ⟨hv_3, hr_3⟩ := hy_3
 obtain ⟨hs_4, hy_4⟩ := hH182 4 (by decide)
 obtain ⟨hv_4, hr_4⟩ := hy_4
 obtain ⟨hs_5, hy_5⟩ := hH182 5 (by decide)
 obtain ⟨hv_5, hr_5⟩ := hy_5
 obtain ⟨hs_6, hy_6⟩ := hH182 6 (by decide)
 obtain ⟨hv_6, hr_6⟩ := hy_6
 obtain ⟨hs_7, hy_7⟩ := hH182 7 (by decide)
 obtain ⟨hv_7, hr_7⟩ := hy_7
 obtain ⟨hs_8, hy_8⟩ := hH182 8 (by decide)
 obtain ⟨hv_8, hr_8⟩ := hy_8
 obtain ⟨hs_9, hy_9⟩ := hH182 9 (by decide)
 obtain ⟨hv_9, hr_9⟩ := hy_9
 obtain ⟨hs_10, hy_10⟩ := hH182 10 (by decide)
 obtain ⟨hv_10, hr_10⟩ := hy_10
 have hS184 : Sep NoB w w179 [(row v166 3 1 ((d.rds.getD ((((y : Int)).tmod (d.tols.length : Int)).toNat) []).length) (ints (d.rds.getD ((((y : Int)).tmod (d.tols.length : Int)).toNat) []))), (row v64 62 2 d.tols.length (vpairs (d.tols.zip (rlv.set ((((y : Int)).tmod (d.tols.length : Int)).toNat) v166)))), (row v42 44 2 d.lots.length (pairs d.lots)), (blk b22 26 [v42, rs, (Value.int .i64 d.spread), v64]), (blk b4 26 [rl, rs, (Value.int .i64 d.spread), rb]), (rndR false rl rs rb rlv d)] := by rw [show catR rsf183 0 11 = ([] : List Res) by (try simp only [catR, hr_0, hr_1, hr_2, hr_3, hr_4, hr_5, hr_6, hr_7, hr_8, hr_9, hr_10]); (try rfl)] at hS181; exact hS181
 rw [hv_3] at hs_3
 have hA185 : Fr 201 [] [(130, v166), (14, (eptr v64 ((((y : Int)).tmod (d.tols.length : Int)).toNat * 2))), (12, (Value.int .i64 (((q : Int)).tmod 20))), (11, (bptr b22 0)), (5, (bptr b4 0)), (1, (Value.int .u8 (x : Int)))] a178 := hA180.add (slot_ev hs_3 rfl); clear hA180
 rw [hv_10] at hs_10
 have hA186 : Fr 201 [] [(137, (Value.int .i64 (((((q : Int)).tmod 20)).tmod ((d.rds.getD ((((y : Int)).tmod (d.tols.length : Int)).toNat) []).length : Int)))), (130, v166), (14, (eptr v64 ((((y : Int)).tmod (d.tols.length : Int)).toNat * 2))), (12, (Value.int .i64 (((q : Int)).tmod 20))), (11, (bptr b22 0)), (5, (bptr b4 0)), (1, (Value.int .u8 (x : Int)))] a178 := hA185.add (slot_ev hs_10 rfl); clear hA185
 clear hH182 hS181 hs_0 hs_1 hs_2 hs_3 hs_4 hs_5 hs_6 hs_7 hs_8 hs_9 hs_10
 clear hr_0
 clear hv_0
 clear hr_1
 clear hv_1
 clear hr_2
 clear hv_2
 clear hr_3
 clear hv_3
 clear hr_4
 clear hv_4
 clear hr_5
 clear hv_5
 clear hr_6
 clear hv_6
 clear hr_7
 clear hv_7
 clear hr_8
 clear hv_8
 clear hr_9
 clear hv_9
 clear hr_10
 clear hv_10
 refine st hA186 (op_indexS rfl un_23 ty_3 (hA186.ev rfl) (i := (((((q : Int)).tmod 20)).tmod ((d.rds.getD ((((y : Int)).tmod (d.tols.length : Int)).toNat) []).length : Int)).toNat) ((hA186.ev rfl).trans (int_nat (by omega))) (SlAt.of_row (hS184.ok_row 0 rfl)) (by decide) (by omega)) rfl rfl (by decide) fun a187 hA188 => ?_; clear hA186 a178
 refine sts hA188 (op_storeE hS184 rfl ty_3 (hA188.ev rfl) (evc _ _) (i := 0) rfl (vs := [(Value.int .i64 (-1))]) rfl rfl rfl (by first | (simp only [pairs_length, List.length_set]; omega) | (simp only [vpairs_length, List.length_zip, List.length_set]; omega) | (simp only [ints, List.length_map, List.length_set]; omega)) (by decide)) rfl rfl ?_
 intro _ w189 hS190 hA192; have hS191 := hS190.row_say (i := 0) rfl (n' := ((d.rds.getD ((((y : Int)).tmod (d.tols.length : Int)).toNat) []).set ((((((q : Int)).tmod 20)).tmod ((d.rds.getD ((((y : Int)).tmod (d.tols.length : Int)).toNat) []).length : Int)).toNat) (-1)).length) (xs' := (ints ((d.rds.getD ((((y : Int)).tmod (d.tols.length : Int)).toNat) []).set ((((((q : Int)).tmod 20)).tmod ((d.rds.getD ((((y : Int)).tmod (d.tols.length : Int)).toNat) []).length : Int)).toNat) (-1)))) (by simp) (by simp [setFrom, ints, List.map_set]); clear hS190 hA188 hS184
 refine wl_nil ?_
 refine blk_n ?_
 refine then_n ?_
 refine c_seq ?_
 refine c_region ?_
 refine st hA192 (op_loadA rfl ty_26 (hA192.ev rfl) (hS191.bk 4 rfl) (l := [rl, rs, (Value.int .i64 d.spread), rb]) rfl rfl) rfl rfl (by decide) fun a193 hA194 => ?_; clear hA192 a187
 refine st hA194 (op_move rfl (hA194.ev rfl)) rfl rfl (by decide) fun a195 hA196 => ?_; clear hA194 a193
 refine stw hA196 (op_call rfl en_36 (ev2 (hA196.ev rfl) (hA196.ev rfl)) (chosen_ok rl rs rb rlv d _ (rnd_at (hS191.ok 5 _ rfl)) x (by omega))) rfl rfl (by decide) ?_
 rintro a197 v203 w199 ⟨hE200, hO201⟩ hA198; have hS202 := hS191.new_row hE200 hO201; clear hE200 hO201 hA196 hS191 a195
 refine st hA198 (op_assign rfl (hA198.ev rfl)) rfl rfl (by decide) fun a204 hA205 => ?_; clear hA198 a197
 refine wl_nil ?_
 refine then_n ?_
 refine c_seq ?_
 have hA206 := hA205.as [(15, v203), (11, (bptr b22 0)), (5, (bptr b4 0))] rfl; clear hA205
 refine c_region ?_
 refine st hA206 (op_loadA rfl ty_26 (hA206.ev rfl) (hS202.bk 5 rfl) (l := [rl, rs, (Value.int .i64 d.spread), rb]) rfl rfl) rfl rfl (by decide) fun a207 hA208 => ?_; clear hA206 a204
 refine stw hA208 (op_call rfl en_20 (ev1 (hA208.ev rfl)) (Round_ok rl rs rb rlv d _ (rnd_at (hS202.ok 6 _ rfl)) hth)) rfl rfl (by decide) ?_
 rintro a209 _ w211 ⟨vl212, vs213, vb214, lv215, rfl, hT216⟩ hA210; have hS217 := hS202.callS hT216 rfl; clear hT216 hA208 hS202 a207
 refine st hA210 (op_move rfl (hA210.ev rfl)) rfl rfl (by decide) fun a218 hA219 => ?_; clear hA210 a209
 refine stw hA219 (op_call rfl en_22 (ev1 (hA219.ev rfl)) (list_ok (chosenF d.tols.length x) _ _ (SlAt.of_row (hS217.ok_row 1 rfl)) (Nat.le_trans (chosenF_len _ _) (by omega)))) rfl rfl (by decide) ?_
 rintro a220 v226 w222 ⟨hE223, hO224⟩ hA221; have hS225 := hS217.new_row hE223 hO224; clear hE223 hO224 hA219 hS217 a218
 refine stw hA221 (op_call rfl en_21 (ev2 (hA221.ev rfl) (hA221.ev rfl)) (by have h := (explains_ok vl212 vs213 vb214 lv215 d _ (rnd_at (hS225.ok 1 _ rfl)) _ (chosenF d.tols.length x) (SlAt.of_row (hS225.ok_row 0 rfl)) (Nat.le_trans (chosenF_len _ _) (by omega))); rw [he] at h; exact h)) rfl rfl (by decide) ?_
 rintro a227 _ w229 ⟨rfl, hE230⟩ hA228; have hS231 := hS225.step hE230; clear hE230 hA221 hS225 a220
 refine st hA228 (op_move rfl (hA228.ev rfl)) rfl rfl (by decide) fun a232 hA233 => ?_; clear hA228 a227
 refine st hA233 (op_extract rfl (hA233.ev rfl) rfl) rfl rfl (by decide) fun a234 hA235 => ?_; clear hA233 a232
 refine st hA235 (op_extract rfl (hA235.ev rfl) rfl) rfl rfl (by decide) fun a236 hA237 => ?_; clear hA235 a234
 refine st hA237 (op_assign rfl (hA237.ev rfl)) rfl rfl (by decide) fun a238 hA239 => ?_; clear hA237 a236
 refine st hA239 (op_assign rfl (hA239.ev rfl)) rfl rfl (by decide) fun a240 hA241 => ?_; clear hA239 a238
 refine wl_nil ?_
 refine then_n ?_
 refine c_seq ?_
 have hA242 := hA241.as [(17, (Value.int .i64 0)), (16, (Value.bool ba)), (15, v203), (11, (bptr b22 0)), (5, (bptr b4 0))] rfl; clear hA241
 have hS243 := ((hS231.row_say (i := 5) rfl (n' := (kindRd d ((((y : Int)).tmod (d.tols.length : Int)).toNat) (((((q : Int)).tmod 20).tmod ((d.rds.getD ((((y : Int)).tmod (d.tols.length : Int)).toNat) []).length : Int)).toNat)).lots.length) (xs' := pairs (kindRd d ((((y : Int)).tmod (d.tols.length : Int)).toNat) (((((q : Int)).tmod 20).tmod ((d.rds.getD ((((y : Int)).tmod (d.tols.length : Int)).toNat) []).length : Int)).toNat)).lots) rfl rfl).row_say (i := 4) rfl (n' := (kindRd d ((((y : Int)).tmod (d.tols.length : Int)).toNat) (((((q : Int)).tmod 20).tmod ((d.rds.getD ((((y : Int)).tmod (d.tols.length : Int)).toNat) []).length : Int)).toNat)).tols.length) (xs' := vpairs ((kindRd d ((((y : Int)).tmod (d.tols.length : Int)).toNat) (((((q : Int)).tmod 20).tmod ((d.rds.getD ((((y : Int)).tmod (d.tols.length : Int)).toNat) []).length : Int)).toNat)).tols.zip (rlv.set ((((y : Int)).tmod (d.tols.length : Int)).toNat) v166))) rfl rfl).row_say (i := 3) rfl (n' := ((d.rds.getD ((((y : Int)).tmod (d.tols.length : Int)).toNat) []).set (((((q : Int)).tmod 20).tmod ((d.rds.getD ((((y : Int)).tmod (d.tols.length : Int)).toNat) []).length : Int)).toNat) (-1)).length) (xs' := ints ((d.rds.getD ((((y : Int)).tmod (d.tols.length : Int)).toNat) []).set (((((q : Int)).tmod 20).tmod ((d.rds.getD ((((y : Int)).tmod (d.tols.length : Int)).toNat) []).length : Int)).toNat) (-1))) (by rfl) (by rfl); clear hS231
 refine c_region ?_
 refine st hA242 (op_loadA rfl ty_26 (hA242.ev rfl) (hS243.bk 6 rfl) (l := [v42, rs, (Value.int .i64 d.spread), v64]) rfl rfl) rfl rfl (by decide) fun a244 hA245 => ?_; clear hA242 a240
 refine stw hA245 (op_call rfl en_20 (ev1 (hA245.ev rfl)) (Round_ok v42 rs v64 (rlv.set ((((y : Int)).tmod (d.tols.length : Int)).toNat) v166) (kindRd d ((((y : Int)).tmod (d.tols.length : Int)).toNat) (((((q : Int)).tmod 20).tmod ((d.rds.getD ((((y : Int)).tmod (d.tols.length : Int)).toNat) []).length : Int)).toNat)) _ (show RoundAt _ v42 rs v64 (rlv.set ((((y : Int)).tmod (d.tols.length : Int)).toNat) v166) (kindRd d ((((y : Int)).tmod (d.tols.length : Int)).toNat) (((((q : Int)).tmod 20).tmod ((d.rds.getD ((((y : Int)).tmod (d.tols.length : Int)).toNat) []).length : Int)).toNat)) from ⟨SlAt.of_row (hS243.ok_row 5 rfl), (rnd_at (hS243.ok 8 _ rfl)).samples, SlAt.of_row (hS243.ok_row 4 rfl), (rdsAt_set (rnd_at (hS243.ok 8 _ rfl)).rds (SlAt.of_row (hS243.ok_row 3 rfl))), (by first | exact hlv0 | (simp only [kindTol, kindRd, List.length_set]; exact hlv0)), (by first | exact hrl8 | (simp only [kindTol, kindRd, List.length_set]; exact hrl8))⟩) (valid_thin hVM))) rfl rfl (by decide) ?_
 rintro a246 _ w248 ⟨vl249, vs250, vb251, lv252, rfl, hT253⟩ hA247; have hS254 := hS243.callS hT253 rfl; clear hT253 hA245 hS243 a244
 refine st hA247 (op_move rfl (hA247.ev rfl)) rfl rfl (by decide) fun a255 hA256 => ?_; clear hA247 a246
 refine stw hA256 (op_call rfl en_22 (ev1 (hA256.ev rfl)) (list_ok (chosenF d.tols.length x) _ _ (SlAt.of_row (hS254.ok_row 3 rfl)) (Nat.le_trans (chosenF_len _ _) (by omega)))) rfl rfl (by decide) ?_
 rintro a257 v263 w259 ⟨hE260, hO261⟩ hA258; have hS262 := hS254.new_row hE260 hO261; clear hE260 hO261 hA256 hS254 a255
 refine stw hA258 (op_call rfl en_21 (ev2 (hA258.ev rfl) (hA258.ev rfl)) (by have h := (explains_ok vl249 vs250 vb251 lv252 (kindRd d ((((y : Int)).tmod (d.tols.length : Int)).toNat) (((((q : Int)).tmod 20).tmod ((d.rds.getD ((((y : Int)).tmod (d.tols.length : Int)).toNat) []).length : Int)).toNat)) _ (rnd_at (hS262.ok 1 _ rfl)) _ (chosenF d.tols.length x) (SlAt.of_row (hS262.ok_row 0 rfl)) (Nat.le_trans (chosenF_len _ _) (by omega))); rw [heM] at h; exact h)) rfl rfl (by decide) ?_
 rintro a264 _ w266 ⟨rfl, hE267⟩ hA265; have hS268 := hS262.step hE267; clear hE267 hA258 hS262 a257
 refine st hA265 (op_move rfl (hA265.ev rfl)) rfl rfl (by decide) fun a269 hA270 => ?_; clear hA265 a264
 refine st hA270 (op_extract rfl (hA270.ev rfl) rfl) rfl rfl (by decide) fun a271 hA272 => ?_; clear hA270 a269
 refine st hA272 (op_extract rfl (hA272.ev rfl) rfl) rfl rfl (by decide) fun a273 hA274 => ?_; clear hA272 a271
 refine st hA274 (op_assign rfl (hA274.ev rfl)) rfl rfl (by decide) fun a275 hA276 => ?_; clear hA274 a273
 refine st hA276 (op_assign rfl (hA276.ev rfl)) rfl rfl (by decide) fun a277 hA278 => ?_; clear hA276 a275
 refine wl_nil ?_
 refine then_n ?_
 refine c_seq ?_
 have hA279 := hA278.as [(19, (Value.int .i64 0)), (18, (Value.bool bb)), (17, (Value.int .i64 0)), (16, (Value.bool ba)), (11, (bptr b22 0)), (5, (bptr b4 0))] rfl; clear hA278
 refine c_region ?_
 refine st hA279 (op_loadA rfl ty_26 (hA279.ev rfl) (hS268.bk 9 rfl) (l := [rl, rs, (Value.int .i64 d.spread), rb]) rfl rfl) rfl rfl (by decide) fun a280 hA281 => ?_; clear hA279 a277
 refine stw hA281 (op_call rfl en_20 (ev1 (hA281.ev rfl)) (Round_ok rl rs rb rlv d _ (rnd_at (hS268.ok 10 _ rfl)) hth)) rfl rfl (by decide) ?_
 rintro a282 _ w284 ⟨vl285, vs286, vb287, lv288, rfl, hT289⟩ hA283; have hS290 := hS268.callS hT289 rfl; clear hT289 hA281 hS268 a280
 refine stw hA283 (op_call rfl en_29 (ev1 (hA283.ev rfl)) (by have h := (least_fn vl285 vs286 vb287 lv288 d _ (rnd_at (hS290.ok 0 _ rfl))); rw [hl] at h; exact h)) rfl rfl (by decide) ?_
 rintro a291 _ w293 ⟨u296, rfl, hT294⟩ hA292; clear hA283 a282
 have hS295 : Sep NoB w w293 [(osl u296 1 La.length (ints La)), (rndR true vl285 vs286 vb287 lv288 d), (row v263 3 1 ((chosenF d.tols.length x).length) (ints (chosenF d.tols.length x))), (rndR true vl249 vs250 vb251 lv252 (kindRd d ((((y : Int)).tmod (d.tols.length : Int)).toNat) (((((q : Int)).tmod 20).tmod ((d.rds.getD ((((y : Int)).tmod (d.tols.length : Int)).toNat) []).length : Int)).toNat))), (row v226 3 1 ((chosenF d.tols.length x).length) (ints (chosenF d.tols.length x))), (rndR true vl212 vs213 vb214 lv215 d), (row v203 3 1 ((chosenF d.tols.length x).length) (ints (chosenF d.tols.length x))), (row v166 3 1 (((d.rds.getD ((((y : Int)).tmod (d.tols.length : Int)).toNat) []).set (((((q : Int)).tmod 20).tmod ((d.rds.getD ((((y : Int)).tmod (d.tols.length : Int)).toNat) []).length : Int)).toNat) (-1)).length) (ints ((d.rds.getD ((((y : Int)).tmod (d.tols.length : Int)).toNat) []).set (((((q : Int)).tmod 20).tmod ((d.rds.getD ((((y : Int)).tmod (d.tols.length : Int)).toNat) []).length : Int)).toNat) (-1)))), (row v64 62 2 ((kindRd d ((((y : Int)).tmod (d.tols.length : Int)).toNat) (((((q : Int)).tmod 20).tmod ((d.rds.getD ((((y : Int)).tmod (d.tols.length : Int)).toNat) []).length : Int)).toNat)).tols.length) (vpairs ((kindRd d ((((y : Int)).tmod (d.tols.length : Int)).toNat) (((((q : Int)).tmod 20).tmod ((d.rds.getD ((((y : Int)).tmod (d.tols.length : Int)).toNat) []).length : Int)).toNat)).tols.zip (rlv.set ((((y : Int)).tmod (d.tols.length : Int)).toNat) v166)))), (row v42 44 2 ((kindRd d ((((y : Int)).tmod (d.tols.length : Int)).toNat) (((((q : Int)).tmod 20).tmod ((d.rds.getD ((((y : Int)).tmod (d.tols.length : Int)).toNat) []).length : Int)).toNat)).lots.length) (pairs ((kindRd d ((((y : Int)).tmod (d.tols.length : Int)).toNat) (((((q : Int)).tmod 20).tmod ((d.rds.getD ((((y : Int)).tmod (d.tols.length : Int)).toNat) []).length : Int)).toNat)).lots))), (blk b22 26 [v42, rs, (Value.int .i64 d.spread), v64]), (blk b4 26 [rl, rs, (Value.int .i64 d.spread), rb]), (rndR false rl rs rb rlv d)] := hS290.callS hT294 rfl; clear hT294 hS290
 refine st hA292 (op_move rfl (hA292.ev rfl)) rfl rfl (by decide) fun a297 hA298 => ?_; clear hA292 a291
 refine st hA298 (op_extract rfl (hA298.ev rfl) rfl) rfl rfl (by decide) fun a299 hA300 => ?_; clear hA298 a297
 refine st hA300 (op_extract rfl (hA300.ev rfl) rfl) rfl rfl (by decide) fun a301 hA302 => ?_; clear hA300 a299
 refine st hA302 (op_assign rfl (hA302.ev rfl)) rfl rfl (by decide) fun a303 hA304 => ?_; clear hA302 a301
 refine st hA304 (op_assign rfl (hA304.ev rfl)) rfl rfl (by decide) fun a305 hA306 => ?_; clear hA304 a303
 refine wl_nil ?_
 refine then_n ?_
 refine c_seq ?_
 have hA307 := hA306.as [(21, (Value.int .i64 0)), (20, u296), (19, (Value.int .i64 0)), (18, (Value.bool bb)), (17, (Value.int .i64 0)), (16, (Value.bool ba)), (11, (bptr b22 0))] rfl; clear hA306
 refine c_region ?_
 refine st hA307 (op_loadA rfl ty_26 (hA307.ev rfl) (hS295.bk 10 rfl) (l := [v42, rs, (Value.int .i64 d.spread), v64]) rfl rfl) rfl rfl (by decide) fun a308 hA309 => ?_; clear hA307 a305
 refine stw hA309 (op_call rfl en_20 (ev1 (hA309.ev rfl)) (Round_ok v42 rs v64 (rlv.set ((((y : Int)).tmod (d.tols.length : Int)).toNat) v166) (kindRd d ((((y : Int)).tmod (d.tols.length : Int)).toNat) (((((q : Int)).tmod 20).tmod ((d.rds.getD ((((y : Int)).tmod (d.tols.length : Int)).toNat) []).length : Int)).toNat)) _ (show RoundAt _ v42 rs v64 (rlv.set ((((y : Int)).tmod (d.tols.length : Int)).toNat) v166) (kindRd d ((((y : Int)).tmod (d.tols.length : Int)).toNat) (((((q : Int)).tmod 20).tmod ((d.rds.getD ((((y : Int)).tmod (d.tols.length : Int)).toNat) []).length : Int)).toNat)) from ⟨SlAt.of_row (hS295.ok_row 9 rfl), (rnd_at (hS295.ok 12 _ rfl)).samples, SlAt.of_row (hS295.ok_row 8 rfl), (rdsAt_set (rnd_at (hS295.ok 12 _ rfl)).rds (SlAt.of_row (hS295.ok_row 7 rfl))), (by first | exact hlv0 | (simp only [kindTol, kindRd, List.length_set]; exact hlv0)), (by first | exact hrl8 | (simp only [kindTol, kindRd, List.length_set]; exact hrl8))⟩) (valid_thin hVM))) rfl rfl (by decide) ?_
 rintro a310 _ w312 ⟨vl313, vs314, vb315, lv316, rfl, hT317⟩ hA311; have hS318 := hS295.callS hT317 rfl; clear hT317 hA309 hS295 a308
 refine stw hA311 (op_call rfl en_29 (ev1 (hA311.ev rfl)) (by have h := (least_fn vl313 vs314 vb315 lv316 (kindRd d ((((y : Int)).tmod (d.tols.length : Int)).toNat) (((((q : Int)).tmod 20).tmod ((d.rds.getD ((((y : Int)).tmod (d.tols.length : Int)).toNat) []).length : Int)).toNat)) _ (rnd_at (hS318.ok 0 _ rfl))); rw [hlM] at h; exact h)) rfl rfl (by decide) ?_
 rintro a319 _ w321 ⟨u324, rfl, hT322⟩ hA320; clear hA311 a310
 have hS323 : Sep NoB w w321 [(osl u324 1 Lb.length (ints Lb)), (rndR true vl313 vs314 vb315 lv316 (kindRd d ((((y : Int)).tmod (d.tols.length : Int)).toNat) (((((q : Int)).tmod 20).tmod ((d.rds.getD ((((y : Int)).tmod (d.tols.length : Int)).toNat) []).length : Int)).toNat))), (osl u296 1 La.length (ints La)), (rndR true vl285 vs286 vb287 lv288 d), (row v263 3 1 ((chosenF d.tols.length x).length) (ints (chosenF d.tols.length x))), (rndR true vl249 vs250 vb251 lv252 (kindRd d ((((y : Int)).tmod (d.tols.length : Int)).toNat) (((((q : Int)).tmod 20).tmod ((d.rds.getD ((((y : Int)).tmod (d.tols.length : Int)).toNat) []).length : Int)).toNat))), (row v226 3 1 ((chosenF d.tols.length x).length) (ints (chosenF d.tols.length x))), (rndR true vl212 vs213 vb214 lv215 d), (row v203 3 1 ((chosenF d.tols.length x).length) (ints (chosenF d.tols.length x))), (row v166 3 1 (((d.rds.getD ((((y : Int)).tmod (d.tols.length : Int)).toNat) []).set (((((q : Int)).tmod 20).tmod ((d.rds.getD ((((y : Int)).tmod (d.tols.length : Int)).toNat) []).length : Int)).toNat) (-1)).length) (ints ((d.rds.getD ((((y : Int)).tmod (d.tols.length : Int)).toNat) []).set (((((q : Int)).tmod 20).tmod ((d.rds.getD ((((y : Int)).tmod (d.tols.length : Int)).toNat) []).length : Int)).toNat) (-1)))), (row v64 62 2 ((kindRd d ((((y : Int)).tmod (d.tols.length : Int)).toNat) (((((q : Int)).tmod 20).tmod ((d.rds.getD ((((y : Int)).tmod (d.tols.length : Int)).toNat) []).length : Int)).toNat)).tols.length) (vpairs ((kindRd d ((((y : Int)).tmod (d.tols.length : Int)).toNat) (((((q : Int)).tmod 20).tmod ((d.rds.getD ((((y : Int)).tmod (d.tols.length : Int)).toNat) []).length : Int)).toNat)).tols.zip (rlv.set ((((y : Int)).tmod (d.tols.length : Int)).toNat) v166)))), (row v42 44 2 ((kindRd d ((((y : Int)).tmod (d.tols.length : Int)).toNat) (((((q : Int)).tmod 20).tmod ((d.rds.getD ((((y : Int)).tmod (d.tols.length : Int)).toNat) []).length : Int)).toNat)).lots.length) (pairs ((kindRd d ((((y : Int)).tmod (d.tols.length : Int)).toNat) (((((q : Int)).tmod 20).tmod ((d.rds.getD ((((y : Int)).tmod (d.tols.length : Int)).toNat) []).length : Int)).toNat)).lots))), (blk b22 26 [v42, rs, (Value.int .i64 d.spread), v64]), (blk b4 26 [rl, rs, (Value.int .i64 d.spread), rb]), (rndR false rl rs rb rlv d)] := hS318.callS hT322 rfl; clear hT322 hS318
 refine st hA320 (op_move rfl (hA320.ev rfl)) rfl rfl (by decide) fun a325 hA326 => ?_; clear hA320 a319
 refine st hA326 (op_extract rfl (hA326.ev rfl) rfl) rfl rfl (by decide) fun a327 hA328 => ?_; clear hA326 a325
 refine st hA328 (op_extract rfl (hA328.ev rfl) rfl) rfl rfl (by decide) fun a329 hA330 => ?_; clear hA328 a327
 refine st hA330 (op_assign rfl (hA330.ev rfl)) rfl rfl (by decide) fun a331 hA332 => ?_; clear hA330 a329
 refine st hA332 (op_assign rfl (hA332.ev rfl)) rfl rfl (by decide) fun a333 hA334 => ?_; clear hA332 a331
 refine wl_nil ?_
 refine then_n ?_
 refine c_seq ?_
 have hA335 := hA334.as [(23, (Value.int .i64 0)), (22, u324), (21, (Value.int .i64 0)), (20, u296), (19, (Value.int .i64 0)), (18, (Value.bool bb)), (17, (Value.int .i64 0)), (16, (Value.bool ba))] rfl; clear hA334
 refine c_region ?_
 refine st hA335 (op_move rfl (hA335.ev rfl)) rfl rfl (by decide) fun a336 hA337 => ?_; clear hA335 a333
 refine st hA337 (op_eql rfl (hA337.ev rfl) (evc _ _)) rfl rfl (by decide) fun a338 hA339 => ?_; clear hA337 a336
 refine st hA339 (op_move rfl (hA339.ev rfl)) rfl rfl (by decide) fun a340 hA341 => ?_; clear hA339 a338
 refine stg hA341 (op_move rfl (hA341.ev rfl)) rfl rfl rfl rfl (by decide) fun a342 hA343 => ?_; clear hA341 a340
 refine stg hA343 (op_eql rfl (hA343.ev rfl) (evc _ _)) rfl rfl rfl rfl (by decide) fun a344 hA345 => ?_; clear hA343 a342
 refine st hA345 (op_pick_t rfl (hA345.ev rfl) (hA345.ev rfl)) rfl rfl (by decide) fun a346 hA347 => ?_; clear hA345 a344
 refine st hA347 (op_move rfl (hA347.ev rfl)) rfl rfl (by decide) fun a348 hA349 => ?_; clear hA347 a346
 refine stg hA349 (op_move rfl (hA349.ev rfl)) rfl rfl rfl rfl (by decide) fun a350 hA351 => ?_; clear hA349 a348
 refine stg hA351 (op_eql rfl (hA351.ev rfl) (evc _ _)) rfl rfl rfl rfl (by decide) fun a352 hA353 => ?_; clear hA351 a350
 refine st hA353 (op_pick_t rfl (hA353.ev rfl) (hA353.ev rfl)) rfl rfl (by decide) fun a354 hA355 => ?_; clear hA353 a352
 refine st hA355 (op_move rfl (hA355.ev rfl)) rfl rfl (by decide) fun a356 hA357 => ?_; clear hA355 a354
 refine stg hA357 (op_move rfl (hA357.ev rfl)) rfl rfl rfl rfl (by decide) fun a358 hA359 => ?_; clear hA357 a356
 refine stg hA359 (op_eql rfl (hA359.ev rfl) (evc _ _)) rfl rfl rfl rfl (by decide) fun a360 hA361 => ?_; clear hA359 a358
 refine st hA361 (op_pick_t rfl (hA361.ev rfl) (hA361.ev rfl)) rfl rfl (by decide) fun a362 hA363 => ?_; clear hA361 a360
 refine st hA363 (op_move rfl (hA363.ev rfl)) rfl rfl (by decide) fun a364 hA365 => ?_; clear hA363 a362
 refine stg hA365 (op_move rfl (hA365.ev rfl)) rfl rfl rfl rfl (by decide) fun a366 hA367 => ?_; clear hA365 a364
 refine stg hA367 (op_not rfl (hA367.ev rfl)) rfl rfl rfl rfl (by decide) fun a368 hA369 => ?_; clear hA367 a366
 refine stg hA369 (op_move rfl (hA369.ev rfl)) rfl rfl rfl rfl (by decide) fun a370 hA371 => ?_; clear hA369 a368
 rcases Bool.eq_false_or_eq_true (ba) with hb372 | hb372
 ·skip
  rw [hb372] at hA371
  refine stg hA371 (op_move rfl (hA371.ev rfl)) rfl rfl rfl rfl (by decide) fun a373 hA374 => ?_; clear hA371 a370
  have hd375 : bb = true := (hab hb372)
  rw [hd375] at hA374
  refine stg hA374 (op_pick_f rfl (hA374.ev rfl) (hA374.ev rfl)) rfl rfl rfl rfl (by decide) fun a376 hA377 => ?_; clear hA374 a373
  refine st hA377 (op_pick_t rfl (hA377.ev rfl) (hA377.ev rfl)) rfl rfl (by decide) fun a378 hA379 => ?_; clear hA377 a376
  refine st hA379 (op_move rfl (hA379.ev rfl)) rfl rfl (by decide) fun a380 hA381 => ?_; clear hA379 a378
  refine stg hA381 (op_move rfl (hA381.ev rfl)) rfl rfl rfl rfl (by decide) fun a382 hA383 => ?_; clear hA381 a380
  refine stg hA383 (op_lenS rfl un_23 (hA383.ev rfl) (show SlAt _ _ _ _ _ from (hS323.ok 0 _ rfl))) rfl rfl rfl rfl (by decide) fun a384 hA385 => ?_; clear hA383 a382
  refine stg hA385 (op_move rfl (hA385.ev rfl)) rfl rfl rfl rfl (by decide) fun a386 hA387 => ?_; clear hA385 a384
  refine stg hA387 (op_lenS rfl un_23 (hA387.ev rfl) (show SlAt _ _ _ _ _ from (hS323.ok 2 _ rfl))) rfl rfl rfl rfl (by decide) fun a388 hA389 => ?_; clear hA387 a386
  refine stg hA389 (op_leq rfl (hA389.ev rfl) (hA389.ev rfl)) rfl rfl rfl rfl (by decide) fun a390 hA391 => ?_; clear hA389 a388
  have hd392 : (Lb.length : Int) ≤ (La.length : Int) := (by omega)
  rw [decide_eq_true hd392] at hA391
  refine st hA391 (op_pick_t rfl (hA391.ev rfl) (hA391.ev rfl)) rfl rfl (by decide) fun a393 hA394 => ?_; clear hA391 a390
  refine st hA394 (op_move rfl (hA394.ev rfl)) rfl rfl (by decide) fun a395 hA396 => ?_; clear hA394 a393
  refine stwg hA396 (op_call rfl en_18 ev0 (wakes_ok _)) rfl rfl rfl rfl (by decide) ?_
  rintro a397 _ w399 ⟨rfl, hE400⟩ hA398; have hS401 := hS323.step hE400; clear hE400 hA396 hS323 a395
  refine st hA398 (op_pick_t rfl (hA398.ev rfl) (hA398.ev rfl)) rfl rfl (by decide) fun a402 hA403 => ?_; clear hA398 a397
  refine st hA403 (op_assign rfl (hA403.ev rfl)) rfl rfl (by decide) fun a404 hA405 => ?_; clear hA403 a402
  refine wl_nil ?_
  refine then_n ?_
  refine c_ret ?_
  refine fin_run hA405 (.inl rfl) (run_results1 hA405 rfl (.tmp rfl)) ?_
  exact ⟨rfl, hS401.ext⟩
 ·skip
  rw [hb372] at hA371
  refine skp hA371 rfl rfl rfl rfl rfl (by decide) fun a406 hA407 => ?_; clear hA371 a370
  refine stg hA407 (op_pick_t rfl (hA407.ev rfl) (evc _ _)) rfl rfl rfl rfl (by decide) fun a408 hA409 => ?_; clear hA407 a406
  refine st hA409 (op_pick_t rfl (hA409.ev rfl) (hA409.ev rfl)) rfl rfl (by decide) fun a410 hA411 => ?_; clear hA409 a408
  refine st hA411 (op_move rfl (hA411.ev rfl)) rfl rfl (by decide) fun a412 hA413 => ?_; clear hA411 a410
  refine stg hA413 (op_move rfl (hA413.ev rfl)) rfl rfl rfl rfl (by decide) fun a414 hA415 => ?_; clear hA413 a412
  refine stg hA415 (op_lenS rfl un_23 (hA415.ev rfl) (show SlAt _ _ _ _ _ from (hS323.ok 0 _ rfl))) rfl rfl rfl rfl (by decide) fun a416 hA417 => ?_; clear hA415 a414
  refine stg hA417 (op_move rfl (hA417.ev rfl)) rfl rfl rfl rfl (by decide) fun a418 hA419 => ?_; clear hA417 a416
  refine stg hA419 (op_lenS rfl un_23 (hA419.ev rfl) (show SlAt _ _ _ _ _ from (hS323.ok 2 _ rfl))) rfl rfl rfl rfl (by decide) fun a420 hA421 => ?_; clear hA419 a418
  refine stg hA421 (op_leq rfl (hA421.ev rfl) (hA421.ev rfl)) rfl rfl rfl rfl (by decide) fun a422 hA423 => ?_; clear hA421 a420
  have hd424 : (Lb.length : Int) ≤ (La.length : Int) := (by omega)
  rw [decide_eq_true hd424] at hA423
  refine st hA423 (op_pick_t rfl (hA423.ev rfl) (hA423.ev rfl)) rfl rfl (by decide) fun a425 hA426 => ?_; clear hA423 a422
  refine st hA426 (op_move rfl (hA426.ev rfl)) rfl rfl (by decide) fun a427 hA428 => ?_; clear hA426 a425
  refine stwg hA428 (op_call rfl en_18 ev0 (wakes_ok _)) rfl rfl rfl rfl (by decide) ?_
  rintro a429 _ w431 ⟨rfl, hE432⟩ hA430; have hS433 := hS323.step hE432; clear hE432 hA428 hS323 a427
  refine st hA430 (op_pick_t rfl (hA430.ev rfl) (hA430.ev rfl)) rfl rfl (by decide) fun a434 hA435 => ?_; clear hA430 a429
  refine st hA435 (op_assign rfl (hA435.ev rfl)) rfl rfl (by decide) fun a436 hA437 => ?_; clear hA435 a434
  refine wl_nil ?_
  refine then_n ?_
  refine c_ret ?_
  refine fin_run hA437 (.inl rfl) (run_results1 hA437 rfl (.tmp rfl)) ?_
  exact ⟨rfl, hS433.ext⟩

set_option maxHeartbeats 4000000 in
theorem RoundKinder_c4 (rl rs rb : Value) (rlv : List Value) (d : RD) (w : World) (hR : RoundAt w rl rs rb rlv d) (x : Nat) (hxb : x < 256) (z : Nat) (hzb : z < 256) (y : Nat) (hyb : y < 256) (q : Nat) (hqb : q < 256) (hf : readyB d = true) (hz0 : (z : Int).tmod 4 ≠ 0) (hz1 : (z : Int).tmod 4 ≠ 1) (hk : d.tols.length = 0) (hVM : Valid d) (ba bb : Bool) (he : explainsF d (chosenF d.tols.length x) = (ba, 0)) (heM : explainsF d (chosenF d.tols.length x) = (bb, 0)) (hab : ba = true → bb = true) (La Lb : List Int) (hl : leastR d = (La, 0)) (hlM : leastR d = (Lb, 0)) (hle : Lb.length ≤ La.length) :
  Calls Try.prog 9 #[(Value.agg #[rl, rs, (Value.int .i64 d.spread), rb]), (Value.int .u8 (x : Int)), (Value.int .u8 (z : Int)), (Value.int .u8 (y : Int)), (Value.int .u8 (q : Int))] w (Ret fun v w' => v = .bool true ∧ Ext NoB w w') := by
 refine calls_enter Try.func9 rfl fun a0 hA0 => ?_
 replace hA0 : Fr 201 [] [(0, (Value.agg #[rl, rs, (Value.int .i64 d.spread), rb])), (1, (Value.int .u8 (x : Int))), (2, (Value.int .u8 (z : Int))), (3, (Value.int .u8 (y : Int))), (4, (Value.int .u8 (q : Int)))] a0 := hA0
 have hth := thin_of (ready_of hf).1; have hc := (ready_of hf).2; have hV := valid_of hc; have hnb := hV.nb; have hns := hV.ns; have hnl := hV.nl; have hsp := hV.spread; have hlv0 := hR.lvl; have hrl8 := hR.rdl; have hN := tmod_nn (a := (q : Int)) (by omega) (show (0 : Int) < 20 by decide); have hN7 := tmod_nn hN.1 (show (0 : Int) < 7 by decide); have hIL := tmod_nn (a := (y : Int)) (by omega) (show (0 : Int) < (d.lots.length : Int) by omega); have hIl := hV.lots (((y : Int)).tmod (d.lots.length : Int)).toNat (by omega)
 have hS0 : Sep NoB w w [(rndR false rl rs rb rlv d)] := sep_ro ⟨rfl, hR, trivial⟩
 refine c_seq ?_
 refine c_region ?_
 refine stw hA0 (op_box hS0 rfl (hA0.ev rfl) (cs := [rl, rs, (Value.int .i64 d.spread), rb]) rfl) rfl rfl (by decide) ?_
 rintro a1 _ w3 ⟨b4, rfl, hS5⟩ hA2; clear hA0 hS0 a0
 refine st hA2 (op_assign rfl (evc _ _)) rfl rfl (by decide) fun a6 hA7 => ?_; clear hA2 a1
 refine wl_nil ?_
 refine then_n ?_
 refine c_seq ?_
 refine c_seq ?_
 refine c_region ?_
 refine st hA7 (op_loadA rfl ty_26 (hA7.ev rfl) (hS5.bk 0 rfl) (l := [rl, rs, (Value.int .i64 d.spread), rb]) rfl rfl) rfl rfl (by decide) fun a8 hA9 => ?_; clear hA7 a6
 refine stw hA9 (op_call rfl en_35 (ev1 (hA9.ev rfl)) (ready_ok rl rs rb rlv d _ (rnd_at (hS5.ok 1 _ rfl)))) rfl rfl (by decide) ?_
 rintro a10 _ w12 ⟨rfl, hE13⟩ hA11; have hS14 := hS5.step hE13; clear hE13 hA9 hS5 a8
 rw [hf] at hA11
 refine st hA11 (op_not rfl (hA11.ev rfl)) rfl rfl (by decide) fun a15 hA16 => ?_; clear hA11 a10
 refine wl_nil ?_
 refine then_n ?_
 refine c_false hA16 rfl ?_
 refine c_skip ?_
 refine then_n ?_
 refine c_seq ?_
 refine c_region ?_
 refine st hA16 (op_loadA rfl ty_26 (hA16.ev rfl) (hS14.bk 0 rfl) (l := [rl, rs, (Value.int .i64 d.spread), rb]) rfl rfl) rfl rfl (by decide) fun a17 hA18 => ?_; clear hA16 a15
 refine stw hA18 (op_alloc hS14 rfl ze_26 (cs := [(Value.slice none 0 0), (Value.slice none 0 0), (Value.int .i64 0), (Value.slice none 0 0)]) rfl) rfl rfl (by decide) ?_
 rintro a19 _ w21 ⟨b22, rfl, hS23⟩ hA20; clear hA18 hS14 a17
 refine sts hA20 (op_store hS23 rfl ty_26 (hA20.ev rfl) (hA20.ev rfl) (i := 0) rfl (vs := [rl, rs, (Value.int .i64 d.spread), rb]) rfl rfl (all_c (SlAt.one (rnd_at (hS23.ok 2 _ rfl)).lots) (all_c (SlAt.one (rnd_at (hS23.ok 2 _ rfl)).samples) (all_c rfl (all_c (SlAt.one (rnd_at (hS23.ok 2 _ rfl)).labs) all_n)))) (Nat.le_of_ble_eq_true rfl)) rfl rfl ?_
 intro _ w24 hS25 hA26; clear hA20
 have hS27 : Sep NoB w w24 [(blk b22 26 [rl, rs, (Value.int .i64 d.spread), rb]), (blk b4 26 [rl, rs, (Value.int .i64 d.spread), rb]), (rndR false rl rs rb rlv d)] := hS25; clear hS25 hS23
 refine wl_nil ?_
 refine then_n ?_
 refine c_seq ?_
 have hA28 := hA26.as [(11, (bptr b22 0)), (5, (bptr b4 0)), (1, (Value.int .u8 (x : Int))), (2, (Value.int .u8 (z : Int))), (3, (Value.int .u8 (y : Int))), (4, (Value.int .u8 (q : Int)))] rfl; clear hA26
 refine c_region ?_
 refine stw hA28 (op_buildSlice hS27 rfl pv0 un_22 ty_44 ze_44 (by decide) (cs := []) bs_44_0_) rfl rfl (by decide) ?_
 rintro a29 _ w31 ⟨b32, rfl, hS33⟩ hA30; clear hA28 hS27 a19
 refine st hA30 (op_field rfl fd_26_0 (hA30.ev rfl)) rfl rfl (by decide) fun a34 hA35 => ?_; clear hA30 a29
 refine st hA35 (op_load1 rfl ty_22 (hA35.ev rfl) (hS33.bk 2 rfl) rfl) rfl rfl (by decide) fun a36 hA37 => ?_; clear hA35 a34
 have hS38 := hS33.blk_row (i := 0) (sz := 2) (n := 0) rfl rfl (by decide); clear hS33
 refine stw hA37 (op_append hS38 rfl un_22 el_44 (hA37.ev rfl) (hA37.ev rfl) (i := 0) rfl (rnd_at (hS38.ok 3 _ rfl)).lots (pairs_one _) (by simp only [maxLen]; omega) (by omega)) rfl rfl (by decide) ?_
 intro a39 v42 w41 hS43 hA40
 have hS44 := hS43.row_say (i := 0) rfl (n' := d.lots.length) (xs' := (pairs d.lots)) (by simp) (by simp); clear hS43 hA37 hS38 a36
 refine st hA40 (op_field rfl fd_26_0 (hA40.ev rfl)) rfl rfl (by decide) fun a45 hA46 => ?_; clear hA40 a39
 refine sts hA46 (op_store hS44 rfl ty_22 (hA46.ev rfl) (hA46.ev rfl) (i := 1) rfl (vs := [v42]) (isSl_cells (SlAt.isSl (SlAt.of_row (hS44.ok_row 0 rfl)))) rfl (all_c (SlAt.one (SlAt.of_row (hS44.ok_row 0 rfl))) all_n) (Nat.le_of_ble_eq_true rfl)) rfl rfl ?_
 intro _ w47 hS48 hA49; clear hA46
 have hS50 : Sep NoB w w47 [(row v42 44 2 d.lots.length (pairs d.lots)), (blk b22 26 [v42, rs, (Value.int .i64 d.spread), rb]), (blk b4 26 [rl, rs, (Value.int .i64 d.spread), rb]), (rndR false rl rs rb rlv d)] := hS48; clear hS48 hS44
 refine wl_nil ?_
 refine then_n ?_
 refine c_seq ?_
 refine c_region ?_
 refine stw hA49 (op_buildSlice hS50 rfl pv0 un_24 ty_62 ze_62 (by decide) (cs := []) bs_62_0_) rfl rfl (by decide) ?_
 rintro a51 _ w53 ⟨b54, rfl, hS55⟩ hA52; clear hA49 hS50 a45
 refine st hA52 (op_field rfl fd_26_3 (hA52.ev rfl)) rfl rfl (by decide) fun a56 hA57 => ?_; clear hA52 a51
 refine st hA57 (op_load1 rfl ty_24 (hA57.ev rfl) (hS55.bk 3 rfl) rfl) rfl rfl (by decide) fun a58 hA59 => ?_; clear hA57 a56
 have hS60 := hS55.blk_row (i := 0) (sz := 2) (n := 0) rfl rfl (by decide); clear hS55
 refine stw hA59 (op_append hS60 rfl un_24 el_62 (hA59.ev rfl) (hA59.ev rfl) (i := 0) rfl (rnd_at (hS60.ok 4 _ rfl)).labs (labs_one (rnd_at (hS60.ok 4 _ rfl))) (by simp only [maxLen]; omega) (by omega)) rfl rfl (by decide) ?_
 intro a61 v64 w63 hS65 hA62
 have hS66 := hS65.row_say (i := 0) rfl (n' := d.tols.length) (xs' := (vpairs (d.tols.zip rlv))) (by simp) (by simp); clear hS65 hA59 hS60 a58
 refine st hA62 (op_field rfl fd_26_3 (hA62.ev rfl)) rfl rfl (by decide) fun a67 hA68 => ?_; clear hA62 a61
 refine sts hA68 (op_store hS66 rfl ty_24 (hA68.ev rfl) (hA68.ev rfl) (i := 2) rfl (vs := [v64]) (isSl_cells (SlAt.isSl (SlAt.of_row (hS66.ok_row 0 rfl)))) rfl (all_c (SlAt.one (SlAt.of_row (hS66.ok_row 0 rfl))) all_n) (Nat.le_of_ble_eq_true rfl)) rfl rfl ?_
 intro _ w69 hS70 hA71; clear hA68
 have hS72 : Sep NoB w w69 [(row v64 62 2 d.tols.length (vpairs (d.tols.zip rlv))), (row v42 44 2 d.lots.length (pairs d.lots)), (blk b22 26 [v42, rs, (Value.int .i64 d.spread), v64]), (blk b4 26 [rl, rs, (Value.int .i64 d.spread), rb]), (rndR false rl rs rb rlv d)] := hS70; clear hS70 hS66
 refine wl_nil ?_
 refine then_n ?_
 refine c_seq ?_
 have hA73 := hA71.as [(11, (bptr b22 0)), (5, (bptr b4 0)), (1, (Value.int .u8 (x : Int))), (2, (Value.int .u8 (z : Int))), (3, (Value.int .u8 (y : Int))), (4, (Value.int .u8 (q : Int)))] rfl; clear hA71
 refine c_region ?_
 refine st hA73 (op_move rfl (hA73.ev rfl)) rfl rfl (by decide) fun a74 hA75 => ?_; clear hA73 a67
 refine st hA75 (op_conv un_5 un_3 rfl (hA75.ev rfl) (v := (q : Int)) (wrap_i64 (by omega) (by omega))) rfl rfl (by decide) fun a76 hA77 => ?_; clear hA75 a74
 refine st hA77 (op_rem rfl (hA77.ev rfl) (evc _ _) (by omega)) rfl rfl (by decide) fun a78 hA79 => ?_; clear hA77 a76
 refine st hA79 (op_assign rfl (hA79.ev rfl)) rfl rfl (by decide) fun a80 hA81 => ?_; clear hA79 a78
 refine wl_nil ?_
 refine then_n ?_
 refine c_seq ?_
 refine c_block ?_
 refine c_seq ?_
 refine c_region ?_
 refine st hA81 (op_move rfl (hA81.ev rfl)) rfl rfl (by decide) fun a82 hA83 => ?_; clear hA81 a80
 refine st hA83 (op_rem rfl (hA83.ev rfl) (evc _ _) (by omega)) rfl rfl (by decide) fun a84 hA85 => ?_; clear hA83 a82
 refine st hA85 (op_eql rfl (hA85.ev rfl) (evc _ _)) rfl rfl (by decide) fun a86 hA87 => ?_; clear hA85 a84
 have hd88 : ¬ ((((z : Int)).tmod 4) = 0) := (by omega)
 rw [decide_eq_false hd88] at hA87
 refine st hA87 (op_assign rfl (hA87.ev rfl)) rfl rfl (by decide) fun a89 hA90 => ?_; clear hA87 a86
 refine wl_nil ?_
 refine then_n ?_
 refine c_false hA90 rfl ?_
 refine c_seq ?_
 have hA91 := hA90.as [(12, (Value.int .i64 (((q : Int)).tmod 20))), (11, (bptr b22 0)), (5, (bptr b4 0)), (1, (Value.int .u8 (x : Int))), (2, (Value.int .u8 (z : Int))), (3, (Value.int .u8 (y : Int)))] rfl; clear hA90
 refine c_region ?_
 refine st hA91 (op_move rfl (hA91.ev rfl)) rfl rfl (by decide) fun a92 hA93 => ?_; clear hA91 a89
 refine st hA93 (op_rem rfl (hA93.ev rfl) (evc _ _) (by omega)) rfl rfl (by decide) fun a94 hA95 => ?_; clear hA93 a92
 refine st hA95 (op_eql rfl (hA95.ev rfl) (evc _ _)) rfl rfl (by decide) fun a96 hA97 => ?_; clear hA95 a94
 have hd98 : ¬ ((((z : Int)).tmod 4) = 1) := (by omega)
 rw [decide_eq_false hd98] at hA97
 refine st hA97 (op_assign rfl (hA97.ev rfl)) rfl rfl (by decide) fun a99 hA100 => ?_; clear hA97 a96
 refine wl_nil ?_
 refine then_n ?_
 refine c_false hA100 rfl ?_
 refine c_seq ?_
 refine c_region ?_
 refine st hA100 (op_field rfl fd_26_3 (hA100.ev rfl)) rfl rfl (by decide) fun a101 hA102 => ?_; clear hA100 a99
 refine st hA102 (op_load1 rfl ty_24 (hA102.ev rfl) (hS72.bk 2 rfl) rfl) rfl rfl (by decide) fun a103 hA104 => ?_; clear hA102 a101
 refine st hA104 (op_lenS rfl un_24 (hA104.ev rfl) (SlAt.of_row (hS72.ok_row 0 rfl))) rfl rfl (by decide) fun a105 hA106 => ?_; clear hA104 a103
 refine st hA106 (op_gtr rfl (hA106.ev rfl) (evc _ _)) rfl rfl (by decide) fun a107 hA108 => ?_; clear hA106 a105
 have hd109 : ¬ (0 < (d.tols.length : Int)) := (by omega)
 rw [decide_eq_false hd109] at hA108
 refine st hA108 (op_assign rfl (hA108.ev rfl)) rfl rfl (by decide) fun a110 hA111 => ?_; clear hA108 a107
 refine wl_nil ?_
 refine then_n ?_
 refine c_false hA111 rfl ?_
 refine c_skip ?_
 refine blk_n ?_
 refine then_n ?_
 refine c_seq ?_
 have hA112 := hA111.as [(11, (bptr b22 0)), (5, (bptr b4 0)), (1, (Value.int .u8 (x : Int)))] rfl; clear hA111
 refine c_region ?_
 refine st hA112 (op_loadA rfl ty_26 (hA112.ev rfl) (hS72.bk 3 rfl) (l := [rl, rs, (Value.int .i64 d.spread), rb]) rfl rfl) rfl rfl (by decide) fun a113 hA114 => ?_; clear hA112 a110
 refine st hA114 (op_move rfl (hA114.ev rfl)) rfl rfl (by decide) fun a115 hA116 => ?_; clear hA114 a113
 refine stw hA116 (op_call rfl en_36 (ev2 (hA116.ev rfl) (hA116.ev rfl)) (chosen_ok rl rs rb rlv d _ (rnd_at (hS72.ok 4 _ rfl)) x (by omega))) rfl rfl (by decide) ?_
 rintro a117 v123 w119 ⟨hE120, hO121⟩ hA118; have hS122 := hS72.new_row hE120 hO121; clear hE120 hO121 hA116 hS72 a115
 refine st hA118 (op_assign rfl (hA118.ev rfl)) rfl rfl (by decide) fun a124 hA125 => ?_; clear hA118 a117
 refine wl_nil ?_
 refine then_n ?_
 refine c_seq ?_
 refine c_region ?_
 refine st hA125 (op_loadA rfl ty_26 (hA125.ev rfl) (hS122.bk 4 rfl) (l := [rl, rs, (Value.int .i64 d.spread), rb]) rfl rfl) rfl rfl (by decide) fun a126 hA127 => ?_; clear hA125 a124
 refine stw hA127 (op_call rfl en_20 (ev1 (hA127.ev rfl)) (Round_ok rl rs rb rlv d _ (rnd_at (hS122.ok 5 _ rfl)) hth)) rfl rfl (by decide) ?_
 rintro a128 _ w130 ⟨vl131, vs132, vb133, lv134, rfl, hT135⟩ hA129; have hS136 := hS122.callS hT135 rfl; clear hT135 hA127 hS122 a126
 refine st hA129 (op_move rfl (hA129.ev rfl)) rfl rfl (by decide) fun a137 hA138 => ?_; clear hA129 a128
 refine stw hA138 (op_call rfl en_22 (ev1 (hA138.ev rfl)) (list_ok (chosenF d.tols.length x) _ _ (SlAt.of_row (hS136.ok_row 1 rfl)) (Nat.le_trans (chosenF_len _ _) (by omega)))) rfl rfl (by decide) ?_
 rintro a139 v145 w141 ⟨hE142, hO143⟩ hA140; have hS144 := hS136.new_row hE142 hO143; clear hE142 hO143 hA138 hS136 a137
 refine stw hA140 (op_call rfl en_21 (ev2 (hA140.ev rfl) (hA140.ev rfl)) (by have h := (explains_ok vl131 vs132 vb133 lv134 d _ (rnd_at (hS144.ok 1 _ rfl)) _ (chosenF d.tols.length x) (SlAt.of_row (hS144.ok_row 0 rfl)) (Nat.le_trans (chosenF_len _ _) (by omega))); rw [heM] at h; exact h)) rfl rfl (by decide) ?_
 rintro a146 _ w148 ⟨rfl, hE149⟩ hA147; have hS150 := hS144.step hE149; clear hE149 hA140 hS144 a139
 refine st hA147 (op_move rfl (hA147.ev rfl)) rfl rfl (by decide) fun a151 hA152 => ?_; clear hA147 a146
 refine st hA152 (op_extract rfl (hA152.ev rfl) rfl) rfl rfl (by decide) fun a153 hA154 => ?_; clear hA152 a151
 refine st hA154 (op_extract rfl (hA154.ev rfl) rfl) rfl rfl (by decide) fun a155 hA156 => ?_; clear hA154 a153
 refine st hA156 (op_assign rfl (hA156.ev rfl)) rfl rfl (by decide) fun a157 hA158 => ?_; clear hA156 a155
 refine st hA158 (op_assign rfl (hA158.ev rfl)) rfl rfl (by decide) fun a159 hA160 => ?_; clear hA158 a157
 refine wl_nil ?_
 refine then_n ?_
 refine c_seq ?_
 have hA161 := hA160.as [(17, (Value.int .i64 0)), (16, (Value.bool bb)), (15, v123), (11, (bptr b22 0)), (5, (bptr b4 0))] rfl; clear hA160
 have hS162 := ((hS150.row_say (i := 4) rfl (n' := d.lots.length) (xs' := pairs d.lots) rfl rfl).row_say (i := 3) rfl (n' := d.tols.length) (xs' := vpairs (d.tols.zip rlv)) rfl rfl); clear hS150
 refine c_region ?_
 refine st hA161 (op_loadA rfl ty_26 (hA161.ev rfl) (hS162.bk 5 rfl) (l := [v42, rs, (Value.int .i64 d.spread), v64]) rfl rfl) rfl rfl (by decide) fun a163 hA164 => ?_; clear hA161 a159
 refine stw hA164 (op_call rfl en_20 (ev1 (hA164.ev rfl)) (Round_ok v42 rs v64 rlv d _ (show RoundAt _ v42 rs v64 rlv d from ⟨SlAt.of_row (hS162.ok_row 4 rfl), (rnd_at (hS162.ok 7 _ rfl)).samples, SlAt.of_row (hS162.ok_row 3 rfl), (rnd_at (hS162.ok 7 _ rfl)).rds, (by first | exact hlv0 | (simp only [kindTol, kindRd, List.length_set]; exact hlv0)), (by first | exact hrl8 | (simp only [kindTol, kindRd, List.length_set]; exact hrl8))⟩) hth)) rfl rfl (by decide) ?_
 rintro a165 _ w167 ⟨vl168, vs169, vb170, lv171, rfl, hT172⟩ hA166; have hS173 := hS162.callS hT172 rfl; clear hT172 hA164 hS162 a163
 refine st hA166 (op_move rfl (hA166.ev rfl)) rfl rfl (by decide) fun a174 hA175 => ?_; clear hA166 a165
 refine stw hA175 (op_call rfl en_22 (ev1 (hA175.ev rfl)) (list_ok (chosenF d.tols.length x) _ _ (SlAt.of_row (hS173.ok_row 3 rfl)) (Nat.le_trans (chosenF_len _ _) (by omega)))) rfl rfl (by decide) ?_
 rintro a176 v182 w178 ⟨hE179, hO180⟩ hA177; have hS181 := hS173.new_row hE179 hO180; clear hE179 hO180 hA175 hS173 a174
 refine stw hA177 (op_call rfl en_21 (ev2 (hA177.ev rfl) (hA177.ev rfl)) (by have h := (explains_ok vl168 vs169 vb170 lv171 d _ (rnd_at (hS181.ok 1 _ rfl)) _ (chosenF d.tols.length x) (SlAt.of_row (hS181.ok_row 0 rfl)) (Nat.le_trans (chosenF_len _ _) (by omega))); rw [heM] at h; exact h)) rfl rfl (by decide) ?_
 rintro a183 _ w185 ⟨rfl, hE186⟩ hA184; have hS187 := hS181.step hE186; clear hE186 hA177 hS181 a176
 refine st hA184 (op_move rfl (hA184.ev rfl)) rfl rfl (by decide) fun a188 hA189 => ?_; clear hA184 a183
 refine st hA189 (op_extract rfl (hA189.ev rfl) rfl) rfl rfl (by decide) fun a190 hA191 => ?_; clear hA189 a188
 refine st hA191 (op_extract rfl (hA191.ev rfl) rfl) rfl rfl (by decide) fun a192 hA193 => ?_; clear hA191 a190
 refine st hA193 (op_assign rfl (hA193.ev rfl)) rfl rfl (by decide) fun a194 hA195 => ?_; clear hA193 a192
 refine st hA195 (op_assign rfl (hA195.ev rfl)) rfl rfl (by decide) fun a196 hA197 => ?_; clear hA195 a194
 refine wl_nil ?_
 refine then_n ?_
 refine c_seq ?_
 have hA198 := hA197.as [(19, (Value.int .i64 0)), (18, (Value.bool bb)), (17, (Value.int .i64 0)), (16, (Value.bool bb)), (11, (bptr b22 0)), (5, (bptr b4 0))] rfl; clear hA197
 refine c_region ?_
 refine st hA198 (op_loadA rfl ty_26 (hA198.ev rfl) (hS187.bk 8 rfl) (l := [rl, rs, (Value.int .i64 d.spread), rb]) rfl rfl) rfl rfl (by decide) fun a199 hA200 => ?_; clear hA198 a196
 refine stw hA200 (op_call rfl en_20 (ev1 (hA200.ev rfl)) (Round_ok rl rs rb rlv d _ (rnd_at (hS187.ok 9 _ rfl)) hth)) rfl rfl (by decide) ?_
 rintro a201 _ w203 ⟨vl204, vs205, vb206, lv207, rfl, hT208⟩ hA202; have hS209 := hS187.callS hT208 rfl; clear hT208 hA200 hS187 a199
 refine stw hA202 (op_call rfl en_29 (ev1 (hA202.ev rfl)) (by have h := (least_fn vl204 vs205 vb206 lv207 d _ (rnd_at (hS209.ok 0 _ rfl))); rw [hlM] at h; exact h)) rfl rfl (by decide) ?_
 rintro a210 _ w212 ⟨u215, rfl, hT213⟩ hA211; clear hA202 a201
 have hS214 : Sep NoB w w212 [(osl u215 1 Lb.length (ints Lb)), (rndR true vl204 vs205 vb206 lv207 d), (row v182 3 1 ((chosenF d.tols.length x).length) (ints (chosenF d.tols.length x))), (rndR true vl168 vs169 vb170 lv171 d), (row v145 3 1 ((chosenF d.tols.length x).length) (ints (chosenF d.tols.length x))), (rndR true vl131 vs132 vb133 lv134 d), (row v123 3 1 ((chosenF d.tols.length x).length) (ints (chosenF d.tols.length x))), (row v64 62 2 d.tols.length (vpairs (d.tols.zip rlv))), (row v42 44 2 d.lots.length (pairs d.lots)), (blk b22 26 [v42, rs, (Value.int .i64 d.spread), v64]), (blk b4 26 [rl, rs, (Value.int .i64 d.spread), rb]), (rndR false rl rs rb rlv d)] := hS209.callS hT213 rfl; clear hT213 hS209
 refine st hA211 (op_move rfl (hA211.ev rfl)) rfl rfl (by decide) fun a216 hA217 => ?_; clear hA211 a210
 refine st hA217 (op_extract rfl (hA217.ev rfl) rfl) rfl rfl (by decide) fun a218 hA219 => ?_; clear hA217 a216
 refine st hA219 (op_extract rfl (hA219.ev rfl) rfl) rfl rfl (by decide) fun a220 hA221 => ?_; clear hA219 a218
 refine st hA221 (op_assign rfl (hA221.ev rfl)) rfl rfl (by decide) fun a222 hA223 => ?_; clear hA221 a220
 refine st hA223 (op_assign rfl (hA223.ev rfl)) rfl rfl (by decide) fun a224 hA225 => ?_; clear hA223 a222
 refine wl_nil ?_
 refine then_n ?_
 refine c_seq ?_
 have hA226 := hA225.as [(21, (Value.int .i64 0)), (20, u215), (19, (Value.int .i64 0)), (18, (Value.bool bb)), (17, (Value.int .i64 0)), (16, (Value.bool bb)), (11, (bptr b22 0))] rfl; clear hA225
 refine c_region ?_
 refine st hA226 (op_loadA rfl ty_26 (hA226.ev rfl) (hS214.bk 9 rfl) (l := [v42, rs, (Value.int .i64 d.spread), v64]) rfl rfl) rfl rfl (by decide) fun a227 hA228 => ?_; clear hA226 a224
 refine stw hA228 (op_call rfl en_20 (ev1 (hA228.ev rfl)) (Round_ok v42 rs v64 rlv d _ (show RoundAt _ v42 rs v64 rlv d from ⟨SlAt.of_row (hS214.ok_row 8 rfl), (rnd_at (hS214.ok 11 _ rfl)).samples, SlAt.of_row (hS214.ok_row 7 rfl), (rnd_at (hS214.ok 11 _ rfl)).rds, (by first | exact hlv0 | (simp only [kindTol, kindRd, List.length_set]; exact hlv0)), (by first | exact hrl8 | (simp only [kindTol, kindRd, List.length_set]; exact hrl8))⟩) hth)) rfl rfl (by decide) ?_
 rintro a229 _ w231 ⟨vl232, vs233, vb234, lv235, rfl, hT236⟩ hA230; have hS237 := hS214.callS hT236 rfl; clear hT236 hA228 hS214 a227
 refine stw hA230 (op_call rfl en_29 (ev1 (hA230.ev rfl)) (by have h := (least_fn vl232 vs233 vb234 lv235 d _ (rnd_at (hS237.ok 0 _ rfl))); rw [hlM] at h; exact h)) rfl rfl (by decide) ?_
 rintro a238 _ w240 ⟨u243, rfl, hT241⟩ hA239; clear hA230 a229
 have hS242 : Sep NoB w w240 [(osl u243 1 Lb.length (ints Lb)), (rndR true vl232 vs233 vb234 lv235 d), (osl u215 1 Lb.length (ints Lb)), (rndR true vl204 vs205 vb206 lv207 d), (row v182 3 1 ((chosenF d.tols.length x).length) (ints (chosenF d.tols.length x))), (rndR true vl168 vs169 vb170 lv171 d), (row v145 3 1 ((chosenF d.tols.length x).length) (ints (chosenF d.tols.length x))), (rndR true vl131 vs132 vb133 lv134 d), (row v123 3 1 ((chosenF d.tols.length x).length) (ints (chosenF d.tols.length x))), (row v64 62 2 d.tols.length (vpairs (d.tols.zip rlv))), (row v42 44 2 d.lots.length (pairs d.lots)), (blk b22 26 [v42, rs, (Value.int .i64 d.spread), v64]), (blk b4 26 [rl, rs, (Value.int .i64 d.spread), rb]), (rndR false rl rs rb rlv d)] := hS237.callS hT241 rfl; clear hT241 hS237
 refine st hA239 (op_move rfl (hA239.ev rfl)) rfl rfl (by decide) fun a244 hA245 => ?_; clear hA239 a238
 refine st hA245 (op_extract rfl (hA245.ev rfl) rfl) rfl rfl (by decide) fun a246 hA247 => ?_; clear hA245 a244
 refine st hA247 (op_extract rfl (hA247.ev rfl) rfl) rfl rfl (by decide) fun a248 hA249 => ?_; clear hA247 a246
 refine st hA249 (op_assign rfl (hA249.ev rfl)) rfl rfl (by decide) fun a250 hA251 => ?_; clear hA249 a248
 refine st hA251 (op_assign rfl (hA251.ev rfl)) rfl rfl (by decide) fun a252 hA253 => ?_; clear hA251 a250
 refine wl_nil ?_
 refine then_n ?_
 refine c_seq ?_
 have hA254 := hA253.as [(23, (Value.int .i64 0)), (22, u243), (21, (Value.int .i64 0)), (20, u215), (19, (Value.int .i64 0)), (18, (Value.bool bb)), (17, (Value.int .i64 0)), (16, (Value.bool bb))] rfl; clear hA253
 refine c_region ?_
 refine st hA254 (op_move rfl (hA254.ev rfl)) rfl rfl (by decide) fun a255 hA256 => ?_; clear hA254 a252
 refine st hA256 (op_eql rfl (hA256.ev rfl) (evc _ _)) rfl rfl (by decide) fun a257 hA258 => ?_; clear hA256 a255
 refine st hA258 (op_move rfl (hA258.ev rfl)) rfl rfl (by decide) fun a259 hA260 => ?_; clear hA258 a257
 refine stg hA260 (op_move rfl (hA260.ev rfl)) rfl rfl rfl rfl (by decide) fun a261 hA262 => ?_; clear hA260 a259
 refine stg hA262 (op_eql rfl (hA262.ev rfl) (evc _ _)) rfl rfl rfl rfl (by decide) fun a263 hA264 => ?_; clear hA262 a261
 refine st hA264 (op_pick_t rfl (hA264.ev rfl) (hA264.ev rfl)) rfl rfl (by decide) fun a265 hA266 => ?_; clear hA264 a263
 refine st hA266 (op_move rfl (hA266.ev rfl)) rfl rfl (by decide) fun a267 hA268 => ?_; clear hA266 a265
 refine stg hA268 (op_move rfl (hA268.ev rfl)) rfl rfl rfl rfl (by decide) fun a269 hA270 => ?_; clear hA268 a267
 refine stg hA270 (op_eql rfl (hA270.ev rfl) (evc _ _)) rfl rfl rfl rfl (by decide) fun a271 hA272 => ?_; clear hA270 a269
 refine st hA272 (op_pick_t rfl (hA272.ev rfl) (hA272.ev rfl)) rfl rfl (by decide) fun a273 hA274 => ?_; clear hA272 a271
 refine st hA274 (op_move rfl (hA274.ev rfl)) rfl rfl (by decide) fun a275 hA276 => ?_; clear hA274 a273
 refine stg hA276 (op_move rfl (hA276.ev rfl)) rfl rfl rfl rfl (by decide) fun a277 hA278 => ?_; clear hA276 a275
 refine stg hA278 (op_eql rfl (hA278.ev rfl) (evc _ _)) rfl rfl rfl rfl (by decide) fun a279 hA280 => ?_; clear hA278 a277
 refine st hA280 (op_pick_t rfl (hA280.ev rfl) (hA280.ev rfl)) rfl rfl (by decide) fun a281 hA282 => ?_; clear hA280 a279
 refine st hA282 (op_move rfl (hA282.ev rfl)) rfl rfl (by decide) fun a283 hA284 => ?_; clear hA282 a281
 refine stg hA284 (op_move rfl (hA284.ev rfl)) rfl rfl rfl rfl (by decide) fun a285 hA286 => ?_; clear hA284 a283
 refine stg hA286 (op_not rfl (hA286.ev rfl)) rfl rfl rfl rfl (by decide) fun a287 hA288 => ?_; clear hA286 a285
 refine stg hA288 (op_move rfl (hA288.ev rfl)) rfl rfl rfl rfl (by decide) fun a289 hA290 => ?_; clear hA288 a287
 rcases Bool.eq_false_or_eq_true (bb) with hb291 | hb291
 ·skip
  rw [hb291] at hA290
  refine stg hA290 (op_move rfl (hA290.ev rfl)) rfl rfl rfl rfl (by decide) fun a292 hA293 => ?_; clear hA290 a289
  refine stg hA293 (op_pick_f rfl (hA293.ev rfl) (hA293.ev rfl)) rfl rfl rfl rfl (by decide) fun a294 hA295 => ?_; clear hA293 a292
  refine st hA295 (op_pick_t rfl (hA295.ev rfl) (hA295.ev rfl)) rfl rfl (by decide) fun a296 hA297 => ?_; clear hA295 a294
  refine st hA297 (op_move rfl (hA297.ev rfl)) rfl rfl (by decide) fun a298 hA299 => ?_; clear hA297 a296
  refine stg hA299 (op_move rfl (hA299.ev rfl)) rfl rfl rfl rfl (by decide) fun a300 hA301 => ?_; clear hA299 a298
  refine stg hA301 (op_lenS rfl un_23 (hA301.ev rfl) (show SlAt _ _ _ _ _ from (hS242.ok 0 _ rfl))) rfl rfl rfl rfl (by decide) fun a302 hA303 => ?_; clear hA301 a300
  refine stg hA303 (op_move rfl (hA303.ev rfl)) rfl rfl rfl rfl (by decide) fun a304 hA305 => ?_; clear hA303 a302
  refine stg hA305 (op_lenS rfl un_23 (hA305.ev rfl) (show SlAt _ _ _ _ _ from (hS242.ok 2 _ rfl))) rfl rfl rfl rfl (by decide) fun a306 hA307 => ?_; clear hA305 a304
  refine stg hA307 (op_leq rfl (hA307.ev rfl) (hA307.ev rfl)) rfl rfl rfl rfl (by decide) fun a308 hA309 => ?_; clear hA307 a306
  have hd310 : (Lb.length : Int) ≤ (Lb.length : Int) := (by omega)
  rw [decide_eq_true hd310] at hA309
  refine st hA309 (op_pick_t rfl (hA309.ev rfl) (hA309.ev rfl)) rfl rfl (by decide) fun a311 hA312 => ?_; clear hA309 a308
  refine st hA312 (op_move rfl (hA312.ev rfl)) rfl rfl (by decide) fun a313 hA314 => ?_; clear hA312 a311
  refine stwg hA314 (op_call rfl en_18 ev0 (wakes_ok _)) rfl rfl rfl rfl (by decide) ?_
  rintro a315 _ w317 ⟨rfl, hE318⟩ hA316; have hS319 := hS242.step hE318; clear hE318 hA314 hS242 a313
  refine st hA316 (op_pick_t rfl (hA316.ev rfl) (hA316.ev rfl)) rfl rfl (by decide) fun a320 hA321 => ?_; clear hA316 a315
  refine st hA321 (op_assign rfl (hA321.ev rfl)) rfl rfl (by decide) fun a322 hA323 => ?_; clear hA321 a320
  refine wl_nil ?_
  refine then_n ?_
  refine c_ret ?_
  refine fin_run hA323 (.inl rfl) (run_results1 hA323 rfl (.tmp rfl)) ?_
  exact ⟨rfl, hS319.ext⟩
 ·skip
  rw [hb291] at hA290
  refine skp hA290 rfl rfl rfl rfl rfl (by decide) fun a324 hA325 => ?_; clear hA290 a289
  refine stg hA325 (op_pick_t rfl (hA325.ev rfl) (evc _ _)) rfl rfl rfl rfl (by decide) fun a326 hA327 => ?_; clear hA325 a324
  refine st hA327 (op_pick_t rfl (hA327.ev rfl) (hA327.ev rfl)) rfl rfl (by decide) fun a328 hA329 => ?_; clear hA327 a326
  refine st hA329 (op_move rfl (hA329.ev rfl)) rfl rfl (by decide) fun a330 hA331 => ?_; clear hA329 a328
  refine stg hA331 (op_move rfl (hA331.ev rfl)) rfl rfl rfl rfl (by decide) fun a332 hA333 => ?_; clear hA331 a330
  refine stg hA333 (op_lenS rfl un_23 (hA333.ev rfl) (show SlAt _ _ _ _ _ from (hS242.ok 0 _ rfl))) rfl rfl rfl rfl (by decide) fun a334 hA335 => ?_; clear hA333 a332
  refine stg hA335 (op_move rfl (hA335.ev rfl)) rfl rfl rfl rfl (by decide) fun a336 hA337 => ?_; clear hA335 a334
  refine stg hA337 (op_lenS rfl un_23 (hA337.ev rfl) (show SlAt _ _ _ _ _ from (hS242.ok 2 _ rfl))) rfl rfl rfl rfl (by decide) fun a338 hA339 => ?_; clear hA337 a336
  refine stg hA339 (op_leq rfl (hA339.ev rfl) (hA339.ev rfl)) rfl rfl rfl rfl (by decide) fun a340 hA341 => ?_; clear hA339 a338
  have hd342 : (Lb.length : Int) ≤ (Lb.length : Int) := (by omega)
  rw [decide_eq_true hd342] at hA341
  refine st hA341 (op_pick_t rfl (hA341.ev rfl) (hA341.ev rfl)) rfl rfl (by decide) fun a343 hA344 => ?_; clear hA341 a340
  refine st hA344 (op_move rfl (hA344.ev rfl)) rfl rfl (by decide) fun a345 hA346 => ?_; clear hA344 a343
  refine stwg hA346 (op_call rfl en_18 ev0 (wakes_ok _)) rfl rfl rfl rfl (by decide) ?_
  rintro a347 _ w349 ⟨rfl, hE350⟩ hA348; have hS351 := hS242.step hE350; clear hE350 hA346 hS242 a345
  refine st hA348 (op_pick_t rfl (hA348.ev rfl) (hA348.ev rfl)) rfl rfl (by decide) fun a352 hA353 => ?_; clear hA348 a347
  refine st hA353 (op_assign rfl (hA353.ev rfl)) rfl rfl (by decide) fun a354 hA355 => ?_; clear hA353 a352
  refine wl_nil ?_
  refine then_n ?_
  refine c_ret ?_
  refine fin_run hA355 (.inl rfl) (run_results1 hA355 rfl (.tmp rfl)) ?_
  exact ⟨rfl, hS351.ext⟩

set_option maxHeartbeats 4000000 in
theorem RoundKinder_c5 (rl rs rb : Value) (rlv : List Value) (d : RD) (w : World) (hR : RoundAt w rl rs rb rlv d) (x : Nat) (hxb : x < 256) (z : Nat) (hzb : z < 256) (y : Nat) (hyb : y < 256) (q : Nat) (hqb : q < 256) (hf : readyB d = true) (hz : (z : Int).tmod 4 = 3) (hk : 0 < d.tols.length) (h0 : d.samples.length = 0) (hVM : Valid d) (ba bb : Bool) (he : explainsF d (chosenF d.tols.length x) = (ba, 0)) (heM : explainsF d (chosenF d.tols.length x) = (bb, 0)) (hab : ba = true → bb = true) (La Lb : List Int) (hl : leastR d = (La, 0)) (hlM : leastR d = (Lb, 0)) (hle : Lb.length ≤ La.length) :
  Calls Try.prog 9 #[(Value.agg #[rl, rs, (Value.int .i64 d.spread), rb]), (Value.int .u8 (x : Int)), (Value.int .u8 (z : Int)), (Value.int .u8 (y : Int)), (Value.int .u8 (q : Int))] w (Ret fun v w' => v = .bool true ∧ Ext NoB w w') := by
 refine calls_enter Try.func9 rfl fun a0 hA0 => ?_
 replace hA0 : Fr 201 [] [(0, (Value.agg #[rl, rs, (Value.int .i64 d.spread), rb])), (1, (Value.int .u8 (x : Int))), (2, (Value.int .u8 (z : Int))), (3, (Value.int .u8 (y : Int))), (4, (Value.int .u8 (q : Int)))] a0 := hA0
 have hth := thin_of (ready_of hf).1; have hc := (ready_of hf).2; have hV := valid_of hc; have hnb := hV.nb; have hns := hV.ns; have hnl := hV.nl; have hsp := hV.spread; have hlv0 := hR.lvl; have hrl8 := hR.rdl; have hN := tmod_nn (a := (q : Int)) (by omega) (show (0 : Int) < 20 by decide); have hN7 := tmod_nn hN.1 (show (0 : Int) < 7 by decide); have hIL := tmod_nn (a := (y : Int)) (by omega) (show (0 : Int) < (d.lots.length : Int) by omega); have hIl := hV.lots (((y : Int)).tmod (d.lots.length : Int)).toNat (by omega); have hIK := tmod_nn (a := (y : Int)) (by omega) (show (0 : Int) < (d.tols.length : Int) by omega); have hIt := hV.tols (((y : Int)).tmod (d.tols.length : Int)).toNat (by omega); have hIr := hV.rdl (((y : Int)).tmod (d.tols.length : Int)).toNat (by omega)
 have hS0 : Sep NoB w w [(rndR false rl rs rb rlv d)] := sep_ro ⟨rfl, hR, trivial⟩
 refine c_seq ?_
 refine c_region ?_
 refine stw hA0 (op_box hS0 rfl (hA0.ev rfl) (cs := [rl, rs, (Value.int .i64 d.spread), rb]) rfl) rfl rfl (by decide) ?_
 rintro a1 _ w3 ⟨b4, rfl, hS5⟩ hA2; clear hA0 hS0 a0
 refine st hA2 (op_assign rfl (evc _ _)) rfl rfl (by decide) fun a6 hA7 => ?_; clear hA2 a1
 refine wl_nil ?_
 refine then_n ?_
 refine c_seq ?_
 refine c_seq ?_
 refine c_region ?_
 refine st hA7 (op_loadA rfl ty_26 (hA7.ev rfl) (hS5.bk 0 rfl) (l := [rl, rs, (Value.int .i64 d.spread), rb]) rfl rfl) rfl rfl (by decide) fun a8 hA9 => ?_; clear hA7 a6
 refine stw hA9 (op_call rfl en_35 (ev1 (hA9.ev rfl)) (ready_ok rl rs rb rlv d _ (rnd_at (hS5.ok 1 _ rfl)))) rfl rfl (by decide) ?_
 rintro a10 _ w12 ⟨rfl, hE13⟩ hA11; have hS14 := hS5.step hE13; clear hE13 hA9 hS5 a8
 rw [hf] at hA11
 refine st hA11 (op_not rfl (hA11.ev rfl)) rfl rfl (by decide) fun a15 hA16 => ?_; clear hA11 a10
 refine wl_nil ?_
 refine then_n ?_
 refine c_false hA16 rfl ?_
 refine c_skip ?_
 refine then_n ?_
 refine c_seq ?_
 refine c_region ?_
 refine st hA16 (op_loadA rfl ty_26 (hA16.ev rfl) (hS14.bk 0 rfl) (l := [rl, rs, (Value.int .i64 d.spread), rb]) rfl rfl) rfl rfl (by decide) fun a17 hA18 => ?_; clear hA16 a15
 refine stw hA18 (op_alloc hS14 rfl ze_26 (cs := [(Value.slice none 0 0), (Value.slice none 0 0), (Value.int .i64 0), (Value.slice none 0 0)]) rfl) rfl rfl (by decide) ?_
 rintro a19 _ w21 ⟨b22, rfl, hS23⟩ hA20; clear hA18 hS14 a17
 refine sts hA20 (op_store hS23 rfl ty_26 (hA20.ev rfl) (hA20.ev rfl) (i := 0) rfl (vs := [rl, rs, (Value.int .i64 d.spread), rb]) rfl rfl (all_c (SlAt.one (rnd_at (hS23.ok 2 _ rfl)).lots) (all_c (SlAt.one (rnd_at (hS23.ok 2 _ rfl)).samples) (all_c rfl (all_c (SlAt.one (rnd_at (hS23.ok 2 _ rfl)).labs) all_n)))) (Nat.le_of_ble_eq_true rfl)) rfl rfl ?_
 intro _ w24 hS25 hA26; clear hA20
 have hS27 : Sep NoB w w24 [(blk b22 26 [rl, rs, (Value.int .i64 d.spread), rb]), (blk b4 26 [rl, rs, (Value.int .i64 d.spread), rb]), (rndR false rl rs rb rlv d)] := hS25; clear hS25 hS23
 refine wl_nil ?_
 refine then_n ?_
 refine c_seq ?_
 have hA28 := hA26.as [(11, (bptr b22 0)), (5, (bptr b4 0)), (1, (Value.int .u8 (x : Int))), (2, (Value.int .u8 (z : Int))), (3, (Value.int .u8 (y : Int))), (4, (Value.int .u8 (q : Int)))] rfl; clear hA26
 refine c_region ?_
 refine stw hA28 (op_buildSlice hS27 rfl pv0 un_22 ty_44 ze_44 (by decide) (cs := []) bs_44_0_) rfl rfl (by decide) ?_
 rintro a29 _ w31 ⟨b32, rfl, hS33⟩ hA30; clear hA28 hS27 a19
 refine st hA30 (op_field rfl fd_26_0 (hA30.ev rfl)) rfl rfl (by decide) fun a34 hA35 => ?_; clear hA30 a29
 refine st hA35 (op_load1 rfl ty_22 (hA35.ev rfl) (hS33.bk 2 rfl) rfl) rfl rfl (by decide) fun a36 hA37 => ?_; clear hA35 a34
 have hS38 := hS33.blk_row (i := 0) (sz := 2) (n := 0) rfl rfl (by decide); clear hS33
 refine stw hA37 (op_append hS38 rfl un_22 el_44 (hA37.ev rfl) (hA37.ev rfl) (i := 0) rfl (rnd_at (hS38.ok 3 _ rfl)).lots (pairs_one _) (by simp only [maxLen]; omega) (by omega)) rfl rfl (by decide) ?_
 intro a39 v42 w41 hS43 hA40
 have hS44 := hS43.row_say (i := 0) rfl (n' := d.lots.length) (xs' := (pairs d.lots)) (by simp) (by simp); clear hS43 hA37 hS38 a36
 refine st hA40 (op_field rfl fd_26_0 (hA40.ev rfl)) rfl rfl (by decide) fun a45 hA46 => ?_; clear hA40 a39
 refine sts hA46 (op_store hS44 rfl ty_22 (hA46.ev rfl) (hA46.ev rfl) (i := 1) rfl (vs := [v42]) (isSl_cells (SlAt.isSl (SlAt.of_row (hS44.ok_row 0 rfl)))) rfl (all_c (SlAt.one (SlAt.of_row (hS44.ok_row 0 rfl))) all_n) (Nat.le_of_ble_eq_true rfl)) rfl rfl ?_
 intro _ w47 hS48 hA49; clear hA46
 have hS50 : Sep NoB w w47 [(row v42 44 2 d.lots.length (pairs d.lots)), (blk b22 26 [v42, rs, (Value.int .i64 d.spread), rb]), (blk b4 26 [rl, rs, (Value.int .i64 d.spread), rb]), (rndR false rl rs rb rlv d)] := hS48; clear hS48 hS44
 refine wl_nil ?_
 refine then_n ?_
 refine c_seq ?_
 refine c_region ?_
 refine stw hA49 (op_buildSlice hS50 rfl pv0 un_24 ty_62 ze_62 (by decide) (cs := []) bs_62_0_) rfl rfl (by decide) ?_
 rintro a51 _ w53 ⟨b54, rfl, hS55⟩ hA52; clear hA49 hS50 a45
 refine st hA52 (op_field rfl fd_26_3 (hA52.ev rfl)) rfl rfl (by decide) fun a56 hA57 => ?_; clear hA52 a51
 refine st hA57 (op_load1 rfl ty_24 (hA57.ev rfl) (hS55.bk 3 rfl) rfl) rfl rfl (by decide) fun a58 hA59 => ?_; clear hA57 a56
 have hS60 := hS55.blk_row (i := 0) (sz := 2) (n := 0) rfl rfl (by decide); clear hS55
 refine stw hA59 (op_append hS60 rfl un_24 el_62 (hA59.ev rfl) (hA59.ev rfl) (i := 0) rfl (rnd_at (hS60.ok 4 _ rfl)).labs (labs_one (rnd_at (hS60.ok 4 _ rfl))) (by simp only [maxLen]; omega) (by omega)) rfl rfl (by decide) ?_
 intro a61 v64 w63 hS65 hA62
 have hS66 := hS65.row_say (i := 0) rfl (n' := d.tols.length) (xs' := (vpairs (d.tols.zip rlv))) (by simp) (by simp); clear hS65 hA59 hS60 a58
 refine st hA62 (op_field rfl fd_26_3 (hA62.ev rfl)) rfl rfl (by decide) fun a67 hA68 => ?_; clear hA62 a61
 refine sts hA68 (op_store hS66 rfl ty_24 (hA68.ev rfl) (hA68.ev rfl) (i := 2) rfl (vs := [v64]) (isSl_cells (SlAt.isSl (SlAt.of_row (hS66.ok_row 0 rfl)))) rfl (all_c (SlAt.one (SlAt.of_row (hS66.ok_row 0 rfl))) all_n) (Nat.le_of_ble_eq_true rfl)) rfl rfl ?_
 intro _ w69 hS70 hA71; clear hA68
 have hS72 : Sep NoB w w69 [(row v64 62 2 d.tols.length (vpairs (d.tols.zip rlv))), (row v42 44 2 d.lots.length (pairs d.lots)), (blk b22 26 [v42, rs, (Value.int .i64 d.spread), v64]), (blk b4 26 [rl, rs, (Value.int .i64 d.spread), rb]), (rndR false rl rs rb rlv d)] := hS70; clear hS70 hS66
 refine wl_nil ?_
 refine then_n ?_
 refine c_seq ?_
 have hA73 := hA71.as [(11, (bptr b22 0)), (5, (bptr b4 0)), (1, (Value.int .u8 (x : Int))), (2, (Value.int .u8 (z : Int))), (3, (Value.int .u8 (y : Int))), (4, (Value.int .u8 (q : Int)))] rfl; clear hA71
 refine c_region ?_
 refine st hA73 (op_move rfl (hA73.ev rfl)) rfl rfl (by decide) fun a74 hA75 => ?_; clear hA73 a67
 refine st hA75 (op_conv un_5 un_3 rfl (hA75.ev rfl) (v := (q : Int)) (wrap_i64 (by omega) (by omega))) rfl rfl (by decide) fun a76 hA77 => ?_; clear hA75 a74
 refine st hA77 (op_rem rfl (hA77.ev rfl) (evc _ _) (by omega)) rfl rfl (by decide) fun a78 hA79 => ?_; clear hA77 a76
 refine st hA79 (op_assign rfl (hA79.ev rfl)) rfl rfl (by decide) fun a80 hA81 => ?_; clear hA79 a78
 refine wl_nil ?_
 refine then_n ?_
 refine c_seq ?_
 refine c_block ?_
 refine c_seq ?_
 refine c_region ?_
 refine st hA81 (op_move rfl (hA81.ev rfl)) rfl rfl (by decide) fun a82 hA83 => ?_; clear hA81 a80
 refine st hA83 (op_rem rfl (hA83.ev rfl) (evc _ _) (by omega)) rfl rfl (by decide) fun a84 hA85 => ?_; clear hA83 a82
 refine st hA85 (op_eql rfl (hA85.ev rfl) (evc _ _)) rfl rfl (by decide) fun a86 hA87 => ?_; clear hA85 a84
 have hd88 : ¬ ((((z : Int)).tmod 4) = 0) := (by omega)
 rw [decide_eq_false hd88] at hA87
 refine st hA87 (op_assign rfl (hA87.ev rfl)) rfl rfl (by decide) fun a89 hA90 => ?_; clear hA87 a86
 refine wl_nil ?_
 refine then_n ?_
 refine c_false hA90 rfl ?_
 refine c_seq ?_
 have hA91 := hA90.as [(12, (Value.int .i64 (((q : Int)).tmod 20))), (11, (bptr b22 0)), (5, (bptr b4 0)), (1, (Value.int .u8 (x : Int))), (2, (Value.int .u8 (z : Int))), (3, (Value.int .u8 (y : Int)))] rfl; clear hA90
 refine c_region ?_
 refine st hA91 (op_move rfl (hA91.ev rfl)) rfl rfl (by decide) fun a92 hA93 => ?_; clear hA91 a89
 refine st hA93 (op_rem rfl (hA93.ev rfl) (evc _ _) (by omega)) rfl rfl (by decide) fun a94 hA95 => ?_; clear hA93 a92
 refine st hA95 (op_eql rfl (hA95.ev rfl) (evc _ _)) rfl rfl (by decide) fun a96 hA97 => ?_; clear hA95 a94
 have hd98 : ¬ ((((z : Int)).tmod 4) = 1) := (by omega)
 rw [decide_eq_false hd98] at hA97
 refine st hA97 (op_assign rfl (hA97.ev rfl)) rfl rfl (by decide) fun a99 hA100 => ?_; clear hA97 a96
 refine wl_nil ?_
 refine then_n ?_
 refine c_false hA100 rfl ?_
 refine c_seq ?_
 refine c_region ?_
 refine st hA100 (op_field rfl fd_26_3 (hA100.ev rfl)) rfl rfl (by decide) fun a101 hA102 => ?_; clear hA100 a99
 refine st hA102 (op_load1 rfl ty_24 (hA102.ev rfl) (hS72.bk 2 rfl) rfl) rfl rfl (by decide) fun a103 hA104 => ?_; clear hA102 a101
 refine st hA104 (op_lenS rfl un_24 (hA104.ev rfl) (SlAt.of_row (hS72.ok_row 0 rfl))) rfl rfl (by decide) fun a105 hA106 => ?_; clear hA104 a103
 refine st hA106 (op_gtr rfl (hA106.ev rfl) (evc _ _)) rfl rfl (by decide) fun a107 hA108 => ?_; clear hA106 a105
 have hd109 : 0 < (d.tols.length : Int) := (by omega)
 rw [decide_eq_true hd109] at hA108
 refine st hA108 (op_assign rfl (hA108.ev rfl)) rfl rfl (by decide) fun a110 hA111 => ?_; clear hA108 a107
 refine wl_nil ?_
 refine then_n ?_
 refine c_true hA111 rfl ?_
 refine c_seq ?_
 have hA112 := hA111.as [(12, (Value.int .i64 (((q : Int)).tmod 20))), (11, (bptr b22 0)), (5, (bptr b4 0)), (1, (Value.int .u8 (x : Int))), (2, (Value.int .u8 (z : Int))), (3, (Value.int .u8 (y : Int)))] rfl; clear hA111
 have hA113 := hA112.as [(12, (Value.int .i64 (((q : Int)).tmod 20))), (11, (bptr b22 0)), (5, (bptr b4 0)), (1, (Value.int .u8 (x : Int))), (2, (Value.int .u8 (z : Int))), (3, (Value.int .u8 (y : Int)))] rfl; clear hA112
 refine c_drawV mixed hA113 hS72 8 [[], [0], [], [2], [], [4], [5], [3, 6]] [(fun (vs114 : Nat → Value) (v_ : Value) (rs_ : List Res) => v_ = (bptr b22 3) ∧ rs_ = []), (fun (vs114 : Nat → Value) (v_ : Value) (rs_ : List Res) => v_ = v64 ∧ rs_ = []), (fun (vs114 : Nat → Value) (v_ : Value) (rs_ : List Res) => v_ = (Value.int .u8 (y : Int)) ∧ rs_ = []), (fun (vs114 : Nat → Value) (v_ : Value) (rs_ : List Res) => v_ = (Value.int .i64 (y : Int)) ∧ rs_ = []), (fun (vs114 : Nat → Value) (v_ : Value) (rs_ : List Res) => v_ = (bptr b22 3) ∧ rs_ = []), (fun (vs114 : Nat → Value) (v_ : Value) (rs_ : List Res) => v_ = v64 ∧ rs_ = []), (fun (vs114 : Nat → Value) (v_ : Value) (rs_ : List Res) => v_ = (Value.int .i64 (d.tols.length : Int)) ∧ rs_ = []), (fun (vs114 : Nat → Value) (v_ : Value) (rs_ : List Res) => v_ = (Value.int .i64 (((y : Int)).tmod (d.tols.length : Int))) ∧ rs_ = [])] (by decide +kernel) (by decide +kernel) rfl rfl ⟨(fun _ _ _ _ _ h_ => h_), (fun _ _ _ _ _ h_ => h_), (fun _ _ _ _ _ h_ => h_), (fun _ _ _ _ _ h_ => h_), (fun _ _ _ _ _ h_ => h_), (fun _ _ _ _ _ h_ => h_), (fun _ _ _ _ _ h_ => h_), (fun _ _ _ _ _ h_ => h_), trivial⟩ ?_ ?_
 ·skip
  refine ⟨fun a w vs114 hA hS hd => ?_, ?_⟩
  ·skip
   exact opG_of rfl (vv (op_field rfl fd_26_3 (hA.ev rfl)) (And.intro rfl rfl))
  refine ⟨fun a w vs114 hA hS hd => ?_, ?_⟩
  ·skip
   obtain ⟨e0, rs0, hy0, hp0⟩ := hd 0 (by decide)
   obtain ⟨hv0, hr0⟩ := hy0; subst hr0
   rw [hv0] at e0
   exact opG_of rfl (vv (op_load1 rfl ty_24 (tmp_ev (slot_ev e0 rfl)) (hS.bk 2 rfl) rfl) (And.intro rfl rfl))
  refine ⟨fun a w vs114 hA hS hd => ?_, ?_⟩
  ·skip
   exact opG_of rfl (vv (op_move rfl (hA.ev rfl)) (And.intro rfl rfl))
  refine ⟨fun a w vs114 hA hS hd => ?_, ?_⟩
  ·skip
   obtain ⟨e2, rs2, hy2, hp2⟩ := hd 2 (by decide)
   obtain ⟨hv2, hr2⟩ := hy2; subst hr2
   rw [hv2] at e2
   exact opG_of rfl (vv (op_conv un_5 un_3 rfl (tmp_ev (slot_ev e2 rfl)) (v := (y : Int)) (wrap_i64 (by omega) (by omega))) (And.intro rfl rfl))
  refine ⟨fun a w vs114 hA hS hd => ?_, ?_⟩
  ·skip
   exact opG_of rfl (vv (op_field rfl fd_26_3 (hA.ev rfl)) (And.intro rfl rfl))
  refine ⟨fun a w vs114 hA hS hd => ?_, ?_⟩
  ·skip
   obtain ⟨e4, rs4, hy4, hp4⟩ := hd 4 (by decide)
   obtain ⟨hv4, hr4⟩ := hy4; subst hr4
   rw [hv4] at e4
   exact opG_of rfl (vv (op_load1 rfl ty_24 (tmp_ev (slot_ev e4 rfl)) (hS.bk 2 rfl) rfl) (And.intro rfl rfl))
  refine ⟨fun a w vs114 hA hS hd => ?_, ?_⟩
  ·skip
   obtain ⟨e5, rs5, hy5, hp5⟩ := hd 5 (by decide)
   obtain ⟨hv5, hr5⟩ := hy5; subst hr5
   rw [hv5] at e5
   exact opG_of rfl (vv (op_lenS rfl un_24 (tmp_ev (slot_ev e5 rfl)) (SlAt.of_row (hS.ok_row 0 rfl))) (And.intro rfl rfl))
  refine ⟨fun a w vs114 hA hS hd => ?_, ?_⟩
  ·skip
   obtain ⟨e3, rs3, hy3, hp3⟩ := hd 3 (by decide)
   obtain ⟨hv3, hr3⟩ := hy3; subst hr3
   rw [hv3] at e3
   obtain ⟨e6, rs6, hy6, hp6⟩ := hd 6 (by decide)
   obtain ⟨hv6, hr6⟩ := hy6; subst hr6
   rw [hv6] at e6
   exact opG_of rfl (vv (op_rem rfl (tmp_ev (slot_ev e3 rfl)) (tmp_ev (slot_ev e6 rfl)) (by omega)) (And.intro rfl rfl))
  trivial
 intro a115 w116 vs114 rsf120 hA117 hH119 hS118; clear hA113 hS72
 obtain ⟨hs_0, hy_0⟩ := hH119 0 (by decide)
 obtain ⟨hv_0, hr_0⟩ := hy_0
 obtain ⟨hs_1, hy_1⟩ := hH119 1 (by decide)
 obtain ⟨hv_1, hr_1⟩ := hy_1
 obtain ⟨hs_2, hy_2⟩ := hH119 2 (by decide)
 obtain ⟨hv_2, hr_2⟩ := hy_2
 obtain ⟨hs_3, hy_3⟩ := hH119 3 (by decide)
 obtain ⟨hv_3, hr_3⟩ := hy_3
 obtain ⟨hs_4, hy_4⟩ := hH119 4 (by decide)
 obtain ⟨hv_4, hr_4⟩ := hy_4
 obtain ⟨hs_5, hy_5⟩ := hH119 5 (by decide)
 obtain ⟨hv_5, hr_5⟩ := hy_5
 obtain ⟨hs_6, hy_6⟩ := hH119 6 (by decide)
 obtain ⟨hv_6, hr_6⟩ := hy_6
 obtain ⟨hs_7, hy_7⟩ := hH119 7 (by decide)
 obtain ⟨hv_7, hr_7⟩ := hy_7
 have hS121 : Sep NoB w w116 [(row v64 62 2 d.tols.length (vpairs (d.tols.zip rlv))), (row v42 44 2 d.lots.length (pairs d.lots)), (blk b22 26 [v42, rs, (Value.int .i64 d.spread), v64]), (blk b4 26 [rl, rs, (Value.int .i64 d.spread), rb]), (rndR false rl rs rb rlv d)] := by rw [show catR rsf120 0 8 = ([] : List Res) by (try simp only [catR, hr_0, hr_1, hr_2, hr_3, hr_4, hr_5, hr_6, hr_7]); (try rfl)] at hS118; exact hS118
 rw [hv_1] at hs_1
 have hA122 : Fr 201 [] [(92, v64), (12, (Value.int .i64 (((q : Int)).tmod 20))), (11, (bptr b22 0)), (5, (bptr b4 0)), (1, (Value.int .u8 (x : Int))), (2, (Value.int .u8 (z : Int))), (3, (Value.int .u8 (y : Int)))] a115 := hA117.add (slot_ev hs_1 rfl); clear hA117
 rw [hv_7] at hs_7
 have hA123 : Fr 201 [] [(98, (Value.int .i64 (((y : Int)).tmod (d.tols.length : Int)))), (92, v64), (12, (Value.int .i64 (((q : Int)).tmod 20))), (11, (bptr b22 0)), (5, (bptr b4 0)), (1, (Value.int .u8 (x : Int))), (2, (Value.int .u8 (z : Int))), (3, (Value.int .u8 (y : Int)))] a115 := hA122.add (slot_ev hs_7 rfl); clear hA122
 clear hH119 hS118 hs_0 hs_1 hs_2 hs_3 hs_4 hs_5 hs_6 hs_7
 clear hr_0
 clear hv_0
 clear hr_1
 clear hv_1
 clear hr_2
 clear hv_2
 clear hr_3
 clear hv_3
 clear hr_4
 clear hv_4
 clear hr_5
 clear hv_5
 clear hr_6
 clear hv_6
 clear hr_7
 clear hv_7
 refine st hA123 (op_indexS rfl un_24 ty_62 (hA123.ev rfl) (i := (((y : Int)).tmod (d.tols.length : Int)).toNat) ((hA123.ev rfl).trans (int_nat (by omega))) (SlAt.of_row (hS121.ok_row 0 rfl)) (by decide) (by omega)) rfl rfl (by decide) fun a124 hA125 => ?_; clear hA123 a115
 refine st hA125 (op_assign rfl (hA125.ev rfl)) rfl rfl (by decide) fun a126 hA127 => ?_; clear hA125 a124
 refine wl_nil ?_
 refine then_n ?_
 refine c_seq ?_
 refine c_region ?_
 refine st hA127 (op_move rfl (hA127.ev rfl)) rfl rfl (by decide) fun a128 hA129 => ?_; clear hA127 a126
 refine st hA129 (op_rem rfl (hA129.ev rfl) (evc _ _) (by omega)) rfl rfl (by decide) fun a130 hA131 => ?_; clear hA129 a128
 refine st hA131 (op_eql rfl (hA131.ev rfl) (evc _ _)) rfl rfl (by decide) fun a132 hA133 => ?_; clear hA131 a130
 have hd134 : ¬ ((((z : Int)).tmod 4) = 2) := (by omega)
 rw [decide_eq_false hd134] at hA133
 refine wl_nil ?_
 refine then_n ?_
 refine c_false hA133 rfl ?_
 refine c_seq ?_
 have hA135 := hA133.as [(14, (eptr v64 ((((y : Int)).tmod (d.tols.length : Int)).toNat * 2))), (12, (Value.int .i64 (((q : Int)).tmod 20))), (11, (bptr b22 0)), (5, (bptr b4 0)), (1, (Value.int .u8 (x : Int)))] rfl; clear hA133
 refine c_region ?_
 refine st hA135 (op_move rfl (hA135.ev rfl)) rfl rfl (by decide) fun a136 hA137 => ?_; clear hA135 a132
 refine st hA137 (op_nilCheckE rfl (hA137.ev rfl) (SlAt.of_row (hS121.ok_row 0 rfl)) (by rw [((SlAt.of_row (hS121.ok_row 0 rfl))).1]; first | omega | (simp only [List.length_set]; omega))) rfl rfl (by decide) fun a138 hA139 => ?_; clear hA137 a136
 refine st hA139 (op_fieldS rfl fd_62_1 (hA139.ev rfl) (SlAt.of_row (hS121.ok_row 0 rfl)) (by rw [((SlAt.of_row (hS121.ok_row 0 rfl))).1]; first | omega | (simp only [List.length_set]; omega))) rfl rfl (by decide) fun a140 hA141 => ?_; clear hA139 a138
 refine st hA141 (op_load1E rfl ty_23 (hA141.ev rfl) (SlAt.of_row (hS121.ok_row 0 rfl)) (labs_at1 (rnd_at (hS121.ok 4 _ rfl)).lvl (by omega))) rfl rfl (by decide) fun a142 hA143 => ?_; clear hA141 a140
 refine st hA143 (op_lenS rfl un_23 (hA143.ev rfl) ((rnd_at (hS121.ok 4 _ rfl)).rds ((((y : Int)).tmod (d.tols.length : Int)).toNat) (by rw [(rnd_at (hS121.ok 4 _ rfl)).rdl]; omega))) rfl rfl (by decide) fun a144 hA145 => ?_; clear hA143 a142
 refine st hA145 (op_gtr rfl (hA145.ev rfl) (evc _ _)) rfl rfl (by decide) fun a146 hA147 => ?_; clear hA145 a144
 have hd148 : ¬ (0 < ((d.rds.getD ((((y : Int)).tmod (d.tols.length : Int)).toNat) []).length : Int)) := (by omega)
 rw [decide_eq_false hd148] at hA147
 refine wl_nil ?_
 refine then_n ?_
 refine c_false hA147 rfl ?_
 refine c_skip ?_
 refine blk_n ?_
 refine then_n ?_
 refine c_seq ?_
 have hA149 := hA147.as [(11, (bptr b22 0)), (5, (bptr b4 0)), (1, (Value.int .u8 (x : Int)))] rfl; clear hA147
 refine c_region ?_
 refine st hA149 (op_loadA rfl ty_26 (hA149.ev rfl) (hS121.bk 3 rfl) (l := [rl, rs, (Value.int .i64 d.spread), rb]) rfl rfl) rfl rfl (by decide) fun a150 hA151 => ?_; clear hA149 a146
 refine st hA151 (op_move rfl (hA151.ev rfl)) rfl rfl (by decide) fun a152 hA153 => ?_; clear hA151 a150
 refine stw hA153 (op_call rfl en_36 (ev2 (hA153.ev rfl) (hA153.ev rfl)) (chosen_ok rl rs rb rlv d _ (rnd_at (hS121.ok 4 _ rfl)) x (by omega))) rfl rfl (by decide) ?_
 rintro a154 v160 w156 ⟨hE157, hO158⟩ hA155; have hS159 := hS121.new_row hE157 hO158; clear hE157 hO158 hA153 hS121 a152
 refine st hA155 (op_assign rfl (hA155.ev rfl)) rfl rfl (by decide) fun a161 hA162 => ?_; clear hA155 a154
 refine wl_nil ?_
 refine then_n ?_
 refine c_seq ?_
 refine c_region ?_
 refine st hA162 (op_loadA rfl ty_26 (hA162.ev rfl) (hS159.bk 4 rfl) (l := [rl, rs, (Value.int .i64 d.spread), rb]) rfl rfl) rfl rfl (by decide) fun a163 hA164 => ?_; clear hA162 a161
 refine stw hA164 (op_call rfl en_20 (ev1 (hA164.ev rfl)) (Round_ok rl rs rb rlv d _ (rnd_at (hS159.ok 5 _ rfl)) hth)) rfl rfl (by decide) ?_
 rintro a165 _ w167 ⟨vl168, vs169, vb170, lv171, rfl, hT172⟩ hA166; have hS173 := hS159.callS hT172 rfl; clear hT172 hA164 hS159 a163
 refine st hA166 (op_move rfl (hA166.ev rfl)) rfl rfl (by decide) fun a174 hA175 => ?_; clear hA166 a165
 refine stw hA175 (op_call rfl en_22 (ev1 (hA175.ev rfl)) (list_ok (chosenF d.tols.length x) _ _ (SlAt.of_row (hS173.ok_row 1 rfl)) (Nat.le_trans (chosenF_len _ _) (by omega)))) rfl rfl (by decide) ?_
 rintro a176 v182 w178 ⟨hE179, hO180⟩ hA177; have hS181 := hS173.new_row hE179 hO180; clear hE179 hO180 hA175 hS173 a174
 refine stw hA177 (op_call rfl en_21 (ev2 (hA177.ev rfl) (hA177.ev rfl)) (by have h := (explains_ok vl168 vs169 vb170 lv171 d _ (rnd_at (hS181.ok 1 _ rfl)) _ (chosenF d.tols.length x) (SlAt.of_row (hS181.ok_row 0 rfl)) (Nat.le_trans (chosenF_len _ _) (by omega))); rw [heM] at h; exact h)) rfl rfl (by decide) ?_
 rintro a183 _ w185 ⟨rfl, hE186⟩ hA184; have hS187 := hS181.step hE186; clear hE186 hA177 hS181 a176
 refine st hA184 (op_move rfl (hA184.ev rfl)) rfl rfl (by decide) fun a188 hA189 => ?_; clear hA184 a183
 refine st hA189 (op_extract rfl (hA189.ev rfl) rfl) rfl rfl (by decide) fun a190 hA191 => ?_; clear hA189 a188
 refine st hA191 (op_extract rfl (hA191.ev rfl) rfl) rfl rfl (by decide) fun a192 hA193 => ?_; clear hA191 a190
 refine st hA193 (op_assign rfl (hA193.ev rfl)) rfl rfl (by decide) fun a194 hA195 => ?_; clear hA193 a192
 refine st hA195 (op_assign rfl (hA195.ev rfl)) rfl rfl (by decide) fun a196 hA197 => ?_; clear hA195 a194
 refine wl_nil ?_
 refine then_n ?_
 refine c_seq ?_
 have hA198 := hA197.as [(17, (Value.int .i64 0)), (16, (Value.bool bb)), (15, v160), (11, (bptr b22 0)), (5, (bptr b4 0))] rfl; clear hA197
 have hS199 := ((hS187.row_say (i := 4) rfl (n' := d.lots.length) (xs' := pairs d.lots) rfl rfl).row_say (i := 3) rfl (n' := d.tols.length) (xs' := vpairs (d.tols.zip rlv)) rfl rfl); clear hS187
 refine c_region ?_
 refine st hA198 (op_loadA rfl ty_26 (hA198.ev rfl) (hS199.bk 5 rfl) (l := [v42, rs, (Value.int .i64 d.spread), v64]) rfl rfl) rfl rfl (by decide) fun a200 hA201 => ?_; clear hA198 a196
 refine stw hA201 (op_call rfl en_20 (ev1 (hA201.ev rfl)) (Round_ok v42 rs v64 rlv d _ (show RoundAt _ v42 rs v64 rlv d from ⟨SlAt.of_row (hS199.ok_row 4 rfl), (rnd_at (hS199.ok 7 _ rfl)).samples, SlAt.of_row (hS199.ok_row 3 rfl), (rnd_at (hS199.ok 7 _ rfl)).rds, (by first | exact hlv0 | (simp only [kindTol, kindRd, List.length_set]; exact hlv0)), (by first | exact hrl8 | (simp only [kindTol, kindRd, List.length_set]; exact hrl8))⟩) hth)) rfl rfl (by decide) ?_
 rintro a202 _ w204 ⟨vl205, vs206, vb207, lv208, rfl, hT209⟩ hA203; have hS210 := hS199.callS hT209 rfl; clear hT209 hA201 hS199 a200
 refine st hA203 (op_move rfl (hA203.ev rfl)) rfl rfl (by decide) fun a211 hA212 => ?_; clear hA203 a202
 refine stw hA212 (op_call rfl en_22 (ev1 (hA212.ev rfl)) (list_ok (chosenF d.tols.length x) _ _ (SlAt.of_row (hS210.ok_row 3 rfl)) (Nat.le_trans (chosenF_len _ _) (by omega)))) rfl rfl (by decide) ?_
 rintro a213 v219 w215 ⟨hE216, hO217⟩ hA214; have hS218 := hS210.new_row hE216 hO217; clear hE216 hO217 hA212 hS210 a211
 refine stw hA214 (op_call rfl en_21 (ev2 (hA214.ev rfl) (hA214.ev rfl)) (by have h := (explains_ok vl205 vs206 vb207 lv208 d _ (rnd_at (hS218.ok 1 _ rfl)) _ (chosenF d.tols.length x) (SlAt.of_row (hS218.ok_row 0 rfl)) (Nat.le_trans (chosenF_len _ _) (by omega))); rw [heM] at h; exact h)) rfl rfl (by decide) ?_
 rintro a220 _ w222 ⟨rfl, hE223⟩ hA221; have hS224 := hS218.step hE223; clear hE223 hA214 hS218 a213
 refine st hA221 (op_move rfl (hA221.ev rfl)) rfl rfl (by decide) fun a225 hA226 => ?_; clear hA221 a220
 refine st hA226 (op_extract rfl (hA226.ev rfl) rfl) rfl rfl (by decide) fun a227 hA228 => ?_; clear hA226 a225
 refine st hA228 (op_extract rfl (hA228.ev rfl) rfl) rfl rfl (by decide) fun a229 hA230 => ?_; clear hA228 a227
 refine st hA230 (op_assign rfl (hA230.ev rfl)) rfl rfl (by decide) fun a231 hA232 => ?_; clear hA230 a229
 refine st hA232 (op_assign rfl (hA232.ev rfl)) rfl rfl (by decide) fun a233 hA234 => ?_; clear hA232 a231
 refine wl_nil ?_
 refine then_n ?_
 refine c_seq ?_
 have hA235 := hA234.as [(19, (Value.int .i64 0)), (18, (Value.bool bb)), (17, (Value.int .i64 0)), (16, (Value.bool bb)), (11, (bptr b22 0)), (5, (bptr b4 0))] rfl; clear hA234
 refine c_region ?_
 refine st hA235 (op_loadA rfl ty_26 (hA235.ev rfl) (hS224.bk 8 rfl) (l := [rl, rs, (Value.int .i64 d.spread), rb]) rfl rfl) rfl rfl (by decide) fun a236 hA237 => ?_; clear hA235 a233
 refine stw hA237 (op_call rfl en_20 (ev1 (hA237.ev rfl)) (Round_ok rl rs rb rlv d _ (rnd_at (hS224.ok 9 _ rfl)) hth)) rfl rfl (by decide) ?_
 rintro a238 _ w240 ⟨vl241, vs242, vb243, lv244, rfl, hT245⟩ hA239; have hS246 := hS224.callS hT245 rfl; clear hT245 hA237 hS224 a236
 refine stw hA239 (op_call rfl en_29 (ev1 (hA239.ev rfl)) (by have h := (least_fn vl241 vs242 vb243 lv244 d _ (rnd_at (hS246.ok 0 _ rfl))); rw [hlM] at h; exact h)) rfl rfl (by decide) ?_
 rintro a247 _ w249 ⟨u252, rfl, hT250⟩ hA248; clear hA239 a238
 have hS251 : Sep NoB w w249 [(osl u252 1 Lb.length (ints Lb)), (rndR true vl241 vs242 vb243 lv244 d), (row v219 3 1 ((chosenF d.tols.length x).length) (ints (chosenF d.tols.length x))), (rndR true vl205 vs206 vb207 lv208 d), (row v182 3 1 ((chosenF d.tols.length x).length) (ints (chosenF d.tols.length x))), (rndR true vl168 vs169 vb170 lv171 d), (row v160 3 1 ((chosenF d.tols.length x).length) (ints (chosenF d.tols.length x))), (row v64 62 2 d.tols.length (vpairs (d.tols.zip rlv))), (row v42 44 2 d.lots.length (pairs d.lots)), (blk b22 26 [v42, rs, (Value.int .i64 d.spread), v64]), (blk b4 26 [rl, rs, (Value.int .i64 d.spread), rb]), (rndR false rl rs rb rlv d)] := hS246.callS hT250 rfl; clear hT250 hS246
 refine st hA248 (op_move rfl (hA248.ev rfl)) rfl rfl (by decide) fun a253 hA254 => ?_; clear hA248 a247
 refine st hA254 (op_extract rfl (hA254.ev rfl) rfl) rfl rfl (by decide) fun a255 hA256 => ?_; clear hA254 a253
 refine st hA256 (op_extract rfl (hA256.ev rfl) rfl) rfl rfl (by decide) fun a257 hA258 => ?_; clear hA256 a255
 refine st hA258 (op_assign rfl (hA258.ev rfl)) rfl rfl (by decide) fun a259 hA260 => ?_; clear hA258 a257
 refine st hA260 (op_assign rfl (hA260.ev rfl)) rfl rfl (by decide) fun a261 hA262 => ?_; clear hA260 a259
 refine wl_nil ?_
 refine then_n ?_
 refine c_seq ?_
 have hA263 := hA262.as [(21, (Value.int .i64 0)), (20, u252), (19, (Value.int .i64 0)), (18, (Value.bool bb)), (17, (Value.int .i64 0)), (16, (Value.bool bb)), (11, (bptr b22 0))] rfl; clear hA262
 refine c_region ?_
 refine st hA263 (op_loadA rfl ty_26 (hA263.ev rfl) (hS251.bk 9 rfl) (l := [v42, rs, (Value.int .i64 d.spread), v64]) rfl rfl) rfl rfl (by decide) fun a264 hA265 => ?_; clear hA263 a261
 refine stw hA265 (op_call rfl en_20 (ev1 (hA265.ev rfl)) (Round_ok v42 rs v64 rlv d _ (show RoundAt _ v42 rs v64 rlv d from ⟨SlAt.of_row (hS251.ok_row 8 rfl), (rnd_at (hS251.ok 11 _ rfl)).samples, SlAt.of_row (hS251.ok_row 7 rfl), (rnd_at (hS251.ok 11 _ rfl)).rds, (by first | exact hlv0 | (simp only [kindTol, kindRd, List.length_set]; exact hlv0)), (by first | exact hrl8 | (simp only [kindTol, kindRd, List.length_set]; exact hrl8))⟩) hth)) rfl rfl (by decide) ?_
 rintro a266 _ w268 ⟨vl269, vs270, vb271, lv272, rfl, hT273⟩ hA267; have hS274 := hS251.callS hT273 rfl; clear hT273 hA265 hS251 a264
 refine stw hA267 (op_call rfl en_29 (ev1 (hA267.ev rfl)) (by have h := (least_fn vl269 vs270 vb271 lv272 d _ (rnd_at (hS274.ok 0 _ rfl))); rw [hlM] at h; exact h)) rfl rfl (by decide) ?_
 rintro a275 _ w277 ⟨u280, rfl, hT278⟩ hA276; clear hA267 a266
 have hS279 : Sep NoB w w277 [(osl u280 1 Lb.length (ints Lb)), (rndR true vl269 vs270 vb271 lv272 d), (osl u252 1 Lb.length (ints Lb)), (rndR true vl241 vs242 vb243 lv244 d), (row v219 3 1 ((chosenF d.tols.length x).length) (ints (chosenF d.tols.length x))), (rndR true vl205 vs206 vb207 lv208 d), (row v182 3 1 ((chosenF d.tols.length x).length) (ints (chosenF d.tols.length x))), (rndR true vl168 vs169 vb170 lv171 d), (row v160 3 1 ((chosenF d.tols.length x).length) (ints (chosenF d.tols.length x))), (row v64 62 2 d.tols.length (vpairs (d.tols.zip rlv))), (row v42 44 2 d.lots.length (pairs d.lots)), (blk b22 26 [v42, rs, (Value.int .i64 d.spread), v64]), (blk b4 26 [rl, rs, (Value.int .i64 d.spread), rb]), (rndR false rl rs rb rlv d)] := hS274.callS hT278 rfl; clear hT278 hS274
 refine st hA276 (op_move rfl (hA276.ev rfl)) rfl rfl (by decide) fun a281 hA282 => ?_; clear hA276 a275
 refine st hA282 (op_extract rfl (hA282.ev rfl) rfl) rfl rfl (by decide) fun a283 hA284 => ?_; clear hA282 a281
 refine st hA284 (op_extract rfl (hA284.ev rfl) rfl) rfl rfl (by decide) fun a285 hA286 => ?_; clear hA284 a283
 refine st hA286 (op_assign rfl (hA286.ev rfl)) rfl rfl (by decide) fun a287 hA288 => ?_; clear hA286 a285
 refine st hA288 (op_assign rfl (hA288.ev rfl)) rfl rfl (by decide) fun a289 hA290 => ?_; clear hA288 a287
 refine wl_nil ?_
 refine then_n ?_
 refine c_seq ?_
 have hA291 := hA290.as [(23, (Value.int .i64 0)), (22, u280), (21, (Value.int .i64 0)), (20, u252), (19, (Value.int .i64 0)), (18, (Value.bool bb)), (17, (Value.int .i64 0)), (16, (Value.bool bb))] rfl; clear hA290
 refine c_region ?_
 refine st hA291 (op_move rfl (hA291.ev rfl)) rfl rfl (by decide) fun a292 hA293 => ?_; clear hA291 a289
 refine st hA293 (op_eql rfl (hA293.ev rfl) (evc _ _)) rfl rfl (by decide) fun a294 hA295 => ?_; clear hA293 a292
 refine st hA295 (op_move rfl (hA295.ev rfl)) rfl rfl (by decide) fun a296 hA297 => ?_; clear hA295 a294
 refine stg hA297 (op_move rfl (hA297.ev rfl)) rfl rfl rfl rfl (by decide) fun a298 hA299 => ?_; clear hA297 a296
 refine stg hA299 (op_eql rfl (hA299.ev rfl) (evc _ _)) rfl rfl rfl rfl (by decide) fun a300 hA301 => ?_; clear hA299 a298
 refine st hA301 (op_pick_t rfl (hA301.ev rfl) (hA301.ev rfl)) rfl rfl (by decide) fun a302 hA303 => ?_; clear hA301 a300
 refine st hA303 (op_move rfl (hA303.ev rfl)) rfl rfl (by decide) fun a304 hA305 => ?_; clear hA303 a302
 refine stg hA305 (op_move rfl (hA305.ev rfl)) rfl rfl rfl rfl (by decide) fun a306 hA307 => ?_; clear hA305 a304
 refine stg hA307 (op_eql rfl (hA307.ev rfl) (evc _ _)) rfl rfl rfl rfl (by decide) fun a308 hA309 => ?_; clear hA307 a306
 refine st hA309 (op_pick_t rfl (hA309.ev rfl) (hA309.ev rfl)) rfl rfl (by decide) fun a310 hA311 => ?_; clear hA309 a308
 refine st hA311 (op_move rfl (hA311.ev rfl)) rfl rfl (by decide) fun a312 hA313 => ?_; clear hA311 a310
 refine stg hA313 (op_move rfl (hA313.ev rfl)) rfl rfl rfl rfl (by decide) fun a314 hA315 => ?_; clear hA313 a312
 refine stg hA315 (op_eql rfl (hA315.ev rfl) (evc _ _)) rfl rfl rfl rfl (by decide) fun a316 hA317 => ?_; clear hA315 a314
 refine st hA317 (op_pick_t rfl (hA317.ev rfl) (hA317.ev rfl)) rfl rfl (by decide) fun a318 hA319 => ?_; clear hA317 a316
 refine st hA319 (op_move rfl (hA319.ev rfl)) rfl rfl (by decide) fun a320 hA321 => ?_; clear hA319 a318
 refine stg hA321 (op_move rfl (hA321.ev rfl)) rfl rfl rfl rfl (by decide) fun a322 hA323 => ?_; clear hA321 a320
 refine stg hA323 (op_not rfl (hA323.ev rfl)) rfl rfl rfl rfl (by decide) fun a324 hA325 => ?_; clear hA323 a322
 refine stg hA325 (op_move rfl (hA325.ev rfl)) rfl rfl rfl rfl (by decide) fun a326 hA327 => ?_; clear hA325 a324
 rcases Bool.eq_false_or_eq_true (bb) with hb328 | hb328
 ·skip
  rw [hb328] at hA327
  refine stg hA327 (op_move rfl (hA327.ev rfl)) rfl rfl rfl rfl (by decide) fun a329 hA330 => ?_; clear hA327 a326
  refine stg hA330 (op_pick_f rfl (hA330.ev rfl) (hA330.ev rfl)) rfl rfl rfl rfl (by decide) fun a331 hA332 => ?_; clear hA330 a329
  refine st hA332 (op_pick_t rfl (hA332.ev rfl) (hA332.ev rfl)) rfl rfl (by decide) fun a333 hA334 => ?_; clear hA332 a331
  refine st hA334 (op_move rfl (hA334.ev rfl)) rfl rfl (by decide) fun a335 hA336 => ?_; clear hA334 a333
  refine stg hA336 (op_move rfl (hA336.ev rfl)) rfl rfl rfl rfl (by decide) fun a337 hA338 => ?_; clear hA336 a335
  refine stg hA338 (op_lenS rfl un_23 (hA338.ev rfl) (show SlAt _ _ _ _ _ from (hS279.ok 0 _ rfl))) rfl rfl rfl rfl (by decide) fun a339 hA340 => ?_; clear hA338 a337
  refine stg hA340 (op_move rfl (hA340.ev rfl)) rfl rfl rfl rfl (by decide) fun a341 hA342 => ?_; clear hA340 a339
  refine stg hA342 (op_lenS rfl un_23 (hA342.ev rfl) (show SlAt _ _ _ _ _ from (hS279.ok 2 _ rfl))) rfl rfl rfl rfl (by decide) fun a343 hA344 => ?_; clear hA342 a341
  refine stg hA344 (op_leq rfl (hA344.ev rfl) (hA344.ev rfl)) rfl rfl rfl rfl (by decide) fun a345 hA346 => ?_; clear hA344 a343
  have hd347 : (Lb.length : Int) ≤ (Lb.length : Int) := (by omega)
  rw [decide_eq_true hd347] at hA346
  refine st hA346 (op_pick_t rfl (hA346.ev rfl) (hA346.ev rfl)) rfl rfl (by decide) fun a348 hA349 => ?_; clear hA346 a345
  refine st hA349 (op_move rfl (hA349.ev rfl)) rfl rfl (by decide) fun a350 hA351 => ?_; clear hA349 a348
  refine stwg hA351 (op_call rfl en_18 ev0 (wakes_ok _)) rfl rfl rfl rfl (by decide) ?_
  rintro a352 _ w354 ⟨rfl, hE355⟩ hA353; have hS356 := hS279.step hE355; clear hE355 hA351 hS279 a350
  refine st hA353 (op_pick_t rfl (hA353.ev rfl) (hA353.ev rfl)) rfl rfl (by decide) fun a357 hA358 => ?_; clear hA353 a352
  refine st hA358 (op_assign rfl (hA358.ev rfl)) rfl rfl (by decide) fun a359 hA360 => ?_; clear hA358 a357
  refine wl_nil ?_
  refine then_n ?_
  refine c_ret ?_
  refine fin_run hA360 (.inl rfl) (run_results1 hA360 rfl (.tmp rfl)) ?_
  exact ⟨rfl, hS356.ext⟩
 ·skip
  rw [hb328] at hA327
  refine skp hA327 rfl rfl rfl rfl rfl (by decide) fun a361 hA362 => ?_; clear hA327 a326
  refine stg hA362 (op_pick_t rfl (hA362.ev rfl) (evc _ _)) rfl rfl rfl rfl (by decide) fun a363 hA364 => ?_; clear hA362 a361
  refine st hA364 (op_pick_t rfl (hA364.ev rfl) (hA364.ev rfl)) rfl rfl (by decide) fun a365 hA366 => ?_; clear hA364 a363
  refine st hA366 (op_move rfl (hA366.ev rfl)) rfl rfl (by decide) fun a367 hA368 => ?_; clear hA366 a365
  refine stg hA368 (op_move rfl (hA368.ev rfl)) rfl rfl rfl rfl (by decide) fun a369 hA370 => ?_; clear hA368 a367
  refine stg hA370 (op_lenS rfl un_23 (hA370.ev rfl) (show SlAt _ _ _ _ _ from (hS279.ok 0 _ rfl))) rfl rfl rfl rfl (by decide) fun a371 hA372 => ?_; clear hA370 a369
  refine stg hA372 (op_move rfl (hA372.ev rfl)) rfl rfl rfl rfl (by decide) fun a373 hA374 => ?_; clear hA372 a371
  refine stg hA374 (op_lenS rfl un_23 (hA374.ev rfl) (show SlAt _ _ _ _ _ from (hS279.ok 2 _ rfl))) rfl rfl rfl rfl (by decide) fun a375 hA376 => ?_; clear hA374 a373
  refine stg hA376 (op_leq rfl (hA376.ev rfl) (hA376.ev rfl)) rfl rfl rfl rfl (by decide) fun a377 hA378 => ?_; clear hA376 a375
  have hd379 : (Lb.length : Int) ≤ (Lb.length : Int) := (by omega)
  rw [decide_eq_true hd379] at hA378
  refine st hA378 (op_pick_t rfl (hA378.ev rfl) (hA378.ev rfl)) rfl rfl (by decide) fun a380 hA381 => ?_; clear hA378 a377
  refine st hA381 (op_move rfl (hA381.ev rfl)) rfl rfl (by decide) fun a382 hA383 => ?_; clear hA381 a380
  refine stwg hA383 (op_call rfl en_18 ev0 (wakes_ok _)) rfl rfl rfl rfl (by decide) ?_
  rintro a384 _ w386 ⟨rfl, hE387⟩ hA385; have hS388 := hS279.step hE387; clear hE387 hA383 hS279 a382
  refine st hA385 (op_pick_t rfl (hA385.ev rfl) (hA385.ev rfl)) rfl rfl (by decide) fun a389 hA390 => ?_; clear hA385 a384
  refine st hA390 (op_assign rfl (hA390.ev rfl)) rfl rfl (by decide) fun a391 hA392 => ?_; clear hA390 a389
  refine wl_nil ?_
  refine then_n ?_
  refine c_ret ?_
  refine fin_run hA392 (.inl rfl) (run_results1 hA392 rfl (.tmp rfl)) ?_
  exact ⟨rfl, hS388.ext⟩

theorem RoundKinder_ok (rl rs rb : Value) (rlv : List Value) (d : RD) (w : World) (hR : RoundAt w rl rs rb rlv d) (n1 : Int) (h1 : 0 ≤ n1 ∧ n1 ≤ 255) (n2 : Int) (h2 : 0 ≤ n2 ∧ n2 ≤ 255) (n3 : Int) (h3 : 0 ≤ n3 ∧ n3 ≤ 255) (n4 : Int) (h4 : 0 ≤ n4 ∧ n4 ≤ 255) : Calls Try.prog 9 #[.agg #[rl, rs, .int .i64 d.spread, rb], .int .u8 n1, .int .u8 n2, .int .u8 n3, .int .u8 n4] w (Ret fun v w' => v = .bool true ∧ Ext NoB w w') := by
 obtain ⟨x, rfl⟩ : ∃ x : Nat, n1 = (x : Int) := ⟨n1.toNat, by omega⟩
 obtain ⟨z, rfl⟩ : ∃ z : Nat, n2 = (z : Int) := ⟨n2.toNat, by omega⟩
 obtain ⟨y, rfl⟩ : ∃ y : Nat, n3 = (y : Int) := ⟨n3.toNat, by omega⟩
 obtain ⟨q, rfl⟩ : ∃ q : Nat, n4 = (q : Int) := ⟨n4.toNat, by omega⟩
 rcases Bool.eq_false_or_eq_true (readyB d) with hf | hf
 ·have hc := (ready_of hf).2
  have hV := valid_of hc
  have hN := tmod_nn (a := (q : Int)) (by omega) (show (0 : Int) < 20 by decide)
  have hz := tmod_nn (a := (z : Int)) (by omega) (show (0 : Int) < 4 by decide)
  by_cases hz0 : (z : Int).tmod 4 = 0
  ·have hK := kindSp_valid (n := (q : Int).tmod 20) hV hN.1
   obtain ⟨ba, bb, La, Lb, a1, a2, a3, a4, a5, a6⟩ := kind_all hc hK.1 hK.2 x
   exact RoundKinder_c0 rl rs rb rlv d w hR x (by omega) z (by omega) y (by omega) q (by omega) hf hz0 hK.1 ba bb a1 a2 a3 La Lb a4 a5 a6
  ·by_cases hz1 : (z : Int).tmod 4 = 1
   ·have hK := kindLots_valid (n := (q : Int).tmod 20) hV hN.1 ((y : Int).tmod (d.lots.length : Int)).toNat
    obtain ⟨ba, bb, La, Lb, a1, a2, a3, a4, a5, a6⟩ := kind_all hc hK.1 hK.2 x
    exact RoundKinder_c1 rl rs rb rlv d w hR x (by omega) z (by omega) y (by omega) q (by omega) hf hz1 hK.1 ba bb a1 a2 a3 La Lb a4 a5 a6
   ·rcases Nat.eq_zero_or_pos d.tols.length with hk | hk
    ·obtain ⟨ba, bb, La, Lb, a1, a2, a3, a4, a5, a6⟩ := kind_all hc hV (Kinder.refl d) x
     exact RoundKinder_c4 rl rs rb rlv d w hR x (by omega) z (by omega) y (by omega) q (by omega) hf hz0 hz1 hk hV ba bb a1 a2 a3 La Lb a4 a5 a6
    ·by_cases hz2 : (z : Int).tmod 4 = 2
     ·have hK := kindTol_valid (n := (q : Int).tmod 20) hV hN.1 ((y : Int).tmod (d.tols.length : Int)).toNat
      obtain ⟨ba, bb, La, Lb, a1, a2, a3, a4, a5, a6⟩ := kind_all hc hK.1 hK.2 x
      exact RoundKinder_c2 rl rs rb rlv d w hR x (by omega) z (by omega) y (by omega) q (by omega) hf hz2 hk hK.1 ba bb a1 a2 a3 La Lb a4 a5 a6
     ·rcases Nat.eq_zero_or_pos d.samples.length with h0 | h0
      ·obtain ⟨ba, bb, La, Lb, a1, a2, a3, a4, a5, a6⟩ := kind_all hc hV (Kinder.refl d) x
       exact RoundKinder_c5 rl rs rb rlv d w hR x (by omega) z (by omega) y (by omega) q (by omega) hf (by omega) hk h0 hV ba bb a1 a2 a3 La Lb a4 a5 a6
      ·have hK := kindRd_valid hV ((y : Int).tmod (d.tols.length : Int)).toNat (((q : Int).tmod 20).tmod ((d.rds.getD ((y : Int).tmod (d.tols.length : Int)).toNat []).length : Int)).toNat
       obtain ⟨ba, bb, La, Lb, a1, a2, a3, a4, a5, a6⟩ := kind_all hc hK.1 hK.2 x
       exact RoundKinder_c3 rl rs rb rlv d w hR x (by omega) z (by omega) y (by omega) q (by omega) hf (by omega) hk h0 hK.1 ba bb a1 a2 a3 La Lb a4 a5 a6
 ·exact RoundKinder_a rl rs rb rlv d w hR x (by omega) z (by omega) y (by omega) q (by omega) hf

end Go.Proofs.Ytfhmigoddaaljaa
