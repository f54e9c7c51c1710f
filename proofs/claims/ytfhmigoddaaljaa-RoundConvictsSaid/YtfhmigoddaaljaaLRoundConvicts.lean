/-
  The engine, part Y: appends onto an empty slice that was just built (its capacity is 0): always new memory, or nothing is done.
  The engine, part BB: drawn regions in which one operation takes a new thing of another and gives one of its own for it (an append onto what an append has given).
  Rounds taken apart, lot by lot: plain.
  One more laboratory; rounds that are kinder; lists of the fewest, told by what they are: plain.
  Rounds whose laboratories stand in another order: plain.
  All lists of laboratories, and the fewest among them, as the reference finds them: plain.
-/
import Derived.Test.YtfhmigoddaaljaaEng
import Derived.Test.YtfhmigoddaaljaaPlain
import Derived.Test.YtfhmigoddaaljaaFf
import Derived.Test.YtfhmigoddaaljaaFk
set_option linter.unusedSimpArgs false
set_option linter.unusedVariables false
namespace Go.Eng

section
variable {r : Option Nat} {P : Program} {o : Oper} {a : Act} {w w0 : World} {X : Nat → Prop} {L : List Res} {y : List Res → Value → Prop}

theorem op_append0 {t e : TypeId} {s x : Operand} {z : Value} {sz bytes : Nat} {b : Addr} {vx : Value} {m : Nat} {news : List Value}
    (ho : o.op = .call { callee := .builtin .append, args := #[s, x], argTypes := #[t, t] }) (ht : P.underlying t = some (.slice e)) (he : elK P e = some (z, sz, bytes))
    (hs : a.eval s = .slice (some b) 0 0) (hx : a.eval x = vx) (hsrc : SlAt w vx sz m news) (h1 : news.all (·.oneCell') = true)
    (h63 : m ≤ maxLen) (hbytes : m * bytes ≤ 140737488355328) (hm : 0 < m) :
    OpY r P o a w (fun v' w' => Ext NoB w w' ∧ w'.ownsRow w.heap.size e sz v' m news) := by
  unfold elK at he
  cases hi0 : P.info? e with
  | none => simp [hi0] at he
  | some ti =>
    simp only [hi0] at he
    cases hz : ti.zero with
    | none => simp [hz] at he
    | some z' =>
      simp only [hz] at he
      split at he
      case isFalse => cases he
      rename_i hcond
      simp only [Option.some.injEq, Prod.mk.injEq] at he
      obtain ⟨rfl, rfl, rfl⟩ := he
      obtain ⟨hl, A, cap', rfl, hc1, hc2, h3⟩ := hsrc
      have hne : news ≠ [] := by
        rintro rfl
        have := Nat.mul_pos hm hcond.2; simp at hl; omega
      obtain ⟨ad, rfl, hcells⟩ := h3 hne
      have hnil : w.ownsRow w.heap.size e ti.size (.slice none 0 0) 0 [] := ⟨by simp, .inl ⟨rfl, rfl⟩⟩
      obtain ⟨v', w', hrun, h2, h4, _, h5⟩ := run_append_own_at (P := P) w w.heap.size t o.type e ti z' ti.size ti.bytes ht hi0 hz rfl rfl hcond.1 hcond.2 (.slice none 0 0) 0 [] hnil ad m cap' news hl hcells (fun u hu => List.all_eq_true.1 h1 u hu) (by omega) (by rw [Nat.zero_add]; exact hbytes) (Nat.le_refl _)
      refine opY_value (v := v') (w' := w') (by rw [ho]; rfl) ?_ ⟨(Ext.of_grownBy h4).mono (fun b hb => by cases hb), by rw [Nat.zero_add, List.nil_append] at h2; exact h2⟩
      have hgo : ∀ R W, (Builtin.append_ #[t, t] o.type #[.slice (some b) 0 0, .slice (some ad) m cap']).run P w = .ok R W → (execOp a.eval o).run P w = .ok (.value R) W := fun R W hr => by
        simp only [execOp, ho, resolve, invoke, builtin, Sem.run_bind, Sem.run_pure, Result.andThen_ok, List.map_toArray, List.map_cons, List.map_nil, hs, hx, hr]
      refine hgo _ _ ?_
      have r1 := run_append_grow (P := P) w t o.type e ti z' ht hi0 hz b 0 0 [] (by simp) (by simp) ad m cap' news hl hcells (by omega) (by simp only [maxLen] at h63; omega) (growslice_fits (by omega) (by rw [Nat.zero_add]; exact hbytes))
      have r2 := run_append_nil (P := P) w t o.type e ti z' ht hi0 hz ad m cap' news hl hcells hm (by simp only [maxLen] at h63; omega) (by omega)
      rw [r2] at hrun
      cases hrun
      rw [r1]; simp

/-- Nothing is appended. -/
theorem op_appendZ {t e : TypeId} {s x : Operand} {z : Value} {sz bytes : Nat} {b : Addr} {vx : Value} {m : Nat} {news : List Value}
    (ho : o.op = .call { callee := .builtin .append, args := #[s, x], argTypes := #[t, t] }) (ht : P.underlying t = some (.slice e)) (he : elK P e = some (z, sz, bytes))
    (hs : a.eval s = .slice (some b) 0 0) (hx : a.eval x = vx) (hsrc : SlAt w vx sz m news) (hm : m = 0) :
    OpY r P o a w (fun v' w' => v' = .slice (some b) 0 0 ∧ w' = w) := by
  unfold elK at he
  cases hi0 : P.info? e with
  | none => simp [hi0] at he
  | some ti =>
    obtain ⟨hl, A, cap', rfl, hc1, hc2, h3⟩ := hsrc
    subst hm
    refine opY_value (v := .slice (some b) 0 0) (w' := w) (by rw [ho]; rfl) ?_ ⟨rfl, rfl⟩
    simp only [execOp, ho, resolve, invoke, builtin, Sem.run_bind, Sem.run_pure, Result.andThen_ok, List.map_toArray, List.map_cons, List.map_nil, hs, hx]
    cases A <;> simp [Builtin.append_, run_underlying ht, sizeOf, typeInfo, hi0, Builtin.lenOf, Builtin.firstCells, storeCells, loadCells, loadCellsFrom]

theorem vblz {t e : TypeId} {sz : Nat} {g : Bool} {parts : Array (Nat × Operand)} {ps : Array (Nat × Value)} {z : Value}
    (ho : o.op = .buildSlice t 0 parts) (hp : (parts.map fun (i, x) => (i, a.eval x)) = ps) (ht : P.underlying t = some (.slice e)) (he : tyK P e = some (g, sz)) (hz : (P.info? e).bind (·.zero) = some z)
    (hf : Instr.fill (fun i => some (i * sz, sz)) ((Array.range (0 * sz)).map (z.cells[· % z.cells.size]!)) ps.toList = some ([] : List Value).toArray) (hy : ∀ b, y [blk b e []] (.slice (some ⟨b, 0, none⟩) 0 0)) :
    OpY r P o a w (fun v w'' => Ext NoB w w'' ∧ ∃ rs, y rs v ∧ Sep NoB w w'' rs ∧ rs.all (·.own) = true) :=
  vn (op_buildSlice (X := NoB) (w0 := w) (L := []) (Sep.start _ _) ho hp ht he hz (by omega) hf) fun v w' ⟨b, h1, h2⟩ => by
    subst h1
    exact ⟨_, hy b, h2, rfl⟩
theorem vap0 {e sz m : Nat} {news : List Value} (h : OpY r P o a w (fun v' w' => Ext NoB w w' ∧ w'.ownsRow w.heap.size e sz v' m news)) (hy : ∀ v, y [row v e sz m news] v) :
    OpY r P o a w (fun v w'' => Ext NoB w w'' ∧ ∃ rs, y rs v ∧ Sep NoB w w'' rs ∧ rs.all (·.own) = true) :=
  vn h fun v w' hv => ⟨_, hy v, (Sep.start NoB _).new_row hv.1 hv.2, rfl⟩
end
end Go.Eng

namespace Go.Eng
open Go.RowKit

section
variable {r : Option Nat} {P : Program} {Q : Exit → Act → World → Prop} {n : Nat} {ds : List Deferred} {m : List (Nat × Value)} {X : Nat → Prop} {w0 : World} {L : List Res}

theorem slot_put {l : List Oper} {h : Nat} {a : Act} (hdst : ∀ x, x < h → ∀ x_1, x_1 < h → (decide (x_1 = x) || match (l.toArray[x_1]?).bind (·.dst), (l.toArray[x]?).bind (·.dst) with | some d, some e => decide (d ≠ e) | _, _ => true) = true)
    {j : Nat} {o : Oper} {v : Value} (hoj : (l.toArray)[j]? = some o) (hj : j < h) : ∀ i, i < h → i ≠ j → ∀ u, SlotIs l.toArray a i u → SlotIs l.toArray (a.put o.dst v) i u := by
  intro i hi hij u hs
  unfold SlotIs at hs ⊢
  have hdd := hdst i hi j hj
  cases hdi : ((l.toArray)[i]?).bind (·.dst) with
  | none => trivial
  | some di =>
    rw [hdi] at hs
    cases hdj' : o.dst with
    | none => exact hs
    | some dj =>
      have hjd : ((l.toArray)[j]?).bind (·.dst) = some dj := by rw [hoj]; exact hdj'
      rw [hdi, hjd] at hdd
      simp only [Bool.or_eq_true, decide_eq_true_eq] at hdd
      have hne : dj ≠ di := fun e' => (hdd.resolve_left (fun e2 => hij e2.symm)) e'
      simp only [Act.put]
      rw [Array.getElem?_setIfInBounds_ne hne]; exact hs
theorem slot_new {l : List Oper} {h : Nat} {a : Act} (hA : Fr n ds m a) (hn : (List.range h).all (fun j => match (l.toArray[j]?).bind (·.dst) with | some d => decide (d < n) | none => true) = true)
    {j : Nat} {o : Oper} {v : Value} (hoj : (l.toArray)[j]? = some o) (hj : j < h) : SlotIs l.toArray (a.put o.dst v) j v := by
  unfold SlotIs
  rw [hoj]
  cases hd : o.dst with
  | none => simp [hd]
  | some d =>
    simp only [Option.bind_some, hd]
    have hdn := List.all_eq_true.1 hn j (List.mem_range.2 hj)
    rw [hoj] at hdn
    simp only [Option.bind_some, hd, decide_eq_true_eq] at hdn
    simp only [Act.put]
    rw [Array.getElem?_setIfInBounds_self_of_lt (by rw [hA.1]; exact hdn)]
theorem fr_put {l : List Oper} {h : Nat} {a : Act} (hA : Fr n ds m a) (hfree : freeOf l.toArray h (m.map (·.1)) = true) (hn : (List.range h).all (fun j => match (l.toArray[j]?).bind (·.dst) with | some d => decide (d < n) | none => true) = true)
    {j : Nat} {o : Oper} {v : Value} (hoj : (l.toArray)[j]? = some o) (hj : j < h) : Fr n ds m (a.put o.dst v) := by
  cases hd : o.dst with
  | none => exact hA.put_none v
  | some d =>
    have hf := List.all_eq_true.1 hfree j (List.mem_range.2 hj)
    have hjd : ((l.toArray)[j]?).bind (·.dst) = some d := by rw [hoj]; exact hd
    rw [hjd] at hf
    have hdn := List.all_eq_true.1 hn j (List.mem_range.2 hj)
    rw [hjd] at hdn
    refine (hA.put (by simpa using hdn) v).mono (fun i u hi => ?_)
    have : i ≠ d := by
      rintro rfl
      have := lookup_mem m hi
      simp [this] at hf
    have hb : (i == d) = false := by simpa using this
    simp only [List.lookup, hb]; exact hi

/-- What holds within the head; j0 takes the things of i0. -/
def CInv (l : List Oper) (h n : Nat) (ds : List Deferred) (m : List (Nat × Value)) (X : Nat → Prop) (w0 : World) (L : List Res) (Y : List YV) (j0 i0 : Nat) (done : Nat → Bool) (a : Act) (w' : World) : Prop :=
  Fr n ds m a ∧ ∃ vs rsf, (∀ i, i < h → done i = true → (i ≠ i0 ∨ done j0 = false) → SlotIs l.toArray a i (vs i) ∧ yat Y i vs (vs i) (rsf i)) ∧ (∀ i, done i = false → rsf i = []) ∧ (done j0 = true → rsf i0 = []) ∧ Sep X w0 w' (catR rsf 0 h ++ L)

theorem c_drawC {id : Nat} {l : List Oper} {a : Act} {w : World} (hm : P.follows .mixedOrders = true) (hA : Fr n ds m a) (hS : Sep X w0 w L) (h j0 i0 : Nat) (hij : i0 ≠ j0) (hjh : j0 < h) (hih : i0 < h) {oj : Oper} (hoj : l[j0]? = some oj) (dl : List (List Nat)) (Y : List YV)
    (hok : drawOk l.toArray h (fun _ => []) = true) (hok2 : depsOk l.toArray h dl = true) (hfree : freeOf l.toArray h (m.map (·.1)) = true) (hn : (List.range h).all (fun j => match (l.toArray[j]?).bind (·.dst) with | some d => decide (d < n) | none => true) = true)
    (hdep : AllDep dl Y) (hdl : (List.range h).all (fun j => decide (j = j0) || !(dl.getD j []).contains i0) = true) (hd0 : (dl.getD j0 []).contains i0 = true)
    (hop : AllOps (fun j o => j ≠ j0 → ∀ a w' vs, Fr n ds m a → Sep X w0 w' L → (∀ i ∈ dl.getD j [], SlotIs l.toArray a i (vs i) ∧ ∃ rs, yat Y i vs (vs i) rs ∧ ∀ s ∈ rs, s.p w') → OpG r P l.toArray o a w' (fun v w'' => Ext NoB w' w'' ∧ ∃ rs, yat Y j vs v rs ∧ Sep NoB w' w'' rs ∧ rs.all (·.own) = true)) 0 h l)
    (hopC : ∀ a w' vs rs0 Lr, Fr n ds m a → SlotIs l.toArray a i0 (vs i0) → yat Y i0 vs (vs i0) rs0 → (∀ i ∈ dl.getD j0 [], i ≠ i0 → SlotIs l.toArray a i (vs i) ∧ ∃ rs, yat Y i vs (vs i) rs ∧ ∀ s ∈ rs, s.p w') → Sep X w0 w' (rs0 ++ Lr) → OpG r P l.toArray oj a w' (fun v w'' => ∃ rs, yat Y j0 vs v rs ∧ Sep X w0 w'' (rs ++ Lr)))
    (htail : ∀ a w' vs rsf, Fr n ds m a → (∀ i, i < h → i ≠ i0 → SlotIs l.toArray a i (vs i) ∧ yat Y i vs (vs i) (rsf i)) → rsf i0 = [] → Sep X w0 w' (catR rsf 0 h ++ L) → WL r P l.toArray Q (l.drop h) a w') :
    WC r P (.region id l.toArray true) Q a w := by
  have hok' := hok
  simp only [drawOk, Bool.and_eq_true, List.all_eq_true, List.mem_range, decide_eq_true_eq] at hok'
  obtain ⟨⟨⟨⟨hback, _⟩, htl⟩, hdst⟩, hh⟩ := hok'
  simp only [depsOk, List.all_eq_true, List.mem_range, Bool.and_eq_true, decide_eq_true_eq] at hok2
  simp only [List.all_eq_true, List.mem_range, Bool.or_eq_true, decide_eq_true_eq, Bool.not_eq_true'] at hdl
  have hi0j : i0 ∈ dl.getD j0 [] := by simpa using hd0
  refine c_drawJ hm h (fun _ => []) hok (CInv l h n ds m X w0 L Y j0 i0) (fun w' he _ => ⟨hA, fun _ => undef, fun _ => [], (fun i _ hi => by cases hi), fun _ _ => rfl, fun _ => rfl, ?_⟩) (fun j o ho hj done a w' hj0 hcl hjb hI => ?_) (fun done a w' hall hI => ?_)
  · have : ∀ (h k : Nat), catR (fun _ => []) k h = [] := by
      intro h
      induction h with
      | zero => intro k; rfl
      | succ h ih => intro k; show [] ++ catR _ (k + 1) h = []; rw [ih]; rfl
    rw [this]; exact hS.step he
  · obtain ⟨hA, vs, rsf, hdone, hnot, hcon, hSep⟩ := hI
    have hoj' : (l.toArray)[j]? = some o := by simpa using ho
    have hdj : ∀ i ∈ dl.getD j [], i < h ∧ done i = true := fun i hi => by
      have h1 := hok2 j hj i hi
      exact ⟨by omega, before_done hcl 12 _ hjb i (by simpa using h1.2)⟩
    have hjd0 : done j0 = true → done i0 = true := fun h0 => by
      have h1 := hok2 j0 hjh i0 hi0j
      exact before_done hcl 12 _ (hcl j0 h0) i0 (by simpa using h1.2)
    by_cases hjj : j = j0
    · subst hjj
      have heo : o = oj := by rw [hoj] at ho; exact (Option.some.inj ho).symm
      subst heo
      have hdi0 : done i0 = true := (hdj i0 hi0j).2
      obtain ⟨s1, s2⟩ := hdone i0 hih hdi0 (.inr hj0)
      have hup : upd (upd rsf i0 []) i0 (rsf i0) = rsf := by
        funext k; unfold upd; by_cases e : k = i0
        · subst e; rw [if_pos rfl]
        · rw [if_neg e, if_neg e]
      have hp1 : (catR rsf 0 h).Perm (rsf i0 ++ catR (upd rsf i0 []) 0 h) := by
        have := catR_upd (upd rsf i0 []) i0 (rsf i0) (upd_same _ _ _) h 0 (Nat.zero_le _) (by omega)
        rw [hup] at this; exact this
      have hS2 : Sep X w0 w' (rsf i0 ++ (catR (upd rsf i0 []) 0 h ++ L)) := hSep.perm (by
        rw [← List.append_assoc]; exact (hp1.append_right L).symm)
      refine opG_mono (hopC a w' vs (rsf i0) _ hA s1 s2 (fun i hi hne => ?_) hS2) (fun v w'' hv => ?_)
      · obtain ⟨h1, h2⟩ := hdj i hi
        obtain ⟨h3, h4⟩ := hdone i h1 h2 (.inl hne)
        exact ⟨h3, rsf i, h4, fun s hs => hSep.mem (List.mem_append_left _ (catR_mem rsf h 0 i (Nat.zero_le _) (by omega) s hs))⟩
      · obtain ⟨rs, hy, hS3⟩ := hv
        refine ⟨fr_put hA hfree hn hoj' hj, upd vs j v, upd (upd rsf i0 []) j rs, fun i hi hdi hne => ?_, fun i hdi => ?_, fun _ => ?_, ?_⟩
        · have hne' : i ≠ i0 := hne.resolve_right (by simp)
          by_cases e : i = j
          · subst e
            rw [upd_same, upd_same]
            refine ⟨slot_new hA hn hoj' hj, yat_dep hdep (fun k hk => ?_) hy⟩
            have := (hdj k hk).2
            rw [upd_ne _ _ (by rintro rfl; rw [hj0] at this; cases this)]
          · have hdi' : done i = true := by
              simp only [Bool.or_eq_true, beq_iff_eq] at hdi
              exact hdi.resolve_right e
            obtain ⟨h3, h4⟩ := hdone i hi hdi' (.inl hne')
            rw [upd_ne _ _ e, upd_ne _ _ e, upd_ne _ _ hne']
            refine ⟨slot_put hdst hoj' hj i hi e _ h3, yat_dep hdep (fun k hk => ?_) h4⟩
            have hk1 := hok2 i hi k hk
            have := before_done hcl 12 _ (hcl i hdi') k (by simpa using hk1.2)
            rw [upd_ne _ _ (by rintro rfl; rw [hj0] at this; cases this)]
        · simp only [Bool.or_eq_false_iff, beq_eq_false_iff_ne, ne_eq] at hdi
          rw [upd_ne _ _ hdi.2]
          by_cases e : i = i0
          · subst e; exact upd_same _ _ _
          · rw [upd_ne _ _ e]; exact hnot i hdi.1
        · rw [upd_ne _ _ hij, upd_same]
        · refine hS3.perm ?_
          rw [← List.append_assoc]
          exact (catR_upd (upd rsf i0 []) j rs (by rw [upd_ne _ _ (fun e => hij e.symm)]; exact hnot j hj0) h 0 (Nat.zero_le _) (by omega)).append_right L
    · have hob := allOps_at h 0 l hop j o ho hj
      rw [Nat.zero_add] at hob
      have hni : ∀ i ∈ dl.getD j [], i ≠ i0 := fun i hi e => by
        subst e
        have := (hdl j hj).resolve_left hjj
        have h2 : (dl.getD j []).contains i = true := by simpa using hi
        rw [h2] at this; cases this
      refine opG_mono (hob hjj a w' vs hA hSep.right (fun i hi => ?_)) (fun v w'' hv => ?_)
      · obtain ⟨h1, h2⟩ := hdj i hi
        obtain ⟨h3, h4⟩ := hdone i h1 h2 (.inl (hni i hi))
        exact ⟨h3, rsf i, h4, fun s hs => hSep.mem (List.mem_append_left _ (catR_mem rsf h 0 i (Nat.zero_le _) (by omega) s hs))⟩
      · obtain ⟨hext, rs, hy, hnew, hown⟩ := hv
        have hj0' : ((fun i => done i || (i == j)) j0 = true) ↔ done j0 = true := by
          simp only [Bool.or_eq_true, beq_iff_eq]
          exact ⟨fun h => h.resolve_right (fun e => hjj e.symm), fun h => .inl h⟩
        refine ⟨fr_put hA hfree hn hoj' hj, upd vs j v, upd rsf j rs, fun i hi hdi hne => ?_, fun i hdi => ?_, fun hd => ?_, ?_⟩
        · by_cases e : i = j
          · subst e
            rw [upd_same, upd_same]
            refine ⟨slot_new hA hn hoj' hj, yat_dep hdep (fun k hk => ?_) hy⟩
            have := (hdj k hk).2
            rw [upd_ne _ _ (by rintro rfl; rw [hj0] at this; cases this)]
          · have hdi' : done i = true := by
              simp only [Bool.or_eq_true, beq_iff_eq] at hdi
              exact hdi.resolve_right e
            obtain ⟨h3, h4⟩ := hdone i hi hdi' (hne.imp (fun h => h) (fun h => by
              cases hc : done j0 with
              | false => rfl
              | true => rw [hj0'.2 hc] at h; cases h))
            rw [upd_ne _ _ e, upd_ne _ _ e]
            refine ⟨slot_put hdst hoj' hj i hi e _ h3, yat_dep hdep (fun k hk => ?_) h4⟩
            have hk1 := hok2 i hi k hk
            have := before_done hcl 12 _ (hcl i hdi') k (by simpa using hk1.2)
            rw [upd_ne _ _ (by rintro rfl; rw [hj0] at this; cases this)]
        · simp only [Bool.or_eq_false_iff, beq_eq_false_iff_ne, ne_eq] at hdi
          rw [upd_ne _ _ hdi.2]; exact hnot i hdi.1
        · have h1 := hj0'.1 hd
          have h2 := hjd0 h1
          rw [upd_ne _ _ (by rintro rfl; rw [hj0] at h2; cases h2)]
          exact hcon h1
        · have h1 := hSep.callS hnew hown
          refine h1.perm ?_
          rw [← List.append_assoc]
          exact (catR_upd rsf j rs (hnot j hj0) h 0 (Nat.zero_le _) (by omega)).append_right L
  · obtain ⟨hA, vs, rsf, hdone, _, hcon, hSep⟩ := hI
    exact htail a w' vs rsf hA (fun i hi hne => hdone i hi (hall i hi) (.inl hne)) (hcon (hall j0 hjh)) hSep
end

/-- The cells are told in other words. -/
theorem SlAt.tell {w : World} {v : Value} {sz n n' : Nat} {cs cs' : List Value} (h : SlAt w v sz n cs) (hn : n = n') (hc : cs = cs') : SlAt w v sz n' cs' := by subst hn; subst hc; exact h
section
variable {X : Nat → Prop} {w0 w : World} {L : List Res}
theorem lst_one {lv : List Value} {ls : List (List Int)} (h : (lstR lv ls).p w) : lv.all (·.oneCell') = true := by
  rw [List.all_eq_true]
  intro v hv
  obtain ⟨i, hi, rfl⟩ := List.getElem_of_mem hv
  have := (h.2 i (by rw [← h.1]; exact hi)).one
  simpa [List.getD, hi] using this
/-- Two lists of lists, as one. -/
theorem Sep.lst_app {lv lv2 : List Value} {ls ls2 : List (List Int)} (h : Sep X w0 w (lstR lv ls :: lstR lv2 ls2 :: L)) : Sep X w0 w (lstR (lv ++ lv2) (ls ++ ls2) :: L) := by
  have h1 : (lstR lv ls).p w := h.ok 0 _ rfl
  have h2 : (lstR lv2 ls2).p w := h.ok 1 _ rfl
  have each : ∀ i, i < (ls ++ ls2).length → ((lv ++ lv2).getD i nilS = lv.getD i nilS ∧ (ls ++ ls2).getD i [] = ls.getD i [] ∧ i < ls.length) ∨ (∃ j, j < ls2.length ∧ (lv ++ lv2).getD i nilS = lv2.getD j nilS ∧ (ls ++ ls2).getD i [] = ls2.getD j []) := fun i hi => by
    rw [List.length_append] at hi
    by_cases e : i < ls.length
    · left
      refine ⟨?_, ?_, e⟩
      · simp only [List.getD]; rw [List.getElem?_append_left (by rw [h1.1]; exact e)]
      · simp only [List.getD]; rw [List.getElem?_append_left e]
    · right
      refine ⟨i - ls.length, by omega, ?_, ?_⟩
      · simp only [List.getD]; rw [List.getElem?_append_right (by rw [h1.1]; omega), h1.1]
      · simp only [List.getD]; rw [List.getElem?_append_right (by omega)]
  refine h.join ⟨by simp [h1.1, h2.1], fun i hi => ?_⟩ (fun b ⟨i, hi, hb⟩ => ?_) (fun _ => ⟨rfl, rfl⟩) (fun _ => trivial)
  · rcases each i hi with ⟨e1, e2, e3⟩ | ⟨j, e3, e1, e2⟩
    · rw [e1, e2]; exact h1.2 i e3
    · rw [e1, e2]; exact h2.2 j e3
  · rcases each i hi with ⟨e1, e2, e3⟩ | ⟨j, e3, e1, e2⟩
    · rw [e1, e2] at hb; exact .inl ⟨i, e3, hb⟩
    · rw [e1, e2] at hb; exact .inr ⟨j, e3, hb⟩
/-- Some of the lists alone, in any order. -/
theorem Sep.lst_sel {lv : List Value} {ls : List (List Int)} (h : Sep X w0 w (lstR lv ls :: L)) (sel : List Nat) (hs : ∀ i ∈ sel, i < ls.length) : Sep X w0 w (lstR (sel.map fun i => lv.getD i nilS) (sel.map fun i => ls.getD i []) :: L) := by
  have h1 : (lstR lv ls).p w := h.ok 0 _ rfl
  have each : ∀ i, i < sel.length → (sel.map fun i => lv.getD i nilS).getD i nilS = lv.getD (sel.getD i 0) nilS ∧ (sel.map fun i => ls.getD i []).getD i [] = ls.getD (sel.getD i 0) [] ∧ sel.getD i 0 < ls.length := fun i hi => by
    have e : sel.getD i 0 = sel[i] := by simp [List.getD, hi]
    refine ⟨by simp [List.getD, hi], by simp [List.getD, hi], by rw [e]; exact hs _ (List.getElem_mem hi)⟩
  refine h.say (i := 0) rfl ⟨by simp, fun i hi => ?_⟩ (fun b ⟨i, hi, hb⟩ => ?_) (fun _ => rfl)
  · rw [List.length_map] at hi
    obtain ⟨e1, e2, e3⟩ := each i hi
    rw [e1, e2]; exact h1.2 _ e3
  · rw [List.length_map] at hi
    obtain ⟨e1, e2, e3⟩ := each i hi
    rw [e1, e2] at hb
    exact ⟨_, e3, hb⟩
end
end Go.Eng

namespace Go.Proofs.Ytfhmigoddaaljaa
open Go.RowKit Go.Eng

/-- The readings of laboratory k, those of the first j samples struck out that are of another lot than i. -/
def apUpto (d : RD) (i k : Nat) : Nat → List Int
  | 0 => d.rds.getD k []
  | j + 1 => if d.samples.getD j 0 = (i : Int) then apUpto d i k j else (apUpto d i k j).set j (-1)
def apRow (d : RD) (i k : Nat) : List Int := apUpto d i k d.samples.length
def apartD (d : RD) (i : Nat) : RD := { d with rds := (List.range d.tols.length).map fun k => apRow d i k }
section
variable {d : RD} {i : Nat}
theorem apUpto_yes {k j : Nat} (h : d.samples.getD j 0 = (i : Int)) : apUpto d i k (j + 1) = apUpto d i k j := by rw [apUpto, if_pos h]
theorem apUpto_no {k j : Nat} (h : ¬ d.samples.getD j 0 = (i : Int)) : apUpto d i k (j + 1) = (apUpto d i k j).set j (-1) := by rw [apUpto, if_neg h]
theorem apUpto_len (k : Nat) : ∀ j, (apUpto d i k j).length = (d.rds.getD k []).length
  | 0 => rfl
  | j + 1 => by
    unfold apUpto; split
    · exact apUpto_len k j
    · rw [List.length_set]; exact apUpto_len k j
theorem apUpto_at (k : Nat) : ∀ j t, t < (d.rds.getD k []).length → (apUpto d i k j).getD t 0 = if t < j ∧ d.samples.getD t 0 ≠ (i : Int) then -1 else (d.rds.getD k []).getD t 0
  | 0, t, _ => by rw [if_neg (by omega)]; rfl
  | j + 1, t, ht => by
    have ih := apUpto_at k j t ht
    unfold apUpto; split
    · rename_i h
      rw [ih]
      by_cases e : t = j
      · subst e; rw [if_neg (by omega), if_neg (fun e => e.2 h)]
      · simp only [show (t < j + 1) ↔ t < j by omega]
    · rename_i h
      by_cases e : t = j
      · subst e
        rw [if_pos ⟨by omega, h⟩]
        have : t < (apUpto d i k t).length := by rw [apUpto_len]; exact ht
        simp [List.getD, this]
      · have e2 : ((apUpto d i k j).set j (-1)).getD t 0 = (apUpto d i k j).getD t 0 := by
          simp only [List.getD]; rw [List.getElem?_set_ne (fun e' => e e'.symm)]
        rw [e2, ih]
        simp only [show (t < j + 1) ↔ t < j by omega]
theorem apart_rds {q : Nat} (hq : q < d.tols.length) : (apartD d i).rds.getD q [] = apRow d i q := by
  simp [apartD, List.getD, hq]
theorem apart_rd (hV : Valid d) {q t : Nat} (hq : q < d.tols.length) (ht : t < d.samples.length) : rdv (apartD d i) q t = if d.samples.getD t 0 = (i : Int) then rdv d q t else -1 := by
  unfold rdv; rw [apart_rds hq]; unfold apRow
  rw [apUpto_at q _ t (by rw [hV.rdl q hq]; exact ht)]
  by_cases h : d.samples.getD t 0 = (i : Int)
  · rw [if_neg (fun e => e.2 h), if_pos h]
  · rw [if_pos ⟨ht, h⟩, if_neg h]
theorem apart_valid (hV : Valid d) : Valid (apartD d i) := by
  refine ⟨hV.nl, hV.ns, hV.nb, hV.lots, hV.samples, hV.spread, hV.tols, fun q hq => ?_, fun q hq j hj => ?_⟩
  · rw [apart_rds (d := d) hq]; unfold apRow; rw [apUpto_len]; exact hV.rdl q hq
  · have := hV.rds q hq j hj
    show -1 ≤ rdv (apartD d i) q j ∧ rdv (apartD d i) q j ≤ 1000
    rw [apart_rd hV hq hj]
    split
    · exact this
    · omega
theorem apart_check (hV : Valid d) : checkR (apartD d i) = 0 := check_of (apart_valid hV)
theorem apart_thin (hV : Valid d) : (apartD d i).lots.length ≤ 6 ∧ (apartD d i).samples.length ≤ 10 ∧ (apartD d i).tols.length ≤ 8 ∧ ∀ k, k < (apartD d i).tols.length → ((apartD d i).rds.getD k []).length ≤ 10 := by
  have h := apart_valid (i := i) hV
  have h1 := h.nl; have h2 := h.ns; have h3 := h.nb
  exact ⟨by omega, by omega, by omega, fun k hk => by have := h.rdl k hk; omega⟩
theorem apart_rdl : (apartD d i).rds.length = d.tols.length := by simp [apartD]
end
/-- A round is explained if each lot of it is. -/
theorem apart_all {d : RD} (hV : Valid d) {off : List Bool} : explB d off = (List.range d.lots.length).all fun i => explB (apartD d i) off := by
  rw [Bool.eq_iff_iff, List.all_eq_true, explB_iff hV]
  constructor
  · rintro ⟨L, v, h⟩ i _
    refine (explB_iff (apart_valid hV)).2 ⟨L, v, h.lots, h.near, fun k hk q hq ho hr => ?_⟩
    have hrd := apart_rd (i := i) hV hq hk
    rw [hrd] at hr ⊢
    split at hr
    · rename_i e
      rw [if_pos e]
      exact h.agree k hk q hq ho hr
    · exact absurd rfl hr
  · intro h
    have hi : ∀ i, ∃ L v, i < d.lots.length → Truth (apartD d i) off (-1) 0 L v := fun i => by
      by_cases hi : i < d.lots.length
      · obtain ⟨L, v, hT⟩ := (explB_iff (apart_valid hV)).1 (h i (List.mem_range.2 hi))
        exact ⟨L, v, fun _ => hT⟩
      · exact ⟨fun _ => 0, fun _ => 0, fun e => absurd e hi⟩
    let L : Nat → Nat → Int := fun i => Classical.choose (hi i)
    have hL := fun i => Classical.choose_spec (hi i)
    let v : Nat → Nat → Int := fun i => Classical.choose (hL i)
    have hv : ∀ i, i < d.lots.length → Truth (apartD d i) off (-1) 0 (L i) (v i) := fun i => Classical.choose_spec (hL i)
    refine ⟨fun i => L i i, fun k => v (lotOf d k) k, fun i hi => (hv i hi).lots i hi, fun k hk => ?_, fun k hk q hq ho hr => ?_⟩
    · have hs := hV.samples k hk
      exact (hv (lotOf d k) (by unfold lotOf; omega)).near k hk
    · have hs := hV.samples k hk
      have hT := hv (lotOf d k) (by unfold lotOf; omega)
      have hrd := apart_rd (i := lotOf d k) hV hq hk
      rw [if_pos (by unfold lotOf; omega)] at hrd
      have := hT.agree k hk q hq ho (by rw [hrd]; exact hr)
      rw [hrd] at this
      exact this
def apAll (d : RD) (off : List Bool) (n : Nat) : Bool := (List.range n).all fun i => explB (apartD d i) off
theorem apAll_succ (d : RD) (off : List Bool) (n : Nat) : apAll d off (n + 1) = (apAll d off n && explB (apartD d n) off) := by
  unfold apAll; rw [List.range_succ, List.all_append]; simp
end Go.Proofs.Ytfhmigoddaaljaa

namespace Go.Proofs.Ytfhmigoddaaljaa
open Go.RowKit Go.Eng

/-! ### One more laboratory -/
def endsRow (d : RD) (k : Nat) (n : Int) : List Int := (List.replicate d.samples.length (-1)).set k n
def endsD (d : RD) (k : Nat) (n : Int) : RD := { d with tols := d.tols ++ [0], rds := d.rds ++ [endsRow d k n] }
section
variable {d : RD} {k : Nat} {n : Int}
theorem getD_snocI (l : List Int) (a : Int) (q : Nat) : (l ++ [a]).getD q 0 = if q < l.length then l.getD q 0 else if q = l.length then a else 0 := by
  simp only [List.getD, List.getElem?_append]
  split
  · rfl
  · rename_i h
    split
    · rename_i e; subst e; simp
    · rw [List.getElem?_eq_none (by simp; omega)]; rfl
theorem getD_snocL (l : List (List Int)) (a : List Int) (q : Nat) : (l ++ [a]).getD q [] = if q < l.length then l.getD q [] else if q = l.length then a else [] := by
  simp only [List.getD, List.getElem?_append]
  split
  · rfl
  · rename_i h
    split
    · rename_i e; subst e; simp
    · rw [List.getElem?_eq_none (by simp; omega)]; rfl
theorem ends_rds (hr : d.rds.length = d.tols.length) (q : Nat) : (endsD d k n).rds.getD q [] = if q < d.tols.length then d.rds.getD q [] else if q = d.tols.length then endsRow d k n else [] := by
  show (d.rds ++ [endsRow d k n]).getD q [] = _
  rw [getD_snocL, hr]
theorem endsRow_at {i : Nat} (hi : i < d.samples.length) : (endsRow d k n).getD i 0 = if i = k then n else -1 := by
  unfold endsRow
  simp only [List.getD, List.getElem?_set]
  by_cases e : k = i
  · subst e; simp [hi]
  · rw [if_neg e, if_neg (fun h => e h.symm)]; simp [hi]
theorem endsRow_len : (endsRow d k n).length = d.samples.length := by simp [endsRow]
theorem ends_len : (endsD d k n).tols.length = d.tols.length + 1 := by simp [endsD]
theorem ends_tol {q : Nat} (hq : q < d.tols.length) : (endsD d k n).tols.getD q 0 = d.tols.getD q 0 := by
  show (d.tols ++ [0]).getD q 0 = _
  rw [getD_snocI, if_pos hq]
theorem ends_tolN : (endsD d k n).tols.getD d.tols.length 0 = 0 := by
  show (d.tols ++ [0]).getD _ 0 = _
  rw [getD_snocI, if_neg (by omega), if_pos rfl]
theorem ends_rd (hr : d.rds.length = d.tols.length) {q i : Nat} (hq : q < d.tols.length) : rdv (endsD d k n) q i = rdv d q i := by
  unfold rdv; rw [ends_rds hr, if_pos hq]
theorem ends_rdN (hr : d.rds.length = d.tols.length) {i : Nat} (hi : i < d.samples.length) : rdv (endsD d k n) d.tols.length i = if i = k then n else -1 := by
  unfold rdv; rw [ends_rds hr, if_neg (by omega), if_pos rfl, endsRow_at hi]
theorem ends_valid (hV : Valid d) (hr : d.rds.length = d.tols.length) (h5 : d.tols.length ≤ 5) (hn : 0 ≤ n ∧ n ≤ 1000) : Valid (endsD d k n) := by
  refine ⟨hV.nl, hV.ns, by rw [ends_len]; omega, hV.lots, hV.samples, hV.spread, fun q hq => ?_, fun q hq => ?_, fun q hq j hj => ?_⟩
  · rw [ends_len] at hq
    by_cases e : q < d.tols.length
    · rw [ends_tol e]; exact hV.tols q e
    · rw [show q = d.tols.length by omega, ends_tolN]; omega
  · rw [ends_len] at hq
    rw [ends_rds hr]
    by_cases e : q < d.tols.length
    · rw [if_pos e]; exact hV.rdl q e
    · rw [if_neg e, if_pos (by omega)]; exact endsRow_len
  · rw [ends_len] at hq
    have hj' : j < d.samples.length := hj
    show -1 ≤ rdv (endsD d k n) q j ∧ rdv (endsD d k n) q j ≤ 1000
    by_cases e : q < d.tols.length
    · rw [ends_rd hr e]; exact hV.rds q e j hj'
    · rw [show q = d.tols.length by omega, ends_rdN hr hj']; split <;> omega
theorem ends_thin (hV : Valid d) (hr : d.rds.length = d.tols.length) (h5 : d.tols.length ≤ 5) (hn : 0 ≤ n ∧ n ≤ 1000) : (endsD d k n).lots.length ≤ 6 ∧ (endsD d k n).samples.length ≤ 10 ∧ (endsD d k n).tols.length ≤ 8 ∧ ∀ q, q < (endsD d k n).tols.length → ((endsD d k n).rds.getD q []).length ≤ 10 := by
  have h := ends_valid (k := k) hV hr h5 hn
  have h1 := h.nl; have h2 := h.ns; have h3 := h.nb
  exact ⟨by omega, by omega, by omega, fun q hq => by have := h.rdl q hq; omega⟩
theorem ends_rdl (hr : d.rds.length = d.tols.length) : (endsD d k n).rds.length = (endsD d k n).tols.length := by simp [endsD, hr]
theorem ends_iff (hV : Valid d) (hr : d.rds.length = d.tols.length) (h5 : d.tols.length ≤ 5) (hn : 0 ≤ n ∧ n ≤ 1000) {off : List Bool} (hoff : off.getD d.tols.length false = false) (hok : explB d off = true) (hk : k < d.samples.length) :
    explB (endsD d k n) off = (decide (((spansF d off (-1) 0).1.getD k (0, 0)).1 ≤ n) && decide (n ≤ ((spansF d off (-1) 0).1.getD k (0, 0)).2)) := by
  rw [Bool.eq_iff_iff, explB_iff (ends_valid hV hr h5 hn)]
  simp only [Bool.and_eq_true, decide_eq_true_eq]
  rw [span_iff hV hok hk n]
  constructor
  · rintro ⟨L, v, h⟩
    refine ⟨L, v, ⟨h.lots, h.near, fun i hi q hq ho hrd => ?_⟩, ?_⟩
    · have := h.agree i hi q (by rw [ends_len]; omega) ho (by rw [ends_rd hr hq]; exact hrd)
      rw [ends_rd hr hq, ends_tol hq] at this; exact this
    · have e : rdv (endsD d k n) d.tols.length k = n := by rw [ends_rdN hr hk, if_pos rfl]
      have := h.agree k hk d.tols.length (by rw [ends_len]; omega) hoff (by rw [e]; omega)
      rw [e, ends_tolN] at this
      split at this <;> omega
  · rintro ⟨L, v, h, e⟩
    refine ⟨L, v, h.lots, h.near, fun i hi q hq ho hrd => ?_⟩
    have hi' : i < d.samples.length := hi
    rw [ends_len] at hq
    by_cases hq' : q < d.tols.length
    · rw [ends_rd hr hq'] at hrd ⊢
      rw [ends_tol hq']
      exact h.agree i hi q hq' ho hrd
    · have eq : q = d.tols.length := by omega
      subst eq
      rw [ends_rdN hr hi'] at hrd ⊢
      rw [ends_tolN]
      by_cases ei : i = k
      · subst ei; rw [if_pos rfl, e]; split <;> omega
      · rw [if_neg ei] at hrd; exact absurd rfl hrd
theorem offB_out {nb x : Nat} (h : nb < 6) : (offB nb x).getD nb false = false := by
  unfold offB
  rw [off_has (chosen_rise nb x) h, Bool.eq_false_iff]
  intro e
  rw [hasB_iff, mem_chosen] at e
  obtain ⟨q, h1, _, h2⟩ := e
  omega
theorem rise_more {nb : Nat} {l : List Int} (h : riseB nb l = true) : riseB (nb + 1) l = true := by
  unfold riseB at *
  rw [List.all_eq_true] at *
  intro i hi
  have := h i hi
  unfold riseAt at *
  simp only [Bool.and_eq_true, decide_eq_true_eq] at *
  exact ⟨⟨this.1.1, by omega⟩, this.2⟩
theorem ends_explains (hV : Valid d) (hr : d.rds.length = d.tols.length) (h5 : d.tols.length ≤ 5) (hn : 0 ≤ n ∧ n ≤ 1000) {x : Nat} (hok : explB d (offB d.tols.length x) = true) (hk : k < d.samples.length) :
    explainsF (endsD d k n) (chosenF d.tols.length x) = ((decide (((spansF d (offB d.tols.length x) (-1) 0).1.getD k (0, 0)).1 ≤ n) && decide (n ≤ ((spansF d (offB d.tols.length x) (-1) 0).1.getD k (0, 0)).2)), 0) := by
  rw [explainsF_yes (check_of (ends_valid hV hr h5 hn)) (by rw [ends_len]; exact rise_more (chosen_rise _ _))]
  rw [← ends_iff hV hr h5 hn (offB_out (by omega)) hok hk]; rfl
end

/-! ### Lists of the fewest -/
theorem fromL_mem (d : RD) : ∀ (m : Nat) (l : List Int) (off : List Bool) (next : Nat) (z : List Int), z ∈ fromL d m l off next →
    ∃ ys, z = l ++ ys ∧ ys.length = m ∧ (∀ y ∈ ys, (next : Int) ≤ y ∧ y ≤ (d.tols.length : Int) - 1) ∧ ys.Pairwise (· < ·) ∧ explB d (ys.foldl (fun bs n => bs.set n.toNat true) off) = true
  | 0, l, off, next, z, h => by
    rw [fromL] at h
    split at h
    · rename_i he
      rw [List.mem_singleton] at h
      exact ⟨[], by rw [h, List.append_nil], rfl, by simp, List.Pairwise.nil, he⟩
    · cases h
  | m + 1, l, off, next, z, h => by
    rw [fromL, List.mem_flatMap] at h
    obtain ⟨k, hk, hz⟩ := h
    rw [List.mem_range'_1] at hk
    obtain ⟨ys, e, hl, hb, hp, hx⟩ := fromL_mem d m (l ++ [(k : Int)]) (off.set k true) (k + 1) z hz
    refine ⟨(k : Int) :: ys, by rw [e, List.append_assoc]; rfl, by simp [hl], fun y hy => ?_, List.pairwise_cons.2 ⟨fun y hy => by have := hb y hy; omega, hp⟩, hx⟩
    rcases List.mem_cons.1 hy with rfl | hy
    · omega
    · have := hb y hy; omega
theorem fewUpto_spec (d : RD) : ∀ k, (fewUpto d k = [] ∧ ∀ j, j < k → fromL d j [] off0 0 = []) ∨ ∃ m, m < k ∧ fewUpto d k = fromL d m [] off0 0 ∧ fewUpto d k ≠ [] ∧ ∀ j, j < m → fromL d j [] off0 0 = []
  | 0 => .inl ⟨rfl, fun j h => absurd h (Nat.not_lt_zero _)⟩
  | k + 1 => by
    simp only [fewUpto]
    rcases fewUpto_spec d k with ⟨h1, h2⟩ | ⟨m, h1, h2, h3, h4⟩
    · rw [if_pos h1]
      by_cases hk : fromL d k [] off0 0 = []
      · refine .inl ⟨hk, fun j hj => ?_⟩
        rcases Nat.lt_succ_iff_lt_or_eq.1 hj with h | h
        · exact h2 j h
        · subst h; exact hk
      · exact .inr ⟨k, by omega, rfl, hk, h2⟩
    · rw [if_neg h3]
      exact .inr ⟨m, by omega, h2, h3, h4⟩
theorem fewest_spec {d : RD} (hV : Valid d) : ∃ m, m ≤ d.tols.length ∧ fewestF d = fromL d m [] off0 0 ∧ ∀ j, j < m → fromL d j [] off0 0 = [] := by
  rcases fewUpto_spec d (d.tols.length + 1) with ⟨h1, _⟩ | ⟨m, h1, h2, _, h4⟩
  · exact absurd h1 (fewest_ne hV)
  · exact ⟨m, by omega, h2, h4⟩
/-- What a list of the fewest is. -/
structure Few (d : RD) (ys : List Int) : Prop where
  b : ∀ y ∈ ys, (0 : Int) ≤ y ∧ y ≤ (d.tols.length : Int) - 1
  p : ys.Pairwise (· < ·)
  x : explB d (offUpto ys ys.length) = true
theorem off_fold (ys : List Int) : offUpto ys ys.length = ys.foldl (fun bs n => bs.set n.toNat true) off0 := by unfold offUpto off0; rw [List.take_length]
theorem few_of {d : RD} {m : Nat} {ys : List Int} (h : ys ∈ fromL d m [] off0 0) : Few d ys ∧ ys.length = m := by
  obtain ⟨zs, e, hl, hb, hp, hx⟩ := fromL_mem d m [] off0 0 ys h
  rw [List.nil_append] at e; subst e
  exact ⟨⟨fun y hy => by have := hb y hy; omega, hp, by rw [off_fold]; exact hx⟩, hl⟩
theorem Few.mem {d : RD} {ys : List Int} (h : Few d ys) : ys ∈ fromL d ys.length [] off0 0 := mem_from0 h.b h.p h.x
theorem Few.nodup {d : RD} {ys : List Int} (h : Few d ys) : ys.Nodup := h.p.imp (fun h => by omega)
theorem Few.len {d : RD} {ys : List Int} (h : Few d ys) : ys.length ≤ d.tols.length := by
  have : ys ⊆ (List.range d.tols.length).map fun (k : Nat) => (k : Int) := fun y hy => by
    have := h.b y hy
    exact List.mem_map.2 ⟨y.toNat, List.mem_range.2 (by omega), by omega⟩
  have := h.nodup.length_le_of_subset this
  simpa using this
theorem fewest_few {d : RD} (hV : Valid d) {ys : List Int} (h : ys ∈ fewestF d) : Few d ys := by
  obtain ⟨m, _, e, _⟩ := fewest_spec hV
  rw [e] at h; exact (few_of h).1
theorem fewest_len {d : RD} (hV : Valid d) {ys : List Int} (h : ys ∈ fewestF d) : ys.length = ((fewestF d).getD 0 []).length := by
  obtain ⟨m, _, e, _⟩ := fewest_spec hV
  have h0 : (fewestF d).getD 0 [] ∈ fewestF d := by
    have := fewest_pos hV
    simp only [List.getD, List.getElem?_eq_getElem this, Option.getD_some]; exact List.getElem_mem this
  rw [e] at h
  have h1 : (fewestF d).getD 0 [] ∈ fromL d m [] off0 0 := by rw [← e]; exact h0
  rw [(few_of h).2, (few_of h1).2]
theorem fewest_first {d : RD} (hV : Valid d) : (fewestF d).getD 0 [] ∈ fewestF d := by
  have := fewest_pos hV
  simp only [List.getD, List.getElem?_eq_getElem this, Option.getD_some]; exact List.getElem_mem this

/-! ### Kinder rounds -/
structure Kinder (d x : RD) : Prop where
  nl : x.lots.length = d.lots.length
  sm : x.samples = d.samples
  nb : x.tols.length = d.tols.length
  lots : ∀ i, i < d.lots.length → (x.lots.getD i (0, 0)).1 ≤ (d.lots.getD i (0, 0)).1 ∧ (d.lots.getD i (0, 0)).2 ≤ (x.lots.getD i (0, 0)).2
  sp : d.spread ≤ x.spread
  tols : ∀ i, i < d.tols.length → d.tols.getD i 0 ≤ x.tols.getD i 0
  rds : ∀ q, q < d.tols.length → ∀ i, i < d.samples.length → rdv x q i = rdv d q i ∨ rdv x q i = -1
theorem Kinder.truth {d x : RD} (h : Kinder d x) {off : List Bool} {L v : Nat → Int} (hT : Truth d off (-1) 0 L v) : Truth x off (-1) 0 L v := by
  refine ⟨fun i hi => ?_, fun k hk => ?_, fun k hk q hq ho hr => ?_⟩
  · rw [h.nl] at hi
    have := h.lots i hi; have := hT.lots i hi; omega
  · rw [h.sm] at hk
    have := hT.near k hk; have hs := h.sp
    have e : lotOf x k = lotOf d k := by unfold lotOf; rw [h.sm]
    rw [e]; omega
  · rw [h.sm] at hk; rw [h.nb] at hq
    have ht := h.tols q hq
    rcases h.rds q hq k hk with e | e
    · rw [e] at hr ⊢
      have := hT.agree k hk q hq ho hr
      omega
    · exact absurd e hr
theorem Kinder.expl {d x : RD} (h : Kinder d x) (hV : Valid d) (hX : Valid x) {off : List Bool} (he : explB d off = true) : explB x off = true := by
  obtain ⟨L, v, hT⟩ := (explB_iff hV).1 he
  exact (explB_iff hX).2 ⟨L, v, h.truth hT⟩
theorem Kinder.least {d x : RD} (h : Kinder d x) (hV : Valid d) (hX : Valid x) : ((fewestF x).getD 0 []).length ≤ ((fewestF d).getD 0 []).length := by
  have hf := fewest_few hV (fewest_first hV)
  have hx : Few x ((fewestF d).getD 0 []) := ⟨by rw [h.nb]; exact hf.b, hf.p, h.expl hV hX hf.x⟩
  exact (fewest_le hx.len hx.mem).1
theorem Kinder.refl (d : RD) : Kinder d d := ⟨rfl, rfl, rfl, fun _ _ => ⟨Int.le_refl _, Int.le_refl _⟩, Int.le_refl _, fun _ _ => Int.le_refl _, fun _ _ _ _ => .inl rfl⟩
/-- The round that RoundKinder plays: one change. -/
def kindLot (p : Int × Int) (n : Int) : Int × Int := (max 0 (p.1 - n), min 1000 (p.2 + n.tmod 7))
def kindSp (d : RD) (n : Int) : RD := { d with spread := min 100 (d.spread + n) }
def kindLots (d : RD) (i : Nat) (n : Int) : RD := { d with lots := d.lots.set i (kindLot (d.lots.getD i (0, 0)) n) }
def kindTol (d : RD) (i : Nat) (n : Int) : RD := { d with tols := d.tols.set i (min 100 (d.tols.getD i 0 + n)) }
def kindRd (d : RD) (i j : Nat) : RD := { d with rds := d.rds.set i ((d.rds.getD i []).set j (-1)) }
theorem getD_setI (l : List Int) (i j : Nat) (p : Int) : (l.set i p).getD j 0 = if i = j ∧ j < l.length then p else l.getD j 0 := by
  simp only [List.getD, List.getElem?_set]
  by_cases e : i = j
  · subst e
    by_cases h : i < l.length
    · simp [h]
    · simp [h]
  · simp [e]
theorem getD_setL (l : List (List Int)) (i j : Nat) (p : List Int) : (l.set i p).getD j [] = if i = j ∧ j < l.length then p else l.getD j [] := by
  simp only [List.getD, List.getElem?_set]
  by_cases e : i = j
  · subst e
    by_cases h : i < l.length
    · simp [h]
    · simp [h]
  · simp [e]
section
variable {d : RD} {n : Int}
theorem kindSp_valid (hV : Valid d) (hn : 0 ≤ n) : Valid (kindSp d n) ∧ Kinder d (kindSp d n) := by
  have hs := hV.spread
  have e : (kindSp d n).spread = min 100 (d.spread + n) := rfl
  exact ⟨⟨hV.nl, hV.ns, hV.nb, hV.lots, hV.samples, by rw [e]; omega, hV.tols, hV.rdl, hV.rds⟩, ⟨rfl, rfl, rfl, fun _ _ => ⟨Int.le_refl _, Int.le_refl _⟩, by rw [e]; omega, fun _ _ => Int.le_refl _, fun _ _ _ _ => .inl rfl⟩⟩
theorem kindLots_valid (hV : Valid d) (hn : 0 ≤ n) (i : Nat) : Valid (kindLots d i n) ∧ Kinder d (kindLots d i n) := by
  have hl : (kindLots d i n).lots.length = d.lots.length := by simp [kindLots]
  have hg : ∀ j, (kindLots d i n).lots.getD j (0, 0) = if i = j ∧ j < d.lots.length then kindLot (d.lots.getD i (0, 0)) n else d.lots.getD j (0, 0) := fun j => by
    show (d.lots.set i _).getD j (0, 0) = _
    rw [getD_setP]
  have h7 := Int.tmod_nonneg 7 hn
  refine ⟨⟨by rw [hl]; exact hV.nl, hV.ns, hV.nb, fun j hj => ?_, by rw [hl]; exact hV.samples, hV.spread, hV.tols, hV.rdl, hV.rds⟩, ⟨hl, rfl, rfl, fun j hj => ?_, Int.le_refl _, fun _ _ => Int.le_refl _, fun _ _ _ _ => .inl rfl⟩⟩
  · rw [hl] at hj
    have := hV.lots j hj
    rw [hg]; split
    · rename_i e; rw [e.1]; unfold kindLot; dsimp only; omega
    · exact this
  · have := hV.lots j hj
    rw [hg]; split
    · rename_i e; rw [e.1]; unfold kindLot; dsimp only; omega
    · exact ⟨Int.le_refl _, Int.le_refl _⟩
theorem kindTol_valid (hV : Valid d) (hn : 0 ≤ n) (i : Nat) : Valid (kindTol d i n) ∧ Kinder d (kindTol d i n) := by
  have hl : (kindTol d i n).tols.length = d.tols.length := by simp [kindTol]
  have hg : ∀ j, (kindTol d i n).tols.getD j 0 = if i = j ∧ j < d.tols.length then min 100 (d.tols.getD i 0 + n) else d.tols.getD j 0 := fun j => by
    show (d.tols.set i _).getD j 0 = _
    rw [getD_setI]
  refine ⟨⟨hV.nl, hV.ns, by rw [hl]; exact hV.nb, hV.lots, hV.samples, hV.spread, fun j hj => ?_, fun j hj => hV.rdl j (by rw [hl] at hj; exact hj), fun j hj => hV.rds j (by rw [hl] at hj; exact hj)⟩, ⟨rfl, rfl, hl, fun _ _ => ⟨Int.le_refl _, Int.le_refl _⟩, Int.le_refl _, fun j hj => ?_, fun _ _ _ _ => .inl rfl⟩⟩
  · rw [hl] at hj
    have := hV.tols j hj
    rw [hg]; split
    · rename_i e; rw [e.1]; omega
    · exact this
  · have := hV.tols j hj
    rw [hg]; split
    · rename_i e; rw [e.1]; omega
    · exact Int.le_refl _
theorem kindRd_valid (hV : Valid d) (i j : Nat) : Valid (kindRd d i j) ∧ Kinder d (kindRd d i j) := by
  have hg : ∀ q, (kindRd d i j).rds.getD q [] = if i = q ∧ q < d.rds.length then (d.rds.getD i []).set j (-1) else d.rds.getD q [] := fun q => by
    show (d.rds.set i _).getD q [] = _
    rw [getD_setL]
  have hrd : ∀ q t, rdv (kindRd d i j) q t = rdv d q t ∨ rdv (kindRd d i j) q t = -1 := fun q t => by
    unfold rdv; rw [hg]; split
    · rename_i e; rw [e.1, getD_setI]; split
      · exact .inr rfl
      · exact .inl rfl
    · exact .inl rfl
  refine ⟨⟨hV.nl, hV.ns, hV.nb, hV.lots, hV.samples, hV.spread, hV.tols, fun q hq => ?_, fun q hq t ht => ?_⟩, ⟨rfl, rfl, rfl, fun _ _ => ⟨Int.le_refl _, Int.le_refl _⟩, Int.le_refl _, fun _ _ => Int.le_refl _, fun q _ t _ => hrd q t⟩⟩
  · rw [hg]; split
    · rename_i e; rw [List.length_set, e.1]; exact hV.rdl q hq
    · exact hV.rdl q hq
  · have := hV.rds q hq t ht
    show -1 ≤ rdv (kindRd d i j) q t ∧ rdv (kindRd d i j) q t ≤ 1000
    rcases hrd q t with e | e
    · rw [e]; exact this
    · rw [e]; omega
end
theorem valid_thin {d : RD} (h : Valid d) : d.lots.length ≤ 6 ∧ d.samples.length ≤ 10 ∧ d.tols.length ≤ 8 ∧ ∀ k, k < d.tols.length → (d.rds.getD k []).length ≤ 10 := by
  have h1 := h.nl; have h2 := h.ns; have h3 := h.nb
  exact ⟨by omega, by omega, by omega, fun k hk => by have := h.rdl k hk; omega⟩
/-! ### Rounds in memory -/
theorem labs_one {w : World} {vl vs vb : Value} {lv : List Value} {d : RD} (h : RoundAt w vl vs vb lv d) : (vpairs (d.tols.zip lv)).all (·.oneCell') = true := by
  have h1 : ∀ v ∈ lv, v.oneCell' = true := fun v hv => by
    obtain ⟨i, hi, rfl⟩ := List.getElem_of_mem hv
    have := (h.rds i (by rw [h.rdl, ← h.lvl]; exact hi)).one
    simpa [List.getD, hi] using this
  rw [List.all_eq_true]
  intro u hu
  unfold vpairs at hu
  rw [List.mem_flatMap] at hu
  obtain ⟨p, hp, hu⟩ := hu
  have h2 := (List.of_mem_zip (a := p.1) (b := p.2) hp).2
  simp only [List.mem_cons, List.not_mem_nil, or_false] at hu
  rcases hu with rfl | rfl
  · rfl
  · exact h1 _ h2
theorem rdsAt_snoc {w : World} {lv : List Value} {rds : List (List Int)} {v : Value} {l : List Int} (h : RdsAt w lv rds) (hl : lv.length = rds.length) (hv : SlAt w v 1 l.length (ints l)) : RdsAt w (lv ++ [v]) (rds ++ [l]) := by
  intro i hi
  rw [List.length_append, List.length_singleton] at hi
  by_cases e : i < rds.length
  · have h1 : (rds ++ [l]).getD i [] = rds.getD i [] := by simp [List.getD, List.getElem?_append_left e]
    have h2 : (lv ++ [v]).getD i nilS = lv.getD i nilS := by simp [List.getD, List.getElem?_append_left (show i < lv.length by omega)]
    rw [h1, h2]; exact h i e
  · have ei : i = rds.length := by omega
    have h1 : (rds ++ [l]).getD i [] = l := by subst ei; simp [List.getD]
    have h2 : (lv ++ [v]).getD i nilS = v := by rw [ei, ← hl]; simp [List.getD]
    rw [h1, h2]; exact hv
theorem ends_zip {d : RD} {k : Nat} {n : Int} {lv : List Value} {v : Value} (hl : lv.length = d.tols.length) : (endsD d k n).tols.zip (lv ++ [v]) = d.tols.zip lv ++ [(0, v)] := zip_snoc hl.symm 0 v
theorem ends_zip0 {d : RD} {k : Nat} {n : Int} {lv : List Value} {v : Value} (hl : lv.length = d.tols.length) (h0 : ¬ 0 < d.tols.length) : (endsD d k n).tols.zip (lv ++ [v]) = [(0, v)] := by
  rw [ends_zip hl, List.eq_nil_of_length_eq_zero (show d.tols.length = 0 by omega)]; rfl
theorem kind_two {l : List (Int × Int)} {i : Nat} {a b c : Int} (h : i < l.length) : (l.set i (a, b)).set i (((l.set i (a, b)).getD i (0, 0)).1, c) = l.set i (a, c) := by
  have : (l.set i (a, b)).getD i (0, 0) = (a, b) := by rw [getD_setP, if_pos ⟨rfl, h⟩]
  rw [this, List.set_set]
theorem rdsAt_set {w : World} {lv : List Value} {rds : List (List Int)} {v : Value} {l : List Int} {i : Nat} (h : RdsAt w lv rds) (hv : SlAt w v 1 l.length (ints l)) (hl : lv.length = rds.length := by first | assumption | omega) : RdsAt w (lv.set i v) (rds.set i l) := by
  intro j hj
  rw [List.length_set] at hj
  rw [getD_setL]
  by_cases e : i = j
  · subst e
    rw [if_pos ⟨rfl, hj⟩]
    have h2 : (lv.set i v).getD i nilS = v := by simp [List.getD, show i < lv.length by omega]
    rw [h2]; exact hv
  · rw [if_neg (fun h => e h.1)]
    have h2 : (lv.set i v).getD j nilS = lv.getD j nilS := by simp only [List.getD]; rw [List.getElem?_set_ne e]
    rw [h2]; exact h j hj
theorem kind_all {d M : RD} (hc : checkR d = 0) (hVM : Valid M) (hK : Kinder d M) (x : Nat) :
    ∃ ba bb La Lb, explainsF d (chosenF d.tols.length x) = (ba, 0) ∧ explainsF M (chosenF d.tols.length x) = (bb, 0) ∧ (ba = true → bb = true) ∧ leastR d = (La, 0) ∧ leastR M = (Lb, 0) ∧ Lb.length ≤ La.length := by
  have hV := valid_of hc
  have h := chosen_explains (check_of hVM) x
  rw [hK.nb] at h
  exact ⟨_, _, _, _, chosen_explains hc x, h, fun e => hK.expl hV hVM e, leastR_yes hc, leastR_yes (check_of hVM), hK.least hV hVM⟩
end Go.Proofs.Ytfhmigoddaaljaa

namespace Go.Proofs.Ytfhmigoddaaljaa
open Go.RowKit Go.Eng

/-- The laboratories of x are those of d: that of number q has there the number f q. -/
structure Turn (d x : RD) (f g : Nat → Nat) : Prop where
  nl : x.lots = d.lots
  sm : x.samples = d.samples
  sp : x.spread = d.spread
  nb : x.tols.length = d.tols.length
  fl : ∀ q, q < d.tols.length → f q < d.tols.length
  gl : ∀ q, q < d.tols.length → g q < d.tols.length
  fg : ∀ q, q < d.tols.length → f (g q) = q
  gf : ∀ q, q < d.tols.length → g (f q) = q
  tols : ∀ q, q < d.tols.length → x.tols.getD q 0 = d.tols.getD (f q) 0
  rds : ∀ q, q < d.tols.length → x.rds.getD q [] = d.rds.getD (f q) []
section
variable {d x : RD} {f g : Nat → Nat}
theorem Turn.symm (h : Turn d x f g) : Turn x d g f :=
  ⟨h.nl.symm, h.sm.symm, h.sp.symm, h.nb.symm, by rw [h.nb]; exact h.gl, by rw [h.nb]; exact h.fl, by rw [h.nb]; exact h.gf, by rw [h.nb]; exact h.fg,
    by rw [h.nb]; exact fun q hq => by rw [h.tols _ (h.gl q hq), h.fg q hq],
    by rw [h.nb]; exact fun q hq => by rw [h.rds _ (h.gl q hq), h.fg q hq]⟩
theorem Turn.valid (h : Turn d x f g) (hV : Valid d) : Valid x := by
  refine ⟨by rw [h.nl]; exact hV.nl, by rw [h.sm]; exact hV.ns, by rw [h.nb]; exact hV.nb, by rw [h.nl]; exact hV.lots, by rw [h.sm, h.nl]; exact hV.samples, by rw [h.sp]; exact hV.spread, ?_, ?_, ?_⟩
  · rw [h.nb]; exact fun q hq => by rw [h.tols q hq]; exact hV.tols _ (h.fl q hq)
  · rw [h.nb, h.sm]; exact fun q hq => by rw [h.rds q hq]; exact hV.rdl _ (h.fl q hq)
  · rw [h.nb, h.sm]; exact fun q hq => by rw [h.rds q hq]; exact hV.rds _ (h.fl q hq)
theorem Turn.truth (h : Turn d x f g) {off off' : List Bool} {lab lab' sh : Int} (ho : ∀ q, q < d.tols.length → off'.getD q false = off.getD (f q) false) (hl : ∀ q, q < d.tols.length → ((q : Int) = lab' ↔ ((f q : Nat) : Int) = lab)) {L v : Nat → Int} (hT : Truth d off lab sh L v) : Truth x off' lab' sh L v := by
  refine ⟨by rw [h.nl]; exact hT.lots, fun k hk => ?_, fun k hk q hq hof hr => ?_⟩
  · rw [h.sm] at hk
    have := hT.near k hk
    have e : lotOf x k = lotOf d k := by unfold lotOf; rw [h.sm]
    rw [e, h.sp]; exact this
  · rw [h.sm] at hk; rw [h.nb] at hq
    have e : rdv x q k = rdv d (f q) k := by unfold rdv; rw [h.rds q hq]
    rw [e] at hr ⊢
    have := hT.agree k hk (f q) (h.fl q hq) (by rw [← ho q hq]; exact hof) hr
    rw [h.tols q hq]
    simp only [hl q hq]
    exact this
theorem Turn.ok (h : Turn d x f g) (hV : Valid d) {off off' : List Bool} {lab lab' sh : Int} (ho : ∀ q, q < d.tols.length → off'.getD q false = off.getD (f q) false) (hl : ∀ q, q < d.tols.length → ((q : Int) = lab' ↔ ((f q : Nat) : Int) = lab)) : (spansF x off' lab' sh).2 = (spansF d off lab sh).2 := by
  rw [Bool.eq_iff_iff, ok_iff (h.valid hV), ok_iff hV]
  constructor
  · rintro ⟨L, v, hT⟩
    refine ⟨L, v, h.symm.truth (fun q hq => ?_) (fun q hq => ?_) hT⟩
    · rw [h.nb] at hq; rw [ho _ (h.gl q hq), h.fg q hq]
    · rw [h.nb] at hq; rw [hl _ (h.gl q hq), h.fg q hq]
  · rintro ⟨L, v, hT⟩
    exact ⟨L, v, h.truth ho hl hT⟩
theorem Turn.expl (h : Turn d x f g) (hV : Valid d) {off off' : List Bool} (ho : ∀ q, q < d.tols.length → off'.getD q false = off.getD (f q) false) : explB x off' = explB d off :=
  h.ok hV ho (fun q _ => by omega)
/-- A list of laboratories, as they are numbered then. -/
def turnL (n : Nat) (f : Nat → Nat) (ys : List Int) : List Int := ((List.range n).filter fun k => hasB ys ((f k : Nat) : Int)).map fun (k : Nat) => (k : Int)
theorem mem_turnL {n : Nat} {ys : List Int} {z : Int} : z ∈ turnL n f ys ↔ ∃ k : Nat, k < n ∧ ((f k : Nat) : Int) ∈ ys ∧ (k : Int) = z := by
  unfold turnL
  simp only [List.mem_map, List.mem_filter, List.mem_range, hasB_iff, and_assoc]
theorem turnL_lt (n : Nat) (ys : List Int) : (turnL n f ys).Pairwise (· < ·) := by
  unfold turnL
  rw [List.pairwise_map]
  exact (List.Pairwise.sublist List.filter_sublist List.pairwise_lt_range).imp (fun h => by omega)
theorem nodup_of_lt {l : List Int} (h : l.Pairwise (· < ·)) : l.Nodup := h.imp (fun h => by omega)
/-- Two lists without repetitions, of which one is mapped onto the other. -/
theorem map_len {ys zs : List Int} {F : Int → Int} (hy : ys.Nodup) (hz : zs.Nodup) (hF : ∀ a ∈ zs, F a ∈ ys) (hG : ∀ y ∈ ys, ∃ a ∈ zs, F a = y) (hi : ∀ a ∈ zs, ∀ b ∈ zs, F a = F b → a = b) : zs.length = ys.length := by
  have hn : (zs.map F).Nodup := by
    unfold List.Nodup
    rw [List.pairwise_map]
    exact List.Pairwise.imp_of_mem (fun ha hb hne e => hne (hi _ ha _ hb e)) hz
  have hp : (zs.map F).Perm ys := (List.perm_ext_iff_of_nodup hn hy).2 fun y => by
    rw [List.mem_map]
    constructor
    · rintro ⟨a, ha, rfl⟩; exact hF a ha
    · intro h; exact hG y h
  have := hp.length_eq
  rwa [List.length_map] at this
theorem Turn.few (h : Turn d x f g) (hV : Valid d) {ys : List Int} (hf : Few d ys) : Few x (turnL d.tols.length f ys) ∧ (turnL d.tols.length f ys).length = ys.length := by
  have hnb := hV.nb
  have hr : riseB d.tols.length ys = true := rise_of hf.b hf.p
  have hb : ∀ y ∈ turnL d.tols.length f ys, (0 : Int) ≤ y ∧ y ≤ (d.tols.length : Int) - 1 := fun y hy => by
    obtain ⟨k, hk, _, rfl⟩ := mem_turnL.1 hy; omega
  have hr2 : riseB d.tols.length (turnL d.tols.length f ys) = true := rise_of hb (turnL_lt _ _)
  refine ⟨⟨by rw [h.nb]; exact hb, turnL_lt _ _, ?_⟩, ?_⟩
  · rw [h.expl hV (off := offUpto ys ys.length) (fun q hq => ?_)]
    · exact hf.x
    · have := h.fl q hq
      rw [off_has hr2 (by omega), off_has hr (by omega), Bool.eq_iff_iff, hasB_iff, hasB_iff, mem_turnL]
      constructor
      · rintro ⟨k, _, h2, e⟩; rw [show q = k by omega]; exact h2
      · intro h2; exact ⟨q, hq, h2, rfl⟩
  · refine map_len (F := fun z => ((f z.toNat : Nat) : Int)) hf.nodup (nodup_of_lt (turnL_lt _ _)) (fun a ha => ?_) (fun y hy => ?_) (fun a ha b hb' e => ?_)
    · obtain ⟨k, _, h2, rfl⟩ := mem_turnL.1 ha; exact h2
    · have := hf.b y hy
      have hg := h.gl y.toNat (by omega)
      have e : ((f (g y.toNat) : Nat) : Int) = y := by rw [h.fg _ (by omega)]; omega
      exact ⟨(g y.toNat : Nat), mem_turnL.2 ⟨g y.toNat, hg, by rw [e]; exact hy, rfl⟩, e⟩
    · obtain ⟨k, hk, _, rfl⟩ := mem_turnL.1 ha
      obtain ⟨k2, hk2, _, rfl⟩ := mem_turnL.1 hb'
      have e2 : ((f ((k : Int)).toNat : Nat) : Int) = ((f ((k2 : Int)).toNat : Nat) : Int) := e
      rw [Int.toNat_natCast, Int.toNat_natCast] at e2
      have e' : f k = f k2 := by omega
      have := congrArg g e'
      rw [h.gf _ hk, h.gf _ hk2] at this
      rw [this]
theorem Turn.least (h : Turn d x f g) (hV : Valid d) : ((fewestF x).getD 0 []).length ≤ ((fewestF d).getD 0 []).length := by
  have hf := h.few hV (fewest_few hV (fewest_first hV))
  have := (fewest_le hf.1.len hf.1.mem).1
  rw [hf.2] at this; exact this
theorem Turn.least_eq (h : Turn d x f g) (hV : Valid d) : ((fewestF x).getD 0 []).length = ((fewestF d).getD 0 []).length :=
  Nat.le_antisymm (h.least hV) (h.symm.least (h.valid hV))
theorem Turn.fewest (h : Turn d x f g) (hV : Valid d) {ys : List Int} (hy : ys ∈ fewestF d) : turnL d.tols.length f ys ∈ fewestF x := by
  have hf := h.few hV (fewest_few hV hy)
  refine (fewest_le hf.1.len hf.1.mem).2 ?_
  rw [h.least_eq hV, hf.2, fewest_len hV hy]
theorem conv_iff {d : RD} (hV : Valid d) {k : Int} : k ∈ convF d ↔ ∀ ys ∈ fewestF d, k ∈ ys := by
  constructor
  · intro h ys hy
    exact hasB_iff.1 (conv_in hy h)
  · intro h
    unfold convF
    refine List.mem_filter.2 ⟨h _ (fewest_first hV), ?_⟩
    unfold inAll
    rw [List.all_eq_true]
    intro i hi
    rw [List.mem_range] at hi
    refine hasB_iff.2 (h _ ?_)
    simp only [List.getD, List.getElem?_eq_getElem hi, Option.getD_some]
    exact List.getElem_mem hi
theorem convF_nodup {d : RD} (hV : Valid d) : (convF d).Nodup := List.Pairwise.sublist List.filter_sublist (fewest_few hV (fewest_first hV)).nodup
theorem convF_bd {d : RD} (hV : Valid d) {k : Int} (h : k ∈ convF d) : 0 ≤ k ∧ k ≤ (d.tols.length : Int) - 1 :=
  (fewest_few hV (fewest_first hV)).b k (List.mem_filter.1 h).1
theorem Turn.conv (h : Turn d x f g) (hV : Valid d) {k : Nat} (hk : k < d.tols.length) (hc : ((f k : Nat) : Int) ∈ convF d) : ((k : Nat) : Int) ∈ convF x := by
  refine (conv_iff (h.valid hV)).2 fun zs hz => ?_
  have h1 := h.symm.fewest (h.valid hV) hz
  have h2 := (conv_iff hV).1 hc _ h1
  rw [h.nb] at h2
  obtain ⟨q, hq, h3, e⟩ := mem_turnL.1 h2
  have eq : q = f k := by omega
  rw [eq, h.gf k hk] at h3
  exact h3
theorem Turn.conv_len (h : Turn d x f g) (hV : Valid d) : (convF x).length = (convF d).length := by
  have hX := h.valid hV
  refine map_len (F := fun z => ((f z.toNat : Nat) : Int)) (convF_nodup hV) (convF_nodup hX) (fun a ha => ?_) (fun y hy => ?_) (fun a ha b hb e => ?_)
  · have hb := convF_bd hX ha
    rw [h.nb] at hb
    have hk : a.toNat < d.tols.length := by omega
    refine h.symm.conv hX (k := f a.toNat) (by rw [h.nb]; exact h.fl _ hk) ?_
    rw [h.gf _ hk, show ((a.toNat : Nat) : Int) = a by omega]; exact ha
  · have hb := convF_bd hV hy
    have hk : y.toNat < d.tols.length := by omega
    have e : ((f (g y.toNat) : Nat) : Int) = y := by rw [h.fg _ hk]; omega
    exact ⟨(g y.toNat : Nat), h.conv hV (h.gl _ hk) (by rw [e]; exact hy), e⟩
  · have h1 := convF_bd hX ha
    have h2 := convF_bd hX hb
    rw [h.nb] at h1 h2
    have e2 : ((f a.toNat : Nat) : Int) = ((f b.toNat : Nat) : Int) := e
    have e' : f a.toNat = f b.toNat := by omega
    have := congrArg g e'
    rw [h.gf _ (by omega), h.gf _ (by omega)] at this
    omega
theorem Turn.shUpto (h : Turn d x f g) (hV : Valid d) {lab lab' : Int} (hl : ∀ q, q < d.tols.length → ((q : Int) = lab' ↔ ((f q : Nat) : Int) = lab)) : ∀ k, shUpto x lab' k = shUpto d lab k
  | 0 => rfl
  | k + 1 => by
    have e : shOk x lab' ((k : Int) - 2000) = shOk d lab ((k : Int) - 2000) := h.ok hV (fun q _ => by rw [off0_get, off0_get]) hl
    simp only [Go.Proofs.Ytfhmigoddaaljaa.shUpto, Turn.shUpto h hV hl k, e]
theorem Turn.shifts (h : Turn d x f g) (hc : checkR d = 0) {k : Nat} (hk : k < d.tols.length) : shiftsR x (k : Int) = shiftsR d ((f k : Nat) : Int) := by
  have hV := valid_of hc
  have hnb := hV.nb
  have hfk := h.fl k hk
  have i1 : (decide (0 ≤ (k : Int)) && decide ((k : Int) ≤ (x.tols.length : Int) - 1)) = true := by rw [h.nb]; simp only [Bool.and_eq_true, decide_eq_true_eq]; omega
  have i2 : (decide (0 ≤ ((f k : Nat) : Int)) && decide (((f k : Nat) : Int) ≤ (d.tols.length : Int) - 1)) = true := by simp only [Bool.and_eq_true, decide_eq_true_eq]; omega
  have e1 : explB x (off0.set ((k : Int)).toNat true) = explB d (off0.set (((f k : Nat) : Int)).toNat true) := h.expl hV (fun q hq => by
    have := h.fl q hq
    rw [getD_setB, getD_setB]
    have l6 : off0.length = 6 := by simp [off0]
    rw [l6, Int.toNat_natCast, Int.toNat_natCast, off0_get, off0_get]
    by_cases e : k = q
    · subst e; rw [if_pos ⟨rfl, by omega⟩, if_pos ⟨rfl, by omega⟩]
    · rw [if_neg (fun h => e h.1), if_neg (fun h2 => e ?_)]
      have := congrArg g h2.1
      rwa [h.gf k hk, h.gf q hq] at this)
  have e2 := h.shUpto hV (lab := ((f k : Nat) : Int)) (lab' := (k : Int)) (fun q hq => by
    constructor
    · intro e; rw [show q = k by omega]
    · intro e
      have := congrArg g (show f q = f k by omega)
      rw [h.gf q hq, h.gf k hk] at this
      omega) 4001
  unfold shiftsR
  rw [if_pos (check_of (h.valid hV)), if_pos hc, if_pos i1, if_pos i2, e1, e2]
end
/-! ### Turned by t -/
def rotD (d : RD) (t : Nat) : RD := { d with tols := d.tols.drop t ++ d.tols.take t, rds := d.rds.drop t ++ d.rds.take t }
theorem rot_getD {α : Type} (l : List α) (z : α) {t q : Nat} (ht : t < l.length) (hq : q < l.length) : (l.drop t ++ l.take t).getD q z = l.getD ((q + t) % l.length) z := by
  simp only [List.getD]
  congr 1
  by_cases e : q + t < l.length
  · rw [List.getElem?_append_left (by rw [List.length_drop]; omega), List.getElem?_drop, Nat.mod_eq_of_lt e, Nat.add_comm]
  · rw [List.getElem?_append_right (by rw [List.length_drop]; omega), List.length_drop, List.getElem?_take, if_pos (by omega), Nat.mod_eq_sub_mod (by omega), Nat.mod_eq_of_lt (by omega)]
    congr 1; omega
def rotF (n t q : Nat) : Nat := (q + t) % n
def rotG (n t k : Nat) : Nat := (k + n - t) % n
theorem rot_fg {n t q : Nat} (ht : t < n) (hq : q < n) : rotF n t (rotG n t q) = q := by
  unfold rotF rotG
  by_cases e : q < t
  · rw [Nat.mod_eq_of_lt (show q + n - t < n by omega), Nat.mod_eq_sub_mod (by omega), Nat.mod_eq_of_lt (by omega)]; omega
  · rw [Nat.mod_eq_sub_mod (show n ≤ q + n - t by omega), Nat.mod_eq_of_lt (show q + n - t - n < n by omega), Nat.mod_eq_of_lt (by omega)]; omega
theorem rot_gf {n t q : Nat} (ht : t < n) (hq : q < n) : rotG n t (rotF n t q) = q := by
  unfold rotF rotG
  by_cases e : q + t < n
  · rw [Nat.mod_eq_of_lt e, Nat.mod_eq_sub_mod (by omega), Nat.mod_eq_of_lt (by omega)]; omega
  · rw [Nat.mod_eq_sub_mod (show n ≤ q + t by omega), Nat.mod_eq_of_lt (show q + t - n < n by omega), Nat.mod_eq_of_lt (by omega)]; omega
theorem rot_turn {d : RD} {t : Nat} (ht : t < d.tols.length) (hr : d.rds.length = d.tols.length) : Turn d (rotD d t) (rotF d.tols.length t) (rotG d.tols.length t) := by
  have hn : 0 < d.tols.length := by omega
  refine ⟨rfl, rfl, rfl, by simp only [rotD, List.length_append, List.length_drop, List.length_take]; omega, fun q _ => Nat.mod_lt _ hn, fun q _ => Nat.mod_lt _ hn, fun q hq => rot_fg ht hq, fun q hq => rot_gf ht hq, fun q hq => rot_getD _ _ ht hq, fun q hq => ?_⟩
  have := rot_getD d.rds [] (t := t) (q := q) (by omega) (by omega)
  rw [hr] at this; exact this
/-- The bits of the laboratories, as they are numbered then. -/
def otherF (n : Nat) (T : Int) (x : Nat) : Nat → Nat
  | 0 => 0
  | k + 1 => if bitB x k = true then otherF n T x k ||| 1 * 2 ^ ((((k : Int) + (n : Int)) - T).tmod (n : Int)).toNat else otherF n T x k
theorem other_yes {n : Nat} {T : Int} {x k : Nat} (h : ((x >>> k : Nat) : Int).tmod 2 = 1) : otherF n T x (k + 1) = otherF n T x k ||| 1 * 2 ^ ((((k : Int) + (n : Int)) - T).tmod (n : Int)).toNat := by
  rw [otherF, if_pos (show bitB x k = true from decide_eq_true h)]
theorem other_no {n : Nat} {T : Int} {x k : Nat} (h : ¬ ((x >>> k : Nat) : Int).tmod 2 = 1) : otherF n T x (k + 1) = otherF n T x k := by
  rw [otherF, if_neg (by rw [show bitB x k = false from decide_eq_false h]; simp)]
theorem rotG_int {n t k : Nat} (ht : t < n) : ((((k : Int) + (n : Int)) - (t : Int)).tmod (n : Int)).toNat = rotG n t k := by
  unfold rotG
  have e : ((k : Int) + (n : Int)) - (t : Int) = ((k + n - t : Nat) : Int) := by omega
  rw [e, ← Int.ofNat_tmod, Int.toNat_natCast]
theorem rotG_int2 {n t : Nat} {k : Int} (ht : t < n) (hk : 0 ≤ k) : ((k + (n : Int)) - (t : Int)).tmod (n : Int) = ((rotG n t k.toNat : Nat) : Int) := by
  unfold rotG
  have e : (k + (n : Int)) - (t : Int) = ((k.toNat + n - t : Nat) : Int) := by omega
  rw [e, ← Int.ofNat_tmod]
theorem other_lt {n : Nat} (hn : n ≤ 6) (h0 : 0 < n) {t x : Nat} (ht : t < n) : ∀ k, otherF n (t : Int) x k < 2 ^ 6
  | 0 => by simp [otherF]
  | k + 1 => by
    have ih := other_lt hn h0 (x := x) ht k
    unfold otherF; split
    · refine Nat.or_lt_two_pow ih ?_
      rw [rotG_int ht, Nat.one_mul]
      exact Nat.pow_lt_pow_right (by decide) (by have : rotG n t k < n := Nat.mod_lt _ h0; omega)
    · exact ih
theorem other_bit {n : Nat} {t x : Nat} (ht : t < n) {q : Nat} (hq : q < n) : ∀ k, k ≤ n → (otherF n (t : Int) x k).testBit q = (decide (rotF n t q < k) && bitB x (rotF n t q))
  | 0, _ => by simp [otherF]
  | k + 1, hk => by
    have ih := other_bit ht hq (x := x) k (by omega)
    have hg : rotG n t k = q ↔ k = rotF n t q := by
      constructor
      · rintro rfl; rw [rot_fg ht (by omega)]
      · rintro rfl; rw [rot_gf ht hq]
    unfold otherF; split
    · rename_i hb
      rw [Nat.testBit_or, ih, rotG_int ht, Nat.one_mul, Nat.testBit_two_pow]
      by_cases e : k = rotF n t q
      · rw [decide_eq_true (hg.2 e), ← e, hb]; simp
      · rw [decide_eq_false (fun h => e (hg.1 h)), Bool.or_false]
        congr 1
        rw [decide_eq_decide]; omega
    · rename_i hb
      rw [ih]
      by_cases e : k = rotF n t q
      · rw [← e, show bitB x k = false by simpa using hb]; simp
      · congr 1
        rw [decide_eq_decide]; omega
/-- All that RoundOrder asks. -/
theorem order_all {d : RD} (hc : checkR d = 0) (hr : d.rds.length = d.tols.length) {t : Nat} (ht : t < d.tols.length) (x : Nat) :
    ∃ ba C CM cc a b c2, explainsF d (chosenF d.tols.length x) = (ba, 0) ∧ explainsF (rotD d t) (chosenF d.tols.length (otherF d.tols.length (t : Int) x d.tols.length)) = (ba, 0) ∧
      convR d = (C, cc) ∧ convR (rotD d t) = (CM, cc) ∧ C.length = CM.length ∧ C.length ≤ 6 ∧ (∀ i, i < C.length → 0 ≤ C.getD i 0 ∧ C.getD i 0 ≤ (d.tols.length : Int) - 1) ∧ (∀ i, i < C.length → hasB CM (((C.getD i 0 + (d.tols.length : Int)) - (t : Int)).tmod (d.tols.length : Int)) = true) ∧
      shiftsR d (t : Int) = ((a, b), c2) ∧ shiftsR (rotD d t) 0 = ((a, b), c2) ∧ Valid (rotD d t) := by
  have hV := valid_of hc
  have hnb := hV.nb
  have hT := rot_turn ht hr
  have hX := hT.valid hV
  have hcX := check_of hX
  have h1 := chosen_explains hcX (otherF d.tols.length (t : Int) x d.tols.length)
  rw [hT.nb] at h1
  have h2 : explB (rotD d t) (offB d.tols.length (otherF d.tols.length (t : Int) x d.tols.length)) = explB d (offB d.tols.length x) := hT.expl hV (fun q hq => by
    rw [offB_get hnb hq, offB_get hnb (hT.fl q hq), bitB_eq, other_bit ht hq _ (Nat.le_refl _), decide_eq_true (hT.fl q hq), Bool.true_and])
  have hlen := hT.conv_len hV
  have h6 : (convF d).length ≤ 6 := Nat.le_trans (convF_len d) (fewest_each hV 0)
  have hsh : shiftsR (rotD d t) 0 = shiftsR d (t : Int) := by
    have := hT.shifts hc (k := 0) (by omega)
    rw [show rotF d.tols.length t 0 = t by unfold rotF; rw [Nat.zero_add, Nat.mod_eq_of_lt ht]] at this
    exact this
  obtain ⟨⟨⟨a, b⟩, c2⟩, e2⟩ : ∃ r, shiftsR d (t : Int) = r := ⟨_, rfl⟩
  by_cases h0 : (convF d).length = 0
  · refine ⟨_, [], [], 7, a, b, c2, chosen_explains hc x, by rw [h1, h2], by unfold convR; rw [if_pos hc, if_pos h0], by unfold convR; rw [if_pos hcX, if_pos (by rw [hlen]; exact h0)], rfl, by simp, fun i hi => absurd hi (Nat.not_lt_zero _), fun i hi => absurd hi (Nat.not_lt_zero _), e2, hsh.trans e2, hX⟩
  · refine ⟨_, convF d, convF (rotD d t), 0, a, b, c2, chosen_explains hc x, by rw [h1, h2], by unfold convR; rw [if_pos hc, if_neg h0], by unfold convR; rw [if_pos hcX, if_neg (by rw [hlen]; exact h0)], hlen.symm, h6, fun i hi => ?_, fun i hi => ?_, e2, hsh.trans e2, hX⟩
    · have hm : (convF d).getD i 0 ∈ convF d := by
        simp only [List.getD, List.getElem?_eq_getElem hi, Option.getD_some]; exact List.getElem_mem hi
      exact convF_bd hV hm
    · have hm : (convF d).getD i 0 ∈ convF d := by
        simp only [List.getD, List.getElem?_eq_getElem hi, Option.getD_some]; exact List.getElem_mem hi
      have hb := convF_bd hV hm
      rw [rotG_int2 ht hb.1, hasB_iff]
      have hk : ((convF d).getD i 0).toNat < d.tols.length := by omega
      refine hT.conv hV (hT.gl _ hk) ?_
      rw [hT.fg _ hk, show ((((convF d).getD i 0).toNat : Nat) : Int) = (convF d).getD i 0 by omega]
      exact hm
theorem other_lt2 {n : Nat} {T : Int} {x : Nat} (hn : n ≤ 6) (h0 : 0 ≤ T) (h1 : T < (n : Int)) (k : Nat) : otherF n T x k < 64 := by
  have e : T = ((T.toNat : Nat) : Int) := by omega
  rw [e]; exact other_lt hn (by omega) (by omega) k
theorem rdsAt_rot {w : World} {lv : List Value} {rds : List (List Int)} {t : Nat} (h : RdsAt w lv rds) (hl : lv.length = rds.length) : RdsAt w (lv.drop t ++ lv.take t) (rds.drop t ++ rds.take t) := by
  rcases Nat.lt_or_ge t rds.length with ht | ht
  · intro i hi
    have hi' : i < rds.length := by
      rw [List.length_append, List.length_drop, List.length_take] at hi; omega
    rw [rot_getD _ _ ht hi', rot_getD _ _ (by omega) (by omega), hl]
    exact h _ (Nat.mod_lt _ (by omega))
  · rw [List.drop_of_length_le ht, List.take_of_length_le ht, List.drop_of_length_le (by omega), List.take_of_length_le (by omega)]
    exact h
end Go.Proofs.Ytfhmigoddaaljaa

namespace Go.Proofs.Ytfhmigoddaaljaa
open Go.RowKit Go.Eng

def setsF (nb : Nat) : Nat → List Int → Nat → List (List Int)
  | 0, l, _ => [l]
  | m + 1, l, next => (List.range' next (nb - next)).flatMap fun (k : Nat) => setsF nb m (l ++ [(k : Int)]) (k + 1)
def setsUpto (nb m : Nat) (l : List Int) (next k : Nat) : List (List Int) := (List.range' next (k - next)).flatMap fun (k : Nat) => setsF nb m (l ++ [(k : Int)]) (k + 1)
theorem setsUpto_self (nb m : Nat) (l : List Int) (next : Nat) : setsUpto nb m l next next = [] := by simp [setsUpto]
theorem setsUpto_succ (nb m : Nat) (l : List Int) (next k : Nat) (h : next ≤ k) : setsUpto nb m l next (k + 1) = setsUpto nb m l next k ++ setsF nb m (l ++ [(k : Int)]) (k + 1) := by
  unfold setsUpto
  rw [show k + 1 - next = (k - next) + 1 by omega, List.range'_1_concat, List.flatMap_append, show next + (k - next) = k by omega]
  simp
theorem setsUpto_all (nb m : Nat) (l : List Int) (next k : Nat) (h1 : k = next ∨ k ≤ nb) (h2 : nb ≤ k) : setsUpto nb m l next k = setsF nb (m + 1) l next := by
  rw [setsF]; unfold setsUpto
  rw [show k - next = nb - next by omega]
theorem setsUpto_pre (nb m : Nat) (l : List Int) (next k : Nat) (h : next ≤ k) (h1 : k < nb) : (setsUpto nb m l next k).length + (setsF nb m (l ++ [(k : Int)]) (k + 1)).length ≤ (setsF nb (m + 1) l next).length := by
  rw [← List.length_append, ← setsUpto_succ nb m l next k h]
  have : ∀ n, (setsUpto nb m l next (k + 1)).length ≤ (setsUpto nb m l next (k + 1 + n)).length := by
    intro n
    induction n with
    | zero => exact Nat.le_refl _
    | succ n ih =>
      rw [← Nat.add_assoc, setsUpto_succ nb m l next (k + 1 + n) (by omega), List.length_append]; omega
  have h3 := this (nb - (k + 1))
  rw [show k + 1 + (nb - (k + 1)) = nb by omega] at h3
  rwa [setsUpto_all nb m l next nb (.inr (Nat.le_refl _)) (Nat.le_refl _)] at h3
theorem setsF_len (nb : Nat) : ∀ (m : Nat) (l : List Int) (next : Nat), (setsF nb m l next).length ≤ nb ^ m
  | 0, l, next => by unfold setsF; simp
  | m + 1, l, next => by
    unfold setsF
    have key : ∀ (ks : List Nat), (ks.flatMap fun (k : Nat) => setsF nb m (l ++ [(k : Int)]) (k + 1)).length ≤ ks.length * nb ^ m := by
      intro ks
      induction ks with
      | nil => simp
      | cons k ks ih =>
        rw [List.flatMap_cons, List.length_append, List.length_cons, Nat.add_mul, Nat.one_mul]
        have := setsF_len nb m (l ++ [(k : Int)]) (k + 1)
        omega
    refine Nat.le_trans (key _) ?_
    rw [List.length_range', Nat.pow_succ, Nat.mul_comm]
    exact Nat.mul_le_mul_left _ (by omega)
theorem setsF_small (nb : Nat) (hb : nb ≤ 6) (m : Nat) (hm : m ≤ 6) (l : List Int) (next : Nat) : (setsF nb m l next).length ≤ 46656 := by
  refine Nat.le_trans (setsF_len nb m l next) (Nat.le_trans (Nat.pow_le_pow_left hb m) ?_)
  exact Nat.le_trans (Nat.pow_le_pow_right (by decide) hm) (by decide)
theorem setsF_each (nb : Nat) : ∀ (m : Nat) (l : List Int) (next : Nat) (z : List Int), z ∈ setsF nb m l next → ∃ ys, z = l ++ ys ∧ ys.length = m ∧ (∀ y ∈ ys, (next : Int) ≤ y ∧ y ≤ (nb : Int) - 1) ∧ ys.Pairwise (· < ·)
  | 0, l, next, z, h => by
    rw [setsF, List.mem_singleton] at h
    exact ⟨[], by rw [h, List.append_nil], rfl, by simp, List.Pairwise.nil⟩
  | m + 1, l, next, z, h => by
    rw [setsF, List.mem_flatMap] at h
    obtain ⟨k, hk, hz⟩ := h
    rw [List.mem_range'_1] at hk
    obtain ⟨ys, e, hl, hb, hp⟩ := setsF_each nb m (l ++ [(k : Int)]) (k + 1) z hz
    refine ⟨(k : Int) :: ys, by rw [e, List.append_assoc]; rfl, by simp [hl], fun y hy => ?_, List.pairwise_cons.2 ⟨fun y hy => by have := hb y hy; omega, hp⟩⟩
    rcases List.mem_cons.1 hy with rfl | hy
    · omega
    · have := hb y hy; omega
def offOf (z : List Int) : List Bool := z.foldl (fun bs n => bs.set n.toNat true) off0
theorem from_sets (d : RD) : ∀ (m : Nat) (l : List Int) (next : Nat), fromL d m l (offOf l) next = (setsF d.tols.length m l next).filter fun z => explB d (offOf z)
  | 0, l, next => by
    rw [fromL, setsF]
    split
    · rename_i h; rw [List.filter_cons, if_pos h]; rfl
    · rename_i h; rw [List.filter_cons, if_neg h]; rfl
  | m + 1, l, next => by
    rw [fromL, setsF, List.filter_flatMap]
    congr 1
    funext k
    have e : (offOf l).set k true = offOf (l ++ [(k : Int)]) := by unfold offOf; rw [List.foldl_append]; rfl
    rw [e]
    exact from_sets d m _ _
def allUpto (nb k : Nat) : List (List Int) := (List.range k).flatMap fun m => setsF nb m [] 0
theorem allUpto_succ (nb k : Nat) : allUpto nb (k + 1) = allUpto nb k ++ setsF nb k [] 0 := by
  unfold allUpto; rw [List.range_succ, List.flatMap_append]; simp
def allF (nb : Nat) : List (List Int) := allUpto nb (nb + 1)
theorem allUpto_len (nb : Nat) (hb : nb ≤ 6) : ∀ k, k ≤ 7 → (allUpto nb k).length ≤ 46656 * k
  | 0, _ => by simp [allUpto]
  | k + 1, h => by
    rw [allUpto_succ, List.length_append]
    have h1 := allUpto_len nb hb k (by omega)
    have h2 := setsF_small nb hb k (by omega) [] 0
    omega
theorem allF_mem {nb : Nat} {z : List Int} (h : z ∈ allF nb) : z.length ≤ nb ∧ (∀ y ∈ z, (0 : Int) ≤ y ∧ y ≤ (nb : Int) - 1) ∧ z.Pairwise (· < ·) := by
  unfold allF allUpto at h
  rw [List.mem_flatMap] at h
  obtain ⟨m, hm, hz⟩ := h
  rw [List.mem_range] at hm
  obtain ⟨ys, e, hl, hb, hp⟩ := setsF_each nb m [] 0 z hz
  rw [List.nil_append] at e; subst e
  exact ⟨by omega, fun y hy => by have := hb y hy; omega, hp⟩
theorem allF_at {nb i : Nat} (h : i < (allF nb).length) : (allF nb).getD i [] ∈ allF nb := by
  simp only [List.getD, List.getElem?_eq_getElem h, Option.getD_some]; exact List.getElem_mem h
theorem refx_all {d : RD} (hV : Valid d) {i : Nat} (h : i < (allF d.tols.length).length) : refOk d ((allF d.tols.length).getD i []) (-1) 0 = explB d (offOf ((allF d.tols.length).getD i [])) := by
  have hm := allF_mem (allF_at h)
  rw [refOk_rise hV (rise_of hm.2.1 hm.2.2), off_fold]; rfl
/-! ### The fewest, as they are found -/
def takeB (d : RD) (out : List (List Int)) (z : List Int) : Bool := (decide (out = []) || decide (z.length = (out.getD 0 []).length)) && explB d (offOf z)
def stepF (d : RD) (out : List (List Int)) (z : List Int) : List (List Int) := if takeB d out z = true then out ++ [z] else out
theorem step_stay (d : RD) (acc : List (List Int)) (hne : acc ≠ []) : ∀ (zs : List (List Int)), (∀ z ∈ zs, z.length ≠ (acc.getD 0 []).length) → zs.foldl (stepF d) acc = acc
  | [], _ => rfl
  | z :: zs, h => by
    rw [List.foldl_cons]
    have e : stepF d acc z = acc := by
      unfold stepF takeB
      rw [decide_eq_false hne, decide_eq_false (h z (List.mem_cons_self ..))]; rfl
    rw [e]; exact step_stay d acc hne zs (fun y hy => h y (List.mem_cons_of_mem _ hy))
theorem step_more (d : RD) (m : Nat) : ∀ (zs acc : List (List Int)), (∀ z ∈ zs, z.length = m) → (acc ≠ [] → (acc.getD 0 []).length = m) → zs.foldl (stepF d) acc = acc ++ zs.filter fun z => explB d (offOf z)
  | [], acc, _, _ => by simp
  | z :: zs, acc, hz, ha => by
    rw [List.foldl_cons]
    have hzm := hz z (List.mem_cons_self ..)
    have ht : takeB d acc z = explB d (offOf z) := by
      unfold takeB
      by_cases e : acc = []
      · rw [decide_eq_true e]; simp
      · rw [decide_eq_true (show z.length = (acc.getD 0 []).length by rw [ha e, hzm])]; simp
    rw [show stepF d acc z = if takeB d acc z = true then acc ++ [z] else acc from rfl, ht, List.filter_cons]
    split
    · rw [step_more d m zs (acc ++ [z]) (fun y hy => hz y (List.mem_cons_of_mem _ hy)) (fun _ => ?_)]
      · simp
      · cases acc with
        | nil => exact hzm
        | cons a t => exact ha (by simp)
    · exact step_more d m zs acc (fun y hy => hz y (List.mem_cons_of_mem _ hy)) ha
theorem fold_fewUpto (d : RD) : ∀ k, (allUpto d.tols.length k).foldl (stepF d) [] = fewUpto d k
  | 0 => rfl
  | k + 1 => by
    rw [allUpto_succ, List.foldl_append, fold_fewUpto d k]
    have hz : ∀ z ∈ setsF d.tols.length k [] 0, z.length = k := fun z hz => by
      obtain ⟨ys, e, hl, _⟩ := setsF_each _ _ _ _ _ hz
      rw [List.nil_append] at e; rw [e]; exact hl
    by_cases he : fewUpto d k = []
    · rw [he, step_more d k _ [] hz (fun h => absurd rfl h), List.nil_append, fewUpto_step d he]
      exact (from_sets d k [] 0).symm
    · rw [step_stay d _ he _ (fun z hz' => ?_)]
      · simp only [fewUpto]; rw [if_neg he]
      · rw [hz z hz']
        cases hc : fewUpto d k with
        | nil => exact absurd hc he
        | cons a t =>
          have := fewUpto_each d k a (by rw [hc]; exact List.mem_cons_self ..)
          show k ≠ a.length
          omega
/-- The numbers of those taken among the first k. -/
def selUpto (d : RD) (all : List (List Int)) : Nat → List Nat
  | 0 => []
  | k + 1 => if takeB d ((selUpto d all k).map fun i => all.getD i []) (all.getD k []) = true then selUpto d all k ++ [k] else selUpto d all k
theorem selUpto_lt (d : RD) (all : List (List Int)) : ∀ k, ∀ i ∈ selUpto d all k, i < k
  | 0, i, h => by cases h
  | k + 1, i, h => by
    unfold selUpto at h
    split at h
    · rcases List.mem_append.1 h with h | h
      · have := selUpto_lt d all k i h; omega
      · rw [List.mem_singleton] at h; omega
    · have := selUpto_lt d all k i h; omega
theorem selUpto_len (d : RD) (all : List (List Int)) : ∀ k, (selUpto d all k).length ≤ k
  | 0 => by simp [selUpto]
  | k + 1 => by
    have := selUpto_len d all k
    unfold selUpto; split
    · rw [List.length_append, List.length_singleton]; omega
    · omega
theorem selUpto_fold (d : RD) (all : List (List Int)) : ∀ k, k ≤ all.length → (selUpto d all k).map (fun i => all.getD i []) = (all.take k).foldl (stepF d) []
  | 0, _ => by simp [selUpto]
  | k + 1, h => by
    rw [List.take_succ_eq_append_getElem (by omega), List.foldl_append, ← selUpto_fold d all k (by omega)]
    have e : all.getD k [] = all[k] := by simp [List.getD, show k < all.length by omega]
    rw [List.foldl_cons, List.foldl_nil, stepF, ← e]
    by_cases hb : takeB d ((selUpto d all k).map fun i => all.getD i []) (all.getD k []) = true
    · rw [if_pos hb, selUpto, if_pos hb, List.map_append]; rfl
    · rw [if_neg hb, selUpto, if_neg hb]
theorem sel_fewest (d : RD) {k : Nat} (h : k = (allF d.tols.length).length) : (selUpto d (allF d.tols.length) k).map (fun i => (allF d.tols.length).getD i []) = fewestF d := by
  subst h
  rw [selUpto_fold d _ _ (Nat.le_refl _), List.take_length]
  exact fold_fewUpto d _
theorem sel_yes1 {d : RD} {all : List (List Int)} {k : Nat} (h : (selUpto d all k).length = 0) (hx : explB d (offOf (all.getD k [])) = true) : selUpto d all (k + 1) = selUpto d all k ++ [k] := by
  rw [selUpto, if_pos]
  unfold takeB
  rw [hx, List.eq_nil_of_length_eq_zero h]; rfl
theorem sel_at0 {d : RD} {all : List (List Int)} {k : Nat} (h : ¬ (selUpto d all k).length = 0) : ((selUpto d all k).map fun i => all.getD i []).getD 0 [] = all.getD ((selUpto d all k).getD 0 0) [] := by
  have : 0 < (selUpto d all k).length := by omega
  simp [List.getD, this]
theorem sel_yes2 {d : RD} {all : List (List Int)} {k : Nat} (h : ¬ (selUpto d all k).length = 0) (hl : ((all.getD k []).length : Int) = ((all.getD ((selUpto d all k).getD 0 0) []).length : Int)) (hx : explB d (offOf (all.getD k [])) = true) : selUpto d all (k + 1) = selUpto d all k ++ [k] := by
  rw [selUpto, if_pos]
  unfold takeB
  rw [hx, sel_at0 h, decide_eq_true (show (all.getD k []).length = (all.getD ((selUpto d all k).getD 0 0) []).length by omega)]; simp
theorem sel_no1 {d : RD} {all : List (List Int)} {k : Nat} (hx : explB d (offOf (all.getD k [])) = false) : selUpto d all (k + 1) = selUpto d all k := by
  rw [selUpto, if_neg]
  unfold takeB; rw [hx]; simp
theorem sel_no2 {d : RD} {all : List (List Int)} {k : Nat} (h : ¬ (selUpto d all k).length = 0) (hl : ¬ ((all.getD k []).length : Int) = ((all.getD ((selUpto d all k).getD 0 0) []).length : Int)) : selUpto d all (k + 1) = selUpto d all k := by
  rw [selUpto, if_neg]
  unfold takeB
  rw [sel_at0 h, decide_eq_false (show ¬ (all.getD k []).length = (all.getD ((selUpto d all k).getD 0 0) []).length by omega), decide_eq_false (fun e => h (by
    have := congrArg List.length e
    simpa using this))]
  simp
theorem sel_getD {α : Type} (sel : List Nat) (f : Nat → α) (z : α) {i : Nat} (h : i < sel.length) : (sel.map f).getD i z = f (sel.getD i 0) := by simp [List.getD, h]
theorem sel_bd {d : RD} {all : List (List Int)} {k i : Nat} (h : i < (selUpto d all k).length) : (selUpto d all k).getD i 0 < k := by
  have e : (selUpto d all k).getD i 0 = (selUpto d all k)[i] := by simp [List.getD, h]
  rw [e]; exact selUpto_lt d all k _ (List.getElem_mem h)
/-! ### Who is convicted -/
def isUpto (d : RD) (k : Int) (i : Nat) : Bool := (List.range i).all fun j => hasB ((fewestF d).getD j []) k
theorem isUpto_succ (d : RD) (k : Int) (i : Nat) : isUpto d k (i + 1) = (isUpto d k i && hasB ((fewestF d).getD i []) k) := by
  unfold isUpto; rw [List.range_succ, List.all_append]; simp
def cvUpto (d : RD) (k : Nat) : List Int := ((List.range k).filter fun (q : Nat) => isUpto d (q : Int) (fewestF d).length).map fun (q : Nat) => (q : Int)
theorem cv_yes {d : RD} {k i : Nat} (hi : i = (fewestF d).length) (h : isUpto d (k : Int) i = true) : cvUpto d (k + 1) = cvUpto d k ++ [(k : Int)] := by
  subst hi
  unfold cvUpto; rw [List.range_succ, List.filter_append, List.map_append, List.filter_cons, if_pos h]; rfl
theorem cv_no {d : RD} {k i : Nat} (hi : i = (fewestF d).length) (h : isUpto d (k : Int) i = false) : cvUpto d (k + 1) = cvUpto d k := by
  subst hi
  unfold cvUpto; rw [List.range_succ, List.filter_append, List.map_append, List.filter_cons, if_neg (by rw [h]; simp)]; simp
theorem cvUpto_len (d : RD) (k : Nat) : (cvUpto d k).length ≤ k := by
  unfold cvUpto; rw [List.length_map]; exact Nat.le_trans (List.length_filter_le _ _) (by simp)
theorem eq_of_lt {l1 l2 : List Int} (h1 : l1.Pairwise (· < ·)) (h2 : l2.Pairwise (· < ·)) (h : ∀ x, x ∈ l1 ↔ x ∈ l2) : l1 = l2 :=
  ((List.perm_ext_iff_of_nodup (nodup_of_lt h1) (nodup_of_lt h2)).2 h).eq_of_pairwise (fun a b _ _ hab hba => by omega) h1 h2
theorem cv_conv {d : RD} (hV : Valid d) {k : Nat} (h : k = d.tols.length) : cvUpto d k = convF d := by
  subst h
  refine eq_of_lt ?_ (List.Pairwise.sublist List.filter_sublist (fewest_few hV (fewest_first hV)).p) (fun x => ?_)
  · unfold cvUpto
    rw [List.pairwise_map]
    exact (List.Pairwise.sublist List.filter_sublist List.pairwise_lt_range).imp (fun h => by omega)
  · rw [conv_iff hV]
    have hin : ∀ y : Int, isUpto d y (fewestF d).length = true ↔ ∀ ys ∈ fewestF d, y ∈ ys := fun y => by
      unfold isUpto
      rw [List.all_eq_true]
      constructor
      · intro h ys hy
        obtain ⟨i, hi, e⟩ := List.getElem_of_mem hy
        have := h i (List.mem_range.2 hi)
        rw [show (fewestF d).getD i [] = ys by simp [List.getD, hi, e]] at this
        exact hasB_iff.1 this
      · intro h i hi
        rw [List.mem_range] at hi
        refine hasB_iff.2 (h _ ?_)
        simp only [List.getD, List.getElem?_eq_getElem hi, Option.getD_some]
        exact List.getElem_mem hi
    unfold cvUpto
    rw [List.mem_map]
    constructor
    · rintro ⟨q, hq, rfl⟩
      rw [List.mem_filter] at hq
      exact (hin _).1 hq.2
    · intro h
      have hb := (fewest_few hV (fewest_first hV)).b x (h _ (fewest_first hV))
      have e : ((x.toNat : Nat) : Int) = x := by omega
      exact ⟨x.toNat, List.mem_filter.2 ⟨List.mem_range.2 (by omega), by rw [e]; exact (hin x).2 h⟩, e⟩
theorem leastR_bad {d : RD} (h : checkR d ≠ 0) : leastR d = ([], checkR d) := by unfold leastR; rw [if_neg h]
theorem convR_bad {d : RD} (h : checkR d ≠ 0) : convR d = ([], checkR d) := by unfold convR; rw [if_neg h]
theorem convR_none {d : RD} (h : checkR d = 0) (h0 : (convF d).length = 0) : convR d = ([], 7) := by unfold convR; rw [if_pos h, if_pos h0]
theorem convR_some {d : RD} (h : checkR d = 0) (h0 : (convF d).length ≠ 0) : convR d = (convF d, 0) := by unfold convR; rw [if_pos h, if_neg h0]
end Go.Proofs.Ytfhmigoddaaljaa

namespace Go.Proofs.Ytfhmigoddaaljaa
open Go.RowKit Go.Shelf Go.Eng
theorem en_80 : ∀ args w, (callFunc 80 args).run Try.prog w = .ok (.enter 80 args) w := enters_of Try.func80 (by kernel_rfl) rfl
theorem en_59 : ∀ args w, (callFunc 59 args).run Try.prog w = .ok (.enter 59 args) w := enters_of Try.func59 (by kernel_rfl) rfl
theorem en_31 : ∀ args w, (callFunc 31 args).run Try.prog w = .ok (.enter 31 args) w := enters_of Try.func31 (by kernel_rfl) rfl
theorem sets_zero (rl rs rb : Value) (rlv : List Value) (d : RD) (w : World) (hR : RoundAt w rl rs rb rlv d) (xl : Value) (l : List Int) (next : Nat) (hx : SlAt w xl 1 l.length (ints l)) (hnb : d.tols.length ≤ 6) (hm : 0 ≤ 6) (hll : l.length + 0 ≤ 1000) :
  Calls Try.prog 80 #[(Value.agg #[rl, rs, (Value.int .i64 d.spread), rb]), xl, (Value.int .i64 (next : Int)), (Value.int .i64 0)] w (Ret fun v w' => ∃ ov, Sep NoB w w' [row v 23 1 ov.length ov, lstR ov (setsF d.tols.length 0 l next)]) := by
 refine calls_enter Try.func80 rfl fun a0 hA0 => ?_
 replace hA0 : Fr 40 [] [(0, (Value.agg #[rl, rs, (Value.int .i64 d.spread), rb])), (1, xl), (2, (Value.int .i64 (next : Int))), (3, (Value.int .i64 0))] a0 := hA0
 have hS0 : Sep NoB w w [(sl xl 1 l.length (ints l)), (rndR false rl rs rb rlv d)] := sep_ro ⟨rfl, hx, rfl, hR, trivial⟩
 refine c_seq ?_
 refine c_region ?_
 refine stw hA0 (op_box hS0 rfl (hA0.ev rfl) (cs := [rl, rs, (Value.int .i64 d.spread), rb]) rfl) rfl rfl (by decide) ?_
 rintro a1 _ w3 ⟨b4, rfl, hS5⟩ hA2; clear hA0 hS0 a0
 refine st hA2 (op_assign rfl (evc _ _)) rfl rfl (by decide) fun a6 hA7 => ?_; clear hA2 a1
 refine wl_nil ?_
 refine then_n ?_
 refine c_seq ?_
 refine c_seq ?_
 refine c_region ?_
 refine st hA7 (op_move rfl (hA7.ev rfl)) rfl rfl (by decide) fun a8 hA9 => ?_; clear hA7 a6
 refine st hA9 (op_eql rfl (hA9.ev rfl) (evc _ _)) rfl rfl (by decide) fun a10 hA11 => ?_; clear hA9 a8
 refine wl_nil ?_
 refine then_n ?_
 refine c_true hA11 rfl ?_
 refine c_seq ?_
 have hA12 := hA11.as [(1, xl)] rfl; clear hA11
 refine c_region ?_
 refine stw hA12 (op_buildSlice hS5 rfl pv0 un_23 ty_3 ze_3 (by decide) (cs := []) bs_3_0_) rfl rfl (by decide) ?_
 rintro a13 _ w15 ⟨b16, rfl, hS17⟩ hA14; clear hA12 hS5 a10
 refine st hA14 (op_move rfl (hA14.ev rfl)) rfl rfl (by decide) fun a18 hA19 => ?_; clear hA14 a13
 have hS20 := hS17.blk_row (i := 0) (sz := 1) (n := 0) rfl rfl (by decide); clear hS17
 refine stw hA19 (op_append hS20 rfl un_23 el_3 (hA19.ev rfl) (hA19.ev rfl) (i := 0) rfl (hS20.sk 2 rfl) (ints_one _) (by simp only [maxLen]; omega) (by omega)) rfl rfl (by decide) ?_
 intro a21 v24 w23 hS25 hA22
 have hS26 := hS25.row_say (i := 0) rfl (n' := l.length) (xs' := (ints l)) (by simp) (by simp); clear hS25 hA19 hS20 a18
 refine stw hA22 (op_buildSlice hS26 rfl (pv1 (hA22.ev rfl)) un_51 ty_23 ze_23 (by decide) (cs := [v24]) (bs_23_1_0s _ (SlAt.isSl (SlAt.of_row (hS26.ok_row 0 rfl))))) rfl rfl (by decide) ?_
 rintro a27 _ w29 ⟨b30, rfl, hS31⟩ hA28; clear hA22 hS26 a21
 refine st hA28 (op_assign rfl (hA28.ev rfl)) rfl rfl (by decide) fun a32 hA33 => ?_; clear hA28 a27
 refine wl_nil ?_
 refine then_n ?_
 refine c_ret ?_
 refine then_ret ?_
 refine fin_run hA33 (.inl rfl) (run_results1 hA33 rfl (.tmp rfl)) ?_
 have hS34 : Sep NoB w w29 [(row v24 3 1 l.length (ints l)), (blk b30 23 [v24])] := hS31.keep [1, 0] (by decide) _ rfl rfl; clear hS31
 have h1 := (hS34.blk_row (i := 1) (sz := 1) (n := 1) rfl rfl (by decide)).lst_nil
 have h2 := h1.keep [1, 0, 2] (by decide) _ rfl rfl
 have h3 := h2.lst_snoc
 exact ⟨[v24], h3.keep [1, 0] (by decide) _ rfl rfl⟩

set_option maxHeartbeats 4000000 in
theorem sets_succ (rl rs rb : Value) (rlv : List Value) (d : RD) (w : World) (hR : RoundAt w rl rs rb rlv d) (m : Nat) (ih : ∀ (l : List Int) (next : Nat) (xl : Value) (w : World) (hR : RoundAt w rl rs rb rlv d) (hx : SlAt w xl 1 l.length (ints l)) (hll : l.length + m ≤ 1000), Calls Try.prog 80 #[.agg #[rl, rs, .int .i64 d.spread, rb], xl, .int .i64 (next : Int), .int .i64 (m : Int)] w (Ret fun v w' => ∃ ov, Sep NoB w w' [row v 23 1 ov.length ov, lstR ov (setsF d.tols.length m l next)])) (xl : Value) (l : List Int) (next : Nat) (hx : SlAt w xl 1 l.length (ints l)) (hnb : d.tols.length ≤ 6) (hm : m + 1 ≤ 6) (hll : l.length + (m + 1) ≤ 1000) :
  Calls Try.prog 80 #[(Value.agg #[rl, rs, (Value.int .i64 d.spread), rb]), xl, (Value.int .i64 (next : Int)), (Value.int .i64 ((m : Int) + 1))] w (Ret fun v w' => ∃ ov, Sep NoB w w' [row v 23 1 ov.length ov, lstR ov (setsF d.tols.length (m + 1) l next)]) := by
 refine calls_enter Try.func80 rfl fun a0 hA0 => ?_
 replace hA0 : Fr 40 [] [(0, (Value.agg #[rl, rs, (Value.int .i64 d.spread), rb])), (1, xl), (2, (Value.int .i64 (next : Int))), (3, (Value.int .i64 ((m : Int) + 1)))] a0 := hA0
 have hS0 : Sep NoB w w [(sl xl 1 l.length (ints l)), (rndR false rl rs rb rlv d)] := sep_ro ⟨rfl, hx, rfl, hR, trivial⟩
 refine c_seq ?_
 refine c_region ?_
 refine stw hA0 (op_box hS0 rfl (hA0.ev rfl) (cs := [rl, rs, (Value.int .i64 d.spread), rb]) rfl) rfl rfl (by decide) ?_
 rintro a1 _ w3 ⟨b4, rfl, hS5⟩ hA2; clear hA0 hS0 a0
 refine st hA2 (op_assign rfl (evc _ _)) rfl rfl (by decide) fun a6 hA7 => ?_; clear hA2 a1
 refine wl_nil ?_
 refine then_n ?_
 refine c_seq ?_
 refine c_seq ?_
 refine c_region ?_
 refine st hA7 (op_move rfl (hA7.ev rfl)) rfl rfl (by decide) fun a8 hA9 => ?_; clear hA7 a6
 refine st hA9 (op_eql rfl (hA9.ev rfl) (evc _ _)) rfl rfl (by decide) fun a10 hA11 => ?_; clear hA9 a8
 have hd12 : ¬ (((m : Int) + 1) = 0) := (by omega)
 rw [decide_eq_false hd12] at hA11
 refine wl_nil ?_
 refine then_n ?_
 refine c_false hA11 rfl ?_
 refine c_skip ?_
 refine then_n ?_
 refine c_seq ?_
 refine c_region ?_
 refine st hA11 (op_assign rfl (evc _ _)) rfl rfl (by decide) fun a13 hA14 => ?_; clear hA11 a10
 have hS15 := hS5.nil_row 23 1; clear hS5
 refine wl_nil ?_
 refine then_n ?_
 refine c_seq ?_
 refine c_seq ?_
 refine c_region ?_
 refine st hA14 (op_move rfl (hA14.ev rfl)) rfl rfl (by decide) fun a16 hA17 => ?_; clear hA14 a13
 refine st hA17 (op_assign rfl (hA17.ev rfl)) rfl rfl (by decide) fun a18 hA19 => ?_; clear hA17 a16
 refine wl_nil ?_
 refine then_n ?_
 refine c_block ?_
 have hS20 := hS15.lst_nil; clear hS15
 have hA21 := hA19.as [(10, (Value.int .i64 (next : Int))), (9, (Value.slice none 0 0)), (4, (bptr b4 0)), (1, xl), (3, (Value.int .i64 ((m : Int) + 1)))] rfl; clear hA19
 refine c_loop (G := Nat) (fun (k : Nat) a_ w_ => ∃ ov_ : List Value, ∃ v9_ : Value, Fr 40 [] [(10, (Value.int .i64 (k : Int))), (9, v9_), (4, (bptr b4 0)), (1, xl), (3, (Value.int .i64 ((m : Int) + 1)))] a_ ∧ Sep NoB w w_ [(lstR ov_ (setsUpto d.tols.length m l next k)), (row v9_ 23 1 ov_.length ov_), (blk b4 26 [rl, rs, (Value.int .i64 d.spread), rb]), (sl xl 1 l.length (ints l)), (rndR false rl rs rb rlv d)] ∧ (next ≤ k) ∧ (k = next ∨ k ≤ d.tols.length)) (fun k => d.tols.length - k) next ⟨[], (Value.slice none 0 0), hA21.as _ rfl, (hS20.lst_say (i := 0) rfl (by rw [setsUpto_self])), Nat.le_refl _, .inl rfl⟩ ?_
 clear hA21 hS20 a18
 rintro k a22 w24 ⟨ov_, v9_, hA23, hS25, hk1, hk2⟩
 have hol := hS25.lst_len 0 rfl
 refine c_seq ?_
 refine c_seq ?_
 refine c_region ?_
 refine st hA23 (op_move rfl (hA23.ev rfl)) rfl rfl (by decide) fun a26 hA27 => ?_; clear hA23 a22
 refine st hA27 (op_field rfl fd_26_3 (hA27.ev rfl)) rfl rfl (by decide) fun a28 hA29 => ?_; clear hA27 a26
 refine st hA29 (op_load1 rfl ty_24 (hA29.ev rfl) (hS25.bk 2 rfl) rfl) rfl rfl (by decide) fun a30 hA31 => ?_; clear hA29 a28
 refine st hA31 (op_lenS rfl un_24 (hA31.ev rfl) (rnd_at (hS25.ok 4 _ rfl)).labs) rfl rfl (by decide) fun a32 hA33 => ?_; clear hA31 a30
 refine st hA33 (op_lss rfl (hA33.ev rfl) (hA33.ev rfl)) rfl rfl (by decide) fun a34 hA35 => ?_; clear hA33 a32
 refine wl_nil ?_
 refine then_n ?_
 by_cases hb36 : (k : Int) < (d.tols.length : Int)
 ·skip
  rw [decide_eq_true hb36] at hA35
  refine c_true hA35 rfl ?_
  refine c_skip ?_
  refine then_n ?_
  refine c_seq ?_
  refine c_block ?_
  have hpre := setsUpto_pre d.tols.length m l next k hk1 (by omega); have hsm := setsF_small d.tols.length hnb (m + 1) hm l next
  have hA37 := hA35.as [(10, (Value.int .i64 (k : Int))), (9, v9_), (4, (bptr b4 0)), (1, xl), (3, (Value.int .i64 ((m : Int) + 1)))] rfl; clear hA35
  by_cases hb39 : 0 < l.length
  ·skip
   have hA40 := hA37.as [(10, (Value.int .i64 (k : Int))), (9, v9_), (4, (bptr b4 0)), (1, xl), (3, (Value.int .i64 ((m : Int) + 1)))] rfl; clear hA37
   refine c_drawC mixed hA40 hS25 13 7 4 (by decide) (by decide) (by decide) rfl [[], [], [], [], [2, 3], [], [5], [4, 6], [], [8], [], [10], [1, 7, 9, 11]] [(fun (vs41 : Nat → Value) (v_ : Value) (rs_ : List Res) => v_ = v9_ ∧ rs_ = []), (fun (vs41 : Nat → Value) (v_ : Value) (rs_ : List Res) => v_ = (Value.agg #[rl, rs, (Value.int .i64 d.spread), rb]) ∧ rs_ = []), (fun (vs41 : Nat → Value) (v_ : Value) (rs_ : List Res) => ∃ (b2_ : Nat), v_ = (Value.slice (some ⟨b2_, 0, none⟩) 0 0) ∧ rs_ = [(blk b2_ 3 [])]), (fun (vs41 : Nat → Value) (v_ : Value) (rs_ : List Res) => v_ = xl ∧ rs_ = []), (fun (vs41 : Nat → Value) (v_ : Value) (rs_ : List Res) => True ∧ rs_ = [(row v_ 3 1 l.length (ints l))]), (fun (vs41 : Nat → Value) (v_ : Value) (rs_ : List Res) => v_ = (Value.int .i64 (k : Int)) ∧ rs_ = []), (fun (vs41 : Nat → Value) (v_ : Value) (rs_ : List Res) => True ∧ rs_ = [(row v_ 3 1 1 [(Value.int .i64 (k : Int))])]), (fun (vs41 : Nat → Value) (v_ : Value) (rs_ : List Res) => True ∧ rs_ = [(row v_ 3 1 ((l ++ [(k : Int)]).length) (ints (l ++ [(k : Int)])))]), (fun (vs41 : Nat → Value) (v_ : Value) (rs_ : List Res) => v_ = (Value.int .i64 (k : Int)) ∧ rs_ = []), (fun (vs41 : Nat → Value) (v_ : Value) (rs_ : List Res) => v_ = (Value.int .i64 ((k : Int) + 1)) ∧ rs_ = []), (fun (vs41 : Nat → Value) (v_ : Value) (rs_ : List Res) => v_ = (Value.int .i64 ((m : Int) + 1)) ∧ rs_ = []), (fun (vs41 : Nat → Value) (v_ : Value) (rs_ : List Res) => v_ = (Value.int .i64 (((m : Int) + 1) - 1)) ∧ rs_ = []), (fun (vs41 : Nat → Value) (v_ : Value) (rs_ : List Res) => ∃ (ov12_ : List Value), True ∧ rs_ = [(row v_ 23 1 ov12_.length ov12_), (lstR ov12_ (setsF d.tols.length m (l ++ [(k : Int)]) (k + 1)))])] (by decide +kernel) (by decide +kernel) rfl rfl ⟨(fun _ _ _ _ _ h_ => h_), (fun _ _ _ _ _ h_ => h_), (fun _ _ _ _ _ h_ => h_), (fun _ _ _ _ _ h_ => h_), (fun _ _ _ _ _ h_ => h_), (fun _ _ _ _ _ h_ => h_), (fun _ _ _ _ _ h_ => h_), (fun _ _ _ _ _ h_ => h_), (fun _ _ _ _ _ h_ => h_), (fun _ _ _ _ _ h_ => h_), (fun _ _ _ _ _ h_ => h_), (fun _ _ _ _ _ h_ => h_), (fun _ _ _ _ _ h_ => h_), trivial⟩ (by decide +kernel) (by decide +kernel) ?_ ?_ ?_
   ·skip
    refine ⟨fun hj_ a w vs41 hA hS hd => ?_, ?_⟩
    ·skip
     exact opG_of rfl (vv (op_move rfl (hA.ev rfl)) (And.intro rfl rfl))
    refine ⟨fun hj_ a w vs41 hA hS hd => ?_, ?_⟩
    ·skip
     exact opG_of rfl (vv (op_loadA rfl ty_26 (hA.ev rfl) (hS.bk 2 rfl) (l := [rl, rs, (Value.int .i64 d.spread), rb]) rfl rfl) (And.intro rfl rfl))
    refine ⟨fun hj_ a w vs41 hA hS hd => ?_, ?_⟩
    ·skip
     exact opG_of rfl (vblz rfl pv0 un_23 ty_3 ze_3 bs_3_0_ (fun b_ => ⟨b_, rfl, rfl⟩))
    refine ⟨fun hj_ a w vs41 hA hS hd => ?_, ?_⟩
    ·skip
     exact opG_of rfl (vv (op_move rfl (hA.ev rfl)) (And.intro rfl rfl))
    refine ⟨fun hj_ a w vs41 hA hS hd => ?_, ?_⟩
    ·skip
     obtain ⟨e2, rs2, hy2, hp2⟩ := hd 2 (by decide)
     obtain ⟨b2_, hv2, hr2⟩ := hy2; subst hr2
     rw [hv2] at e2
     have hp2_0 := hp2 _ (List.mem_of_getElem? (i := 0) rfl)
     obtain ⟨e3, rs3, hy3, hp3⟩ := hd 3 (by decide)
     obtain ⟨hv3, hr3⟩ := hy3; subst hr3
     rw [hv3] at e3
     exact opG_of rfl (vap0 (op_append0 rfl un_23 el_3 (tmp_ev (slot_ev e2 rfl)) (tmp_ev (slot_ev e3 rfl)) (hS.sk 3 rfl) (ints_one _) (by simp only [maxLen]; omega) (by omega) hb39) (fun _ => And.intro trivial rfl))
    refine ⟨fun hj_ a w vs41 hA hS hd => ?_, ?_⟩
    ·skip
     exact opG_of rfl (vv (op_move rfl (hA.ev rfl)) (And.intro rfl rfl))
    refine ⟨fun hj_ a w vs41 hA hS hd => ?_, ?_⟩
    ·skip
     obtain ⟨e5, rs5, hy5, hp5⟩ := hd 5 (by decide)
     obtain ⟨hv5, hr5⟩ := hy5; subst hr5
     rw [hv5] at e5
     exact opG_of rfl (vblt rfl (pv1 (tmp_ev (slot_ev e5 rfl))) un_23 ty_3 ze_3 (by decide) (cs := [(Value.int .i64 (k : Int))]) (bs_3_1_0i _) rfl (by decide) (fun _ => And.intro trivial rfl))
    refine ⟨fun hj_ => absurd rfl hj_, ?_⟩
    refine ⟨fun hj_ a w vs41 hA hS hd => ?_, ?_⟩
    ·skip
     exact opG_of rfl (vv (op_move rfl (hA.ev rfl)) (And.intro rfl rfl))
    refine ⟨fun hj_ a w vs41 hA hS hd => ?_, ?_⟩
    ·skip
     obtain ⟨e8, rs8, hy8, hp8⟩ := hd 8 (by decide)
     obtain ⟨hv8, hr8⟩ := hy8; subst hr8
     rw [hv8] at e8
     exact opG_of rfl (vv (op_add rfl (tmp_ev (slot_ev e8 rfl)) (evc _ _) (by omega) (by omega)) (And.intro rfl rfl))
    refine ⟨fun hj_ a w vs41 hA hS hd => ?_, ?_⟩
    ·skip
     exact opG_of rfl (vv (op_move rfl (hA.ev rfl)) (And.intro rfl rfl))
    refine ⟨fun hj_ a w vs41 hA hS hd => ?_, ?_⟩
    ·skip
     obtain ⟨e10, rs10, hy10, hp10⟩ := hd 10 (by decide)
     obtain ⟨hv10, hr10⟩ := hy10; subst hr10
     rw [hv10] at e10
     exact opG_of rfl (vv (op_sub rfl (tmp_ev (slot_ev e10 rfl)) (evc _ _) (by omega) (by omega)) (And.intro rfl rfl))
    refine ⟨fun hj_ a w vs41 hA hS hd => ?_, ?_⟩
    ·skip
     obtain ⟨e1, rs1, hy1, hp1⟩ := hd 1 (by decide)
     obtain ⟨hv1, hr1⟩ := hy1; subst hr1
     rw [hv1] at e1
     obtain ⟨e7, rs7, hy7, hp7⟩ := hd 7 (by decide)
     obtain ⟨hv7, hr7⟩ := hy7; subst hr7
     have hp7_0 := hp7 _ (List.mem_of_getElem? (i := 0) rfl)
     obtain ⟨e9, rs9, hy9, hp9⟩ := hd 9 (by decide)
     obtain ⟨hv9, hr9⟩ := hy9; subst hr9
     rw [hv9] at e9
     obtain ⟨e11, rs11, hy11, hp11⟩ := hd 11 (by decide)
     obtain ⟨hv11, hr11⟩ := hy11; subst hr11
     rw [hv11] at e11
     exact opG_of rfl (vn (op_call rfl en_80 (ev4 (tmp_ev (slot_ev e1 rfl)) (tmp_ev (slot_ev e7 rfl)) (tmp_ev (slot_ev e9 rfl)) (tmp_ev (slot_ev e11 rfl))) (by have hz := ih (l ++ [(k : Int)]) (k + 1) _ _ (rnd_at (hS.ok 4 _ rfl)) (SlAt.of_row hp7_0) (by simp; omega); rw [show ((m : Int) + 1) - 1 = (m : Int) by omega]; exact hz)) (fun v w' h => by obtain ⟨ov, hT⟩ := h; exact ⟨_, ⟨ov, trivial, rfl⟩, hT, rfl⟩))
    trivial
   ·skip
    intro a w vs41 rs0 Lr hA hs0 hy0 hd hS
    obtain ⟨hv4, hr4⟩ := hy0; subst hr4
    obtain ⟨e6, rs6, hy6, hp6⟩ := hd 6 (by decide) (by decide)
    obtain ⟨hv6, hr6⟩ := hy6; subst hr6
    have hp6_0 := hp6 _ (List.mem_of_getElem? (i := 0) rfl)
    exact opG_of rfl (opY_mono (op_append hS rfl un_23 el_3 (tmp_ev (slot_ev hs0 rfl)) (tmp_ev (slot_ev e6 rfl)) (i := 0) rfl (SlAt.of_row hp6_0) rfl (by simp only [maxLen]; omega) (by omega)) fun v_ w_ h_ => ⟨_, And.intro trivial rfl, h_.row_say (i := 0) rfl (n' := (l ++ [(k : Int)]).length) (xs' := (ints (l ++ [(k : Int)]))) (by simp) (by simp [ints])⟩)
   ·skip
    intro a42 w43 vs41 rsf47 hA44 hH46 hrq hS45; clear hA40 hS25
    obtain ⟨hs_0, hy_0⟩ := hH46 0 (by decide) (by decide)
    obtain ⟨hv_0, hr_0⟩ := hy_0
    obtain ⟨hs_1, hy_1⟩ := hH46 1 (by decide) (by decide)
    obtain ⟨hv_1, hr_1⟩ := hy_1
    obtain ⟨hs_2, hy_2⟩ := hH46 2 (by decide) (by decide)
    obtain ⟨b2_, hv_2, hr_2⟩ := hy_2
    obtain ⟨hs_3, hy_3⟩ := hH46 3 (by decide) (by decide)
    obtain ⟨hv_3, hr_3⟩ := hy_3
    obtain ⟨hs_5, hy_5⟩ := hH46 5 (by decide) (by decide)
    obtain ⟨hv_5, hr_5⟩ := hy_5
    obtain ⟨hs_6, hy_6⟩ := hH46 6 (by decide) (by decide)
    obtain ⟨hv_6, hr_6⟩ := hy_6
    obtain ⟨hs_7, hy_7⟩ := hH46 7 (by decide) (by decide)
    obtain ⟨hv_7, hr_7⟩ := hy_7
    obtain ⟨hs_8, hy_8⟩ := hH46 8 (by decide) (by decide)
    obtain ⟨hv_8, hr_8⟩ := hy_8
    obtain ⟨hs_9, hy_9⟩ := hH46 9 (by decide) (by decide)
    obtain ⟨hv_9, hr_9⟩ := hy_9
    obtain ⟨hs_10, hy_10⟩ := hH46 10 (by decide) (by decide)
    obtain ⟨hv_10, hr_10⟩ := hy_10
    obtain ⟨hs_11, hy_11⟩ := hH46 11 (by decide) (by decide)
    obtain ⟨hv_11, hr_11⟩ := hy_11
    obtain ⟨hs_12, hy_12⟩ := hH46 12 (by decide) (by decide)
    obtain ⟨ov12_, hv_12, hr_12⟩ := hy_12
    have hS48 : Sep NoB w w43 [(blk b2_ 3 []), (row (vs41 6) 3 1 1 [(Value.int .i64 (k : Int))]), (row (vs41 7) 3 1 ((l ++ [(k : Int)]).length) (ints (l ++ [(k : Int)]))), (row (vs41 12) 23 1 ov12_.length ov12_), (lstR ov12_ (setsF d.tols.length m (l ++ [(k : Int)]) (k + 1))), (lstR ov_ (setsUpto d.tols.length m l next k)), (row v9_ 23 1 ov_.length ov_), (blk b4 26 [rl, rs, (Value.int .i64 d.spread), rb]), (sl xl 1 l.length (ints l)), (rndR false rl rs rb rlv d)] := by rw [show catR rsf47 0 13 = ([(blk b2_ 3 []), (row (vs41 6) 3 1 1 [(Value.int .i64 (k : Int))]), (row (vs41 7) 3 1 ((l ++ [(k : Int)]).length) (ints (l ++ [(k : Int)]))), (row (vs41 12) 23 1 ov12_.length ov12_), (lstR ov12_ (setsF d.tols.length m (l ++ [(k : Int)]) (k + 1)))] : List Res) by (try simp only [catR, hr_0, hr_1, hr_2, hr_3, hr_5, hr_6, hr_7, hr_8, hr_9, hr_10, hr_11, hr_12, hrq]); (try rfl)] at hS45; exact hS45
    rw [hv_0] at hs_0
    have hA49 : Fr 40 [] [(25, v9_), (10, (Value.int .i64 (k : Int))), (9, v9_), (4, (bptr b4 0)), (1, xl), (3, (Value.int .i64 ((m : Int) + 1)))] a42 := hA44.add (slot_ev hs_0 rfl); clear hA44
    have hA50 : Fr 40 [] [(37, (vs41 12)), (25, v9_), (10, (Value.int .i64 (k : Int))), (9, v9_), (4, (bptr b4 0)), (1, xl), (3, (Value.int .i64 ((m : Int) + 1)))] a42 := hA49.add (slot_ev hs_12 rfl); clear hA49
    clear hH46 hS45 hs_0 hs_1 hs_2 hs_3 hs_5 hs_6 hs_7 hs_8 hs_9 hs_10 hs_11 hs_12 hrq
    clear hr_0
    clear hv_0
    clear hr_1
    clear hv_1
    clear hr_2
    clear hv_2
    clear hr_3
    clear hv_3
    clear hr_5
    clear hv_5
    clear hr_6
    clear hv_6
    clear hr_7
    clear hv_7
    clear hr_8
    clear hv_8
    clear hr_9
    clear hv_9
    clear hr_10
    clear hv_10
    clear hr_11
    clear hv_11
    clear hr_12
    clear hv_12
    have hol2 := hS48.lst_len 4 rfl
    refine stw hA50 (op_append hS48 rfl un_51 el_23 (hA50.ev rfl) (hA50.ev rfl) (i := 6) rfl (SlAt.of_row (hS48.ok_row 3 rfl)) (lst_one (hS48.ok 4 _ rfl)) (by simp only [maxLen]; omega) (by omega)) rfl rfl (by decide) ?_
    intro a51 v54 w53 hS55 hA52
    have hS56 := hS55.row_say (i := 6) rfl (n' := (ov_ ++ ov12_).length) (xs' := (ov_ ++ ov12_)) (by simp) rfl; clear hS55 hA50 hS48 a42
    refine st hA52 (op_assign rfl (hA52.ev rfl)) rfl rfl (by decide) fun a57 hA58 => ?_; clear hA52 a51
    refine wl_nil ?_
    refine blk_n ?_
    refine then_n ?_
    refine c_region ?_
    refine st hA58 (op_move rfl (hA58.ev rfl)) rfl rfl (by decide) fun a59 hA60 => ?_; clear hA58 a57
    refine st hA60 (op_add rfl (hA60.ev rfl) (evc _ _) (by omega) (by omega)) rfl rfl (by decide) fun a61 hA62 => ?_; clear hA60 a59
    refine st hA62 (op_assign rfl (hA62.ev rfl)) rfl rfl (by decide) fun a63 hA64 => ?_; clear hA62 a61
    refine wl_nil ?_
    have hS65 : Sep NoB w w53 [(lstR ov_ (setsUpto d.tols.length m l next k)), (lstR ov12_ (setsF d.tols.length m (l ++ [(k : Int)]) (k + 1))), (blk b2_ 3 []), (row (vs41 6) 3 1 1 [(Value.int .i64 (k : Int))]), (row (vs41 7) 3 1 ((l ++ [(k : Int)]).length) (ints (l ++ [(k : Int)]))), (row (vs41 12) 23 1 ov12_.length ov12_), (row v54 23 1 ((ov_ ++ ov12_).length) (ov_ ++ ov12_)), (blk b4 26 [rl, rs, (Value.int .i64 d.spread), rb]), (sl xl 1 l.length (ints l)), (rndR false rl rs rb rlv d)] := hS56.keep [5, 4, 0, 1, 2, 3, 6, 7, 8, 9] (by decide) _ rfl rfl; clear hS56
    have hS66 := hS65.lst_app; clear hS65
    have hS67 : Sep NoB w w53 [(lstR (ov_ ++ ov12_) ((setsUpto d.tols.length m l next k) ++ (setsF d.tols.length m (l ++ [(k : Int)]) (k + 1)))), (row v54 23 1 ((ov_ ++ ov12_).length) (ov_ ++ ov12_)), (blk b4 26 [rl, rs, (Value.int .i64 d.spread), rb]), (sl xl 1 l.length (ints l)), (rndR false rl rs rb rlv d)] := hS66.keep [0, 5, 6, 7, 8] (by decide) _ rfl rfl; clear hS66
    exact then_n ⟨k + 1, ⟨(ov_ ++ ov12_), v54, hA64.as _ rfl, (hS67.lst_say (i := 0) rfl (by rw [setsUpto_succ _ _ _ _ _ hk1])), by omega, by omega⟩, by omega⟩
  ·skip
   have hA68 := hA37.as [(10, (Value.int .i64 (k : Int))), (9, v9_), (4, (bptr b4 0)), (1, xl), (3, (Value.int .i64 ((m : Int) + 1)))] rfl; clear hA37
   refine c_drawV mixed hA68 hS25 13 [[], [], [], [], [2, 3], [], [5], [2, 4, 6], [], [8], [], [10], [1, 7, 9, 11]] [(fun (vs69 : Nat → Value) (v_ : Value) (rs_ : List Res) => v_ = v9_ ∧ rs_ = []), (fun (vs69 : Nat → Value) (v_ : Value) (rs_ : List Res) => v_ = (Value.agg #[rl, rs, (Value.int .i64 d.spread), rb]) ∧ rs_ = []), (fun (vs69 : Nat → Value) (v_ : Value) (rs_ : List Res) => ∃ (b2_ : Nat), v_ = (Value.slice (some ⟨b2_, 0, none⟩) 0 0) ∧ rs_ = [(blk b2_ 3 [])]), (fun (vs69 : Nat → Value) (v_ : Value) (rs_ : List Res) => v_ = xl ∧ rs_ = []), (fun (vs69 : Nat → Value) (v_ : Value) (rs_ : List Res) => v_ = (vs69 2) ∧ rs_ = []), (fun (vs69 : Nat → Value) (v_ : Value) (rs_ : List Res) => v_ = (Value.int .i64 (k : Int)) ∧ rs_ = []), (fun (vs69 : Nat → Value) (v_ : Value) (rs_ : List Res) => True ∧ rs_ = [(row v_ 3 1 1 [(Value.int .i64 (k : Int))])]), (fun (vs69 : Nat → Value) (v_ : Value) (rs_ : List Res) => True ∧ rs_ = [(row v_ 3 1 1 [(Value.int .i64 (k : Int))])]), (fun (vs69 : Nat → Value) (v_ : Value) (rs_ : List Res) => v_ = (Value.int .i64 (k : Int)) ∧ rs_ = []), (fun (vs69 : Nat → Value) (v_ : Value) (rs_ : List Res) => v_ = (Value.int .i64 ((k : Int) + 1)) ∧ rs_ = []), (fun (vs69 : Nat → Value) (v_ : Value) (rs_ : List Res) => v_ = (Value.int .i64 ((m : Int) + 1)) ∧ rs_ = []), (fun (vs69 : Nat → Value) (v_ : Value) (rs_ : List Res) => v_ = (Value.int .i64 (((m : Int) + 1) - 1)) ∧ rs_ = []), (fun (vs69 : Nat → Value) (v_ : Value) (rs_ : List Res) => ∃ (ov12_ : List Value), True ∧ rs_ = [(row v_ 23 1 ov12_.length ov12_), (lstR ov12_ (setsF d.tols.length m (l ++ [(k : Int)]) (k + 1)))])] (by decide +kernel) (by decide +kernel) rfl rfl ⟨(fun _ _ _ _ _ h_ => h_), (fun _ _ _ _ _ h_ => h_), (fun _ _ _ _ _ h_ => h_), (fun _ _ _ _ _ h_ => h_), (fun _ _ _ _ he_ h_ => by dsimp only at h_ ⊢; rw [← he_ 2 (by decide)]; exact h_), (fun _ _ _ _ _ h_ => h_), (fun _ _ _ _ _ h_ => h_), (fun _ _ _ _ _ h_ => h_), (fun _ _ _ _ _ h_ => h_), (fun _ _ _ _ _ h_ => h_), (fun _ _ _ _ _ h_ => h_), (fun _ _ _ _ _ h_ => h_), (fun _ _ _ _ _ h_ => h_), trivial⟩ ?_ ?_
   ·skip
    refine ⟨fun a w vs69 hA hS hd => ?_, ?_⟩
    ·skip
     exact opG_of rfl (vv (op_move rfl (hA.ev rfl)) (And.intro rfl rfl))
    refine ⟨fun a w vs69 hA hS hd => ?_, ?_⟩
    ·skip
     exact opG_of rfl (vv (op_loadA rfl ty_26 (hA.ev rfl) (hS.bk 2 rfl) (l := [rl, rs, (Value.int .i64 d.spread), rb]) rfl rfl) (And.intro rfl rfl))
    refine ⟨fun a w vs69 hA hS hd => ?_, ?_⟩
    ·skip
     exact opG_of rfl (vblz rfl pv0 un_23 ty_3 ze_3 bs_3_0_ (fun b_ => ⟨b_, rfl, rfl⟩))
    refine ⟨fun a w vs69 hA hS hd => ?_, ?_⟩
    ·skip
     exact opG_of rfl (vv (op_move rfl (hA.ev rfl)) (And.intro rfl rfl))
    refine ⟨fun a w vs69 hA hS hd => ?_, ?_⟩
    ·skip
     obtain ⟨e2, rs2, hy2, hp2⟩ := hd 2 (by decide)
     obtain ⟨b2_, hv2, hr2⟩ := hy2; subst hr2
     rw [hv2] at e2
     have hp2_0 := hp2 _ (List.mem_of_getElem? (i := 0) rfl)
     obtain ⟨e3, rs3, hy3, hp3⟩ := hd 3 (by decide)
     obtain ⟨hv3, hr3⟩ := hy3; subst hr3
     rw [hv3] at e3
     exact opG_of rfl (vv (op_appendZ rfl un_23 el_3 (tmp_ev (slot_ev e2 rfl)) (tmp_ev (slot_ev e3 rfl)) (hS.sk 3 rfl) (Nat.eq_zero_of_not_pos hb39)) (And.intro hv2.symm rfl))
    refine ⟨fun a w vs69 hA hS hd => ?_, ?_⟩
    ·skip
     exact opG_of rfl (vv (op_move rfl (hA.ev rfl)) (And.intro rfl rfl))
    refine ⟨fun a w vs69 hA hS hd => ?_, ?_⟩
    ·skip
     obtain ⟨e5, rs5, hy5, hp5⟩ := hd 5 (by decide)
     obtain ⟨hv5, hr5⟩ := hy5; subst hr5
     rw [hv5] at e5
     exact opG_of rfl (vblt rfl (pv1 (tmp_ev (slot_ev e5 rfl))) un_23 ty_3 ze_3 (by decide) (cs := [(Value.int .i64 (k : Int))]) (bs_3_1_0i _) rfl (by decide) (fun _ => And.intro trivial rfl))
    refine ⟨fun a w vs69 hA hS hd => ?_, ?_⟩
    ·skip
     obtain ⟨e2, rs2, hy2, hp2⟩ := hd 2 (by decide)
     obtain ⟨b2_, hv2, hr2⟩ := hy2; subst hr2
     rw [hv2] at e2
     have hp2_0 := hp2 _ (List.mem_of_getElem? (i := 0) rfl)
     obtain ⟨e4, rs4, hy4, hp4⟩ := hd 4 (by decide)
     obtain ⟨hv4, hr4⟩ := hy4; subst hr4
     rw [hv4, hv2] at e4
     obtain ⟨e6, rs6, hy6, hp6⟩ := hd 6 (by decide)
     obtain ⟨hv6, hr6⟩ := hy6; subst hr6
     have hp6_0 := hp6 _ (List.mem_of_getElem? (i := 0) rfl)
     exact opG_of rfl (vap0 (op_append0 rfl un_23 el_3 (tmp_ev (slot_ev e4 rfl)) (tmp_ev (slot_ev e6 rfl)) (SlAt.of_row hp6_0) rfl (by simp only [maxLen]; omega) (by omega) (by omega)) (fun _ => And.intro trivial rfl))
    refine ⟨fun a w vs69 hA hS hd => ?_, ?_⟩
    ·skip
     exact opG_of rfl (vv (op_move rfl (hA.ev rfl)) (And.intro rfl rfl))
    refine ⟨fun a w vs69 hA hS hd => ?_, ?_⟩
    ·skip
     obtain ⟨e8, rs8, hy8, hp8⟩ := hd 8 (by decide)
     obtain ⟨hv8, hr8⟩ := hy8; subst hr8
     rw [hv8] at e8
     exact opG_of rfl (vv (op_add rfl (tmp_ev (slot_ev e8 rfl)) (evc _ _) (by omega) (by omega)) (And.intro rfl rfl))
    refine ⟨fun a w vs69 hA hS hd => ?_, ?_⟩
    ·skip
     exact opG_of rfl (vv (op_move rfl (hA.ev rfl)) (And.intro rfl rfl))
    refine ⟨fun a w vs69 hA hS hd => ?_, ?_⟩
    ·skip
     obtain ⟨e10, rs10, hy10, hp10⟩ := hd 10 (by decide)
     obtain ⟨hv10, hr10⟩ := hy10; subst hr10
     rw [hv10] at e10
     exact opG_of rfl (vv (op_sub rfl (tmp_ev (slot_ev e10 rfl)) (evc _ _) (by omega) (by omega)) (And.intro rfl rfl))
    refine ⟨fun a w vs69 hA hS hd => ?_, ?_⟩
    ·skip
     obtain ⟨e1, rs1, hy1, hp1⟩ := hd 1 (by decide)
     obtain ⟨hv1, hr1⟩ := hy1; subst hr1
     rw [hv1] at e1
     obtain ⟨e7, rs7, hy7, hp7⟩ := hd 7 (by decide)
     obtain ⟨hv7, hr7⟩ := hy7; subst hr7
     have hp7_0 := hp7 _ (List.mem_of_getElem? (i := 0) rfl)
     obtain ⟨e9, rs9, hy9, hp9⟩ := hd 9 (by decide)
     obtain ⟨hv9, hr9⟩ := hy9; subst hr9
     rw [hv9] at e9
     obtain ⟨e11, rs11, hy11, hp11⟩ := hd 11 (by decide)
     obtain ⟨hv11, hr11⟩ := hy11; subst hr11
     rw [hv11] at e11
     exact opG_of rfl (vn (op_call rfl en_80 (ev4 (tmp_ev (slot_ev e1 rfl)) (tmp_ev (slot_ev e7 rfl)) (tmp_ev (slot_ev e9 rfl)) (tmp_ev (slot_ev e11 rfl))) (by have hz := ih (l ++ [(k : Int)]) (k + 1) _ _ (rnd_at (hS.ok 4 _ rfl)) ((SlAt.of_row hp7_0).tell (by rw [List.eq_nil_of_length_eq_zero (Nat.eq_zero_of_not_pos hb39)]; rfl) (by rw [List.eq_nil_of_length_eq_zero (Nat.eq_zero_of_not_pos hb39)]; rfl)) (by simp; omega); rw [show ((m : Int) + 1) - 1 = (m : Int) by omega]; exact hz)) (fun v w' h => by obtain ⟨ov, hT⟩ := h; exact ⟨_, ⟨ov, trivial, rfl⟩, hT, rfl⟩))
    trivial
   intro a70 w71 vs69 rsf75 hA72 hH74 hS73; clear hA68 hS25
   obtain ⟨hs_0, hy_0⟩ := hH74 0 (by decide)
   obtain ⟨hv_0, hr_0⟩ := hy_0
   obtain ⟨hs_1, hy_1⟩ := hH74 1 (by decide)
   obtain ⟨hv_1, hr_1⟩ := hy_1
   obtain ⟨hs_2, hy_2⟩ := hH74 2 (by decide)
   obtain ⟨b2_, hv_2, hr_2⟩ := hy_2
   obtain ⟨hs_3, hy_3⟩ := hH74 3 (by decide)
   obtain ⟨hv_3, hr_3⟩ := hy_3
   obtain ⟨hs_4, hy_4⟩ := hH74 4 (by decide)
   obtain ⟨hv_4, hr_4⟩ := hy_4
   obtain ⟨hs_5, hy_5⟩ := hH74 5 (by decide)
   obtain ⟨hv_5, hr_5⟩ := hy_5
   obtain ⟨hs_6, hy_6⟩ := hH74 6 (by decide)
   obtain ⟨hv_6, hr_6⟩ := hy_6
   obtain ⟨hs_7, hy_7⟩ := hH74 7 (by decide)
   obtain ⟨hv_7, hr_7⟩ := hy_7
   obtain ⟨hs_8, hy_8⟩ := hH74 8 (by decide)
   obtain ⟨hv_8, hr_8⟩ := hy_8
   obtain ⟨hs_9, hy_9⟩ := hH74 9 (by decide)
   obtain ⟨hv_9, hr_9⟩ := hy_9
   obtain ⟨hs_10, hy_10⟩ := hH74 10 (by decide)
   obtain ⟨hv_10, hr_10⟩ := hy_10
   obtain ⟨hs_11, hy_11⟩ := hH74 11 (by decide)
   obtain ⟨hv_11, hr_11⟩ := hy_11
   obtain ⟨hs_12, hy_12⟩ := hH74 12 (by decide)
   obtain ⟨ov12_, hv_12, hr_12⟩ := hy_12
   have hS76 : Sep NoB w w71 [(blk b2_ 3 []), (row (vs69 6) 3 1 1 [(Value.int .i64 (k : Int))]), (row (vs69 7) 3 1 1 [(Value.int .i64 (k : Int))]), (row (vs69 12) 23 1 ov12_.length ov12_), (lstR ov12_ (setsF d.tols.length m (l ++ [(k : Int)]) (k + 1))), (lstR ov_ (setsUpto d.tols.length m l next k)), (row v9_ 23 1 ov_.length ov_), (blk b4 26 [rl, rs, (Value.int .i64 d.spread), rb]), (sl xl 1 l.length (ints l)), (rndR false rl rs rb rlv d)] := by rw [show catR rsf75 0 13 = ([(blk b2_ 3 []), (row (vs69 6) 3 1 1 [(Value.int .i64 (k : Int))]), (row (vs69 7) 3 1 1 [(Value.int .i64 (k : Int))]), (row (vs69 12) 23 1 ov12_.length ov12_), (lstR ov12_ (setsF d.tols.length m (l ++ [(k : Int)]) (k + 1)))] : List Res) by (try simp only [catR, hr_0, hr_1, hr_2, hr_3, hr_4, hr_5, hr_6, hr_7, hr_8, hr_9, hr_10, hr_11, hr_12]); (try rfl)] at hS73; exact hS73
   rw [hv_0] at hs_0
   have hA77 : Fr 40 [] [(25, v9_), (10, (Value.int .i64 (k : Int))), (9, v9_), (4, (bptr b4 0)), (1, xl), (3, (Value.int .i64 ((m : Int) + 1)))] a70 := hA72.add (slot_ev hs_0 rfl); clear hA72
   have hA78 : Fr 40 [] [(37, (vs69 12)), (25, v9_), (10, (Value.int .i64 (k : Int))), (9, v9_), (4, (bptr b4 0)), (1, xl), (3, (Value.int .i64 ((m : Int) + 1)))] a70 := hA77.add (slot_ev hs_12 rfl); clear hA77
   clear hH74 hS73 hs_0 hs_1 hs_2 hs_3 hs_4 hs_5 hs_6 hs_7 hs_8 hs_9 hs_10 hs_11 hs_12
   clear hr_0
   clear hv_0
   clear hr_1
   clear hv_1
   clear hr_2
   clear hv_2
   clear hr_3
   clear hv_3
   clear hr_4
   clear hv_4
   clear hr_5
   clear hv_5
   clear hr_6
   clear hv_6
   clear hr_7
   clear hv_7
   clear hr_8
   clear hv_8
   clear hr_9
   clear hv_9
   clear hr_10
   clear hv_10
   clear hr_11
   clear hv_11
   clear hr_12
   clear hv_12
   have hol2 := hS76.lst_len 4 rfl
   refine stw hA78 (op_append hS76 rfl un_51 el_23 (hA78.ev rfl) (hA78.ev rfl) (i := 6) rfl (SlAt.of_row (hS76.ok_row 3 rfl)) (lst_one (hS76.ok 4 _ rfl)) (by simp only [maxLen]; omega) (by omega)) rfl rfl (by decide) ?_
   intro a79 v82 w81 hS83 hA80
   have hS84 := hS83.row_say (i := 6) rfl (n' := (ov_ ++ ov12_).length) (xs' := (ov_ ++ ov12_)) (by simp) rfl; clear hS83 hA78 hS76 a70
   refine st hA80 (op_assign rfl (hA80.ev rfl)) rfl rfl (by decide) fun a85 hA86 => ?_; clear hA80 a79
   refine wl_nil ?_
   refine blk_n ?_
   refine then_n ?_
   refine c_region ?_
   refine st hA86 (op_move rfl (hA86.ev rfl)) rfl rfl (by decide) fun a87 hA88 => ?_; clear hA86 a85
   refine st hA88 (op_add rfl (hA88.ev rfl) (evc _ _) (by omega) (by omega)) rfl rfl (by decide) fun a89 hA90 => ?_; clear hA88 a87
   refine st hA90 (op_assign rfl (hA90.ev rfl)) rfl rfl (by decide) fun a91 hA92 => ?_; clear hA90 a89
   refine wl_nil ?_
   have hS93 : Sep NoB w w81 [(lstR ov_ (setsUpto d.tols.length m l next k)), (lstR ov12_ (setsF d.tols.length m (l ++ [(k : Int)]) (k + 1))), (blk b2_ 3 []), (row (vs69 6) 3 1 1 [(Value.int .i64 (k : Int))]), (row (vs69 7) 3 1 1 [(Value.int .i64 (k : Int))]), (row (vs69 12) 23 1 ov12_.length ov12_), (row v82 23 1 ((ov_ ++ ov12_).length) (ov_ ++ ov12_)), (blk b4 26 [rl, rs, (Value.int .i64 d.spread), rb]), (sl xl 1 l.length (ints l)), (rndR false rl rs rb rlv d)] := hS84.keep [5, 4, 0, 1, 2, 3, 6, 7, 8, 9] (by decide) _ rfl rfl; clear hS84
   have hS94 := hS93.lst_app; clear hS93
   have hS95 : Sep NoB w w81 [(lstR (ov_ ++ ov12_) ((setsUpto d.tols.length m l next k) ++ (setsF d.tols.length m (l ++ [(k : Int)]) (k + 1)))), (row v82 23 1 ((ov_ ++ ov12_).length) (ov_ ++ ov12_)), (blk b4 26 [rl, rs, (Value.int .i64 d.spread), rb]), (sl xl 1 l.length (ints l)), (rndR false rl rs rb rlv d)] := hS94.keep [0, 5, 6, 7, 8] (by decide) _ rfl rfl; clear hS94
   exact then_n ⟨k + 1, ⟨(ov_ ++ ov12_), v82, hA92.as _ rfl, (hS95.lst_say (i := 0) rfl (by rw [setsUpto_succ _ _ _ _ _ hk1])), by omega, by omega⟩, by omega⟩
 ·skip
  rw [decide_eq_false hb36] at hA35
  refine c_false hA35 rfl ?_
  refine c_exit ?_
  refine then_exit ?_
  refine then_exit ?_
  refine blk_hit ?_
  refine then_n ?_
  refine c_seq ?_
  have hA96 := hA35.as [(9, v9_)] rfl; clear hA35
  refine c_region ?_
  refine st hA96 (op_move rfl (hA96.ev rfl)) rfl rfl (by decide) fun a97 hA98 => ?_; clear hA96 a34
  refine st hA98 (op_assign rfl (hA98.ev rfl)) rfl rfl (by decide) fun a99 hA100 => ?_; clear hA98 a97
  refine wl_nil ?_
  refine then_n ?_
  refine c_ret ?_
  refine fin_run hA100 (.inl rfl) (run_results1 hA100 rfl (.tmp rfl)) ?_
  rw [← setsUpto_all d.tols.length m l next k hk2 (by omega)]
  exact ⟨_, hS25.keep [1, 0] (by decide) _ rfl rfl⟩

theorem sets_ok (rl rs rb : Value) (rlv : List Value) (d : RD) (hnb : d.tols.length ≤ 6) : ∀ (m : Nat) (_ : m ≤ 6) (l : List Int) (next : Nat) (xl : Value) (w : World) (hR : RoundAt w rl rs rb rlv d) (hx : SlAt w xl 1 l.length (ints l)) (hll : l.length + m ≤ 1000), Calls Try.prog 80 #[.agg #[rl, rs, .int .i64 d.spread, rb], xl, .int .i64 (next : Int), .int .i64 (m : Int)] w (Ret fun v w' => ∃ ov, Sep NoB w w' [row v 23 1 ov.length ov, lstR ov (setsF d.tols.length m l next)]) := by
 intro m
 induction m with
 | zero => intro hm l next xl w hR hx hll; exact sets_zero rl rs rb rlv d w hR xl l next hx hnb hm hll
 | succ m ih => intro hm l next xl w hR hx hll; exact sets_succ rl rs rb rlv d w hR m (ih (by omega)) xl l next hx hnb hm hll

set_option maxHeartbeats 4000000 in
theorem Sets_ok (rl rs rb : Value) (rlv : List Value) (d : RD) (w : World) (hR : RoundAt w rl rs rb rlv d) (hnb : d.tols.length ≤ 6) :
  Calls Try.prog 59 #[(Value.agg #[rl, rs, (Value.int .i64 d.spread), rb])] w (Ret fun v w' => ∃ ov, Sep NoB w w' [row v 23 1 ov.length ov, lstR ov (allF d.tols.length)]) := by
 refine calls_enter Try.func59 rfl fun a0 hA0 => ?_
 replace hA0 : Fr 18 [] [(0, (Value.agg #[rl, rs, (Value.int .i64 d.spread), rb]))] a0 := hA0
 have hS0 : Sep NoB w w [(rndR false rl rs rb rlv d)] := sep_ro ⟨rfl, hR, trivial⟩
 refine c_seq ?_
 refine c_region ?_
 refine stw hA0 (op_box hS0 rfl (hA0.ev rfl) (cs := [rl, rs, (Value.int .i64 d.spread), rb]) rfl) rfl rfl (by decide) ?_
 rintro a1 _ w3 ⟨b4, rfl, hS5⟩ hA2; clear hA0 hS0 a0
 refine st hA2 (op_assign rfl (evc _ _)) rfl rfl (by decide) fun a6 hA7 => ?_; clear hA2 a1
 refine wl_nil ?_
 refine then_n ?_
 refine c_seq ?_
 refine c_region ?_
 refine st hA7 (op_assign rfl (evc _ _)) rfl rfl (by decide) fun a8 hA9 => ?_; clear hA7 a6
 have hS10 := hS5.nil_row 23 1; clear hS5
 refine wl_nil ?_
 refine then_n ?_
 refine c_seq ?_
 refine c_seq ?_
 refine c_region ?_
 refine st hA9 (op_assign rfl (evc _ _)) rfl rfl (by decide) fun a11 hA12 => ?_; clear hA9 a8
 refine wl_nil ?_
 refine then_n ?_
 refine c_block ?_
 have hS13 := hS10.lst_nil; clear hS10
 have hA14 := hA12.as [(4, (Value.int .i64 0)), (3, (Value.slice none 0 0)), (1, (bptr b4 0))] rfl; clear hA12
 refine c_loop (G := Nat) (fun (k : Nat) a_ w_ => ∃ ov_ : List Value, ∃ v3_ : Value, Fr 18 [] [(4, (Value.int .i64 (k : Int))), (3, v3_), (1, (bptr b4 0))] a_ ∧ Sep NoB w w_ [(lstR ov_ (allUpto d.tols.length k)), (row v3_ 23 1 ov_.length ov_), (blk b4 26 [rl, rs, (Value.int .i64 d.spread), rb]), (rndR false rl rs rb rlv d)] ∧ (k ≤ d.tols.length + 1)) (fun k => d.tols.length + 1 - k) 0 ⟨[], (Value.slice none 0 0), hA14.as _ rfl, (hS13.lst_say (i := 0) rfl rfl), by omega⟩ ?_
 clear hA14 hS13 a11
 rintro k a15 w17 ⟨ov_, v3_, hA16, hS18, hk1⟩
 have hol := hS18.lst_len 0 rfl; have hal := allUpto_len d.tols.length hnb k (by omega)
 refine c_seq ?_
 refine c_seq ?_
 refine c_region ?_
 refine st hA16 (op_move rfl (hA16.ev rfl)) rfl rfl (by decide) fun a19 hA20 => ?_; clear hA16 a15
 refine st hA20 (op_field rfl fd_26_3 (hA20.ev rfl)) rfl rfl (by decide) fun a21 hA22 => ?_; clear hA20 a19
 refine st hA22 (op_load1 rfl ty_24 (hA22.ev rfl) (hS18.bk 2 rfl) rfl) rfl rfl (by decide) fun a23 hA24 => ?_; clear hA22 a21
 refine st hA24 (op_lenS rfl un_24 (hA24.ev rfl) (rnd_at (hS18.ok 3 _ rfl)).labs) rfl rfl (by decide) fun a25 hA26 => ?_; clear hA24 a23
 refine st hA26 (op_leq rfl (hA26.ev rfl) (hA26.ev rfl)) rfl rfl (by decide) fun a27 hA28 => ?_; clear hA26 a25
 refine wl_nil ?_
 refine then_n ?_
 by_cases hb29 : (k : Int) ≤ (d.tols.length : Int)
 ·skip
  rw [decide_eq_true hb29] at hA28
  refine c_true hA28 rfl ?_
  refine c_skip ?_
  refine then_n ?_
  refine c_seq ?_
  refine c_block ?_
  refine c_region ?_
  refine st hA28 (op_move rfl (hA28.ev rfl)) rfl rfl (by decide) fun a30 hA31 => ?_; clear hA28 a27
  refine st hA31 (op_loadA rfl ty_26 (hA31.ev rfl) (hS18.bk 2 rfl) (l := [rl, rs, (Value.int .i64 d.spread), rb]) rfl rfl) rfl rfl (by decide) fun a32 hA33 => ?_; clear hA31 a30
  refine st hA33 (op_move rfl (hA33.ev rfl)) rfl rfl (by decide) fun a34 hA35 => ?_; clear hA33 a32
  refine stw hA35 (op_call rfl en_80 (ev4 (hA35.ev rfl) (evc _ _) (evc _ _) (hA35.ev rfl)) (sets_ok rl rs rb rlv d hnb k (by omega) [] 0 _ _ (rnd_at (hS18.ok 3 _ rfl)) (slAt_nil _ 1) (by simp only [List.length_nil]; omega))) rfl rfl (by decide) ?_
  rintro a36 v39 w38 ⟨ov40, hT41⟩ hA37; have hS42 := hS18.callS hT41 rfl; clear hT41 hA35 hS18 a34
  have hol_ov40 := hS42.lst_len 1 rfl; have hsm := setsF_small d.tols.length hnb k (by omega) [] 0
  refine stw hA37 (op_append hS42 rfl un_51 el_23 (hA37.ev rfl) (hA37.ev rfl) (i := 3) rfl (SlAt.of_row (hS42.ok_row 0 rfl)) (lst_one (hS42.ok 1 _ rfl)) (by simp only [maxLen]; omega) (by omega)) rfl rfl (by decide) ?_
  intro a43 v46 w45 hS47 hA44
  have hS48 := hS47.row_say (i := 3) rfl (n' := (ov_ ++ ov40).length) (xs' := (ov_ ++ ov40)) (by simp) rfl; clear hS47 hA37 hS42 a36
  refine st hA44 (op_assign rfl (hA44.ev rfl)) rfl rfl (by decide) fun a49 hA50 => ?_; clear hA44 a43
  refine wl_nil ?_
  refine blk_n ?_
  refine then_n ?_
  have hA51 := hA50.as [(3, v46), (4, (Value.int .i64 (k : Int))), (1, (bptr b4 0))] rfl; clear hA50
  refine c_region ?_
  refine st hA51 (op_move rfl (hA51.ev rfl)) rfl rfl (by decide) fun a52 hA53 => ?_; clear hA51 a49
  refine st hA53 (op_add rfl (hA53.ev rfl) (evc _ _) (by omega) (by omega)) rfl rfl (by decide) fun a54 hA55 => ?_; clear hA53 a52
  refine st hA55 (op_assign rfl (hA55.ev rfl)) rfl rfl (by decide) fun a56 hA57 => ?_; clear hA55 a54
  refine wl_nil ?_
  have hS58 : Sep NoB w w45 [(lstR ov_ (allUpto d.tols.length k)), (lstR ov40 (setsF d.tols.length k [] 0)), (row v39 23 1 ov40.length ov40), (row v46 23 1 ((ov_ ++ ov40).length) (ov_ ++ ov40)), (blk b4 26 [rl, rs, (Value.int .i64 d.spread), rb]), (rndR false rl rs rb rlv d)] := hS48.keep [2, 1, 0, 3, 4, 5] (by decide) _ rfl rfl; clear hS48
  have hS59 := hS58.lst_app; clear hS58
  have hS60 : Sep NoB w w45 [(lstR (ov_ ++ ov40) ((allUpto d.tols.length k) ++ (setsF d.tols.length k [] 0))), (row v46 23 1 ((ov_ ++ ov40).length) (ov_ ++ ov40)), (blk b4 26 [rl, rs, (Value.int .i64 d.spread), rb]), (rndR false rl rs rb rlv d)] := hS59.keep [0, 2, 3, 4] (by decide) _ rfl rfl; clear hS59
  exact then_n ⟨k + 1, ⟨(ov_ ++ ov40), v46, hA57.as _ rfl, (hS60.lst_say (i := 0) rfl (by rw [allUpto_succ])), by omega⟩, by omega⟩
 ·skip
  rw [decide_eq_false hb29] at hA28
  refine c_false hA28 rfl ?_
  refine c_exit ?_
  refine then_exit ?_
  refine then_exit ?_
  refine blk_hit ?_
  refine then_n ?_
  refine c_seq ?_
  have hA61 := hA28.as [(3, v3_)] rfl; clear hA28
  refine c_region ?_
  refine st hA61 (op_move rfl (hA61.ev rfl)) rfl rfl (by decide) fun a62 hA63 => ?_; clear hA61 a27
  refine st hA63 (op_assign rfl (hA63.ev rfl)) rfl rfl (by decide) fun a64 hA65 => ?_; clear hA63 a62
  refine wl_nil ?_
  refine then_n ?_
  refine c_ret ?_
  refine fin_run hA65 (.inl rfl) (run_results1 hA65 rfl (.tmp rfl)) ?_
  obtain rfl : k = d.tols.length + 1 := by omega
  exact ⟨_, hS18.keep [1, 0] (by decide) _ rfl rfl⟩

set_option maxHeartbeats 4000000 in
theorem Fewest_ok (rl rs rb : Value) (rlv : List Value) (d : RD) (w : World) (hR : RoundAt w rl rs rb rlv d) (hV : Valid d) :
  Calls Try.prog 31 #[(Value.agg #[rl, rs, (Value.int .i64 d.spread), rb])] w (Ret fun v w' => ∃ ov, Sep NoB w w' [row v 23 1 ov.length ov, lstR ov (fewestF d)]) := by
 refine calls_enter Try.func31 rfl fun a0 hA0 => ?_
 replace hA0 : Fr 45 [] [(0, (Value.agg #[rl, rs, (Value.int .i64 d.spread), rb]))] a0 := hA0
 have hnb := hV.nb
 have hS0 : Sep NoB w w [(rndR false rl rs rb rlv d)] := sep_ro ⟨rfl, hR, trivial⟩
 refine c_seq ?_
 refine c_region ?_
 refine stw hA0 (op_box hS0 rfl (hA0.ev rfl) (cs := [rl, rs, (Value.int .i64 d.spread), rb]) rfl) rfl rfl (by decide) ?_
 rintro a1 _ w3 ⟨b4, rfl, hS5⟩ hA2; clear hA0 hS0 a0
 refine st hA2 (op_assign rfl (evc _ _)) rfl rfl (by decide) fun a6 hA7 => ?_; clear hA2 a1
 refine wl_nil ?_
 refine then_n ?_
 refine c_seq ?_
 refine c_region ?_
 refine st hA7 (op_assign rfl (evc _ _)) rfl rfl (by decide) fun a8 hA9 => ?_; clear hA7 a6
 have hS10 := hS5.nil_row 23 1; clear hS5
 refine wl_nil ?_
 refine then_n ?_
 refine c_seq ?_
 refine c_region ?_
 refine st hA9 (op_loadA rfl ty_26 (hA9.ev rfl) (hS10.bk 1 rfl) (l := [rl, rs, (Value.int .i64 d.spread), rb]) rfl rfl) rfl rfl (by decide) fun a11 hA12 => ?_; clear hA9 a8
 refine stw hA12 (op_call rfl en_59 (ev1 (hA12.ev rfl)) (Sets_ok rl rs rb rlv d _ (rnd_at (hS10.ok 2 _ rfl)) hV.nb)) rfl rfl (by decide) ?_
 rintro a13 v16 w15 ⟨ov17, hT18⟩ hA14; have hS19 := hS10.callS hT18 rfl; clear hT18 hA12 hS10 a11
 have hola := hS19.lst_len 1 rfl; have hal := allUpto_len d.tols.length hV.nb (d.tols.length + 1) (by have := hV.nb; omega); rw [show allUpto d.tols.length (d.tols.length + 1) = (allF d.tols.length) from rfl] at hal
 refine st hA14 (op_assign rfl (hA14.ev rfl)) rfl rfl (by decide) fun a20 hA21 => ?_; clear hA14 a13
 refine wl_nil ?_
 refine then_n ?_
 refine c_seq ?_
 refine c_seq ?_
 refine c_region ?_
 refine st hA21 (op_assign rfl (evc _ _)) rfl rfl (by decide) fun a22 hA23 => ?_; clear hA21 a20
 refine wl_nil ?_
 refine then_n ?_
 refine c_block ?_
 have hA24 := hA23.as [(5, (Value.int .i64 0)), (4, v16), (3, (Value.slice none 0 0)), (1, (bptr b4 0))] rfl; clear hA23
 refine c_loop (G := Nat) (fun (k : Nat) a_ w_ => ∃ v3_ : Value, Fr 45 [] [(5, (Value.int .i64 (k : Int))), (4, v16), (3, v3_), (1, (bptr b4 0))] a_ ∧ Sep NoB w w_ [(row v16 23 1 ov17.length ov17), (lstR ov17 (allF d.tols.length)), (row v3_ 23 1 ((selUpto d (allF d.tols.length) k).length) ((selUpto d (allF d.tols.length) k).map fun i => ov17.getD i nilS)), (blk b4 26 [rl, rs, (Value.int .i64 d.spread), rb]), (rndR false rl rs rb rlv d)] ∧ (k ≤ (allF d.tols.length).length)) (fun k => (allF d.tols.length).length - k) 0 ⟨(Value.slice none 0 0), hA24.as _ rfl, hS19, by omega⟩ ?_
 clear hA24 hS19 a22
 rintro k a25 w27 ⟨v3_, hA26, hS28, hk1⟩
 have hsl := selUpto_len d (allF d.tols.length) k
 refine c_seq ?_
 refine c_seq ?_
 refine c_region ?_
 refine st hA26 (op_move rfl (hA26.ev rfl)) rfl rfl (by decide) fun a29 hA30 => ?_; clear hA26 a25
 refine st hA30 (op_move rfl (hA30.ev rfl)) rfl rfl (by decide) fun a31 hA32 => ?_; clear hA30 a29
 refine st hA32 (op_lenS rfl un_51 (hA32.ev rfl) (SlAt.of_row (hS28.ok_row 0 rfl))) rfl rfl (by decide) fun a33 hA34 => ?_; clear hA32 a31
 refine st hA34 (op_lss rfl (hA34.ev rfl) (hA34.ev rfl)) rfl rfl (by decide) fun a35 hA36 => ?_; clear hA34 a33
 refine wl_nil ?_
 refine then_n ?_
 by_cases hb37 : (k : Int) < (ov17.length : Int)
 ·skip
  rw [decide_eq_true hb37] at hA36
  refine c_true hA36 rfl ?_
  refine c_skip ?_
  refine then_n ?_
  refine c_seq ?_
  refine c_block ?_
  refine c_seq ?_
  have hA38 := hA36.as [(5, (Value.int .i64 (k : Int))), (4, v16), (3, v3_), (1, (bptr b4 0))] rfl; clear hA36
  by_cases hb40 : ((selUpto d (allF d.tols.length) k).length : Int) = 0
  ·skip
   have hA41 := hA38.as [(5, (Value.int .i64 (k : Int))), (4, v16), (3, v3_), (1, (bptr b4 0))] rfl; clear hA38
   refine c_drawV mixed hA41 hS28 21 [[], [0], [1], [2], [3], [3], [3, 4, 5], [3, 6], [3, 7], [3], [3, 9], [3, 10], [3, 11], [3, 8, 12], [3, 13], [14], [15], [15], [15], [15, 17, 18], [15, 19]] [(fun (vs42 : Nat → Value) (v_ : Value) (rs_ : List Res) => v_ = v3_ ∧ rs_ = []), (fun (vs42 : Nat → Value) (v_ : Value) (rs_ : List Res) => v_ = (Value.int .i64 ((selUpto d (allF d.tols.length) k).length : Int)) ∧ rs_ = []), (fun (vs42 : Nat → Value) (v_ : Value) (rs_ : List Res) => v_ = (Value.bool true) ∧ rs_ = []), (fun (vs42 : Nat → Value) (v_ : Value) (rs_ : List Res) => v_ = (Value.bool true) ∧ rs_ = []), (fun (vs42 : Nat → Value) (v_ : Value) (rs_ : List Res) => v_ = undef ∧ rs_ = []), (fun (vs42 : Nat → Value) (v_ : Value) (rs_ : List Res) => v_ = undef ∧ rs_ = []), (fun (vs42 : Nat → Value) (v_ : Value) (rs_ : List Res) => v_ = undef ∧ rs_ = []), (fun (vs42 : Nat → Value) (v_ : Value) (rs_ : List Res) => v_ = undef ∧ rs_ = []), (fun (vs42 : Nat → Value) (v_ : Value) (rs_ : List Res) => v_ = undef ∧ rs_ = []), (fun (vs42 : Nat → Value) (v_ : Value) (rs_ : List Res) => v_ = undef ∧ rs_ = []), (fun (vs42 : Nat → Value) (v_ : Value) (rs_ : List Res) => v_ = undef ∧ rs_ = []), (fun (vs42 : Nat → Value) (v_ : Value) (rs_ : List Res) => v_ = undef ∧ rs_ = []), (fun (vs42 : Nat → Value) (v_ : Value) (rs_ : List Res) => v_ = undef ∧ rs_ = []), (fun (vs42 : Nat → Value) (v_ : Value) (rs_ : List Res) => v_ = undef ∧ rs_ = []), (fun (vs42 : Nat → Value) (v_ : Value) (rs_ : List Res) => v_ = (Value.bool true) ∧ rs_ = []), (fun (vs42 : Nat → Value) (v_ : Value) (rs_ : List Res) => v_ = (Value.bool true) ∧ rs_ = []), (fun (vs42 : Nat → Value) (v_ : Value) (rs_ : List Res) => v_ = (Value.agg #[rl, rs, (Value.int .i64 d.spread), rb]) ∧ rs_ = []), (fun (vs42 : Nat → Value) (v_ : Value) (rs_ : List Res) => v_ = v16 ∧ rs_ = []), (fun (vs42 : Nat → Value) (v_ : Value) (rs_ : List Res) => v_ = (Value.int .i64 (k : Int)) ∧ rs_ = []), (fun (vs42 : Nat → Value) (v_ : Value) (rs_ : List Res) => v_ = (eptr v16 (k * 1)) ∧ rs_ = []), (fun (vs42 : Nat → Value) (v_ : Value) (rs_ : List Res) => v_ = (ov17.getD k nilS) ∧ rs_ = [])] (by decide +kernel) (by decide +kernel) rfl rfl ⟨(fun _ _ _ _ _ h_ => h_), (fun _ _ _ _ _ h_ => h_), (fun _ _ _ _ _ h_ => h_), (fun _ _ _ _ _ h_ => h_), (fun _ _ _ _ _ h_ => h_), (fun _ _ _ _ _ h_ => h_), (fun _ _ _ _ _ h_ => h_), (fun _ _ _ _ _ h_ => h_), (fun _ _ _ _ _ h_ => h_), (fun _ _ _ _ _ h_ => h_), (fun _ _ _ _ _ h_ => h_), (fun _ _ _ _ _ h_ => h_), (fun _ _ _ _ _ h_ => h_), (fun _ _ _ _ _ h_ => h_), (fun _ _ _ _ _ h_ => h_), (fun _ _ _ _ _ h_ => h_), (fun _ _ _ _ _ h_ => h_), (fun _ _ _ _ _ h_ => h_), (fun _ _ _ _ _ h_ => h_), (fun _ _ _ _ _ h_ => h_), (fun _ _ _ _ _ h_ => h_), trivial⟩ ?_ ?_
   ·skip
    refine ⟨fun a w vs42 hA hS hd => ?_, ?_⟩
    ·skip
     exact opG_of rfl (vv (op_move rfl (hA.ev rfl)) (And.intro rfl rfl))
    refine ⟨fun a w vs42 hA hS hd => ?_, ?_⟩
    ·skip
     obtain ⟨e0, rs0, hy0, hp0⟩ := hd 0 (by decide)
     obtain ⟨hv0, hr0⟩ := hy0; subst hr0
     rw [hv0] at e0
     exact opG_of rfl (vv (op_lenS rfl un_51 (tmp_ev (slot_ev e0 rfl)) (SlAt.of_row (hS.ok_row 2 rfl))) (And.intro rfl rfl))
    refine ⟨fun a w vs42 hA hS hd => ?_, ?_⟩
    ·skip
     obtain ⟨e1, rs1, hy1, hp1⟩ := hd 1 (by decide)
     obtain ⟨hv1, hr1⟩ := hy1; subst hr1
     rw [hv1] at e1
     exact opG_of rfl (vv (op_eql rfl (tmp_ev (slot_ev e1 rfl)) (evc _ _)) (And.intro (by show Value.bool _ = _; simp only [decide_eq_true hb40, decide_true, decide_false, Bool.not_true, Bool.not_false]) rfl))
    refine ⟨fun a w vs42 hA hS hd => ?_, ?_⟩
    ·skip
     obtain ⟨e2, rs2, hy2, hp2⟩ := hd 2 (by decide)
     obtain ⟨hv2, hr2⟩ := hy2; subst hr2
     rw [hv2] at e2
     exact opG_of rfl (vv (op_move rfl (tmp_ev (slot_ev e2 rfl))) (And.intro rfl rfl))
    refine ⟨fun a w vs42 hA hS hd => ?_, ?_⟩
    ·skip
     obtain ⟨e3, rs3, hy3, hp3⟩ := hd 3 (by decide)
     obtain ⟨hv3, hr3⟩ := hy3; subst hr3
     rw [hv3] at e3
     exact opG_no rfl rfl (slot_ev e3 rfl) rfl (vskip (And.intro rfl rfl))
    refine ⟨fun a w vs42 hA hS hd => ?_, ?_⟩
    ·skip
     obtain ⟨e3, rs3, hy3, hp3⟩ := hd 3 (by decide)
     obtain ⟨hv3, hr3⟩ := hy3; subst hr3
     rw [hv3] at e3
     exact opG_no rfl rfl (slot_ev e3 rfl) rfl (vskip (And.intro rfl rfl))
    refine ⟨fun a w vs42 hA hS hd => ?_, ?_⟩
    ·skip
     obtain ⟨e3, rs3, hy3, hp3⟩ := hd 3 (by decide)
     obtain ⟨hv3, hr3⟩ := hy3; subst hr3
     rw [hv3] at e3
     obtain ⟨e4, rs4, hy4, hp4⟩ := hd 4 (by decide)
     obtain ⟨hv4, hr4⟩ := hy4; subst hr4
     rw [hv4] at e4
     obtain ⟨e5, rs5, hy5, hp5⟩ := hd 5 (by decide)
     obtain ⟨hv5, hr5⟩ := hy5; subst hr5
     rw [hv5] at e5
     exact opG_no rfl rfl (slot_ev e3 rfl) rfl (vskip (And.intro rfl rfl))
    refine ⟨fun a w vs42 hA hS hd => ?_, ?_⟩
    ·skip
     obtain ⟨e3, rs3, hy3, hp3⟩ := hd 3 (by decide)
     obtain ⟨hv3, hr3⟩ := hy3; subst hr3
     rw [hv3] at e3
     obtain ⟨e6, rs6, hy6, hp6⟩ := hd 6 (by decide)
     obtain ⟨hv6, hr6⟩ := hy6; subst hr6
     rw [hv6] at e6
     exact opG_no rfl rfl (slot_ev e3 rfl) rfl (vskip (And.intro rfl rfl))
    refine ⟨fun a w vs42 hA hS hd => ?_, ?_⟩
    ·skip
     obtain ⟨e3, rs3, hy3, hp3⟩ := hd 3 (by decide)
     obtain ⟨hv3, hr3⟩ := hy3; subst hr3
     rw [hv3] at e3
     obtain ⟨e7, rs7, hy7, hp7⟩ := hd 7 (by decide)
     obtain ⟨hv7, hr7⟩ := hy7; subst hr7
     rw [hv7] at e7
     exact opG_no rfl rfl (slot_ev e3 rfl) rfl (vskip (And.intro rfl rfl))
    refine ⟨fun a w vs42 hA hS hd => ?_, ?_⟩
    ·skip
     obtain ⟨e3, rs3, hy3, hp3⟩ := hd 3 (by decide)
     obtain ⟨hv3, hr3⟩ := hy3; subst hr3
     rw [hv3] at e3
     exact opG_no rfl rfl (slot_ev e3 rfl) rfl (vskip (And.intro rfl rfl))
    refine ⟨fun a w vs42 hA hS hd => ?_, ?_⟩
    ·skip
     obtain ⟨e3, rs3, hy3, hp3⟩ := hd 3 (by decide)
     obtain ⟨hv3, hr3⟩ := hy3; subst hr3
     rw [hv3] at e3
     obtain ⟨e9, rs9, hy9, hp9⟩ := hd 9 (by decide)
     obtain ⟨hv9, hr9⟩ := hy9; subst hr9
     rw [hv9] at e9
     exact opG_no rfl rfl (slot_ev e3 rfl) rfl (vskip (And.intro rfl rfl))
    refine ⟨fun a w vs42 hA hS hd => ?_, ?_⟩
    ·skip
     obtain ⟨e3, rs3, hy3, hp3⟩ := hd 3 (by decide)
     obtain ⟨hv3, hr3⟩ := hy3; subst hr3
     rw [hv3] at e3
     obtain ⟨e10, rs10, hy10, hp10⟩ := hd 10 (by decide)
     obtain ⟨hv10, hr10⟩ := hy10; subst hr10
     rw [hv10] at e10
     exact opG_no rfl rfl (slot_ev e3 rfl) rfl (vskip (And.intro rfl rfl))
    refine ⟨fun a w vs42 hA hS hd => ?_, ?_⟩
    ·skip
     obtain ⟨e3, rs3, hy3, hp3⟩ := hd 3 (by decide)
     obtain ⟨hv3, hr3⟩ := hy3; subst hr3
     rw [hv3] at e3
     obtain ⟨e11, rs11, hy11, hp11⟩ := hd 11 (by decide)
     obtain ⟨hv11, hr11⟩ := hy11; subst hr11
     rw [hv11] at e11
     exact opG_no rfl rfl (slot_ev e3 rfl) rfl (vskip (And.intro rfl rfl))
    refine ⟨fun a w vs42 hA hS hd => ?_, ?_⟩
    ·skip
     obtain ⟨e3, rs3, hy3, hp3⟩ := hd 3 (by decide)
     obtain ⟨hv3, hr3⟩ := hy3; subst hr3
     rw [hv3] at e3
     obtain ⟨e8, rs8, hy8, hp8⟩ := hd 8 (by decide)
     obtain ⟨hv8, hr8⟩ := hy8; subst hr8
     rw [hv8] at e8
     obtain ⟨e12, rs12, hy12, hp12⟩ := hd 12 (by decide)
     obtain ⟨hv12, hr12⟩ := hy12; subst hr12
     rw [hv12] at e12
     exact opG_no rfl rfl (slot_ev e3 rfl) rfl (vskip (And.intro rfl rfl))
    refine ⟨fun a w vs42 hA hS hd => ?_, ?_⟩
    ·skip
     obtain ⟨e3, rs3, hy3, hp3⟩ := hd 3 (by decide)
     obtain ⟨hv3, hr3⟩ := hy3; subst hr3
     rw [hv3] at e3
     obtain ⟨e13, rs13, hy13, hp13⟩ := hd 13 (by decide)
     obtain ⟨hv13, hr13⟩ := hy13; subst hr13
     rw [hv13] at e13
     exact opG_of rfl (vv (op_pick_t rfl (tmp_ev (slot_ev e3 rfl)) (evc _ _)) (And.intro rfl rfl))
    refine ⟨fun a w vs42 hA hS hd => ?_, ?_⟩
    ·skip
     obtain ⟨e14, rs14, hy14, hp14⟩ := hd 14 (by decide)
     obtain ⟨hv14, hr14⟩ := hy14; subst hr14
     rw [hv14] at e14
     exact opG_of rfl (vv (op_move rfl (tmp_ev (slot_ev e14 rfl))) (And.intro rfl rfl))
    refine ⟨fun a w vs42 hA hS hd => ?_, ?_⟩
    ·skip
     obtain ⟨e15, rs15, hy15, hp15⟩ := hd 15 (by decide)
     obtain ⟨hv15, hr15⟩ := hy15; subst hr15
     rw [hv15] at e15
     exact opG_yes rfl rfl (slot_ev e15 rfl) (vv (op_loadA rfl ty_26 (hA.ev rfl) (hS.bk 3 rfl) (l := [rl, rs, (Value.int .i64 d.spread), rb]) rfl rfl) (And.intro rfl rfl))
    refine ⟨fun a w vs42 hA hS hd => ?_, ?_⟩
    ·skip
     obtain ⟨e15, rs15, hy15, hp15⟩ := hd 15 (by decide)
     obtain ⟨hv15, hr15⟩ := hy15; subst hr15
     rw [hv15] at e15
     exact opG_yes rfl rfl (slot_ev e15 rfl) (vv (op_move rfl (hA.ev rfl)) (And.intro rfl rfl))
    refine ⟨fun a w vs42 hA hS hd => ?_, ?_⟩
    ·skip
     obtain ⟨e15, rs15, hy15, hp15⟩ := hd 15 (by decide)
     obtain ⟨hv15, hr15⟩ := hy15; subst hr15
     rw [hv15] at e15
     exact opG_yes rfl rfl (slot_ev e15 rfl) (vv (op_move rfl (hA.ev rfl)) (And.intro rfl rfl))
    refine ⟨fun a w vs42 hA hS hd => ?_, ?_⟩
    ·skip
     obtain ⟨e15, rs15, hy15, hp15⟩ := hd 15 (by decide)
     obtain ⟨hv15, hr15⟩ := hy15; subst hr15
     rw [hv15] at e15
     obtain ⟨e17, rs17, hy17, hp17⟩ := hd 17 (by decide)
     obtain ⟨hv17, hr17⟩ := hy17; subst hr17
     rw [hv17] at e17
     obtain ⟨e18, rs18, hy18, hp18⟩ := hd 18 (by decide)
     obtain ⟨hv18, hr18⟩ := hy18; subst hr18
     rw [hv18] at e18
     exact opG_yes rfl rfl (slot_ev e15 rfl) (vv (op_indexS rfl un_51 ty_23 (tmp_ev (slot_ev e17 rfl)) (i := k) (tmp_ev (slot_ev e18 rfl)) (SlAt.of_row (hS.ok_row 0 rfl)) (by decide) (by omega)) (And.intro rfl rfl))
    refine ⟨fun a w vs42 hA hS hd => ?_, ?_⟩
    ·skip
     obtain ⟨e15, rs15, hy15, hp15⟩ := hd 15 (by decide)
     obtain ⟨hv15, hr15⟩ := hy15; subst hr15
     rw [hv15] at e15
     obtain ⟨e19, rs19, hy19, hp19⟩ := hd 19 (by decide)
     obtain ⟨hv19, hr19⟩ := hy19; subst hr19
     rw [hv19] at e19
     exact opG_yes rfl rfl (slot_ev e15 rfl) (vv (op_load1E rfl ty_23 (tmp_ev (slot_ev e19 rfl)) (SlAt.of_row (hS.ok_row 0 rfl)) (vals_at (by omega))) (And.intro rfl rfl))
    trivial
   intro a43 w44 vs42 rsf48 hA45 hH47 hS46; clear hA41 hS28
   obtain ⟨hs_0, hy_0⟩ := hH47 0 (by decide)
   obtain ⟨hv_0, hr_0⟩ := hy_0
   obtain ⟨hs_1, hy_1⟩ := hH47 1 (by decide)
   obtain ⟨hv_1, hr_1⟩ := hy_1
   obtain ⟨hs_2, hy_2⟩ := hH47 2 (by decide)
   obtain ⟨hv_2, hr_2⟩ := hy_2
   obtain ⟨hs_3, hy_3⟩ := hH47 3 (by decide)
   obtain ⟨hv_3, hr_3⟩ := hy_3
   obtain ⟨hs_4, hy_4⟩ := hH47 4 (by decide)
   obtain ⟨hv_4, hr_4⟩ := hy_4
   obtain ⟨hs_5, hy_5⟩ := hH47 5 (by decide)
   obtain ⟨hv_5, hr_5⟩ := hy_5
   obtain ⟨hs_6, hy_6⟩ := hH47 6 (by decide)
   obtain ⟨hv_6, hr_6⟩ := hy_6
   obtain ⟨hs_7, hy_7⟩ := hH47 7 (by decide)
   obtain ⟨hv_7, hr_7⟩ := hy_7
   obtain ⟨hs_8, hy_8⟩ := hH47 8 (by decide)
   obtain ⟨hv_8, hr_8⟩ := hy_8
   obtain ⟨hs_9, hy_9⟩ := hH47 9 (by decide)
   obtain ⟨hv_9, hr_9⟩ := hy_9
   obtain ⟨hs_10, hy_10⟩ := hH47 10 (by decide)
   obtain ⟨hv_10, hr_10⟩ := hy_10
   obtain ⟨hs_11, hy_11⟩ := hH47 11 (by decide)
   obtain ⟨hv_11, hr_11⟩ := hy_11
   obtain ⟨hs_12, hy_12⟩ := hH47 12 (by decide)
   obtain ⟨hv_12, hr_12⟩ := hy_12
   obtain ⟨hs_13, hy_13⟩ := hH47 13 (by decide)
   obtain ⟨hv_13, hr_13⟩ := hy_13
   obtain ⟨hs_14, hy_14⟩ := hH47 14 (by decide)
   obtain ⟨hv_14, hr_14⟩ := hy_14
   obtain ⟨hs_15, hy_15⟩ := hH47 15 (by decide)
   obtain ⟨hv_15, hr_15⟩ := hy_15
   obtain ⟨hs_16, hy_16⟩ := hH47 16 (by decide)
   obtain ⟨hv_16, hr_16⟩ := hy_16
   obtain ⟨hs_17, hy_17⟩ := hH47 17 (by decide)
   obtain ⟨hv_17, hr_17⟩ := hy_17
   obtain ⟨hs_18, hy_18⟩ := hH47 18 (by decide)
   obtain ⟨hv_18, hr_18⟩ := hy_18
   obtain ⟨hs_19, hy_19⟩ := hH47 19 (by decide)
   obtain ⟨hv_19, hr_19⟩ := hy_19
   obtain ⟨hs_20, hy_20⟩ := hH47 20 (by decide)
   obtain ⟨hv_20, hr_20⟩ := hy_20
   have hS49 : Sep NoB w w44 [(row v16 23 1 ov17.length ov17), (lstR ov17 (allF d.tols.length)), (row v3_ 23 1 ((selUpto d (allF d.tols.length) k).length) ((selUpto d (allF d.tols.length) k).map fun i => ov17.getD i nilS)), (blk b4 26 [rl, rs, (Value.int .i64 d.spread), rb]), (rndR false rl rs rb rlv d)] := by rw [show catR rsf48 0 21 = ([] : List Res) by (try simp only [catR, hr_0, hr_1, hr_2, hr_3, hr_4, hr_5, hr_6, hr_7, hr_8, hr_9, hr_10, hr_11, hr_12, hr_13, hr_14, hr_15, hr_16, hr_17, hr_18, hr_19, hr_20]); (try rfl)] at hS46; exact hS46
   rw [hv_15] at hs_15
   have hA50 : Fr 45 [] [(29, (Value.bool true)), (5, (Value.int .i64 (k : Int))), (4, v16), (3, v3_), (1, (bptr b4 0))] a43 := hA45.add (slot_ev hs_15 rfl); clear hA45
   rw [hv_16] at hs_16
   have hA51 : Fr 45 [] [(30, (Value.agg #[rl, rs, (Value.int .i64 d.spread), rb])), (29, (Value.bool true)), (5, (Value.int .i64 (k : Int))), (4, v16), (3, v3_), (1, (bptr b4 0))] a43 := hA50.add (slot_ev hs_16 rfl); clear hA50
   rw [hv_20] at hs_20
   have hA52 : Fr 45 [] [(34, (ov17.getD k nilS)), (30, (Value.agg #[rl, rs, (Value.int .i64 d.spread), rb])), (29, (Value.bool true)), (5, (Value.int .i64 (k : Int))), (4, v16), (3, v3_), (1, (bptr b4 0))] a43 := hA51.add (slot_ev hs_20 rfl); clear hA51
   clear hH47 hS46 hs_0 hs_1 hs_2 hs_3 hs_4 hs_5 hs_6 hs_7 hs_8 hs_9 hs_10 hs_11 hs_12 hs_13 hs_14 hs_15 hs_16 hs_17 hs_18 hs_19 hs_20
   clear hr_0
   clear hv_0
   clear hr_1
   clear hv_1
   clear hr_2
   clear hv_2
   clear hr_3
   clear hv_3
   clear hr_4
   clear hv_4
   clear hr_5
   clear hv_5
   clear hr_6
   clear hv_6
   clear hr_7
   clear hv_7
   clear hr_8
   clear hv_8
   clear hr_9
   clear hv_9
   clear hr_10
   clear hv_10
   clear hr_11
   clear hv_11
   clear hr_12
   clear hv_12
   clear hr_13
   clear hv_13
   clear hr_14
   clear hv_14
   clear hr_15
   clear hv_15
   clear hr_16
   clear hv_16
   clear hr_17
   clear hv_17
   clear hr_18
   clear hv_18
   clear hr_19
   clear hv_19
   clear hr_20
   clear hv_20
   refine stwg hA52 (op_call rfl en_25 (ev2 (hA52.ev rfl) (hA52.ev rfl)) (by have h := (RefExplains_ok rl rs rb rlv d _ (rnd_at (hS49.ok 4 _ rfl)) _ ((allF d.tols.length).getD k []) ((hS49.ok 1 _ rfl).2 k (by omega)) (by have := allF_mem (allF_at (nb := d.tols.length) (i := k) (by omega)); have := hV.nb; omega) hV); rw [(refx_all hV (by omega))] at h; exact h)) rfl rfl rfl rfl (by decide) ?_
   rintro a53 _ w55 ⟨rfl, hE56⟩ hA54; have hS57 := hS49.step hE56; clear hE56 hA52 hS49 a43
   refine st hA54 (op_pick_t rfl (hA54.ev rfl) (hA54.ev rfl)) rfl rfl (by decide) fun a58 hA59 => ?_; clear hA54 a53
   refine wl_nil ?_
   refine then_n ?_
   rcases Bool.eq_false_or_eq_true ((explB d (offOf ((allF d.tols.length).getD k [])))) with hb60 | hb60
   ·skip
    rw [hb60] at hA59
    refine c_true hA59 rfl ?_
    refine c_region ?_
    refine st hA59 (op_move rfl (hA59.ev rfl)) rfl rfl (by decide) fun a61 hA62 => ?_; clear hA59 a58
    refine st hA62 (op_move rfl (hA62.ev rfl)) rfl rfl (by decide) fun a63 hA64 => ?_; clear hA62 a61
    refine st hA64 (op_move rfl (hA64.ev rfl)) rfl rfl (by decide) fun a65 hA66 => ?_; clear hA64 a63
    refine st hA66 (op_indexS rfl un_51 ty_23 (hA66.ev rfl) (i := k) (hA66.ev rfl) (SlAt.of_row (hS57.ok_row 0 rfl)) (by decide) (by omega)) rfl rfl (by decide) fun a67 hA68 => ?_; clear hA66 a65
    refine st hA68 (op_load1E rfl ty_23 (hA68.ev rfl) (SlAt.of_row (hS57.ok_row 0 rfl)) (vals_at (by omega))) rfl rfl (by decide) fun a69 hA70 => ?_; clear hA68 a67
    refine stw hA70 (op_buildSlice hS57 rfl (pv1 (hA70.ev rfl)) un_51 ty_23 ze_23 (by decide) (cs := [(ov17.getD k nilS)]) (bs_23_1_0s _ (SlAt.isSl ((hS57.ok 1 _ rfl).2 k (by omega))))) rfl rfl (by decide) ?_
    rintro a71 _ w73 ⟨b74, rfl, hS75⟩ hA72; clear hA70 hS57 a69
    refine stw hA72 (op_append hS75 rfl un_51 el_23 (hA72.ev rfl) (hA72.ev rfl) (i := 3) rfl (SlAt.of_blk (hS75.bk 0 rfl) rfl (Nat.le_of_ble_eq_true rfl)) (all_c (SlAt.one ((hS75.ok 2 _ rfl).2 k (by omega))) all_n) (by simp only [maxLen]; omega) (by omega)) rfl rfl (by decide) ?_
    intro a76 v79 w78 hS80 hA77
    have hS81 := hS80.row_say (i := 3) rfl (n' := (((selUpto d (allF d.tols.length) k).map fun i => ov17.getD i nilS) ++ [(ov17.getD k nilS)]).length) (xs' := (((selUpto d (allF d.tols.length) k).map fun i => ov17.getD i nilS) ++ [(ov17.getD k nilS)])) (by simp) rfl; clear hS80 hA72 hS75 a71
    refine st hA77 (op_assign rfl (hA77.ev rfl)) rfl rfl (by decide) fun a82 hA83 => ?_; clear hA77 a76
    refine wl_nil ?_
    refine blk_n ?_
    refine then_n ?_
    have hA84 := hA83.as [(3, v79), (5, (Value.int .i64 (k : Int))), (4, v16), (1, (bptr b4 0))] rfl; clear hA83
    refine c_region ?_
    refine st hA84 (op_move rfl (hA84.ev rfl)) rfl rfl (by decide) fun a85 hA86 => ?_; clear hA84 a82
    refine st hA86 (op_add rfl (hA86.ev rfl) (evc _ _) (by omega) (by omega)) rfl rfl (by decide) fun a87 hA88 => ?_; clear hA86 a85
    refine st hA88 (op_assign rfl (hA88.ev rfl)) rfl rfl (by decide) fun a89 hA90 => ?_; clear hA88 a87
    refine wl_nil ?_
    have hS91 : Sep NoB w w78 [(row v16 23 1 ov17.length ov17), (lstR ov17 (allF d.tols.length)), (row v79 23 1 ((((selUpto d (allF d.tols.length) k).map fun i => ov17.getD i nilS) ++ [(ov17.getD k nilS)]).length) (((selUpto d (allF d.tols.length) k).map fun i => ov17.getD i nilS) ++ [(ov17.getD k nilS)])), (blk b4 26 [rl, rs, (Value.int .i64 d.spread), rb]), (rndR false rl rs rb rlv d)] := hS81.keep [1, 2, 3, 4, 5] (by decide) _ rfl rfl; clear hS81
    exact then_n ⟨k + 1, ⟨v79, hA90.as _ rfl, (hS91.row_say (i := 2) rfl (by (first | rw [sel_yes1 (by omega) (by assumption)] | rw [sel_yes2 (by omega) (by assumption) (by assumption)]) <;> simp) (by (first | rw [sel_yes1 (by omega) (by assumption)] | rw [sel_yes2 (by omega) (by assumption) (by assumption)]) <;> simp)), by omega⟩, by omega⟩
   ·skip
    rw [hb60] at hA59
    refine c_false hA59 rfl ?_
    refine c_skip ?_
    refine blk_n ?_
    refine then_n ?_
    refine c_region ?_
    refine st hA59 (op_move rfl (hA59.ev rfl)) rfl rfl (by decide) fun a92 hA93 => ?_; clear hA59 a58
    refine st hA93 (op_add rfl (hA93.ev rfl) (evc _ _) (by omega) (by omega)) rfl rfl (by decide) fun a94 hA95 => ?_; clear hA93 a92
    refine st hA95 (op_assign rfl (hA95.ev rfl)) rfl rfl (by decide) fun a96 hA97 => ?_; clear hA95 a94
    refine wl_nil ?_
    exact then_n ⟨k + 1, ⟨v3_, hA97.as _ rfl, (hS57.row_say (i := 2) rfl (by (first | rw [sel_no1 (by assumption)] | rw [sel_no2 (by omega) (by assumption)]) <;> simp) (by (first | rw [sel_no1 (by assumption)] | rw [sel_no2 (by omega) (by assumption)]) <;> simp)), by omega⟩, by omega⟩
  ·skip
   have hA98 := hA38.as [(5, (Value.int .i64 (k : Int))), (4, v16), (3, v3_), (1, (bptr b4 0))] rfl; clear hA38
   by_cases hb100 : (((allF d.tols.length).getD k []).length : Int) = (((allF d.tols.length).getD ((selUpto d (allF d.tols.length) k).getD 0 0) []).length : Int)
   ·skip
    have hA101 := hA98.as [(5, (Value.int .i64 (k : Int))), (4, v16), (3, v3_), (1, (bptr b4 0))] rfl; clear hA98
    refine c_drawV mixed hA101 hS28 21 [[], [0], [1], [2], [3], [3], [3, 4, 5], [3, 6], [3, 7], [3], [3, 9], [3, 10], [3, 11], [3, 8, 12], [3, 13], [14], [15], [15], [15], [15, 17, 18], [15, 19]] [(fun (vs102 : Nat → Value) (v_ : Value) (rs_ : List Res) => v_ = v3_ ∧ rs_ = []), (fun (vs102 : Nat → Value) (v_ : Value) (rs_ : List Res) => v_ = (Value.int .i64 ((selUpto d (allF d.tols.length) k).length : Int)) ∧ rs_ = []), (fun (vs102 : Nat → Value) (v_ : Value) (rs_ : List Res) => v_ = (Value.bool false) ∧ rs_ = []), (fun (vs102 : Nat → Value) (v_ : Value) (rs_ : List Res) => v_ = (Value.bool false) ∧ rs_ = []), (fun (vs102 : Nat → Value) (v_ : Value) (rs_ : List Res) => v_ = v16 ∧ rs_ = []), (fun (vs102 : Nat → Value) (v_ : Value) (rs_ : List Res) => v_ = (Value.int .i64 (k : Int)) ∧ rs_ = []), (fun (vs102 : Nat → Value) (v_ : Value) (rs_ : List Res) => v_ = (eptr v16 (k * 1)) ∧ rs_ = []), (fun (vs102 : Nat → Value) (v_ : Value) (rs_ : List Res) => v_ = (ov17.getD k nilS) ∧ rs_ = []), (fun (vs102 : Nat → Value) (v_ : Value) (rs_ : List Res) => v_ = (Value.int .i64 (((allF d.tols.length).getD k []).length : Int)) ∧ rs_ = []), (fun (vs102 : Nat → Value) (v_ : Value) (rs_ : List Res) => v_ = v3_ ∧ rs_ = []), (fun (vs102 : Nat → Value) (v_ : Value) (rs_ : List Res) => v_ = (eptr v3_ (0 * 1)) ∧ rs_ = []), (fun (vs102 : Nat → Value) (v_ : Value) (rs_ : List Res) => v_ = (((selUpto d (allF d.tols.length) k).map fun i => ov17.getD i nilS).getD 0 nilS) ∧ rs_ = []), (fun (vs102 : Nat → Value) (v_ : Value) (rs_ : List Res) => v_ = (Value.int .i64 (((allF d.tols.length).getD ((selUpto d (allF d.tols.length) k).getD 0 0) []).length : Int)) ∧ rs_ = []), (fun (vs102 : Nat → Value) (v_ : Value) (rs_ : List Res) => v_ = (Value.bool true) ∧ rs_ = []), (fun (vs102 : Nat → Value) (v_ : Value) (rs_ : List Res) => v_ = (Value.bool true) ∧ rs_ = []), (fun (vs102 : Nat → Value) (v_ : Value) (rs_ : List Res) => v_ = (Value.bool true) ∧ rs_ = []), (fun (vs102 : Nat → Value) (v_ : Value) (rs_ : List Res) => v_ = (Value.agg #[rl, rs, (Value.int .i64 d.spread), rb]) ∧ rs_ = []), (fun (vs102 : Nat → Value) (v_ : Value) (rs_ : List Res) => v_ = v16 ∧ rs_ = []), (fun (vs102 : Nat → Value) (v_ : Value) (rs_ : List Res) => v_ = (Value.int .i64 (k : Int)) ∧ rs_ = []), (fun (vs102 : Nat → Value) (v_ : Value) (rs_ : List Res) => v_ = (eptr v16 (k * 1)) ∧ rs_ = []), (fun (vs102 : Nat → Value) (v_ : Value) (rs_ : List Res) => v_ = (ov17.getD k nilS) ∧ rs_ = [])] (by decide +kernel) (by decide +kernel) rfl rfl ⟨(fun _ _ _ _ _ h_ => h_), (fun _ _ _ _ _ h_ => h_), (fun _ _ _ _ _ h_ => h_), (fun _ _ _ _ _ h_ => h_), (fun _ _ _ _ _ h_ => h_), (fun _ _ _ _ _ h_ => h_), (fun _ _ _ _ _ h_ => h_), (fun _ _ _ _ _ h_ => h_), (fun _ _ _ _ _ h_ => h_), (fun _ _ _ _ _ h_ => h_), (fun _ _ _ _ _ h_ => h_), (fun _ _ _ _ _ h_ => h_), (fun _ _ _ _ _ h_ => h_), (fun _ _ _ _ _ h_ => h_), (fun _ _ _ _ _ h_ => h_), (fun _ _ _ _ _ h_ => h_), (fun _ _ _ _ _ h_ => h_), (fun _ _ _ _ _ h_ => h_), (fun _ _ _ _ _ h_ => h_), (fun _ _ _ _ _ h_ => h_), (fun _ _ _ _ _ h_ => h_), trivial⟩ ?_ ?_
    ·skip
     refine ⟨fun a w vs102 hA hS hd => ?_, ?_⟩
     ·skip
      exact opG_of rfl (vv (op_move rfl (hA.ev rfl)) (And.intro rfl rfl))
     refine ⟨fun a w vs102 hA hS hd => ?_, ?_⟩
     ·skip
      obtain ⟨e0, rs0, hy0, hp0⟩ := hd 0 (by decide)
      obtain ⟨hv0, hr0⟩ := hy0; subst hr0
      rw [hv0] at e0
      exact opG_of rfl (vv (op_lenS rfl un_51 (tmp_ev (slot_ev e0 rfl)) (SlAt.of_row (hS.ok_row 2 rfl))) (And.intro rfl rfl))
     refine ⟨fun a w vs102 hA hS hd => ?_, ?_⟩
     ·skip
      obtain ⟨e1, rs1, hy1, hp1⟩ := hd 1 (by decide)
      obtain ⟨hv1, hr1⟩ := hy1; subst hr1
      rw [hv1] at e1
      exact opG_of rfl (vv (op_eql rfl (tmp_ev (slot_ev e1 rfl)) (evc _ _)) (And.intro (by show Value.bool _ = _; simp only [decide_eq_false hb40, decide_true, decide_false, Bool.not_true, Bool.not_false]) rfl))
     refine ⟨fun a w vs102 hA hS hd => ?_, ?_⟩
     ·skip
      obtain ⟨e2, rs2, hy2, hp2⟩ := hd 2 (by decide)
      obtain ⟨hv2, hr2⟩ := hy2; subst hr2
      rw [hv2] at e2
      exact opG_of rfl (vv (op_move rfl (tmp_ev (slot_ev e2 rfl))) (And.intro rfl rfl))
     refine ⟨fun a w vs102 hA hS hd => ?_, ?_⟩
     ·skip
      obtain ⟨e3, rs3, hy3, hp3⟩ := hd 3 (by decide)
      obtain ⟨hv3, hr3⟩ := hy3; subst hr3
      rw [hv3] at e3
      exact opG_yes rfl rfl (slot_ev e3 rfl) (vv (op_move rfl (hA.ev rfl)) (And.intro rfl rfl))
     refine ⟨fun a w vs102 hA hS hd => ?_, ?_⟩
     ·skip
      obtain ⟨e3, rs3, hy3, hp3⟩ := hd 3 (by decide)
      obtain ⟨hv3, hr3⟩ := hy3; subst hr3
      rw [hv3] at e3
      exact opG_yes rfl rfl (slot_ev e3 rfl) (vv (op_move rfl (hA.ev rfl)) (And.intro rfl rfl))
     refine ⟨fun a w vs102 hA hS hd => ?_, ?_⟩
     ·skip
      obtain ⟨e3, rs3, hy3, hp3⟩ := hd 3 (by decide)
      obtain ⟨hv3, hr3⟩ := hy3; subst hr3
      rw [hv3] at e3
      obtain ⟨e4, rs4, hy4, hp4⟩ := hd 4 (by decide)
      obtain ⟨hv4, hr4⟩ := hy4; subst hr4
      rw [hv4] at e4
      obtain ⟨e5, rs5, hy5, hp5⟩ := hd 5 (by decide)
      obtain ⟨hv5, hr5⟩ := hy5; subst hr5
      rw [hv5] at e5
      exact opG_yes rfl rfl (slot_ev e3 rfl) (vv (op_indexS rfl un_51 ty_23 (tmp_ev (slot_ev e4 rfl)) (i := k) (tmp_ev (slot_ev e5 rfl)) (SlAt.of_row (hS.ok_row 0 rfl)) (by decide) (by omega)) (And.intro rfl rfl))
     refine ⟨fun a w vs102 hA hS hd => ?_, ?_⟩
     ·skip
      obtain ⟨e3, rs3, hy3, hp3⟩ := hd 3 (by decide)
      obtain ⟨hv3, hr3⟩ := hy3; subst hr3
      rw [hv3] at e3
      obtain ⟨e6, rs6, hy6, hp6⟩ := hd 6 (by decide)
      obtain ⟨hv6, hr6⟩ := hy6; subst hr6
      rw [hv6] at e6
      exact opG_yes rfl rfl (slot_ev e3 rfl) (vv (op_load1E rfl ty_23 (tmp_ev (slot_ev e6 rfl)) (SlAt.of_row (hS.ok_row 0 rfl)) (vals_at (by omega))) (And.intro rfl rfl))
     refine ⟨fun a w vs102 hA hS hd => ?_, ?_⟩
     ·skip
      obtain ⟨e3, rs3, hy3, hp3⟩ := hd 3 (by decide)
      obtain ⟨hv3, hr3⟩ := hy3; subst hr3
      rw [hv3] at e3
      obtain ⟨e7, rs7, hy7, hp7⟩ := hd 7 (by decide)
      obtain ⟨hv7, hr7⟩ := hy7; subst hr7
      rw [hv7] at e7
      exact opG_yes rfl rfl (slot_ev e3 rfl) (vv (op_lenS rfl un_23 (tmp_ev (slot_ev e7 rfl)) ((hS.ok 1 _ rfl).2 k (by omega))) (And.intro rfl rfl))
     refine ⟨fun a w vs102 hA hS hd => ?_, ?_⟩
     ·skip
      obtain ⟨e3, rs3, hy3, hp3⟩ := hd 3 (by decide)
      obtain ⟨hv3, hr3⟩ := hy3; subst hr3
      rw [hv3] at e3
      exact opG_yes rfl rfl (slot_ev e3 rfl) (vv (op_move rfl (hA.ev rfl)) (And.intro rfl rfl))
     refine ⟨fun a w vs102 hA hS hd => ?_, ?_⟩
     ·skip
      obtain ⟨e3, rs3, hy3, hp3⟩ := hd 3 (by decide)
      obtain ⟨hv3, hr3⟩ := hy3; subst hr3
      rw [hv3] at e3
      obtain ⟨e9, rs9, hy9, hp9⟩ := hd 9 (by decide)
      obtain ⟨hv9, hr9⟩ := hy9; subst hr9
      rw [hv9] at e9
      exact opG_yes rfl rfl (slot_ev e3 rfl) (vv (op_indexS rfl un_51 ty_23 (tmp_ev (slot_ev e9 rfl)) (i := 0) (show _ = Value.int .i64 ((0 : Nat) : Int) from (evc _ _)) (SlAt.of_row (hS.ok_row 2 rfl)) (by decide) (by omega)) (And.intro rfl rfl))
     refine ⟨fun a w vs102 hA hS hd => ?_, ?_⟩
     ·skip
      obtain ⟨e3, rs3, hy3, hp3⟩ := hd 3 (by decide)
      obtain ⟨hv3, hr3⟩ := hy3; subst hr3
      rw [hv3] at e3
      obtain ⟨e10, rs10, hy10, hp10⟩ := hd 10 (by decide)
      obtain ⟨hv10, hr10⟩ := hy10; subst hr10
      rw [hv10] at e10
      exact opG_yes rfl rfl (slot_ev e3 rfl) (vv (op_load1E rfl ty_23 (tmp_ev (slot_ev e10 rfl)) (SlAt.of_row (hS.ok_row 2 rfl)) (vals_at (by first | (rw [List.length_map]; omega) | omega))) (And.intro rfl rfl))
     refine ⟨fun a w vs102 hA hS hd => ?_, ?_⟩
     ·skip
      obtain ⟨e3, rs3, hy3, hp3⟩ := hd 3 (by decide)
      obtain ⟨hv3, hr3⟩ := hy3; subst hr3
      rw [hv3] at e3
      obtain ⟨e11, rs11, hy11, hp11⟩ := hd 11 (by decide)
      obtain ⟨hv11, hr11⟩ := hy11; subst hr11
      rw [hv11] at e11
      exact opG_yes rfl rfl (slot_ev e3 rfl) (vv (op_lenS rfl un_23 (tmp_ev (slot_ev e11 rfl)) (by rw [sel_getD _ _ _ (by omega)]; exact (hS.ok 1 _ rfl).2 ((selUpto d (allF d.tols.length) k).getD 0 0) (by have := sel_bd (d := d) (all := (allF d.tols.length)) (k := k) (i := 0) (by omega); omega))) (And.intro rfl rfl))
     refine ⟨fun a w vs102 hA hS hd => ?_, ?_⟩
     ·skip
      obtain ⟨e3, rs3, hy3, hp3⟩ := hd 3 (by decide)
      obtain ⟨hv3, hr3⟩ := hy3; subst hr3
      rw [hv3] at e3
      obtain ⟨e8, rs8, hy8, hp8⟩ := hd 8 (by decide)
      obtain ⟨hv8, hr8⟩ := hy8; subst hr8
      rw [hv8] at e8
      obtain ⟨e12, rs12, hy12, hp12⟩ := hd 12 (by decide)
      obtain ⟨hv12, hr12⟩ := hy12; subst hr12
      rw [hv12] at e12
      exact opG_yes rfl rfl (slot_ev e3 rfl) (vv (op_eql rfl (tmp_ev (slot_ev e8 rfl)) (tmp_ev (slot_ev e12 rfl))) (And.intro (by show Value.bool _ = _; simp only [decide_eq_true hb100, decide_true, decide_false, Bool.not_true, Bool.not_false]) rfl))
     refine ⟨fun a w vs102 hA hS hd => ?_, ?_⟩
     ·skip
      obtain ⟨e3, rs3, hy3, hp3⟩ := hd 3 (by decide)
      obtain ⟨hv3, hr3⟩ := hy3; subst hr3
      rw [hv3] at e3
      obtain ⟨e13, rs13, hy13, hp13⟩ := hd 13 (by decide)
      obtain ⟨hv13, hr13⟩ := hy13; subst hr13
      rw [hv13] at e13
      exact opG_of rfl (vv (op_pick_f rfl (tmp_ev (slot_ev e3 rfl)) (tmp_ev (slot_ev e13 rfl))) (And.intro rfl rfl))
     refine ⟨fun a w vs102 hA hS hd => ?_, ?_⟩
     ·skip
      obtain ⟨e14, rs14, hy14, hp14⟩ := hd 14 (by decide)
      obtain ⟨hv14, hr14⟩ := hy14; subst hr14
      rw [hv14] at e14
      exact opG_of rfl (vv (op_move rfl (tmp_ev (slot_ev e14 rfl))) (And.intro rfl rfl))
     refine ⟨fun a w vs102 hA hS hd => ?_, ?_⟩
     ·skip
      obtain ⟨e15, rs15, hy15, hp15⟩ := hd 15 (by decide)
      obtain ⟨hv15, hr15⟩ := hy15; subst hr15
      rw [hv15] at e15
      exact opG_yes rfl rfl (slot_ev e15 rfl) (vv (op_loadA rfl ty_26 (hA.ev rfl) (hS.bk 3 rfl) (l := [rl, rs, (Value.int .i64 d.spread), rb]) rfl rfl) (And.intro rfl rfl))
     refine ⟨fun a w vs102 hA hS hd => ?_, ?_⟩
     ·skip
      obtain ⟨e15, rs15, hy15, hp15⟩ := hd 15 (by decide)
      obtain ⟨hv15, hr15⟩ := hy15; subst hr15
      rw [hv15] at e15
      exact opG_yes rfl rfl (slot_ev e15 rfl) (vv (op_move rfl (hA.ev rfl)) (And.intro rfl rfl))
     refine ⟨fun a w vs102 hA hS hd => ?_, ?_⟩
     ·skip
      obtain ⟨e15, rs15, hy15, hp15⟩ := hd 15 (by decide)
      obtain ⟨hv15, hr15⟩ := hy15; subst hr15
      rw [hv15] at e15
      exact opG_yes rfl rfl (slot_ev e15 rfl) (vv (op_move rfl (hA.ev rfl)) (And.intro rfl rfl))
     refine ⟨fun a w vs102 hA hS hd => ?_, ?_⟩
     ·skip
      obtain ⟨e15, rs15, hy15, hp15⟩ := hd 15 (by decide)
      obtain ⟨hv15, hr15⟩ := hy15; subst hr15
      rw [hv15] at e15
      obtain ⟨e17, rs17, hy17, hp17⟩ := hd 17 (by decide)
      obtain ⟨hv17, hr17⟩ := hy17; subst hr17
      rw [hv17] at e17
      obtain ⟨e18, rs18, hy18, hp18⟩ := hd 18 (by decide)
      obtain ⟨hv18, hr18⟩ := hy18; subst hr18
      rw [hv18] at e18
      exact opG_yes rfl rfl (slot_ev e15 rfl) (vv (op_indexS rfl un_51 ty_23 (tmp_ev (slot_ev e17 rfl)) (i := k) (tmp_ev (slot_ev e18 rfl)) (SlAt.of_row (hS.ok_row 0 rfl)) (by decide) (by omega)) (And.intro rfl rfl))
     refine ⟨fun a w vs102 hA hS hd => ?_, ?_⟩
     ·skip
      obtain ⟨e15, rs15, hy15, hp15⟩ := hd 15 (by decide)
      obtain ⟨hv15, hr15⟩ := hy15; subst hr15
      rw [hv15] at e15
      obtain ⟨e19, rs19, hy19, hp19⟩ := hd 19 (by decide)
      obtain ⟨hv19, hr19⟩ := hy19; subst hr19
      rw [hv19] at e19
      exact opG_yes rfl rfl (slot_ev e15 rfl) (vv (op_load1E rfl ty_23 (tmp_ev (slot_ev e19 rfl)) (SlAt.of_row (hS.ok_row 0 rfl)) (vals_at (by omega))) (And.intro rfl rfl))
     trivial
    intro a103 w104 vs102 rsf108 hA105 hH107 hS106; clear hA101 hS28
    obtain ⟨hs_0, hy_0⟩ := hH107 0 (by decide)
    obtain ⟨hv_0, hr_0⟩ := hy_0
    obtain ⟨hs_1, hy_1⟩ := hH107 1 (by decide)
    obtain ⟨hv_1, hr_1⟩ := hy_1
    obtain ⟨hs_2, hy_2⟩ := hH107 2 (by decide)
    obtain ⟨hv_2, hr_2⟩ := hy_2
    obtain ⟨hs_3, hy_3⟩ := hH107 3 (by decide)
    obtain ⟨hv_3, hr_3⟩ := hy_3
    obtain ⟨hs_4, hy_4⟩ := hH107 4 (by decide)
    obtain ⟨hv_4, hr_4⟩ := hy_4
    obtain ⟨hs_5, hy_5⟩ := hH107 5 (by decide)
    obtain ⟨hv_5, hr_5⟩ := hy_5
    obtain ⟨hs_6, hy_6⟩ := hH107 6 (by decide)
    obtain ⟨hv_6, hr_6⟩ := hy_6
    obtain ⟨hs_7, hy_7⟩ := hH107 7 (by decide)
    obtain ⟨hv_7, hr_7⟩ := hy_7
    obtain ⟨hs_8, hy_8⟩ := hH107 8 (by decide)
    obtain ⟨hv_8, hr_8⟩ := hy_8
    obtain ⟨hs_9, hy_9⟩ := hH107 9 (by decide)
    obtain ⟨hv_9, hr_9⟩ := hy_9
    obtain ⟨hs_10, hy_10⟩ := hH107 10 (by decide)
    obtain ⟨hv_10, hr_10⟩ := hy_10
    obtain ⟨hs_11, hy_11⟩ := hH107 11 (by decide)
    obtain ⟨hv_11, hr_11⟩ := hy_11
    obtain ⟨hs_12, hy_12⟩ := hH107 12 (by decide)
    obtain ⟨hv_12, hr_12⟩ := hy_12
    obtain ⟨hs_13, hy_13⟩ := hH107 13 (by decide)
    obtain ⟨hv_13, hr_13⟩ := hy_13
    obtain ⟨hs_14, hy_14⟩ := hH107 14 (by decide)
    obtain ⟨hv_14, hr_14⟩ := hy_14
    obtain ⟨hs_15, hy_15⟩ := hH107 15 (by decide)
    obtain ⟨hv_15, hr_15⟩ := hy_15
    obtain ⟨hs_16, hy_16⟩ := hH107 16 (by decide)
    obtain ⟨hv_16, hr_16⟩ := hy_16
    obtain ⟨hs_17, hy_17⟩ := hH107 17 (by decide)
    obtain ⟨hv_17, hr_17⟩ := hy_17
    obtain ⟨hs_18, hy_18⟩ := hH107 18 (by decide)
    obtain ⟨hv_18, hr_18⟩ := hy_18
    obtain ⟨hs_19, hy_19⟩ := hH107 19 (by decide)
    obtain ⟨hv_19, hr_19⟩ := hy_19
    obtain ⟨hs_20, hy_20⟩ := hH107 20 (by decide)
    obtain ⟨hv_20, hr_20⟩ := hy_20
    have hS109 : Sep NoB w w104 [(row v16 23 1 ov17.length ov17), (lstR ov17 (allF d.tols.length)), (row v3_ 23 1 ((selUpto d (allF d.tols.length) k).length) ((selUpto d (allF d.tols.length) k).map fun i => ov17.getD i nilS)), (blk b4 26 [rl, rs, (Value.int .i64 d.spread), rb]), (rndR false rl rs rb rlv d)] := by rw [show catR rsf108 0 21 = ([] : List Res) by (try simp only [catR, hr_0, hr_1, hr_2, hr_3, hr_4, hr_5, hr_6, hr_7, hr_8, hr_9, hr_10, hr_11, hr_12, hr_13, hr_14, hr_15, hr_16, hr_17, hr_18, hr_19, hr_20]); (try rfl)] at hS106; exact hS106
    rw [hv_15] at hs_15
    have hA110 : Fr 45 [] [(29, (Value.bool true)), (5, (Value.int .i64 (k : Int))), (4, v16), (3, v3_), (1, (bptr b4 0))] a103 := hA105.add (slot_ev hs_15 rfl); clear hA105
    rw [hv_16] at hs_16
    have hA111 : Fr 45 [] [(30, (Value.agg #[rl, rs, (Value.int .i64 d.spread), rb])), (29, (Value.bool true)), (5, (Value.int .i64 (k : Int))), (4, v16), (3, v3_), (1, (bptr b4 0))] a103 := hA110.add (slot_ev hs_16 rfl); clear hA110
    rw [hv_20] at hs_20
    have hA112 : Fr 45 [] [(34, (ov17.getD k nilS)), (30, (Value.agg #[rl, rs, (Value.int .i64 d.spread), rb])), (29, (Value.bool true)), (5, (Value.int .i64 (k : Int))), (4, v16), (3, v3_), (1, (bptr b4 0))] a103 := hA111.add (slot_ev hs_20 rfl); clear hA111
    clear hH107 hS106 hs_0 hs_1 hs_2 hs_3 hs_4 hs_5 hs_6 hs_7 hs_8 hs_9 hs_10 hs_11 hs_12 hs_13 hs_14 hs_15 hs_16 hs_17 hs_18 hs_19 hs_20
    clear hr_0
    clear hv_0
    clear hr_1
    clear hv_1
    clear hr_2
    clear hv_2
    clear hr_3
    clear hv_3
    clear hr_4
    clear hv_4
    clear hr_5
    clear hv_5
    clear hr_6
    clear hv_6
    clear hr_7
    clear hv_7
    clear hr_8
    clear hv_8
    clear hr_9
    clear hv_9
    clear hr_10
    clear hv_10
    clear hr_11
    clear hv_11
    clear hr_12
    clear hv_12
    clear hr_13
    clear hv_13
    clear hr_14
    clear hv_14
    clear hr_15
    clear hv_15
    clear hr_16
    clear hv_16
    clear hr_17
    clear hv_17
    clear hr_18
    clear hv_18
    clear hr_19
    clear hv_19
    clear hr_20
    clear hv_20
    refine stwg hA112 (op_call rfl en_25 (ev2 (hA112.ev rfl) (hA112.ev rfl)) (by have h := (RefExplains_ok rl rs rb rlv d _ (rnd_at (hS109.ok 4 _ rfl)) _ ((allF d.tols.length).getD k []) ((hS109.ok 1 _ rfl).2 k (by omega)) (by have := allF_mem (allF_at (nb := d.tols.length) (i := k) (by omega)); have := hV.nb; omega) hV); rw [(refx_all hV (by omega))] at h; exact h)) rfl rfl rfl rfl (by decide) ?_
    rintro a113 _ w115 ⟨rfl, hE116⟩ hA114; have hS117 := hS109.step hE116; clear hE116 hA112 hS109 a103
    refine st hA114 (op_pick_t rfl (hA114.ev rfl) (hA114.ev rfl)) rfl rfl (by decide) fun a118 hA119 => ?_; clear hA114 a113
    refine wl_nil ?_
    refine then_n ?_
    rcases Bool.eq_false_or_eq_true ((explB d (offOf ((allF d.tols.length).getD k [])))) with hb120 | hb120
    ·skip
     rw [hb120] at hA119
     refine c_true hA119 rfl ?_
     refine c_region ?_
     refine st hA119 (op_move rfl (hA119.ev rfl)) rfl rfl (by decide) fun a121 hA122 => ?_; clear hA119 a118
     refine st hA122 (op_move rfl (hA122.ev rfl)) rfl rfl (by decide) fun a123 hA124 => ?_; clear hA122 a121
     refine st hA124 (op_move rfl (hA124.ev rfl)) rfl rfl (by decide) fun a125 hA126 => ?_; clear hA124 a123
     refine st hA126 (op_indexS rfl un_51 ty_23 (hA126.ev rfl) (i := k) (hA126.ev rfl) (SlAt.of_row (hS117.ok_row 0 rfl)) (by decide) (by omega)) rfl rfl (by decide) fun a127 hA128 => ?_; clear hA126 a125
     refine st hA128 (op_load1E rfl ty_23 (hA128.ev rfl) (SlAt.of_row (hS117.ok_row 0 rfl)) (vals_at (by omega))) rfl rfl (by decide) fun a129 hA130 => ?_; clear hA128 a127
     refine stw hA130 (op_buildSlice hS117 rfl (pv1 (hA130.ev rfl)) un_51 ty_23 ze_23 (by decide) (cs := [(ov17.getD k nilS)]) (bs_23_1_0s _ (SlAt.isSl ((hS117.ok 1 _ rfl).2 k (by omega))))) rfl rfl (by decide) ?_
     rintro a131 _ w133 ⟨b134, rfl, hS135⟩ hA132; clear hA130 hS117 a129
     refine stw hA132 (op_append hS135 rfl un_51 el_23 (hA132.ev rfl) (hA132.ev rfl) (i := 3) rfl (SlAt.of_blk (hS135.bk 0 rfl) rfl (Nat.le_of_ble_eq_true rfl)) (all_c (SlAt.one ((hS135.ok 2 _ rfl).2 k (by omega))) all_n) (by simp only [maxLen]; omega) (by omega)) rfl rfl (by decide) ?_
     intro a136 v139 w138 hS140 hA137
     have hS141 := hS140.row_say (i := 3) rfl (n' := (((selUpto d (allF d.tols.length) k).map fun i => ov17.getD i nilS) ++ [(ov17.getD k nilS)]).length) (xs' := (((selUpto d (allF d.tols.length) k).map fun i => ov17.getD i nilS) ++ [(ov17.getD k nilS)])) (by simp) rfl; clear hS140 hA132 hS135 a131
     refine st hA137 (op_assign rfl (hA137.ev rfl)) rfl rfl (by decide) fun a142 hA143 => ?_; clear hA137 a136
     refine wl_nil ?_
     refine blk_n ?_
     refine then_n ?_
     have hA144 := hA143.as [(3, v139), (5, (Value.int .i64 (k : Int))), (4, v16), (1, (bptr b4 0))] rfl; clear hA143
     refine c_region ?_
     refine st hA144 (op_move rfl (hA144.ev rfl)) rfl rfl (by decide) fun a145 hA146 => ?_; clear hA144 a142
     refine st hA146 (op_add rfl (hA146.ev rfl) (evc _ _) (by omega) (by omega)) rfl rfl (by decide) fun a147 hA148 => ?_; clear hA146 a145
     refine st hA148 (op_assign rfl (hA148.ev rfl)) rfl rfl (by decide) fun a149 hA150 => ?_; clear hA148 a147
     refine wl_nil ?_
     have hS151 : Sep NoB w w138 [(row v16 23 1 ov17.length ov17), (lstR ov17 (allF d.tols.length)), (row v139 23 1 ((((selUpto d (allF d.tols.length) k).map fun i => ov17.getD i nilS) ++ [(ov17.getD k nilS)]).length) (((selUpto d (allF d.tols.length) k).map fun i => ov17.getD i nilS) ++ [(ov17.getD k nilS)])), (blk b4 26 [rl, rs, (Value.int .i64 d.spread), rb]), (rndR false rl rs rb rlv d)] := hS141.keep [1, 2, 3, 4, 5] (by decide) _ rfl rfl; clear hS141
     exact then_n ⟨k + 1, ⟨v139, hA150.as _ rfl, (hS151.row_say (i := 2) rfl (by (first | rw [sel_yes1 (by omega) (by assumption)] | rw [sel_yes2 (by omega) (by assumption) (by assumption)]) <;> simp) (by (first | rw [sel_yes1 (by omega) (by assumption)] | rw [sel_yes2 (by omega) (by assumption) (by assumption)]) <;> simp)), by omega⟩, by omega⟩
    ·skip
     rw [hb120] at hA119
     refine c_false hA119 rfl ?_
     refine c_skip ?_
     refine blk_n ?_
     refine then_n ?_
     refine c_region ?_
     refine st hA119 (op_move rfl (hA119.ev rfl)) rfl rfl (by decide) fun a152 hA153 => ?_; clear hA119 a118
     refine st hA153 (op_add rfl (hA153.ev rfl) (evc _ _) (by omega) (by omega)) rfl rfl (by decide) fun a154 hA155 => ?_; clear hA153 a152
     refine st hA155 (op_assign rfl (hA155.ev rfl)) rfl rfl (by decide) fun a156 hA157 => ?_; clear hA155 a154
     refine wl_nil ?_
     exact then_n ⟨k + 1, ⟨v3_, hA157.as _ rfl, (hS117.row_say (i := 2) rfl (by (first | rw [sel_no1 (by assumption)] | rw [sel_no2 (by omega) (by assumption)]) <;> simp) (by (first | rw [sel_no1 (by assumption)] | rw [sel_no2 (by omega) (by assumption)]) <;> simp)), by omega⟩, by omega⟩
   ·skip
    have hA158 := hA98.as [(5, (Value.int .i64 (k : Int))), (4, v16), (3, v3_), (1, (bptr b4 0))] rfl; clear hA98
    refine c_drawV mixed hA158 hS28 21 [[], [0], [1], [2], [3], [3], [3, 4, 5], [3, 6], [3, 7], [3], [3, 9], [3, 10], [3, 11], [3, 8, 12], [3, 13], [14], [15], [15], [15], [15, 17, 18], [15, 19]] [(fun (vs159 : Nat → Value) (v_ : Value) (rs_ : List Res) => v_ = v3_ ∧ rs_ = []), (fun (vs159 : Nat → Value) (v_ : Value) (rs_ : List Res) => v_ = (Value.int .i64 ((selUpto d (allF d.tols.length) k).length : Int)) ∧ rs_ = []), (fun (vs159 : Nat → Value) (v_ : Value) (rs_ : List Res) => v_ = (Value.bool false) ∧ rs_ = []), (fun (vs159 : Nat → Value) (v_ : Value) (rs_ : List Res) => v_ = (Value.bool false) ∧ rs_ = []), (fun (vs159 : Nat → Value) (v_ : Value) (rs_ : List Res) => v_ = v16 ∧ rs_ = []), (fun (vs159 : Nat → Value) (v_ : Value) (rs_ : List Res) => v_ = (Value.int .i64 (k : Int)) ∧ rs_ = []), (fun (vs159 : Nat → Value) (v_ : Value) (rs_ : List Res) => v_ = (eptr v16 (k * 1)) ∧ rs_ = []), (fun (vs159 : Nat → Value) (v_ : Value) (rs_ : List Res) => v_ = (ov17.getD k nilS) ∧ rs_ = []), (fun (vs159 : Nat → Value) (v_ : Value) (rs_ : List Res) => v_ = (Value.int .i64 (((allF d.tols.length).getD k []).length : Int)) ∧ rs_ = []), (fun (vs159 : Nat → Value) (v_ : Value) (rs_ : List Res) => v_ = v3_ ∧ rs_ = []), (fun (vs159 : Nat → Value) (v_ : Value) (rs_ : List Res) => v_ = (eptr v3_ (0 * 1)) ∧ rs_ = []), (fun (vs159 : Nat → Value) (v_ : Value) (rs_ : List Res) => v_ = (((selUpto d (allF d.tols.length) k).map fun i => ov17.getD i nilS).getD 0 nilS) ∧ rs_ = []), (fun (vs159 : Nat → Value) (v_ : Value) (rs_ : List Res) => v_ = (Value.int .i64 (((allF d.tols.length).getD ((selUpto d (allF d.tols.length) k).getD 0 0) []).length : Int)) ∧ rs_ = []), (fun (vs159 : Nat → Value) (v_ : Value) (rs_ : List Res) => v_ = (Value.bool false) ∧ rs_ = []), (fun (vs159 : Nat → Value) (v_ : Value) (rs_ : List Res) => v_ = (Value.bool false) ∧ rs_ = []), (fun (vs159 : Nat → Value) (v_ : Value) (rs_ : List Res) => v_ = (Value.bool false) ∧ rs_ = []), (fun (vs159 : Nat → Value) (v_ : Value) (rs_ : List Res) => v_ = undef ∧ rs_ = []), (fun (vs159 : Nat → Value) (v_ : Value) (rs_ : List Res) => v_ = undef ∧ rs_ = []), (fun (vs159 : Nat → Value) (v_ : Value) (rs_ : List Res) => v_ = undef ∧ rs_ = []), (fun (vs159 : Nat → Value) (v_ : Value) (rs_ : List Res) => v_ = undef ∧ rs_ = []), (fun (vs159 : Nat → Value) (v_ : Value) (rs_ : List Res) => v_ = undef ∧ rs_ = [])] (by decide +kernel) (by decide +kernel) rfl rfl ⟨(fun _ _ _ _ _ h_ => h_), (fun _ _ _ _ _ h_ => h_), (fun _ _ _ _ _ h_ => h_), (fun _ _ _ _ _ h_ => h_), (fun _ _ _ _ _ h_ => h_), (fun _ _ _ _ _ h_ => h_), (fun _ _ _ _ _ h_ => h_), (fun _ _ _ _ _ h_ => h_), (fun _ _ _ _ _ h_ => h_), (fun _ _ _ _ _ h_ => h_), (fun _ _ _ _ _ h_ => h_), (fun _ _ _ _ _ h_ => h_), (fun _ _ _ _ _ h_ => h_), (fun _ _ _ _ _ h_ => h_), (fun _ _ _ _ _ h_ => h_), (fun _ _ _ _ _ h_ => h_), (fun _ _ _ _ _ h_ => h_), (fun _ _ _ _ _ h_ => h_), (fun _ _ _ _ _ h_ => h_), (fun _ _ _ _ _ h_ => h_), (fun _ _ _ _ _ h_ => h_), trivial⟩ ?_ ?_
    ·skip
     refine ⟨fun a w vs159 hA hS hd => ?_, ?_⟩
     ·skip
      exact opG_of rfl (vv (op_move rfl (hA.ev rfl)) (And.intro rfl rfl))
     refine ⟨fun a w vs159 hA hS hd => ?_, ?_⟩
     ·skip
      obtain ⟨e0, rs0, hy0, hp0⟩ := hd 0 (by decide)
      obtain ⟨hv0, hr0⟩ := hy0; subst hr0
      rw [hv0] at e0
      exact opG_of rfl (vv (op_lenS rfl un_51 (tmp_ev (slot_ev e0 rfl)) (SlAt.of_row (hS.ok_row 2 rfl))) (And.intro rfl rfl))
     refine ⟨fun a w vs159 hA hS hd => ?_, ?_⟩
     ·skip
      obtain ⟨e1, rs1, hy1, hp1⟩ := hd 1 (by decide)
      obtain ⟨hv1, hr1⟩ := hy1; subst hr1
      rw [hv1] at e1
      exact opG_of rfl (vv (op_eql rfl (tmp_ev (slot_ev e1 rfl)) (evc _ _)) (And.intro (by show Value.bool _ = _; simp only [decide_eq_false hb40, decide_true, decide_false, Bool.not_true, Bool.not_false]) rfl))
     refine ⟨fun a w vs159 hA hS hd => ?_, ?_⟩
     ·skip
      obtain ⟨e2, rs2, hy2, hp2⟩ := hd 2 (by decide)
      obtain ⟨hv2, hr2⟩ := hy2; subst hr2
      rw [hv2] at e2
      exact opG_of rfl (vv (op_move rfl (tmp_ev (slot_ev e2 rfl))) (And.intro rfl rfl))
     refine ⟨fun a w vs159 hA hS hd => ?_, ?_⟩
     ·skip
      obtain ⟨e3, rs3, hy3, hp3⟩ := hd 3 (by decide)
      obtain ⟨hv3, hr3⟩ := hy3; subst hr3
      rw [hv3] at e3
      exact opG_yes rfl rfl (slot_ev e3 rfl) (vv (op_move rfl (hA.ev rfl)) (And.intro rfl rfl))
     refine ⟨fun a w vs159 hA hS hd => ?_, ?_⟩
     ·skip
      obtain ⟨e3, rs3, hy3, hp3⟩ := hd 3 (by decide)
      obtain ⟨hv3, hr3⟩ := hy3; subst hr3
      rw [hv3] at e3
      exact opG_yes rfl rfl (slot_ev e3 rfl) (vv (op_move rfl (hA.ev rfl)) (And.intro rfl rfl))
     refine ⟨fun a w vs159 hA hS hd => ?_, ?_⟩
     ·skip
      obtain ⟨e3, rs3, hy3, hp3⟩ := hd 3 (by decide)
      obtain ⟨hv3, hr3⟩ := hy3; subst hr3
      rw [hv3] at e3
      obtain ⟨e4, rs4, hy4, hp4⟩ := hd 4 (by decide)
      obtain ⟨hv4, hr4⟩ := hy4; subst hr4
      rw [hv4] at e4
      obtain ⟨e5, rs5, hy5, hp5⟩ := hd 5 (by decide)
      obtain ⟨hv5, hr5⟩ := hy5; subst hr5
      rw [hv5] at e5
      exact opG_yes rfl rfl (slot_ev e3 rfl) (vv (op_indexS rfl un_51 ty_23 (tmp_ev (slot_ev e4 rfl)) (i := k) (tmp_ev (slot_ev e5 rfl)) (SlAt.of_row (hS.ok_row 0 rfl)) (by decide) (by omega)) (And.intro rfl rfl))
     refine ⟨fun a w vs159 hA hS hd => ?_, ?_⟩
     ·skip
      obtain ⟨e3, rs3, hy3, hp3⟩ := hd 3 (by decide)
      obtain ⟨hv3, hr3⟩ := hy3; subst hr3
      rw [hv3] at e3
      obtain ⟨e6, rs6, hy6, hp6⟩ := hd 6 (by decide)
      obtain ⟨hv6, hr6⟩ := hy6; subst hr6
      rw [hv6] at e6
      exact opG_yes rfl rfl (slot_ev e3 rfl) (vv (op_load1E rfl ty_23 (tmp_ev (slot_ev e6 rfl)) (SlAt.of_row (hS.ok_row 0 rfl)) (vals_at (by omega))) (And.intro rfl rfl))
     refine ⟨fun a w vs159 hA hS hd => ?_, ?_⟩
     ·skip
      obtain ⟨e3, rs3, hy3, hp3⟩ := hd 3 (by decide)
      obtain ⟨hv3, hr3⟩ := hy3; subst hr3
      rw [hv3] at e3
      obtain ⟨e7, rs7, hy7, hp7⟩ := hd 7 (by decide)
      obtain ⟨hv7, hr7⟩ := hy7; subst hr7
      rw [hv7] at e7
      exact opG_yes rfl rfl (slot_ev e3 rfl) (vv (op_lenS rfl un_23 (tmp_ev (slot_ev e7 rfl)) ((hS.ok 1 _ rfl).2 k (by omega))) (And.intro rfl rfl))
     refine ⟨fun a w vs159 hA hS hd => ?_, ?_⟩
     ·skip
      obtain ⟨e3, rs3, hy3, hp3⟩ := hd 3 (by decide)
      obtain ⟨hv3, hr3⟩ := hy3; subst hr3
      rw [hv3] at e3
      exact opG_yes rfl rfl (slot_ev e3 rfl) (vv (op_move rfl (hA.ev rfl)) (And.intro rfl rfl))
     refine ⟨fun a w vs159 hA hS hd => ?_, ?_⟩
     ·skip
      obtain ⟨e3, rs3, hy3, hp3⟩ := hd 3 (by decide)
      obtain ⟨hv3, hr3⟩ := hy3; subst hr3
      rw [hv3] at e3
      obtain ⟨e9, rs9, hy9, hp9⟩ := hd 9 (by decide)
      obtain ⟨hv9, hr9⟩ := hy9; subst hr9
      rw [hv9] at e9
      exact opG_yes rfl rfl (slot_ev e3 rfl) (vv (op_indexS rfl un_51 ty_23 (tmp_ev (slot_ev e9 rfl)) (i := 0) (show _ = Value.int .i64 ((0 : Nat) : Int) from (evc _ _)) (SlAt.of_row (hS.ok_row 2 rfl)) (by decide) (by omega)) (And.intro rfl rfl))
     refine ⟨fun a w vs159 hA hS hd => ?_, ?_⟩
     ·skip
      obtain ⟨e3, rs3, hy3, hp3⟩ := hd 3 (by decide)
      obtain ⟨hv3, hr3⟩ := hy3; subst hr3
      rw [hv3] at e3
      obtain ⟨e10, rs10, hy10, hp10⟩ := hd 10 (by decide)
      obtain ⟨hv10, hr10⟩ := hy10; subst hr10
      rw [hv10] at e10
      exact opG_yes rfl rfl (slot_ev e3 rfl) (vv (op_load1E rfl ty_23 (tmp_ev (slot_ev e10 rfl)) (SlAt.of_row (hS.ok_row 2 rfl)) (vals_at (by first | (rw [List.length_map]; omega) | omega))) (And.intro rfl rfl))
     refine ⟨fun a w vs159 hA hS hd => ?_, ?_⟩
     ·skip
      obtain ⟨e3, rs3, hy3, hp3⟩ := hd 3 (by decide)
      obtain ⟨hv3, hr3⟩ := hy3; subst hr3
      rw [hv3] at e3
      obtain ⟨e11, rs11, hy11, hp11⟩ := hd 11 (by decide)
      obtain ⟨hv11, hr11⟩ := hy11; subst hr11
      rw [hv11] at e11
      exact opG_yes rfl rfl (slot_ev e3 rfl) (vv (op_lenS rfl un_23 (tmp_ev (slot_ev e11 rfl)) (by rw [sel_getD _ _ _ (by omega)]; exact (hS.ok 1 _ rfl).2 ((selUpto d (allF d.tols.length) k).getD 0 0) (by have := sel_bd (d := d) (all := (allF d.tols.length)) (k := k) (i := 0) (by omega); omega))) (And.intro rfl rfl))
     refine ⟨fun a w vs159 hA hS hd => ?_, ?_⟩
     ·skip
      obtain ⟨e3, rs3, hy3, hp3⟩ := hd 3 (by decide)
      obtain ⟨hv3, hr3⟩ := hy3; subst hr3
      rw [hv3] at e3
      obtain ⟨e8, rs8, hy8, hp8⟩ := hd 8 (by decide)
      obtain ⟨hv8, hr8⟩ := hy8; subst hr8
      rw [hv8] at e8
      obtain ⟨e12, rs12, hy12, hp12⟩ := hd 12 (by decide)
      obtain ⟨hv12, hr12⟩ := hy12; subst hr12
      rw [hv12] at e12
      exact opG_yes rfl rfl (slot_ev e3 rfl) (vv (op_eql rfl (tmp_ev (slot_ev e8 rfl)) (tmp_ev (slot_ev e12 rfl))) (And.intro (by show Value.bool _ = _; simp only [decide_eq_false hb100, decide_true, decide_false, Bool.not_true, Bool.not_false]) rfl))
     refine ⟨fun a w vs159 hA hS hd => ?_, ?_⟩
     ·skip
      obtain ⟨e3, rs3, hy3, hp3⟩ := hd 3 (by decide)
      obtain ⟨hv3, hr3⟩ := hy3; subst hr3
      rw [hv3] at e3
      obtain ⟨e13, rs13, hy13, hp13⟩ := hd 13 (by decide)
      obtain ⟨hv13, hr13⟩ := hy13; subst hr13
      rw [hv13] at e13
      exact opG_of rfl (vv (op_pick_f rfl (tmp_ev (slot_ev e3 rfl)) (tmp_ev (slot_ev e13 rfl))) (And.intro rfl rfl))
     refine ⟨fun a w vs159 hA hS hd => ?_, ?_⟩
     ·skip
      obtain ⟨e14, rs14, hy14, hp14⟩ := hd 14 (by decide)
      obtain ⟨hv14, hr14⟩ := hy14; subst hr14
      rw [hv14] at e14
      exact opG_of rfl (vv (op_move rfl (tmp_ev (slot_ev e14 rfl))) (And.intro rfl rfl))
     refine ⟨fun a w vs159 hA hS hd => ?_, ?_⟩
     ·skip
      obtain ⟨e15, rs15, hy15, hp15⟩ := hd 15 (by decide)
      obtain ⟨hv15, hr15⟩ := hy15; subst hr15
      rw [hv15] at e15
      exact opG_no rfl rfl (slot_ev e15 rfl) rfl (vskip (And.intro rfl rfl))
     refine ⟨fun a w vs159 hA hS hd => ?_, ?_⟩
     ·skip
      obtain ⟨e15, rs15, hy15, hp15⟩ := hd 15 (by decide)
      obtain ⟨hv15, hr15⟩ := hy15; subst hr15
      rw [hv15] at e15
      exact opG_no rfl rfl (slot_ev e15 rfl) rfl (vskip (And.intro rfl rfl))
     refine ⟨fun a w vs159 hA hS hd => ?_, ?_⟩
     ·skip
      obtain ⟨e15, rs15, hy15, hp15⟩ := hd 15 (by decide)
      obtain ⟨hv15, hr15⟩ := hy15; subst hr15
      rw [hv15] at e15
      exact opG_no rfl rfl (slot_ev e15 rfl) rfl (vskip (And.intro rfl rfl))
     refine ⟨fun a w vs159 hA hS hd => ?_, ?_⟩
     ·skip
      obtain ⟨e15, rs15, hy15, hp15⟩ := hd 15 (by decide)
      obtain ⟨hv15, hr15⟩ := hy15; subst hr15
      rw [hv15] at e15
      obtain ⟨e17, rs17, hy17, hp17⟩ := hd 17 (by decide)
      obtain ⟨hv17, hr17⟩ := hy17; subst hr17
      rw [hv17] at e17
      obtain ⟨e18, rs18, hy18, hp18⟩ := hd 18 (by decide)
      obtain ⟨hv18, hr18⟩ := hy18; subst hr18
      rw [hv18] at e18
      exact opG_no rfl rfl (slot_ev e15 rfl) rfl (vskip (And.intro rfl rfl))
     refine ⟨fun a w vs159 hA hS hd => ?_, ?_⟩
     ·skip
      obtain ⟨e15, rs15, hy15, hp15⟩ := hd 15 (by decide)
      obtain ⟨hv15, hr15⟩ := hy15; subst hr15
      rw [hv15] at e15
      obtain ⟨e19, rs19, hy19, hp19⟩ := hd 19 (by decide)
      obtain ⟨hv19, hr19⟩ := hy19; subst hr19
      rw [hv19] at e19
      exact opG_no rfl rfl (slot_ev e15 rfl) rfl (vskip (And.intro rfl rfl))
     trivial
    intro a160 w161 vs159 rsf165 hA162 hH164 hS163; clear hA158 hS28
    obtain ⟨hs_0, hy_0⟩ := hH164 0 (by decide)
    obtain ⟨hv_0, hr_0⟩ := hy_0
    obtain ⟨hs_1, hy_1⟩ := hH164 1 (by decide)
    obtain ⟨hv_1, hr_1⟩ := hy_1
    obtain ⟨hs_2, hy_2⟩ := hH164 2 (by decide)
    obtain ⟨hv_2, hr_2⟩ := hy_2
    obtain ⟨hs_3, hy_3⟩ := hH164 3 (by decide)
    obtain ⟨hv_3, hr_3⟩ := hy_3
    obtain ⟨hs_4, hy_4⟩ := hH164 4 (by decide)
    obtain ⟨hv_4, hr_4⟩ := hy_4
    obtain ⟨hs_5, hy_5⟩ := hH164 5 (by decide)
    obtain ⟨hv_5, hr_5⟩ := hy_5
    obtain ⟨hs_6, hy_6⟩ := hH164 6 (by decide)
    obtain ⟨hv_6, hr_6⟩ := hy_6
    obtain ⟨hs_7, hy_7⟩ := hH164 7 (by decide)
    obtain ⟨hv_7, hr_7⟩ := hy_7
    obtain ⟨hs_8, hy_8⟩ := hH164 8 (by decide)
    obtain ⟨hv_8, hr_8⟩ := hy_8
    obtain ⟨hs_9, hy_9⟩ := hH164 9 (by decide)
    obtain ⟨hv_9, hr_9⟩ := hy_9
    obtain ⟨hs_10, hy_10⟩ := hH164 10 (by decide)
    obtain ⟨hv_10, hr_10⟩ := hy_10
    obtain ⟨hs_11, hy_11⟩ := hH164 11 (by decide)
    obtain ⟨hv_11, hr_11⟩ := hy_11
    obtain ⟨hs_12, hy_12⟩ := hH164 12 (by decide)
    obtain ⟨hv_12, hr_12⟩ := hy_12
    obtain ⟨hs_13, hy_13⟩ := hH164 13 (by decide)
    obtain ⟨hv_13, hr_13⟩ := hy_13
    obtain ⟨hs_14, hy_14⟩ := hH164 14 (by decide)
    obtain ⟨hv_14, hr_14⟩ := hy_14
    obtain ⟨hs_15, hy_15⟩ := hH164 15 (by decide)
    obtain ⟨hv_15, hr_15⟩ := hy_15
    obtain ⟨hs_16, hy_16⟩ := hH164 16 (by decide)
    obtain ⟨hv_16, hr_16⟩ := hy_16
    obtain ⟨hs_17, hy_17⟩ := hH164 17 (by decide)
    obtain ⟨hv_17, hr_17⟩ := hy_17
    obtain ⟨hs_18, hy_18⟩ := hH164 18 (by decide)
    obtain ⟨hv_18, hr_18⟩ := hy_18
    obtain ⟨hs_19, hy_19⟩ := hH164 19 (by decide)
    obtain ⟨hv_19, hr_19⟩ := hy_19
    obtain ⟨hs_20, hy_20⟩ := hH164 20 (by decide)
    obtain ⟨hv_20, hr_20⟩ := hy_20
    have hS166 : Sep NoB w w161 [(row v16 23 1 ov17.length ov17), (lstR ov17 (allF d.tols.length)), (row v3_ 23 1 ((selUpto d (allF d.tols.length) k).length) ((selUpto d (allF d.tols.length) k).map fun i => ov17.getD i nilS)), (blk b4 26 [rl, rs, (Value.int .i64 d.spread), rb]), (rndR false rl rs rb rlv d)] := by rw [show catR rsf165 0 21 = ([] : List Res) by (try simp only [catR, hr_0, hr_1, hr_2, hr_3, hr_4, hr_5, hr_6, hr_7, hr_8, hr_9, hr_10, hr_11, hr_12, hr_13, hr_14, hr_15, hr_16, hr_17, hr_18, hr_19, hr_20]); (try rfl)] at hS163; exact hS163
    rw [hv_15] at hs_15
    have hA167 : Fr 45 [] [(29, (Value.bool false)), (5, (Value.int .i64 (k : Int))), (4, v16), (3, v3_), (1, (bptr b4 0))] a160 := hA162.add (slot_ev hs_15 rfl); clear hA162
    rw [hv_16] at hs_16
    have hA168 : Fr 45 [] [(30, undef), (29, (Value.bool false)), (5, (Value.int .i64 (k : Int))), (4, v16), (3, v3_), (1, (bptr b4 0))] a160 := hA167.add (slot_ev hs_16 rfl); clear hA167
    rw [hv_20] at hs_20
    have hA169 : Fr 45 [] [(34, undef), (30, undef), (29, (Value.bool false)), (5, (Value.int .i64 (k : Int))), (4, v16), (3, v3_), (1, (bptr b4 0))] a160 := hA168.add (slot_ev hs_20 rfl); clear hA168
    clear hH164 hS163 hs_0 hs_1 hs_2 hs_3 hs_4 hs_5 hs_6 hs_7 hs_8 hs_9 hs_10 hs_11 hs_12 hs_13 hs_14 hs_15 hs_16 hs_17 hs_18 hs_19 hs_20
    clear hr_0
    clear hv_0
    clear hr_1
    clear hv_1
    clear hr_2
    clear hv_2
    clear hr_3
    clear hv_3
    clear hr_4
    clear hv_4
    clear hr_5
    clear hv_5
    clear hr_6
    clear hv_6
    clear hr_7
    clear hv_7
    clear hr_8
    clear hv_8
    clear hr_9
    clear hv_9
    clear hr_10
    clear hv_10
    clear hr_11
    clear hv_11
    clear hr_12
    clear hv_12
    clear hr_13
    clear hv_13
    clear hr_14
    clear hv_14
    clear hr_15
    clear hv_15
    clear hr_16
    clear hv_16
    clear hr_17
    clear hv_17
    clear hr_18
    clear hv_18
    clear hr_19
    clear hv_19
    clear hr_20
    clear hv_20
    refine skp hA169 rfl rfl rfl rfl rfl (by decide) fun a170 hA171 => ?_; clear hA169 a160
    refine st hA171 (op_pick_f rfl (hA171.ev rfl) (evc _ _)) rfl rfl (by decide) fun a172 hA173 => ?_; clear hA171 a170
    refine wl_nil ?_
    refine then_n ?_
    refine c_false hA173 rfl ?_
    refine c_skip ?_
    refine blk_n ?_
    refine then_n ?_
    refine c_region ?_
    refine st hA173 (op_move rfl (hA173.ev rfl)) rfl rfl (by decide) fun a174 hA175 => ?_; clear hA173 a172
    refine st hA175 (op_add rfl (hA175.ev rfl) (evc _ _) (by omega) (by omega)) rfl rfl (by decide) fun a176 hA177 => ?_; clear hA175 a174
    refine st hA177 (op_assign rfl (hA177.ev rfl)) rfl rfl (by decide) fun a178 hA179 => ?_; clear hA177 a176
    refine wl_nil ?_
    exact then_n ⟨k + 1, ⟨v3_, hA179.as _ rfl, (hS166.row_say (i := 2) rfl (by (first | rw [sel_no1 (by assumption)] | rw [sel_no2 (by omega) (by assumption)]) <;> simp) (by (first | rw [sel_no1 (by assumption)] | rw [sel_no2 (by omega) (by assumption)]) <;> simp)), by omega⟩, by omega⟩
 ·skip
  rw [decide_eq_false hb37] at hA36
  refine c_false hA36 rfl ?_
  refine c_exit ?_
  refine then_exit ?_
  refine then_exit ?_
  refine blk_hit ?_
  refine then_n ?_
  refine c_seq ?_
  have hA180 := hA36.as [(3, v3_)] rfl; clear hA36
  refine c_region ?_
  refine st hA180 (op_move rfl (hA180.ev rfl)) rfl rfl (by decide) fun a181 hA182 => ?_; clear hA180 a35
  refine st hA182 (op_assign rfl (hA182.ev rfl)) rfl rfl (by decide) fun a183 hA184 => ?_; clear hA182 a181
  refine wl_nil ?_
  refine then_n ?_
  refine c_ret ?_
  refine fin_run hA184 (.inl rfl) (run_results1 hA184 rfl (.tmp rfl)) ?_
  have h1 := (hS28.keep [1, 2] (by decide) _ rfl rfl).lst_sel (selUpto d (allF d.tols.length) k) (fun i hi => by have := selUpto_lt d (allF d.tols.length) k i hi; omega)
  rw [sel_fewest d (by omega)] at h1
  exact ⟨_, (h1.row_say (i := 1) rfl (n' := ((selUpto d (allF d.tols.length) k).map fun i => ov17.getD i nilS).length) (xs' := ((selUpto d (allF d.tols.length) k).map fun i => ov17.getD i nilS)) (by simp) rfl).keep [1, 0] (by decide) _ rfl rfl⟩

end Go.Proofs.Ytfhmigoddaaljaa

namespace Go.Proofs.Ytfhmigoddaaljaa
open Go.RowKit Go.Shelf Go.Eng
set_option maxHeartbeats 4000000 in
theorem RoundConvicts_a (rl rs rb : Value) (rlv : List Value) (d : RD) (w : World) (hR : RoundAt w rl rs rb rlv d) (hf : fewB d = false) :
  Calls Try.prog 13 #[(Value.agg #[rl, rs, (Value.int .i64 d.spread), rb])] w (Ret fun v w' => v = .bool true ∧ Ext NoB w w') := by
 refine calls_enter Try.func13 rfl fun a0 hA0 => ?_
 replace hA0 : Fr 91 [] [(0, (Value.agg #[rl, rs, (Value.int .i64 d.spread), rb]))] a0 := hA0
 have hS0 : Sep NoB w w [(rndR false rl rs rb rlv d)] := sep_ro ⟨rfl, hR, trivial⟩
 refine c_seq ?_
 refine c_region ?_
 refine stw hA0 (op_box hS0 rfl (hA0.ev rfl) (cs := [rl, rs, (Value.int .i64 d.spread), rb]) rfl) rfl rfl (by decide) ?_
 rintro a1 _ w3 ⟨b4, rfl, hS5⟩ hA2; clear hA0 hS0 a0
 refine st hA2 (op_assign rfl (evc _ _)) rfl rfl (by decide) fun a6 hA7 => ?_; clear hA2 a1
 refine wl_nil ?_
 refine then_n ?_
 refine c_seq ?_
 refine c_seq ?_
 refine c_region ?_
 refine st hA7 (op_loadA rfl ty_26 (hA7.ev rfl) (hS5.bk 0 rfl) (l := [rl, rs, (Value.int .i64 d.spread), rb]) rfl rfl) rfl rfl (by decide) fun a8 hA9 => ?_; clear hA7 a6
 refine stw hA9 (op_call rfl en_17 (ev1 (hA9.ev rfl)) (Few_ok rl rs rb rlv d _ (rnd_at (hS5.ok 1 _ rfl)))) rfl rfl (by decide) ?_
 rintro a10 _ w12 ⟨rfl, hE13⟩ hA11; have hS14 := hS5.step hE13; clear hE13 hA9 hS5 a8
 rw [hf] at hA11
 refine st hA11 (op_not rfl (hA11.ev rfl)) rfl rfl (by decide) fun a15 hA16 => ?_; clear hA11 a10
 refine st hA16 (op_move rfl (hA16.ev rfl)) rfl rfl (by decide) fun a17 hA18 => ?_; clear hA16 a15
 refine skp hA18 rfl rfl rfl rfl rfl (by decide) fun a19 hA20 => ?_; clear hA18 a17
 refine skp hA20 rfl rfl rfl rfl rfl (by decide) fun a21 hA22 => ?_; clear hA20 a19
 refine skp hA22 rfl rfl rfl rfl rfl (by decide) fun a23 hA24 => ?_; clear hA22 a21
 refine skp hA24 rfl rfl rfl rfl rfl (by decide) fun a25 hA26 => ?_; clear hA24 a23
 refine skpU hA26 rfl rfl rfl rfl (by decide) fun a27 hA28 => ?_; clear hA26 a25
 refine skpU hA28 rfl rfl rfl rfl (by decide) fun a29 hA30 => ?_; clear hA28 a27
 refine skpU hA30 rfl rfl rfl rfl (by decide) fun a31 hA32 => ?_; clear hA30 a29
 refine skpU hA32 rfl rfl rfl rfl (by decide) fun a33 hA34 => ?_; clear hA32 a31
 refine skp hA34 rfl rfl rfl rfl rfl (by decide) fun a35 hA36 => ?_; clear hA34 a33
 refine st hA36 (op_pick_t rfl (hA36.ev rfl) (evc _ _)) rfl rfl (by decide) fun a37 hA38 => ?_; clear hA36 a35
 refine wl_nil ?_
 refine then_n ?_
 refine c_true hA38 rfl ?_
 refine c_seq ?_
 have hA39 := hA38.as [] rfl; clear hA38
 refine c_region ?_
 refine stw hA39 (op_call rfl en_18 ev0 (wakes_ok _)) rfl rfl (by decide) ?_
 rintro a40 _ w42 ⟨rfl, hE43⟩ hA41; have hS44 := hS14.step hE43; clear hE43 hA39 hS14 a37
 refine st hA41 (op_assign rfl (hA41.ev rfl)) rfl rfl (by decide) fun a45 hA46 => ?_; clear hA41 a40
 refine wl_nil ?_
 refine then_n ?_
 refine c_ret ?_
 refine then_ret ?_
 refine fin_run hA46 (.inl rfl) (run_results1 hA46 rfl (.tmp rfl)) ?_
 exact ⟨rfl, hS44.ext⟩

set_option maxHeartbeats 4000000 in
theorem RoundConvicts_b (rl rs rb : Value) (rlv : List Value) (d : RD) (w : World) (hR : RoundAt w rl rs rb rlv d) (hf : fewB d = true) (hc : checkR d = 0) (h4 : 4 < d.tols.length) :
  Calls Try.prog 13 #[(Value.agg #[rl, rs, (Value.int .i64 d.spread), rb])] w (Ret fun v w' => v = .bool true ∧ Ext NoB w w') := by
 refine calls_enter Try.func13 rfl fun a0 hA0 => ?_
 replace hA0 : Fr 91 [] [(0, (Value.agg #[rl, rs, (Value.int .i64 d.spread), rb]))] a0 := hA0
 have hS0 : Sep NoB w w [(rndR false rl rs rb rlv d)] := sep_ro ⟨rfl, hR, trivial⟩
 refine c_seq ?_
 refine c_region ?_
 refine stw hA0 (op_box hS0 rfl (hA0.ev rfl) (cs := [rl, rs, (Value.int .i64 d.spread), rb]) rfl) rfl rfl (by decide) ?_
 rintro a1 _ w3 ⟨b4, rfl, hS5⟩ hA2; clear hA0 hS0 a0
 refine st hA2 (op_assign rfl (evc _ _)) rfl rfl (by decide) fun a6 hA7 => ?_; clear hA2 a1
 refine wl_nil ?_
 refine then_n ?_
 refine c_seq ?_
 refine c_seq ?_
 refine c_region ?_
 refine st hA7 (op_loadA rfl ty_26 (hA7.ev rfl) (hS5.bk 0 rfl) (l := [rl, rs, (Value.int .i64 d.spread), rb]) rfl rfl) rfl rfl (by decide) fun a8 hA9 => ?_; clear hA7 a6
 refine stw hA9 (op_call rfl en_17 (ev1 (hA9.ev rfl)) (Few_ok rl rs rb rlv d _ (rnd_at (hS5.ok 1 _ rfl)))) rfl rfl (by decide) ?_
 rintro a10 _ w12 ⟨rfl, hE13⟩ hA11; have hS14 := hS5.step hE13; clear hE13 hA9 hS5 a8
 rw [hf] at hA11
 refine st hA11 (op_not rfl (hA11.ev rfl)) rfl rfl (by decide) fun a15 hA16 => ?_; clear hA11 a10
 refine st hA16 (op_move rfl (hA16.ev rfl)) rfl rfl (by decide) fun a17 hA18 => ?_; clear hA16 a15
 refine stg hA18 (op_loadA rfl ty_26 (hA18.ev rfl) (hS14.bk 0 rfl) (l := [rl, rs, (Value.int .i64 d.spread), rb]) rfl rfl) rfl rfl rfl rfl (by decide) fun a19 hA20 => ?_; clear hA18 a17
 refine stwg hA20 (op_call rfl en_28 (ev1 (hA20.ev rfl)) (Fault_ok rl rs rb rlv d _ (rnd_at (hS14.ok 1 _ rfl)))) rfl rfl rfl rfl (by decide) ?_
 rintro a21 _ w23 ⟨rfl, hE24⟩ hA22; have hS25 := hS14.step hE24; clear hE24 hA20 hS14 a19
 refine stg hA22 (op_eql rfl (hA22.ev rfl) (evc _ _)) rfl rfl rfl rfl (by decide) fun a26 hA27 => ?_; clear hA22 a21
 have hd28 : (checkR d) = 0 := hc
 rw [decide_eq_true hd28] at hA27
 refine stg hA27 (op_move rfl (hA27.ev rfl)) rfl rfl rfl rfl (by decide) fun a29 hA30 => ?_; clear hA27 a26
 refine stg hA30 (op_field rfl fd_26_3 (hA30.ev rfl)) rfl rfl rfl rfl (by decide) fun a31 hA32 => ?_; clear hA30 a29
 refine stg hA32 (op_load1 rfl ty_24 (hA32.ev rfl) (hS25.bk 0 rfl) rfl) rfl rfl rfl rfl (by decide) fun a33 hA34 => ?_; clear hA32 a31
 refine stg hA34 (op_lenS rfl un_24 (hA34.ev rfl) (rnd_at (hS25.ok 1 _ rfl)).labs) rfl rfl rfl rfl (by decide) fun a35 hA36 => ?_; clear hA34 a33
 refine stg hA36 (op_gtr rfl (hA36.ev rfl) (evc _ _)) rfl rfl rfl rfl (by decide) fun a37 hA38 => ?_; clear hA36 a35
 have hd39 : 4 < (d.tols.length : Int) := (by omega)
 rw [decide_eq_true hd39] at hA38
 refine stg hA38 (op_pick_t rfl (hA38.ev rfl) (hA38.ev rfl)) rfl rfl rfl rfl (by decide) fun a40 hA41 => ?_; clear hA38 a37
 refine st hA41 (op_pick_f rfl (hA41.ev rfl) (hA41.ev rfl)) rfl rfl (by decide) fun a42 hA43 => ?_; clear hA41 a40
 refine wl_nil ?_
 refine then_n ?_
 refine c_true hA43 rfl ?_
 refine c_seq ?_
 have hA44 := hA43.as [] rfl; clear hA43
 refine c_region ?_
 refine stw hA44 (op_call rfl en_18 ev0 (wakes_ok _)) rfl rfl (by decide) ?_
 rintro a45 _ w47 ⟨rfl, hE48⟩ hA46; have hS49 := hS25.step hE48; clear hE48 hA44 hS25 a42
 refine st hA46 (op_assign rfl (hA46.ev rfl)) rfl rfl (by decide) fun a50 hA51 => ?_; clear hA46 a45
 refine wl_nil ?_
 refine then_n ?_
 refine c_ret ?_
 refine then_ret ?_
 refine fin_run hA51 (.inl rfl) (run_results1 hA51 rfl (.tmp rfl)) ?_
 exact ⟨rfl, hS49.ext⟩

set_option maxHeartbeats 4000000 in
theorem RoundConvicts_c (rl rs rb : Value) (rlv : List Value) (d : RD) (w : World) (hR : RoundAt w rl rs rb rlv d) (hf : fewB d = true) (hc : checkR d ≠ 0) :
  Calls Try.prog 13 #[(Value.agg #[rl, rs, (Value.int .i64 d.spread), rb])] w (Ret fun v w' => v = .bool true ∧ Ext NoB w w') := by
 refine calls_enter Try.func13 rfl fun a0 hA0 => ?_
 replace hA0 : Fr 91 [] [(0, (Value.agg #[rl, rs, (Value.int .i64 d.spread), rb]))] a0 := hA0
 have hth := thin_of (fewB_thin hf)
 have hS0 : Sep NoB w w [(rndR false rl rs rb rlv d)] := sep_ro ⟨rfl, hR, trivial⟩
 refine c_seq ?_
 refine c_region ?_
 refine stw hA0 (op_box hS0 rfl (hA0.ev rfl) (cs := [rl, rs, (Value.int .i64 d.spread), rb]) rfl) rfl rfl (by decide) ?_
 rintro a1 _ w3 ⟨b4, rfl, hS5⟩ hA2; clear hA0 hS0 a0
 refine st hA2 (op_assign rfl (evc _ _)) rfl rfl (by decide) fun a6 hA7 => ?_; clear hA2 a1
 refine wl_nil ?_
 refine then_n ?_
 refine c_seq ?_
 refine c_seq ?_
 refine c_region ?_
 refine st hA7 (op_loadA rfl ty_26 (hA7.ev rfl) (hS5.bk 0 rfl) (l := [rl, rs, (Value.int .i64 d.spread), rb]) rfl rfl) rfl rfl (by decide) fun a8 hA9 => ?_; clear hA7 a6
 refine stw hA9 (op_call rfl en_17 (ev1 (hA9.ev rfl)) (Few_ok rl rs rb rlv d _ (rnd_at (hS5.ok 1 _ rfl)))) rfl rfl (by decide) ?_
 rintro a10 _ w12 ⟨rfl, hE13⟩ hA11; have hS14 := hS5.step hE13; clear hE13 hA9 hS5 a8
 rw [hf] at hA11
 refine st hA11 (op_not rfl (hA11.ev rfl)) rfl rfl (by decide) fun a15 hA16 => ?_; clear hA11 a10
 refine st hA16 (op_move rfl (hA16.ev rfl)) rfl rfl (by decide) fun a17 hA18 => ?_; clear hA16 a15
 refine stg hA18 (op_loadA rfl ty_26 (hA18.ev rfl) (hS14.bk 0 rfl) (l := [rl, rs, (Value.int .i64 d.spread), rb]) rfl rfl) rfl rfl rfl rfl (by decide) fun a19 hA20 => ?_; clear hA18 a17
 refine stwg hA20 (op_call rfl en_28 (ev1 (hA20.ev rfl)) (Fault_ok rl rs rb rlv d _ (rnd_at (hS14.ok 1 _ rfl)))) rfl rfl rfl rfl (by decide) ?_
 rintro a21 _ w23 ⟨rfl, hE24⟩ hA22; have hS25 := hS14.step hE24; clear hE24 hA20 hS14 a19
 refine stg hA22 (op_eql rfl (hA22.ev rfl) (evc _ _)) rfl rfl rfl rfl (by decide) fun a26 hA27 => ?_; clear hA22 a21
 have hd28 : ¬ ((checkR d) = 0) := hc
 rw [decide_eq_false hd28] at hA27
 refine stg hA27 (op_move rfl (hA27.ev rfl)) rfl rfl rfl rfl (by decide) fun a29 hA30 => ?_; clear hA27 a26
 refine skp hA30 rfl rfl rfl rfl rfl (by decide) fun a31 hA32 => ?_; clear hA30 a29
 refine skp hA32 rfl rfl rfl rfl rfl (by decide) fun a33 hA34 => ?_; clear hA32 a31
 refine skp hA34 rfl rfl rfl rfl rfl (by decide) fun a35 hA36 => ?_; clear hA34 a33
 refine skp hA36 rfl rfl rfl rfl rfl (by decide) fun a37 hA38 => ?_; clear hA36 a35
 refine stg hA38 (op_pick_f rfl (hA38.ev rfl) (evc _ _)) rfl rfl rfl rfl (by decide) fun a39 hA40 => ?_; clear hA38 a37
 refine st hA40 (op_pick_f rfl (hA40.ev rfl) (hA40.ev rfl)) rfl rfl (by decide) fun a41 hA42 => ?_; clear hA40 a39
 refine wl_nil ?_
 refine then_n ?_
 refine c_false hA42 rfl ?_
 refine c_skip ?_
 refine then_n ?_
 refine c_seq ?_
 have hA43 := hA42.as [(1, (bptr b4 0))] rfl; clear hA42
 refine c_region ?_
 refine st hA43 (op_loadA rfl ty_26 (hA43.ev rfl) (hS25.bk 0 rfl) (l := [rl, rs, (Value.int .i64 d.spread), rb]) rfl rfl) rfl rfl (by decide) fun a44 hA45 => ?_; clear hA43 a41
 refine stw hA45 (op_call rfl en_20 (ev1 (hA45.ev rfl)) (Round_ok rl rs rb rlv d _ (rnd_at (hS25.ok 1 _ rfl)) hth)) rfl rfl (by decide) ?_
 rintro a46 _ w48 ⟨vl49, vs50, vb51, lv52, rfl, hT53⟩ hA47; have hS54 := hS25.callS hT53 rfl; clear hT53 hA45 hS25 a44
 refine stw hA47 (op_call rfl en_38 (ev1 (hA47.ev rfl)) (by have h := (conv_fn vl49 vs50 vb51 lv52 d _ (rnd_at (hS54.ok 0 _ rfl))); rw [convR_bad hc] at h; exact h)) rfl rfl (by decide) ?_
 rintro a55 _ w57 ⟨u61, rfl, hE58, hO59⟩ hA56; clear hA47 a46
 have hS60 : Sep NoB w w57 [(row u61 3 1 (([] : List Int).length) (ints ([] : List Int))), (rndR true vl49 vs50 vb51 lv52 d), (blk b4 26 [rl, rs, (Value.int .i64 d.spread), rb]), (rndR false rl rs rb rlv d)] := hS54.new_row hE58 hO59; clear hE58 hO59 hS54
 refine st hA56 (op_move rfl (hA56.ev rfl)) rfl rfl (by decide) fun a62 hA63 => ?_; clear hA56 a55
 refine st hA63 (op_extract rfl (hA63.ev rfl) rfl) rfl rfl (by decide) fun a64 hA65 => ?_; clear hA63 a62
 refine st hA65 (op_extract rfl (hA65.ev rfl) rfl) rfl rfl (by decide) fun a66 hA67 => ?_; clear hA65 a64
 refine st hA67 (op_assign rfl (hA67.ev rfl)) rfl rfl (by decide) fun a68 hA69 => ?_; clear hA67 a66
 refine st hA69 (op_assign rfl (hA69.ev rfl)) rfl rfl (by decide) fun a70 hA71 => ?_; clear hA69 a68
 refine wl_nil ?_
 refine then_n ?_
 refine c_seq ?_
 have hA72 := hA71.as [(4, (Value.int .i64 (checkR d))), (3, u61), (1, (bptr b4 0))] rfl; clear hA71
 refine c_region ?_
 refine st hA72 (op_loadA rfl ty_26 (hA72.ev rfl) (hS60.bk 2 rfl) (l := [rl, rs, (Value.int .i64 d.spread), rb]) rfl rfl) rfl rfl (by decide) fun a73 hA74 => ?_; clear hA72 a70
 refine stw hA74 (op_call rfl en_23 (ev1 (hA74.ev rfl)) (fault_ok rl rs rb rlv d _ (rnd_at (hS60.ok 3 _ rfl)))) rfl rfl (by decide) ?_
 rintro a75 _ w77 ⟨rfl, hE78⟩ hA76; have hS79 := hS60.step hE78; clear hE78 hA74 hS60 a73
 refine st hA76 (op_assign rfl (hA76.ev rfl)) rfl rfl (by decide) fun a80 hA81 => ?_; clear hA76 a75
 refine wl_nil ?_
 refine then_n ?_
 refine c_seq ?_
 refine c_region ?_
 refine st hA81 (op_assign rfl (evc _ _)) rfl rfl (by decide) fun a82 hA83 => ?_; clear hA81 a80
 have hS84 := hS79.nil_row 3 1; clear hS79
 refine wl_nil ?_
 refine then_n ?_
 refine c_seq ?_
 refine c_seq ?_
 refine c_region ?_
 refine st hA83 (op_move rfl (hA83.ev rfl)) rfl rfl (by decide) fun a85 hA86 => ?_; clear hA83 a82
 refine st hA86 (op_eql rfl (hA86.ev rfl) (evc _ _)) rfl rfl (by decide) fun a87 hA88 => ?_; clear hA86 a85
 rw [decide_eq_false hd28] at hA88
 refine wl_nil ?_
 refine then_n ?_
 refine c_false hA88 rfl ?_
 refine c_skip ?_
 refine then_n ?_
 refine c_seq ?_
 refine c_seq ?_
 refine c_region ?_
 refine st hA88 (op_move rfl (hA88.ev rfl)) rfl rfl (by decide) fun a89 hA90 => ?_; clear hA88 a87
 refine st hA90 (op_neq rfl (hA90.ev rfl) (evc _ _)) rfl rfl (by decide) fun a91 hA92 => ?_; clear hA90 a89
 rw [decide_eq_false hd28] at hA92
 refine wl_nil ?_
 refine then_n ?_
 refine c_true hA92 rfl ?_
 refine c_seq ?_
 have hA93 := hA92.as [(5, (Value.int .i64 (checkR d))), (4, (Value.int .i64 (checkR d))), (3, u61)] rfl; clear hA92
 refine c_region ?_
 refine st hA93 (op_move rfl (hA93.ev rfl)) rfl rfl (by decide) fun a94 hA95 => ?_; clear hA93 a91
 refine st hA95 (op_move rfl (hA95.ev rfl)) rfl rfl (by decide) fun a96 hA97 => ?_; clear hA95 a94
 refine st hA97 (op_eql rfl (hA97.ev rfl) (hA97.ev rfl)) rfl rfl (by decide) fun a98 hA99 => ?_; clear hA97 a96
 have hd100 : (checkR d) = (checkR d) := rfl
 rw [decide_eq_true hd100] at hA99
 refine st hA99 (op_move rfl (hA99.ev rfl)) rfl rfl (by decide) fun a101 hA102 => ?_; clear hA99 a98
 refine stg hA102 (op_move rfl (hA102.ev rfl)) rfl rfl rfl rfl (by decide) fun a103 hA104 => ?_; clear hA102 a101
 refine stg hA104 (op_lenS rfl un_23 (hA104.ev rfl) (SlAt.of_row (hS84.ok_row 1 rfl))) rfl rfl rfl rfl (by decide) fun a105 hA106 => ?_; clear hA104 a103
 refine stg hA106 (op_eql rfl (hA106.ev rfl) (evc _ _)) rfl rfl rfl rfl (by decide) fun a107 hA108 => ?_; clear hA106 a105
 have hd109 : (([] : List Int).length : Int) = 0 := rfl
 rw [decide_eq_true hd109] at hA108
 refine st hA108 (op_pick_t rfl (hA108.ev rfl) (hA108.ev rfl)) rfl rfl (by decide) fun a110 hA111 => ?_; clear hA108 a107
 refine st hA111 (op_move rfl (hA111.ev rfl)) rfl rfl (by decide) fun a112 hA113 => ?_; clear hA111 a110
 refine stwg hA113 (op_call rfl en_18 ev0 (wakes_ok _)) rfl rfl rfl rfl (by decide) ?_
 rintro a114 _ w116 ⟨rfl, hE117⟩ hA115; have hS118 := hS84.step hE117; clear hE117 hA113 hS84 a112
 refine st hA115 (op_pick_t rfl (hA115.ev rfl) (hA115.ev rfl)) rfl rfl (by decide) fun a119 hA120 => ?_; clear hA115 a114
 refine st hA120 (op_assign rfl (hA120.ev rfl)) rfl rfl (by decide) fun a121 hA122 => ?_; clear hA120 a119
 refine wl_nil ?_
 refine then_n ?_
 refine c_ret ?_
 refine then_ret ?_
 refine fin_run hA122 (.inl rfl) (run_results1 hA122 rfl (.tmp rfl)) ?_
 exact ⟨rfl, hS118.ext⟩

set_option maxHeartbeats 4000000 in
theorem RoundConvicts_d (rl rs rb : Value) (rlv : List Value) (d : RD) (w : World) (hR : RoundAt w rl rs rb rlv d) (hf : fewB d = true) (hc : checkR d = 0) (h4 : d.tols.length ≤ 4) (h0 : (convF d).length = 0) :
  Calls Try.prog 13 #[(Value.agg #[rl, rs, (Value.int .i64 d.spread), rb])] w (Ret fun v w' => v = .bool true ∧ Ext NoB w w') := by
 refine calls_enter Try.func13 rfl fun a0 hA0 => ?_
 replace hA0 : Fr 91 [] [(0, (Value.agg #[rl, rs, (Value.int .i64 d.spread), rb]))] a0 := hA0
 have hth := thin_of (fewB_thin hf); have hV := valid_of hc; have hfl := fewUpto_len d hV.nb (d.tols.length + 1) (by have := hV.nb; omega); rw [show fewUpto d (d.tols.length + 1) = fewestF d from rfl] at hfl; have hnb := hV.nb; have hfe := fewest_each hV 0; have hcf := convF_len d
 have hS0 : Sep NoB w w [(rndR false rl rs rb rlv d)] := sep_ro ⟨rfl, hR, trivial⟩
 refine c_seq ?_
 refine c_region ?_
 refine stw hA0 (op_box hS0 rfl (hA0.ev rfl) (cs := [rl, rs, (Value.int .i64 d.spread), rb]) rfl) rfl rfl (by decide) ?_
 rintro a1 _ w3 ⟨b4, rfl, hS5⟩ hA2; clear hA0 hS0 a0
 refine st hA2 (op_assign rfl (evc _ _)) rfl rfl (by decide) fun a6 hA7 => ?_; clear hA2 a1
 refine wl_nil ?_
 refine then_n ?_
 refine c_seq ?_
 refine c_seq ?_
 refine c_region ?_
 refine st hA7 (op_loadA rfl ty_26 (hA7.ev rfl) (hS5.bk 0 rfl) (l := [rl, rs, (Value.int .i64 d.spread), rb]) rfl rfl) rfl rfl (by decide) fun a8 hA9 => ?_; clear hA7 a6
 refine stw hA9 (op_call rfl en_17 (ev1 (hA9.ev rfl)) (Few_ok rl rs rb rlv d _ (rnd_at (hS5.ok 1 _ rfl)))) rfl rfl (by decide) ?_
 rintro a10 _ w12 ⟨rfl, hE13⟩ hA11; have hS14 := hS5.step hE13; clear hE13 hA9 hS5 a8
 rw [hf] at hA11
 refine st hA11 (op_not rfl (hA11.ev rfl)) rfl rfl (by decide) fun a15 hA16 => ?_; clear hA11 a10
 refine st hA16 (op_move rfl (hA16.ev rfl)) rfl rfl (by decide) fun a17 hA18 => ?_; clear hA16 a15
 refine stg hA18 (op_loadA rfl ty_26 (hA18.ev rfl) (hS14.bk 0 rfl) (l := [rl, rs, (Value.int .i64 d.spread), rb]) rfl rfl) rfl rfl rfl rfl (by decide) fun a19 hA20 => ?_; clear hA18 a17
 refine stwg hA20 (op_call rfl en_28 (ev1 (hA20.ev rfl)) (Fault_ok rl rs rb rlv d _ (rnd_at (hS14.ok 1 _ rfl)))) rfl rfl rfl rfl (by decide) ?_
 rintro a21 _ w23 ⟨rfl, hE24⟩ hA22; have hS25 := hS14.step hE24; clear hE24 hA20 hS14 a19
 refine stg hA22 (op_eql rfl (hA22.ev rfl) (evc _ _)) rfl rfl rfl rfl (by decide) fun a26 hA27 => ?_; clear hA22 a21
 have hd28 : (checkR d) = 0 := hc
 rw [decide_eq_true hd28] at hA27
 refine stg hA27 (op_move rfl (hA27.ev rfl)) rfl rfl rfl rfl (by decide) fun a29 hA30 => ?_; clear hA27 a26
 refine stg hA30 (op_field rfl fd_26_3 (hA30.ev rfl)) rfl rfl rfl rfl (by decide) fun a31 hA32 => ?_; clear hA30 a29
 refine stg hA32 (op_load1 rfl ty_24 (hA32.ev rfl) (hS25.bk 0 rfl) rfl) rfl rfl rfl rfl (by decide) fun a33 hA34 => ?_; clear hA32 a31
 refine stg hA34 (op_lenS rfl un_24 (hA34.ev rfl) (rnd_at (hS25.ok 1 _ rfl)).labs) rfl rfl rfl rfl (by decide) fun a35 hA36 => ?_; clear hA34 a33
 refine stg hA36 (op_gtr rfl (hA36.ev rfl) (evc _ _)) rfl rfl rfl rfl (by decide) fun a37 hA38 => ?_; clear hA36 a35
 have hd39 : ¬ (4 < (d.tols.length : Int)) := (by omega)
 rw [decide_eq_false hd39] at hA38
 refine stg hA38 (op_pick_t rfl (hA38.ev rfl) (hA38.ev rfl)) rfl rfl rfl rfl (by decide) fun a40 hA41 => ?_; clear hA38 a37
 refine st hA41 (op_pick_f rfl (hA41.ev rfl) (hA41.ev rfl)) rfl rfl (by decide) fun a42 hA43 => ?_; clear hA41 a40
 refine wl_nil ?_
 refine then_n ?_
 refine c_false hA43 rfl ?_
 refine c_skip ?_
 refine then_n ?_
 refine c_seq ?_
 have hA44 := hA43.as [(1, (bptr b4 0))] rfl; clear hA43
 refine c_region ?_
 refine st hA44 (op_loadA rfl ty_26 (hA44.ev rfl) (hS25.bk 0 rfl) (l := [rl, rs, (Value.int .i64 d.spread), rb]) rfl rfl) rfl rfl (by decide) fun a45 hA46 => ?_; clear hA44 a42
 refine stw hA46 (op_call rfl en_20 (ev1 (hA46.ev rfl)) (Round_ok rl rs rb rlv d _ (rnd_at (hS25.ok 1 _ rfl)) hth)) rfl rfl (by decide) ?_
 rintro a47 _ w49 ⟨vl50, vs51, vb52, lv53, rfl, hT54⟩ hA48; have hS55 := hS25.callS hT54 rfl; clear hT54 hA46 hS25 a45
 refine stw hA48 (op_call rfl en_38 (ev1 (hA48.ev rfl)) (by have h := (conv_fn vl50 vs51 vb52 lv53 d _ (rnd_at (hS55.ok 0 _ rfl))); rw [convR_none hc h0] at h; exact h)) rfl rfl (by decide) ?_
 rintro a56 _ w58 ⟨u62, rfl, hE59, hO60⟩ hA57; clear hA48 a47
 have hS61 : Sep NoB w w58 [(row u62 3 1 (([] : List Int).length) (ints ([] : List Int))), (rndR true vl50 vs51 vb52 lv53 d), (blk b4 26 [rl, rs, (Value.int .i64 d.spread), rb]), (rndR false rl rs rb rlv d)] := hS55.new_row hE59 hO60; clear hE59 hO60 hS55
 refine st hA57 (op_move rfl (hA57.ev rfl)) rfl rfl (by decide) fun a63 hA64 => ?_; clear hA57 a56
 refine st hA64 (op_extract rfl (hA64.ev rfl) rfl) rfl rfl (by decide) fun a65 hA66 => ?_; clear hA64 a63
 refine st hA66 (op_extract rfl (hA66.ev rfl) rfl) rfl rfl (by decide) fun a67 hA68 => ?_; clear hA66 a65
 refine st hA68 (op_assign rfl (hA68.ev rfl)) rfl rfl (by decide) fun a69 hA70 => ?_; clear hA68 a67
 refine st hA70 (op_assign rfl (hA70.ev rfl)) rfl rfl (by decide) fun a71 hA72 => ?_; clear hA70 a69
 refine wl_nil ?_
 refine then_n ?_
 refine c_seq ?_
 have hA73 := hA72.as [(4, (Value.int .i64 7)), (3, u62), (1, (bptr b4 0))] rfl; clear hA72
 refine c_region ?_
 refine st hA73 (op_loadA rfl ty_26 (hA73.ev rfl) (hS61.bk 2 rfl) (l := [rl, rs, (Value.int .i64 d.spread), rb]) rfl rfl) rfl rfl (by decide) fun a74 hA75 => ?_; clear hA73 a71
 refine stw hA75 (op_call rfl en_23 (ev1 (hA75.ev rfl)) (fault_ok rl rs rb rlv d _ (rnd_at (hS61.ok 3 _ rfl)))) rfl rfl (by decide) ?_
 rintro a76 _ w78 ⟨rfl, hE79⟩ hA77; have hS80 := hS61.step hE79; clear hE79 hA75 hS61 a74
 refine st hA77 (op_assign rfl (hA77.ev rfl)) rfl rfl (by decide) fun a81 hA82 => ?_; clear hA77 a76
 refine wl_nil ?_
 refine then_n ?_
 refine c_seq ?_
 refine c_region ?_
 refine st hA82 (op_assign rfl (evc _ _)) rfl rfl (by decide) fun a83 hA84 => ?_; clear hA82 a81
 have hS85 := hS80.nil_row 3 1; clear hS80
 refine wl_nil ?_
 refine then_n ?_
 refine c_seq ?_
 refine c_seq ?_
 refine c_region ?_
 refine st hA84 (op_move rfl (hA84.ev rfl)) rfl rfl (by decide) fun a86 hA87 => ?_; clear hA84 a83
 refine st hA87 (op_eql rfl (hA87.ev rfl) (evc _ _)) rfl rfl (by decide) fun a88 hA89 => ?_; clear hA87 a86
 rw [decide_eq_true hd28] at hA89
 refine wl_nil ?_
 refine then_n ?_
 refine c_true hA89 rfl ?_
 refine c_seq ?_
 refine c_region ?_
 refine st hA89 (op_loadA rfl ty_26 (hA89.ev rfl) (hS85.bk 3 rfl) (l := [rl, rs, (Value.int .i64 d.spread), rb]) rfl rfl) rfl rfl (by decide) fun a90 hA91 => ?_; clear hA89 a88
 refine stw hA91 (op_call rfl en_31 (ev1 (hA91.ev rfl)) (Fewest_ok rl rs rb rlv d _ (rnd_at (hS85.ok 4 _ rfl)) hV)) rfl rfl (by decide) ?_
 rintro a92 v95 w94 ⟨ov96, hT97⟩ hA93; have hS98 := hS85.callS hT97 rfl; clear hT97 hA91 hS85 a90
 have hol_ov96 := hS98.lst_len 1 rfl; have hfp := fewest_pos hV
 refine st hA93 (op_assign rfl (hA93.ev rfl)) rfl rfl (by decide) fun a99 hA100 => ?_; clear hA93 a92
 refine wl_nil ?_
 refine then_n ?_
 refine c_seq ?_
 refine c_seq ?_
 have hA101 := hA100.as [(7, v95), (6, (Value.slice none 0 0)), (5, (Value.int .i64 (checkR d))), (4, (Value.int .i64 7)), (3, u62), (1, (bptr b4 0))] rfl; clear hA100
 refine c_region ?_
 refine st hA101 (op_assign rfl (evc _ _)) rfl rfl (by decide) fun a102 hA103 => ?_; clear hA101 a99
 refine wl_nil ?_
 refine then_n ?_
 refine c_block ?_
 have hA104 := hA103.as [(8, (Value.int .i64 0)), (7, v95), (6, (Value.slice none 0 0)), (5, (Value.int .i64 (checkR d))), (4, (Value.int .i64 7)), (3, u62), (1, (bptr b4 0))] rfl; clear hA103
 refine c_loop (G := Nat) (fun (k : Nat) a_ w_ => ∃ v6_ : Value, Fr 91 [] [(8, (Value.int .i64 (k : Int))), (7, v95), (6, v6_), (5, (Value.int .i64 (checkR d))), (4, (Value.int .i64 7)), (3, u62), (1, (bptr b4 0))] a_ ∧ Sep NoB w w_ [(row v95 23 1 ov96.length ov96), (lstR ov96 (fewestF d)), (row v6_ 3 1 ((cvUpto d k).length) (ints (cvUpto d k))), (row u62 3 1 (([] : List Int).length) (ints ([] : List Int))), (rndR true vl50 vs51 vb52 lv53 d), (blk b4 26 [rl, rs, (Value.int .i64 d.spread), rb]), (rndR false rl rs rb rlv d)] ∧ (k ≤ d.tols.length)) (fun k => d.tols.length - k) 0 ⟨(Value.slice none 0 0), hA104.as _ rfl, hS98, by omega⟩ ?_
 clear hA104 hS98 a102
 rintro k a105 w107 ⟨v6_, hA106, hS108, hk⟩
 have hcl := cvUpto_len d k
 refine c_seq ?_
 refine c_seq ?_
 refine c_region ?_
 refine st hA106 (op_move rfl (hA106.ev rfl)) rfl rfl (by decide) fun a109 hA110 => ?_; clear hA106 a105
 refine st hA110 (op_field rfl fd_26_3 (hA110.ev rfl)) rfl rfl (by decide) fun a111 hA112 => ?_; clear hA110 a109
 refine st hA112 (op_load1 rfl ty_24 (hA112.ev rfl) (hS108.bk 5 rfl) rfl) rfl rfl (by decide) fun a113 hA114 => ?_; clear hA112 a111
 refine st hA114 (op_lenS rfl un_24 (hA114.ev rfl) (rnd_at (hS108.ok 6 _ rfl)).labs) rfl rfl (by decide) fun a115 hA116 => ?_; clear hA114 a113
 refine st hA116 (op_lss rfl (hA116.ev rfl) (hA116.ev rfl)) rfl rfl (by decide) fun a117 hA118 => ?_; clear hA116 a115
 refine wl_nil ?_
 refine then_n ?_
 by_cases hb119 : (k : Int) < (d.tols.length : Int)
 ·skip
  rw [decide_eq_true hb119] at hA118
  refine c_true hA118 rfl ?_
  refine c_skip ?_
  refine then_n ?_
  refine c_seq ?_
  refine c_block ?_
  refine c_seq ?_
  refine c_region ?_
  refine st hA118 (op_assign rfl (evc _ _)) rfl rfl (by decide) fun a120 hA121 => ?_; clear hA118 a117
  refine wl_nil ?_
  refine then_n ?_
  refine c_seq ?_
  refine c_seq ?_
  refine c_region ?_
  refine st hA121 (op_assign rfl (evc _ _)) rfl rfl (by decide) fun a122 hA123 => ?_; clear hA121 a120
  refine wl_nil ?_
  refine then_n ?_
  refine c_block ?_
  have hA124 := hA123.as [(10, (Value.int .i64 0)), (9, (Value.bool true)), (8, (Value.int .i64 (k : Int))), (7, v95), (6, v6_), (5, (Value.int .i64 (checkR d))), (4, (Value.int .i64 7)), (3, u62), (1, (bptr b4 0))] rfl; clear hA123
  refine c_loop (G := Nat) (fun (i : Nat) a_ w_ => Fr 91 [] [(10, (Value.int .i64 (i : Int))), (9, (Value.bool (isUpto d (k : Int) i))), (8, (Value.int .i64 (k : Int))), (7, v95), (6, v6_), (5, (Value.int .i64 (checkR d))), (4, (Value.int .i64 7)), (3, u62), (1, (bptr b4 0))] a_ ∧ Sep NoB w w_ [(row v95 23 1 ov96.length ov96), (lstR ov96 (fewestF d)), (row v6_ 3 1 ((cvUpto d k).length) (ints (cvUpto d k))), (row u62 3 1 (([] : List Int).length) (ints ([] : List Int))), (rndR true vl50 vs51 vb52 lv53 d), (blk b4 26 [rl, rs, (Value.int .i64 d.spread), rb]), (rndR false rl rs rb rlv d)] ∧ (i ≤ (fewestF d).length)) (fun i => (fewestF d).length - i) 0 ⟨hA124.as _ (by simp [pickSlots, List.lookup, isUpto]), hS108, by omega⟩ ?_
  clear hA124 hS108 a122
  rintro i a125 w127 ⟨hA126, hS128, hki⟩
  have hfi := fewest_each hV i
  refine c_seq ?_
  refine c_seq ?_
  refine c_region ?_
  refine st hA126 (op_move rfl (hA126.ev rfl)) rfl rfl (by decide) fun a129 hA130 => ?_; clear hA126 a125
  refine st hA130 (op_move rfl (hA130.ev rfl)) rfl rfl (by decide) fun a131 hA132 => ?_; clear hA130 a129
  refine st hA132 (op_lenS rfl un_51 (hA132.ev rfl) (SlAt.of_row (hS128.ok_row 0 rfl))) rfl rfl (by decide) fun a133 hA134 => ?_; clear hA132 a131
  refine st hA134 (op_lss rfl (hA134.ev rfl) (hA134.ev rfl)) rfl rfl (by decide) fun a135 hA136 => ?_; clear hA134 a133
  refine wl_nil ?_
  refine then_n ?_
  by_cases hb137 : (i : Int) < (ov96.length : Int)
  ·skip
   rw [decide_eq_true hb137] at hA136
   refine c_true hA136 rfl ?_
   refine c_skip ?_
   refine then_n ?_
   refine c_seq ?_
   refine c_block ?_
   refine c_region ?_
   refine st hA136 (op_move rfl (hA136.ev rfl)) rfl rfl (by decide) fun a138 hA139 => ?_; clear hA136 a135
   refine st hA139 (op_move rfl (hA139.ev rfl)) rfl rfl (by decide) fun a140 hA141 => ?_; clear hA139 a138
   rcases Bool.eq_false_or_eq_true ((isUpto d (k : Int) i)) with hb142 | hb142
   ·skip
    rw [hb142] at hA141
    refine stg hA141 (op_move rfl (hA141.ev rfl)) rfl rfl rfl rfl (by decide) fun a143 hA144 => ?_; clear hA141 a140
    refine stg hA144 (op_move rfl (hA144.ev rfl)) rfl rfl rfl rfl (by decide) fun a145 hA146 => ?_; clear hA144 a143
    refine stg hA146 (op_indexS rfl un_51 ty_23 (hA146.ev rfl) (i := i) (hA146.ev rfl) (SlAt.of_row (hS128.ok_row 0 rfl)) (by decide) (by omega)) rfl rfl rfl rfl (by decide) fun a147 hA148 => ?_; clear hA146 a145
    refine stg hA148 (op_load1E rfl ty_23 (hA148.ev rfl) (SlAt.of_row (hS128.ok_row 0 rfl)) (vals_at (by omega))) rfl rfl rfl rfl (by decide) fun a149 hA150 => ?_; clear hA148 a147
    refine stg hA150 (op_move rfl (hA150.ev rfl)) rfl rfl rfl rfl (by decide) fun a151 hA152 => ?_; clear hA150 a149
    refine stwg hA152 (op_call rfl en_39 (ev2 (hA152.ev rfl) (hA152.ev rfl)) (Has_ok _ ((fewestF d).getD i []) (k : Int) _ ((hS128.ok 1 _ rfl).2 i (by omega)) (by omega))) rfl rfl rfl rfl (by decide) ?_
    rintro a153 _ w155 ⟨rfl, hE156⟩ hA154; have hS157 := hS128.step hE156; clear hE156 hA152 hS128 a151
    refine st hA154 (op_pick_t rfl (hA154.ev rfl) (hA154.ev rfl)) rfl rfl (by decide) fun a158 hA159 => ?_; clear hA154 a153
    refine st hA159 (op_assign rfl (hA159.ev rfl)) rfl rfl (by decide) fun a160 hA161 => ?_; clear hA159 a158
    refine wl_nil ?_
    refine blk_n ?_
    refine then_n ?_
    have hA162 := hA161.as [(9, (Value.bool (hasB ((fewestF d).getD i []) (k : Int)))), (10, (Value.int .i64 (i : Int))), (8, (Value.int .i64 (k : Int))), (7, v95), (6, v6_), (5, (Value.int .i64 (checkR d))), (4, (Value.int .i64 7)), (3, u62), (1, (bptr b4 0))] rfl; clear hA161
    refine c_region ?_
    refine st hA162 (op_move rfl (hA162.ev rfl)) rfl rfl (by decide) fun a163 hA164 => ?_; clear hA162 a160
    refine st hA164 (op_add rfl (hA164.ev rfl) (evc _ _) (by omega) (by omega)) rfl rfl (by decide) fun a165 hA166 => ?_; clear hA164 a163
    refine st hA166 (op_assign rfl (hA166.ev rfl)) rfl rfl (by decide) fun a167 hA168 => ?_; clear hA166 a165
    refine wl_nil ?_
    exact then_n ⟨i + 1, ⟨hA168.as _ (by simp [pickSlots, List.lookup, isUpto_succ, *]), hS157, by omega⟩, by omega⟩
   ·skip
    rw [hb142] at hA141
    refine skp hA141 rfl rfl rfl rfl rfl (by decide) fun a169 hA170 => ?_; clear hA141 a140
    refine skp hA170 rfl rfl rfl rfl rfl (by decide) fun a171 hA172 => ?_; clear hA170 a169
    refine skp hA172 rfl rfl rfl rfl rfl (by decide) fun a173 hA174 => ?_; clear hA172 a171
    refine skp hA174 rfl rfl rfl rfl rfl (by decide) fun a175 hA176 => ?_; clear hA174 a173
    refine skp hA176 rfl rfl rfl rfl rfl (by decide) fun a177 hA178 => ?_; clear hA176 a175
    refine skp hA178 rfl rfl rfl rfl rfl (by decide) fun a179 hA180 => ?_; clear hA178 a177
    refine st hA180 (op_pick_f rfl (hA180.ev rfl) (evc _ _)) rfl rfl (by decide) fun a181 hA182 => ?_; clear hA180 a179
    refine st hA182 (op_assign rfl (hA182.ev rfl)) rfl rfl (by decide) fun a183 hA184 => ?_; clear hA182 a181
    refine wl_nil ?_
    refine blk_n ?_
    refine then_n ?_
    have hA185 := hA184.as [(9, (Value.bool false)), (10, (Value.int .i64 (i : Int))), (8, (Value.int .i64 (k : Int))), (7, v95), (6, v6_), (5, (Value.int .i64 (checkR d))), (4, (Value.int .i64 7)), (3, u62), (1, (bptr b4 0))] rfl; clear hA184
    refine c_region ?_
    refine st hA185 (op_move rfl (hA185.ev rfl)) rfl rfl (by decide) fun a186 hA187 => ?_; clear hA185 a183
    refine st hA187 (op_add rfl (hA187.ev rfl) (evc _ _) (by omega) (by omega)) rfl rfl (by decide) fun a188 hA189 => ?_; clear hA187 a186
    refine st hA189 (op_assign rfl (hA189.ev rfl)) rfl rfl (by decide) fun a190 hA191 => ?_; clear hA189 a188
    refine wl_nil ?_
    exact then_n ⟨i + 1, ⟨hA191.as _ (by simp [pickSlots, List.lookup, isUpto_succ, *]), hS128, by omega⟩, by omega⟩
  ·skip
   rw [decide_eq_false hb137] at hA136
   refine c_false hA136 rfl ?_
   refine c_exit ?_
   refine then_exit ?_
   refine then_exit ?_
   refine blk_hit ?_
   refine then_n ?_
   refine c_seq ?_
   refine c_region ?_
   refine st hA136 (op_move rfl (hA136.ev rfl)) rfl rfl (by decide) fun a192 hA193 => ?_; clear hA136 a135
   refine wl_nil ?_
   refine then_n ?_
   rcases Bool.eq_false_or_eq_true ((isUpto d (k : Int) i)) with hb194 | hb194
   ·skip
    rw [hb194] at hA193
    refine c_true hA193 rfl ?_
    have hA195 := hA193.as [(8, (Value.int .i64 (k : Int))), (7, v95), (6, v6_), (5, (Value.int .i64 (checkR d))), (4, (Value.int .i64 7)), (3, u62), (1, (bptr b4 0))] rfl; clear hA193
    refine c_region ?_
    refine st hA195 (op_move rfl (hA195.ev rfl)) rfl rfl (by decide) fun a196 hA197 => ?_; clear hA195 a192
    refine st hA197 (op_move rfl (hA197.ev rfl)) rfl rfl (by decide) fun a198 hA199 => ?_; clear hA197 a196
    refine stw hA199 (op_buildSlice hS128 rfl (pv1 (hA199.ev rfl)) un_23 ty_3 ze_3 (by decide) (cs := [(Value.int .i64 (k : Int))]) (bs_3_1_0i _)) rfl rfl (by decide) ?_
    rintro a200 _ w202 ⟨b203, rfl, hS204⟩ hA201; clear hA199 hS128 a198
    refine stw hA201 (op_append hS204 rfl un_23 el_3 (hA201.ev rfl) (hA201.ev rfl) (i := 3) rfl (SlAt.of_blk (hS204.bk 0 rfl) rfl (Nat.le_of_ble_eq_true rfl)) rfl (by simp only [maxLen]; omega) (by omega)) rfl rfl (by decide) ?_
    intro a205 v208 w207 hS209 hA206
    have hS210 := hS209.row_say (i := 3) rfl (n' := ((cvUpto d k) ++ [(k : Int)]).length) (xs' := (ints ((cvUpto d k) ++ [(k : Int)]))) (by simp) (by simp [ints]); clear hS209 hA201 hS204 a200
    refine st hA206 (op_assign rfl (hA206.ev rfl)) rfl rfl (by decide) fun a211 hA212 => ?_; clear hA206 a205
    refine wl_nil ?_
    refine blk_n ?_
    refine then_n ?_
    refine c_region ?_
    refine st hA212 (op_move rfl (hA212.ev rfl)) rfl rfl (by decide) fun a213 hA214 => ?_; clear hA212 a211
    refine st hA214 (op_add rfl (hA214.ev rfl) (evc _ _) (by omega) (by omega)) rfl rfl (by decide) fun a215 hA216 => ?_; clear hA214 a213
    refine st hA216 (op_assign rfl (hA216.ev rfl)) rfl rfl (by decide) fun a217 hA218 => ?_; clear hA216 a215
    refine wl_nil ?_
    have hS219 : Sep NoB w w207 [(row v95 23 1 ov96.length ov96), (lstR ov96 (fewestF d)), (row v208 3 1 (((cvUpto d k) ++ [(k : Int)]).length) (ints ((cvUpto d k) ++ [(k : Int)]))), (row u62 3 1 (([] : List Int).length) (ints ([] : List Int))), (rndR true vl50 vs51 vb52 lv53 d), (blk b4 26 [rl, rs, (Value.int .i64 d.spread), rb]), (rndR false rl rs rb rlv d)] := hS210.keep [1, 2, 3, 4, 5, 6, 7] (by decide) _ rfl rfl; clear hS210
    exact then_n ⟨k + 1, ⟨v208, hA218.as _ rfl, (hS219.row_say (i := 2) rfl (by rw [cv_yes (show i = (fewestF d).length by omega) (by assumption)]) (by rw [cv_yes (show i = (fewestF d).length by omega) (by assumption)])), by omega⟩, by omega⟩
   ·skip
    rw [hb194] at hA193
    refine c_false hA193 rfl ?_
    refine c_skip ?_
    refine blk_n ?_
    refine then_n ?_
    have hA220 := hA193.as [(8, (Value.int .i64 (k : Int))), (7, v95), (6, v6_), (5, (Value.int .i64 (checkR d))), (4, (Value.int .i64 7)), (3, u62), (1, (bptr b4 0))] rfl; clear hA193
    refine c_region ?_
    refine st hA220 (op_move rfl (hA220.ev rfl)) rfl rfl (by decide) fun a221 hA222 => ?_; clear hA220 a192
    refine st hA222 (op_add rfl (hA222.ev rfl) (evc _ _) (by omega) (by omega)) rfl rfl (by decide) fun a223 hA224 => ?_; clear hA222 a221
    refine st hA224 (op_assign rfl (hA224.ev rfl)) rfl rfl (by decide) fun a225 hA226 => ?_; clear hA224 a223
    refine wl_nil ?_
    exact then_n ⟨k + 1, ⟨v6_, hA226.as _ rfl, (hS128.row_say (i := 2) rfl (by rw [cv_no (show i = (fewestF d).length by omega) (by assumption)]) (by rw [cv_no (show i = (fewestF d).length by omega) (by assumption)])), by omega⟩, by omega⟩
 ·skip
  rw [decide_eq_false hb119] at hA118
  have hS227 := hS108.row_say (i := 2) rfl (n' := (convF d).length) (xs' := ints (convF d)) (by rw [cv_conv hV (show k = d.tols.length by omega)]) (by rw [cv_conv hV (show k = d.tols.length by omega)]); clear hS108
  refine c_false hA118 rfl ?_
  refine c_exit ?_
  refine then_exit ?_
  refine then_exit ?_
  refine blk_hit ?_
  refine then_n ?_
  refine c_seq ?_
  have hA228 := hA118.as [(6, v6_), (5, (Value.int .i64 (checkR d))), (4, (Value.int .i64 7)), (3, u62)] rfl; clear hA118
  refine c_region ?_
  refine st hA228 (op_move rfl (hA228.ev rfl)) rfl rfl (by decide) fun a229 hA230 => ?_; clear hA228 a117
  refine st hA230 (op_lenS rfl un_23 (hA230.ev rfl) (SlAt.of_row (hS227.ok_row 2 rfl))) rfl rfl (by decide) fun a231 hA232 => ?_; clear hA230 a229
  refine st hA232 (op_eql rfl (hA232.ev rfl) (evc _ _)) rfl rfl (by decide) fun a233 hA234 => ?_; clear hA232 a231
  have hd235 : ((convF d).length : Int) = 0 := (by omega)
  rw [decide_eq_true hd235] at hA234
  refine wl_nil ?_
  refine then_n ?_
  refine c_true hA234 rfl ?_
  refine c_region ?_
  refine st hA234 (op_assign rfl (evc _ _)) rfl rfl (by decide) fun a236 hA237 => ?_; clear hA234 a233
  refine wl_nil ?_
  refine then_n ?_
  refine c_seq ?_
  refine c_seq ?_
  refine c_region ?_
  refine st hA237 (op_move rfl (hA237.ev rfl)) rfl rfl (by decide) fun a238 hA239 => ?_; clear hA237 a236
  refine st hA239 (op_neq rfl (hA239.ev rfl) (evc _ _)) rfl rfl (by decide) fun a240 hA241 => ?_; clear hA239 a238
  refine wl_nil ?_
  refine then_n ?_
  refine c_true hA241 rfl ?_
  refine c_seq ?_
  have hA242 := hA241.as [(5, (Value.int .i64 7)), (4, (Value.int .i64 7)), (3, u62)] rfl; clear hA241
  refine c_region ?_
  refine st hA242 (op_move rfl (hA242.ev rfl)) rfl rfl (by decide) fun a243 hA244 => ?_; clear hA242 a240
  refine st hA244 (op_move rfl (hA244.ev rfl)) rfl rfl (by decide) fun a245 hA246 => ?_; clear hA244 a243
  refine st hA246 (op_eql rfl (hA246.ev rfl) (hA246.ev rfl)) rfl rfl (by decide) fun a247 hA248 => ?_; clear hA246 a245
  refine st hA248 (op_move rfl (hA248.ev rfl)) rfl rfl (by decide) fun a249 hA250 => ?_; clear hA248 a247
  refine stg hA250 (op_move rfl (hA250.ev rfl)) rfl rfl rfl rfl (by decide) fun a251 hA252 => ?_; clear hA250 a249
  refine stg hA252 (op_lenS rfl un_23 (hA252.ev rfl) (SlAt.of_row (hS227.ok_row 3 rfl))) rfl rfl rfl rfl (by decide) fun a253 hA254 => ?_; clear hA252 a251
  refine stg hA254 (op_eql rfl (hA254.ev rfl) (evc _ _)) rfl rfl rfl rfl (by decide) fun a255 hA256 => ?_; clear hA254 a253
  have hd257 : (([] : List Int).length : Int) = 0 := rfl
  rw [decide_eq_true hd257] at hA256
  refine st hA256 (op_pick_t rfl (hA256.ev rfl) (hA256.ev rfl)) rfl rfl (by decide) fun a258 hA259 => ?_; clear hA256 a255
  refine st hA259 (op_move rfl (hA259.ev rfl)) rfl rfl (by decide) fun a260 hA261 => ?_; clear hA259 a258
  refine stwg hA261 (op_call rfl en_18 ev0 (wakes_ok _)) rfl rfl rfl rfl (by decide) ?_
  rintro a262 _ w264 ⟨rfl, hE265⟩ hA263; have hS266 := hS227.step hE265; clear hE265 hA261 hS227 a260
  refine st hA263 (op_pick_t rfl (hA263.ev rfl) (hA263.ev rfl)) rfl rfl (by decide) fun a267 hA268 => ?_; clear hA263 a262
  refine st hA268 (op_assign rfl (hA268.ev rfl)) rfl rfl (by decide) fun a269 hA270 => ?_; clear hA268 a267
  refine wl_nil ?_
  refine then_n ?_
  refine c_ret ?_
  refine then_ret ?_
  refine fin_run hA270 (.inl rfl) (run_results1 hA270 rfl (.tmp rfl)) ?_
  exact ⟨rfl, hS266.ext⟩

set_option maxHeartbeats 4000000 in
theorem RoundConvicts_e (rl rs rb : Value) (rlv : List Value) (d : RD) (w : World) (hR : RoundAt w rl rs rb rlv d) (hf : fewB d = true) (hc : checkR d = 0) (h4 : d.tols.length ≤ 4) (h0 : (convF d).length ≠ 0) :
  Calls Try.prog 13 #[(Value.agg #[rl, rs, (Value.int .i64 d.spread), rb])] w (Ret fun v w' => v = .bool true ∧ Ext NoB w w') := by
 refine calls_enter Try.func13 rfl fun a0 hA0 => ?_
 replace hA0 : Fr 91 [] [(0, (Value.agg #[rl, rs, (Value.int .i64 d.spread), rb]))] a0 := hA0
 have hth := thin_of (fewB_thin hf); have hV := valid_of hc; have hfl := fewUpto_len d hV.nb (d.tols.length + 1) (by have := hV.nb; omega); rw [show fewUpto d (d.tols.length + 1) = fewestF d from rfl] at hfl; have hnb := hV.nb; have hfe := fewest_each hV 0; have hcf := convF_len d
 have hS0 : Sep NoB w w [(rndR false rl rs rb rlv d)] := sep_ro ⟨rfl, hR, trivial⟩
 refine c_seq ?_
 refine c_region ?_
 refine stw hA0 (op_box hS0 rfl (hA0.ev rfl) (cs := [rl, rs, (Value.int .i64 d.spread), rb]) rfl) rfl rfl (by decide) ?_
 rintro a1 _ w3 ⟨b4, rfl, hS5⟩ hA2; clear hA0 hS0 a0
 refine st hA2 (op_assign rfl (evc _ _)) rfl rfl (by decide) fun a6 hA7 => ?_; clear hA2 a1
 refine wl_nil ?_
 refine then_n ?_
 refine c_seq ?_
 refine c_seq ?_
 refine c_region ?_
 refine st hA7 (op_loadA rfl ty_26 (hA7.ev rfl) (hS5.bk 0 rfl) (l := [rl, rs, (Value.int .i64 d.spread), rb]) rfl rfl) rfl rfl (by decide) fun a8 hA9 => ?_; clear hA7 a6
 refine stw hA9 (op_call rfl en_17 (ev1 (hA9.ev rfl)) (Few_ok rl rs rb rlv d _ (rnd_at (hS5.ok 1 _ rfl)))) rfl rfl (by decide) ?_
 rintro a10 _ w12 ⟨rfl, hE13⟩ hA11; have hS14 := hS5.step hE13; clear hE13 hA9 hS5 a8
 rw [hf] at hA11
 refine st hA11 (op_not rfl (hA11.ev rfl)) rfl rfl (by decide) fun a15 hA16 => ?_; clear hA11 a10
 refine st hA16 (op_move rfl (hA16.ev rfl)) rfl rfl (by decide) fun a17 hA18 => ?_; clear hA16 a15
 refine stg hA18 (op_loadA rfl ty_26 (hA18.ev rfl) (hS14.bk 0 rfl) (l := [rl, rs, (Value.int .i64 d.spread), rb]) rfl rfl) rfl rfl rfl rfl (by decide) fun a19 hA20 => ?_; clear hA18 a17
 refine stwg hA20 (op_call rfl en_28 (ev1 (hA20.ev rfl)) (Fault_ok rl rs rb rlv d _ (rnd_at (hS14.ok 1 _ rfl)))) rfl rfl rfl rfl (by decide) ?_
 rintro a21 _ w23 ⟨rfl, hE24⟩ hA22; have hS25 := hS14.step hE24; clear hE24 hA20 hS14 a19
 refine stg hA22 (op_eql rfl (hA22.ev rfl) (evc _ _)) rfl rfl rfl rfl (by decide) fun a26 hA27 => ?_; clear hA22 a21
 have hd28 : (checkR d) = 0 := hc
 rw [decide_eq_true hd28] at hA27
 refine stg hA27 (op_move rfl (hA27.ev rfl)) rfl rfl rfl rfl (by decide) fun a29 hA30 => ?_; clear hA27 a26
 refine stg hA30 (op_field rfl fd_26_3 (hA30.ev rfl)) rfl rfl rfl rfl (by decide) fun a31 hA32 => ?_; clear hA30 a29
 refine stg hA32 (op_load1 rfl ty_24 (hA32.ev rfl) (hS25.bk 0 rfl) rfl) rfl rfl rfl rfl (by decide) fun a33 hA34 => ?_; clear hA32 a31
 refine stg hA34 (op_lenS rfl un_24 (hA34.ev rfl) (rnd_at (hS25.ok 1 _ rfl)).labs) rfl rfl rfl rfl (by decide) fun a35 hA36 => ?_; clear hA34 a33
 refine stg hA36 (op_gtr rfl (hA36.ev rfl) (evc _ _)) rfl rfl rfl rfl (by decide) fun a37 hA38 => ?_; clear hA36 a35
 have hd39 : ¬ (4 < (d.tols.length : Int)) := (by omega)
 rw [decide_eq_false hd39] at hA38
 refine stg hA38 (op_pick_t rfl (hA38.ev rfl) (hA38.ev rfl)) rfl rfl rfl rfl (by decide) fun a40 hA41 => ?_; clear hA38 a37
 refine st hA41 (op_pick_f rfl (hA41.ev rfl) (hA41.ev rfl)) rfl rfl (by decide) fun a42 hA43 => ?_; clear hA41 a40
 refine wl_nil ?_
 refine then_n ?_
 refine c_false hA43 rfl ?_
 refine c_skip ?_
 refine then_n ?_
 refine c_seq ?_
 have hA44 := hA43.as [(1, (bptr b4 0))] rfl; clear hA43
 refine c_region ?_
 refine st hA44 (op_loadA rfl ty_26 (hA44.ev rfl) (hS25.bk 0 rfl) (l := [rl, rs, (Value.int .i64 d.spread), rb]) rfl rfl) rfl rfl (by decide) fun a45 hA46 => ?_; clear hA44 a42
 refine stw hA46 (op_call rfl en_20 (ev1 (hA46.ev rfl)) (Round_ok rl rs rb rlv d _ (rnd_at (hS25.ok 1 _ rfl)) hth)) rfl rfl (by decide) ?_
 rintro a47 _ w49 ⟨vl50, vs51, vb52, lv53, rfl, hT54⟩ hA48; have hS55 := hS25.callS hT54 rfl; clear hT54 hA46 hS25 a45
 refine stw hA48 (op_call rfl en_38 (ev1 (hA48.ev rfl)) (by have h := (conv_fn vl50 vs51 vb52 lv53 d _ (rnd_at (hS55.ok 0 _ rfl))); rw [convR_some hc h0] at h; exact h)) rfl rfl (by decide) ?_
 rintro a56 _ w58 ⟨u62, rfl, hE59, hO60⟩ hA57; clear hA48 a47
 have hS61 : Sep NoB w w58 [(row u62 3 1 ((convF d).length) (ints (convF d))), (rndR true vl50 vs51 vb52 lv53 d), (blk b4 26 [rl, rs, (Value.int .i64 d.spread), rb]), (rndR false rl rs rb rlv d)] := hS55.new_row hE59 hO60; clear hE59 hO60 hS55
 refine st hA57 (op_move rfl (hA57.ev rfl)) rfl rfl (by decide) fun a63 hA64 => ?_; clear hA57 a56
 refine st hA64 (op_extract rfl (hA64.ev rfl) rfl) rfl rfl (by decide) fun a65 hA66 => ?_; clear hA64 a63
 refine st hA66 (op_extract rfl (hA66.ev rfl) rfl) rfl rfl (by decide) fun a67 hA68 => ?_; clear hA66 a65
 refine st hA68 (op_assign rfl (hA68.ev rfl)) rfl rfl (by decide) fun a69 hA70 => ?_; clear hA68 a67
 refine st hA70 (op_assign rfl (hA70.ev rfl)) rfl rfl (by decide) fun a71 hA72 => ?_; clear hA70 a69
 refine wl_nil ?_
 refine then_n ?_
 refine c_seq ?_
 have hA73 := hA72.as [(4, (Value.int .i64 0)), (3, u62), (1, (bptr b4 0))] rfl; clear hA72
 refine c_region ?_
 refine st hA73 (op_loadA rfl ty_26 (hA73.ev rfl) (hS61.bk 2 rfl) (l := [rl, rs, (Value.int .i64 d.spread), rb]) rfl rfl) rfl rfl (by decide) fun a74 hA75 => ?_; clear hA73 a71
 refine stw hA75 (op_call rfl en_23 (ev1 (hA75.ev rfl)) (fault_ok rl rs rb rlv d _ (rnd_at (hS61.ok 3 _ rfl)))) rfl rfl (by decide) ?_
 rintro a76 _ w78 ⟨rfl, hE79⟩ hA77; have hS80 := hS61.step hE79; clear hE79 hA75 hS61 a74
 refine st hA77 (op_assign rfl (hA77.ev rfl)) rfl rfl (by decide) fun a81 hA82 => ?_; clear hA77 a76
 refine wl_nil ?_
 refine then_n ?_
 refine c_seq ?_
 refine c_region ?_
 refine st hA82 (op_assign rfl (evc _ _)) rfl rfl (by decide) fun a83 hA84 => ?_; clear hA82 a81
 have hS85 := hS80.nil_row 3 1; clear hS80
 refine wl_nil ?_
 refine then_n ?_
 refine c_seq ?_
 refine c_seq ?_
 refine c_region ?_
 refine st hA84 (op_move rfl (hA84.ev rfl)) rfl rfl (by decide) fun a86 hA87 => ?_; clear hA84 a83
 refine st hA87 (op_eql rfl (hA87.ev rfl) (evc _ _)) rfl rfl (by decide) fun a88 hA89 => ?_; clear hA87 a86
 rw [decide_eq_true hd28] at hA89
 refine wl_nil ?_
 refine then_n ?_
 refine c_true hA89 rfl ?_
 refine c_seq ?_
 refine c_region ?_
 refine st hA89 (op_loadA rfl ty_26 (hA89.ev rfl) (hS85.bk 3 rfl) (l := [rl, rs, (Value.int .i64 d.spread), rb]) rfl rfl) rfl rfl (by decide) fun a90 hA91 => ?_; clear hA89 a88
 refine stw hA91 (op_call rfl en_31 (ev1 (hA91.ev rfl)) (Fewest_ok rl rs rb rlv d _ (rnd_at (hS85.ok 4 _ rfl)) hV)) rfl rfl (by decide) ?_
 rintro a92 v95 w94 ⟨ov96, hT97⟩ hA93; have hS98 := hS85.callS hT97 rfl; clear hT97 hA91 hS85 a90
 have hol_ov96 := hS98.lst_len 1 rfl; have hfp := fewest_pos hV
 refine st hA93 (op_assign rfl (hA93.ev rfl)) rfl rfl (by decide) fun a99 hA100 => ?_; clear hA93 a92
 refine wl_nil ?_
 refine then_n ?_
 refine c_seq ?_
 refine c_seq ?_
 have hA101 := hA100.as [(7, v95), (6, (Value.slice none 0 0)), (5, (Value.int .i64 (checkR d))), (4, (Value.int .i64 0)), (3, u62), (1, (bptr b4 0))] rfl; clear hA100
 refine c_region ?_
 refine st hA101 (op_assign rfl (evc _ _)) rfl rfl (by decide) fun a102 hA103 => ?_; clear hA101 a99
 refine wl_nil ?_
 refine then_n ?_
 refine c_block ?_
 have hA104 := hA103.as [(8, (Value.int .i64 0)), (7, v95), (6, (Value.slice none 0 0)), (5, (Value.int .i64 (checkR d))), (4, (Value.int .i64 0)), (3, u62), (1, (bptr b4 0))] rfl; clear hA103
 refine c_loop (G := Nat) (fun (k : Nat) a_ w_ => ∃ v6_ : Value, Fr 91 [] [(8, (Value.int .i64 (k : Int))), (7, v95), (6, v6_), (5, (Value.int .i64 (checkR d))), (4, (Value.int .i64 0)), (3, u62), (1, (bptr b4 0))] a_ ∧ Sep NoB w w_ [(row v95 23 1 ov96.length ov96), (lstR ov96 (fewestF d)), (row v6_ 3 1 ((cvUpto d k).length) (ints (cvUpto d k))), (row u62 3 1 ((convF d).length) (ints (convF d))), (rndR true vl50 vs51 vb52 lv53 d), (blk b4 26 [rl, rs, (Value.int .i64 d.spread), rb]), (rndR false rl rs rb rlv d)] ∧ (k ≤ d.tols.length)) (fun k => d.tols.length - k) 0 ⟨(Value.slice none 0 0), hA104.as _ rfl, hS98, by omega⟩ ?_
 clear hA104 hS98 a102
 rintro k a105 w107 ⟨v6_, hA106, hS108, hk⟩
 have hcl := cvUpto_len d k
 refine c_seq ?_
 refine c_seq ?_
 refine c_region ?_
 refine st hA106 (op_move rfl (hA106.ev rfl)) rfl rfl (by decide) fun a109 hA110 => ?_; clear hA106 a105
 refine st hA110 (op_field rfl fd_26_3 (hA110.ev rfl)) rfl rfl (by decide) fun a111 hA112 => ?_; clear hA110 a109
 refine st hA112 (op_load1 rfl ty_24 (hA112.ev rfl) (hS108.bk 5 rfl) rfl) rfl rfl (by decide) fun a113 hA114 => ?_; clear hA112 a111
 refine st hA114 (op_lenS rfl un_24 (hA114.ev rfl) (rnd_at (hS108.ok 6 _ rfl)).labs) rfl rfl (by decide) fun a115 hA116 => ?_; clear hA114 a113
 refine st hA116 (op_lss rfl (hA116.ev rfl) (hA116.ev rfl)) rfl rfl (by decide) fun a117 hA118 => ?_; clear hA116 a115
 refine wl_nil ?_
 refine then_n ?_
 by_cases hb119 : (k : Int) < (d.tols.length : Int)
 ·skip
  rw [decide_eq_true hb119] at hA118
  refine c_true hA118 rfl ?_
  refine c_skip ?_
  refine then_n ?_
  refine c_seq ?_
  refine c_block ?_
  refine c_seq ?_
  refine c_region ?_
  refine st hA118 (op_assign rfl (evc _ _)) rfl rfl (by decide) fun a120 hA121 => ?_; clear hA118 a117
  refine wl_nil ?_
  refine then_n ?_
  refine c_seq ?_
  refine c_seq ?_
  refine c_region ?_
  refine st hA121 (op_assign rfl (evc _ _)) rfl rfl (by decide) fun a122 hA123 => ?_; clear hA121 a120
  refine wl_nil ?_
  refine then_n ?_
  refine c_block ?_
  have hA124 := hA123.as [(10, (Value.int .i64 0)), (9, (Value.bool true)), (8, (Value.int .i64 (k : Int))), (7, v95), (6, v6_), (5, (Value.int .i64 (checkR d))), (4, (Value.int .i64 0)), (3, u62), (1, (bptr b4 0))] rfl; clear hA123
  refine c_loop (G := Nat) (fun (i : Nat) a_ w_ => Fr 91 [] [(10, (Value.int .i64 (i : Int))), (9, (Value.bool (isUpto d (k : Int) i))), (8, (Value.int .i64 (k : Int))), (7, v95), (6, v6_), (5, (Value.int .i64 (checkR d))), (4, (Value.int .i64 0)), (3, u62), (1, (bptr b4 0))] a_ ∧ Sep NoB w w_ [(row v95 23 1 ov96.length ov96), (lstR ov96 (fewestF d)), (row v6_ 3 1 ((cvUpto d k).length) (ints (cvUpto d k))), (row u62 3 1 ((convF d).length) (ints (convF d))), (rndR true vl50 vs51 vb52 lv53 d), (blk b4 26 [rl, rs, (Value.int .i64 d.spread), rb]), (rndR false rl rs rb rlv d)] ∧ (i ≤ (fewestF d).length)) (fun i => (fewestF d).length - i) 0 ⟨hA124.as _ (by simp [pickSlots, List.lookup, isUpto]), hS108, by omega⟩ ?_
  clear hA124 hS108 a122
  rintro i a125 w127 ⟨hA126, hS128, hki⟩
  have hfi := fewest_each hV i
  refine c_seq ?_
  refine c_seq ?_
  refine c_region ?_
  refine st hA126 (op_move rfl (hA126.ev rfl)) rfl rfl (by decide) fun a129 hA130 => ?_; clear hA126 a125
  refine st hA130 (op_move rfl (hA130.ev rfl)) rfl rfl (by decide) fun a131 hA132 => ?_; clear hA130 a129
  refine st hA132 (op_lenS rfl un_51 (hA132.ev rfl) (SlAt.of_row (hS128.ok_row 0 rfl))) rfl rfl (by decide) fun a133 hA134 => ?_; clear hA132 a131
  refine st hA134 (op_lss rfl (hA134.ev rfl) (hA134.ev rfl)) rfl rfl (by decide) fun a135 hA136 => ?_; clear hA134 a133
  refine wl_nil ?_
  refine then_n ?_
  by_cases hb137 : (i : Int) < (ov96.length : Int)
  ·skip
   rw [decide_eq_true hb137] at hA136
   refine c_true hA136 rfl ?_
   refine c_skip ?_
   refine then_n ?_
   refine c_seq ?_
   refine c_block ?_
   refine c_region ?_
   refine st hA136 (op_move rfl (hA136.ev rfl)) rfl rfl (by decide) fun a138 hA139 => ?_; clear hA136 a135
   refine st hA139 (op_move rfl (hA139.ev rfl)) rfl rfl (by decide) fun a140 hA141 => ?_; clear hA139 a138
   rcases Bool.eq_false_or_eq_true ((isUpto d (k : Int) i)) with hb142 | hb142
   ·skip
    rw [hb142] at hA141
    refine stg hA141 (op_move rfl (hA141.ev rfl)) rfl rfl rfl rfl (by decide) fun a143 hA144 => ?_; clear hA141 a140
    refine stg hA144 (op_move rfl (hA144.ev rfl)) rfl rfl rfl rfl (by decide) fun a145 hA146 => ?_; clear hA144 a143
    refine stg hA146 (op_indexS rfl un_51 ty_23 (hA146.ev rfl) (i := i) (hA146.ev rfl) (SlAt.of_row (hS128.ok_row 0 rfl)) (by decide) (by omega)) rfl rfl rfl rfl (by decide) fun a147 hA148 => ?_; clear hA146 a145
    refine stg hA148 (op_load1E rfl ty_23 (hA148.ev rfl) (SlAt.of_row (hS128.ok_row 0 rfl)) (vals_at (by omega))) rfl rfl rfl rfl (by decide) fun a149 hA150 => ?_; clear hA148 a147
    refine stg hA150 (op_move rfl (hA150.ev rfl)) rfl rfl rfl rfl (by decide) fun a151 hA152 => ?_; clear hA150 a149
    refine stwg hA152 (op_call rfl en_39 (ev2 (hA152.ev rfl) (hA152.ev rfl)) (Has_ok _ ((fewestF d).getD i []) (k : Int) _ ((hS128.ok 1 _ rfl).2 i (by omega)) (by omega))) rfl rfl rfl rfl (by decide) ?_
    rintro a153 _ w155 ⟨rfl, hE156⟩ hA154; have hS157 := hS128.step hE156; clear hE156 hA152 hS128 a151
    refine st hA154 (op_pick_t rfl (hA154.ev rfl) (hA154.ev rfl)) rfl rfl (by decide) fun a158 hA159 => ?_; clear hA154 a153
    refine st hA159 (op_assign rfl (hA159.ev rfl)) rfl rfl (by decide) fun a160 hA161 => ?_; clear hA159 a158
    refine wl_nil ?_
    refine blk_n ?_
    refine then_n ?_
    have hA162 := hA161.as [(9, (Value.bool (hasB ((fewestF d).getD i []) (k : Int)))), (10, (Value.int .i64 (i : Int))), (8, (Value.int .i64 (k : Int))), (7, v95), (6, v6_), (5, (Value.int .i64 (checkR d))), (4, (Value.int .i64 0)), (3, u62), (1, (bptr b4 0))] rfl; clear hA161
    refine c_region ?_
    refine st hA162 (op_move rfl (hA162.ev rfl)) rfl rfl (by decide) fun a163 hA164 => ?_; clear hA162 a160
    refine st hA164 (op_add rfl (hA164.ev rfl) (evc _ _) (by omega) (by omega)) rfl rfl (by decide) fun a165 hA166 => ?_; clear hA164 a163
    refine st hA166 (op_assign rfl (hA166.ev rfl)) rfl rfl (by decide) fun a167 hA168 => ?_; clear hA166 a165
    refine wl_nil ?_
    exact then_n ⟨i + 1, ⟨hA168.as _ (by simp [pickSlots, List.lookup, isUpto_succ, *]), hS157, by omega⟩, by omega⟩
   ·skip
    rw [hb142] at hA141
    refine skp hA141 rfl rfl rfl rfl rfl (by decide) fun a169 hA170 => ?_; clear hA141 a140
    refine skp hA170 rfl rfl rfl rfl rfl (by decide) fun a171 hA172 => ?_; clear hA170 a169
    refine skp hA172 rfl rfl rfl rfl rfl (by decide) fun a173 hA174 => ?_; clear hA172 a171
    refine skp hA174 rfl rfl rfl rfl rfl (by decide) fun a175 hA176 => ?_; clear hA174 a173
    refine skp hA176 rfl rfl rfl rfl rfl (by decide) fun a177 hA178 => ?_; clear hA176 a175
    refine skp hA178 rfl rfl rfl rfl rfl (by decide) fun a179 hA180 => ?_; clear hA178 a177
    refine st hA180 (op_pick_f rfl (hA180.ev rfl) (evc _ _)) rfl rfl (by decide) fun a181 hA182 => ?_; clear hA180 a179
    refine st hA182 (op_assign rfl (hA182.ev rfl)) rfl rfl (by decide) fun a183 hA184 => ?_; clear hA182 a181
    refine wl_nil ?_
    refine blk_n ?_
    refine then_n ?_
    have hA185 := hA184.as [(9, (Value.bool false)), (10, (Value.int .i64 (i : Int))), (8, (Value.int .i64 (k : Int))), (7, v95), (6, v6_), (5, (Value.int .i64 (checkR d))), (4, (Value.int .i64 0)), (3, u62), (1, (bptr b4 0))] rfl; clear hA184
    refine c_region ?_
    refine st hA185 (op_move rfl (hA185.ev rfl)) rfl rfl (by decide) fun a186 hA187 => ?_; clear hA185 a183
    refine st hA187 (op_add rfl (hA187.ev rfl) (evc _ _) (by omega) (by omega)) rfl rfl (by decide) fun a188 hA189 => ?_; clear hA187 a186
    refine st hA189 (op_assign rfl (hA189.ev rfl)) rfl rfl (by decide) fun a190 hA191 => ?_; clear hA189 a188
    refine wl_nil ?_
    exact then_n ⟨i + 1, ⟨hA191.as _ (by simp [pickSlots, List.lookup, isUpto_succ, *]), hS128, by omega⟩, by omega⟩
  ·skip
   rw [decide_eq_false hb137] at hA136
   refine c_false hA136 rfl ?_
   refine c_exit ?_
   refine then_exit ?_
   refine then_exit ?_
   refine blk_hit ?_
   refine then_n ?_
   refine c_seq ?_
   refine c_region ?_
   refine st hA136 (op_move rfl (hA136.ev rfl)) rfl rfl (by decide) fun a192 hA193 => ?_; clear hA136 a135
   refine wl_nil ?_
   refine then_n ?_
   rcases Bool.eq_false_or_eq_true ((isUpto d (k : Int) i)) with hb194 | hb194
   ·skip
    rw [hb194] at hA193
    refine c_true hA193 rfl ?_
    have hA195 := hA193.as [(8, (Value.int .i64 (k : Int))), (7, v95), (6, v6_), (5, (Value.int .i64 (checkR d))), (4, (Value.int .i64 0)), (3, u62), (1, (bptr b4 0))] rfl; clear hA193
    refine c_region ?_
    refine st hA195 (op_move rfl (hA195.ev rfl)) rfl rfl (by decide) fun a196 hA197 => ?_; clear hA195 a192
    refine st hA197 (op_move rfl (hA197.ev rfl)) rfl rfl (by decide) fun a198 hA199 => ?_; clear hA197 a196
    refine stw hA199 (op_buildSlice hS128 rfl (pv1 (hA199.ev rfl)) un_23 ty_3 ze_3 (by decide) (cs := [(Value.int .i64 (k : Int))]) (bs_3_1_0i _)) rfl rfl (by decide) ?_
    rintro a200 _ w202 ⟨b203, rfl, hS204⟩ hA201; clear hA199 hS128 a198
    refine stw hA201 (op_append hS204 rfl un_23 el_3 (hA201.ev rfl) (hA201.ev rfl) (i := 3) rfl (SlAt.of_blk (hS204.bk 0 rfl) rfl (Nat.le_of_ble_eq_true rfl)) rfl (by simp only [maxLen]; omega) (by omega)) rfl rfl (by decide) ?_
    intro a205 v208 w207 hS209 hA206
    have hS210 := hS209.row_say (i := 3) rfl (n' := ((cvUpto d k) ++ [(k : Int)]).length) (xs' := (ints ((cvUpto d k) ++ [(k : Int)]))) (by simp) (by simp [ints]); clear hS209 hA201 hS204 a200
    refine st hA206 (op_assign rfl (hA206.ev rfl)) rfl rfl (by decide) fun a211 hA212 => ?_; clear hA206 a205
    refine wl_nil ?_
    refine blk_n ?_
    refine then_n ?_
    refine c_region ?_
    refine st hA212 (op_move rfl (hA212.ev rfl)) rfl rfl (by decide) fun a213 hA214 => ?_; clear hA212 a211
    refine st hA214 (op_add rfl (hA214.ev rfl) (evc _ _) (by omega) (by omega)) rfl rfl (by decide) fun a215 hA216 => ?_; clear hA214 a213
    refine st hA216 (op_assign rfl (hA216.ev rfl)) rfl rfl (by decide) fun a217 hA218 => ?_; clear hA216 a215
    refine wl_nil ?_
    have hS219 : Sep NoB w w207 [(row v95 23 1 ov96.length ov96), (lstR ov96 (fewestF d)), (row v208 3 1 (((cvUpto d k) ++ [(k : Int)]).length) (ints ((cvUpto d k) ++ [(k : Int)]))), (row u62 3 1 ((convF d).length) (ints (convF d))), (rndR true vl50 vs51 vb52 lv53 d), (blk b4 26 [rl, rs, (Value.int .i64 d.spread), rb]), (rndR false rl rs rb rlv d)] := hS210.keep [1, 2, 3, 4, 5, 6, 7] (by decide) _ rfl rfl; clear hS210
    exact then_n ⟨k + 1, ⟨v208, hA218.as _ rfl, (hS219.row_say (i := 2) rfl (by rw [cv_yes (show i = (fewestF d).length by omega) (by assumption)]) (by rw [cv_yes (show i = (fewestF d).length by omega) (by assumption)])), by omega⟩, by omega⟩
   ·skip
    rw [hb194] at hA193
    refine c_false hA193 rfl ?_
    refine c_skip ?_
    refine blk_n ?_
    refine then_n ?_
    have hA220 := hA193.as [(8, (Value.int .i64 (k : Int))), (7, v95), (6, v6_), (5, (Value.int .i64 (checkR d))), (4, (Value.int .i64 0)), (3, u62), (1, (bptr b4 0))] rfl; clear hA193
    refine c_region ?_
    refine st hA220 (op_move rfl (hA220.ev rfl)) rfl rfl (by decide) fun a221 hA222 => ?_; clear hA220 a192
    refine st hA222 (op_add rfl (hA222.ev rfl) (evc _ _) (by omega) (by omega)) rfl rfl (by decide) fun a223 hA224 => ?_; clear hA222 a221
    refine st hA224 (op_assign rfl (hA224.ev rfl)) rfl rfl (by decide) fun a225 hA226 => ?_; clear hA224 a223
    refine wl_nil ?_
    exact then_n ⟨k + 1, ⟨v6_, hA226.as _ rfl, (hS128.row_say (i := 2) rfl (by rw [cv_no (show i = (fewestF d).length by omega) (by assumption)]) (by rw [cv_no (show i = (fewestF d).length by omega) (by assumption)])), by omega⟩, by omega⟩
 ·skip
  rw [decide_eq_false hb119] at hA118
  have hS227 := hS108.row_say (i := 2) rfl (n' := (convF d).length) (xs' := ints (convF d)) (by rw [cv_conv hV (show k = d.tols.length by omega)]) (by rw [cv_conv hV (show k = d.tols.length by omega)]); clear hS108
  refine c_false hA118 rfl ?_
  refine c_exit ?_
  refine then_exit ?_
  refine then_exit ?_
  refine blk_hit ?_
  refine then_n ?_
  refine c_seq ?_
  have hA228 := hA118.as [(6, v6_), (5, (Value.int .i64 (checkR d))), (4, (Value.int .i64 0)), (3, u62)] rfl; clear hA118
  refine c_region ?_
  refine st hA228 (op_move rfl (hA228.ev rfl)) rfl rfl (by decide) fun a229 hA230 => ?_; clear hA228 a117
  refine st hA230 (op_lenS rfl un_23 (hA230.ev rfl) (SlAt.of_row (hS227.ok_row 2 rfl))) rfl rfl (by decide) fun a231 hA232 => ?_; clear hA230 a229
  refine st hA232 (op_eql rfl (hA232.ev rfl) (evc _ _)) rfl rfl (by decide) fun a233 hA234 => ?_; clear hA232 a231
  have hd235 : ¬ (((convF d).length : Int) = 0) := (by omega)
  rw [decide_eq_false hd235] at hA234
  refine wl_nil ?_
  refine then_n ?_
  refine c_false hA234 rfl ?_
  refine c_skip ?_
  refine then_n ?_
  refine c_seq ?_
  refine c_seq ?_
  refine c_region ?_
  refine st hA234 (op_move rfl (hA234.ev rfl)) rfl rfl (by decide) fun a236 hA237 => ?_; clear hA234 a233
  refine st hA237 (op_neq rfl (hA237.ev rfl) (evc _ _)) rfl rfl (by decide) fun a238 hA239 => ?_; clear hA237 a236
  rw [decide_eq_true hd28] at hA239
  refine wl_nil ?_
  refine then_n ?_
  refine c_false hA239 rfl ?_
  refine c_skip ?_
  refine then_n ?_
  refine c_seq ?_
  have hA240 := hA239.as [(6, v6_), (4, (Value.int .i64 0)), (3, u62)] rfl; clear hA239
  refine c_region ?_
  refine st hA240 (op_move rfl (hA240.ev rfl)) rfl rfl (by decide) fun a241 hA242 => ?_; clear hA240 a238
  refine st hA242 (op_eql rfl (hA242.ev rfl) (evc _ _)) rfl rfl (by decide) fun a243 hA244 => ?_; clear hA242 a241
  refine st hA244 (op_move rfl (hA244.ev rfl)) rfl rfl (by decide) fun a245 hA246 => ?_; clear hA244 a243
  refine stg hA246 (op_move rfl (hA246.ev rfl)) rfl rfl rfl rfl (by decide) fun a247 hA248 => ?_; clear hA246 a245
  refine stg hA248 (op_move rfl (hA248.ev rfl)) rfl rfl rfl rfl (by decide) fun a249 hA250 => ?_; clear hA248 a247
  refine stwg hA250 (op_call rfl en_30 (ev2 (hA250.ev rfl) (hA250.ev rfl)) (ints_ok (convF d) (convF d) _ _ _ (SlAt.of_row (hS227.ok_row 3 rfl)) (SlAt.of_row (hS227.ok_row 2 rfl)) (by omega))) rfl rfl rfl rfl (by decide) ?_
  rintro a251 _ w253 ⟨rfl, hE254⟩ hA252; have hS255 := hS227.step hE254; clear hE254 hA250 hS227 a249
  have hd256 : ((convF d) : List Int) = (convF d) := rfl
  rw [decide_eq_true hd256] at hA252
  refine st hA252 (op_pick_t rfl (hA252.ev rfl) (hA252.ev rfl)) rfl rfl (by decide) fun a257 hA258 => ?_; clear hA252 a251
  refine st hA258 (op_move rfl (hA258.ev rfl)) rfl rfl (by decide) fun a259 hA260 => ?_; clear hA258 a257
  refine stwg hA260 (op_call rfl en_18 ev0 (wakes_ok _)) rfl rfl rfl rfl (by decide) ?_
  rintro a261 _ w263 ⟨rfl, hE264⟩ hA262; have hS265 := hS255.step hE264; clear hE264 hA260 hS255 a259
  refine st hA262 (op_pick_t rfl (hA262.ev rfl) (hA262.ev rfl)) rfl rfl (by decide) fun a266 hA267 => ?_; clear hA262 a261
  refine st hA267 (op_assign rfl (hA267.ev rfl)) rfl rfl (by decide) fun a268 hA269 => ?_; clear hA267 a266
  refine wl_nil ?_
  refine then_n ?_
  refine c_ret ?_
  refine fin_run hA269 (.inl rfl) (run_results1 hA269 rfl (.tmp rfl)) ?_
  exact ⟨rfl, hS265.ext⟩

theorem RoundConvicts_ok (rl rs rb : Value) (rlv : List Value) (d : RD) (w : World) (hR : RoundAt w rl rs rb rlv d) : Calls Try.prog 13 #[.agg #[rl, rs, .int .i64 d.spread, rb]] w (Ret fun v w' => v = .bool true ∧ Ext NoB w w') := by
 rcases Bool.eq_false_or_eq_true (fewB d) with hf | hf
 ·by_cases hc : checkR d = 0
  ·rcases Nat.lt_or_ge 4 d.tols.length with h4 | h4
   ·exact RoundConvicts_b rl rs rb rlv d w hR hf hc h4
   ·by_cases h0 : (convF d).length = 0
    ·exact RoundConvicts_d rl rs rb rlv d w hR hf hc h4 h0
    ·exact RoundConvicts_e rl rs rb rlv d w hR hf hc h4 h0
  ·exact RoundConvicts_c rl rs rb rlv d w hR hf hc
 ·exact RoundConvicts_a rl rs rb rlv d w hR hf

end Go.Proofs.Ytfhmigoddaaljaa
