/-
  The engine, part Y: appends onto an empty slice that was just built (its capacity is 0): always new memory, or nothing is done.
  The engine, part Z: drawn regions in which operations without effect may come before or after a store.
  The engine, part AA: slices of slices.
  The engine, part BB: drawn regions in which one operation takes a new thing of another and gives one of its own for it (an append onto what an append has given).
  The engine, part CC: an append onto a slice that is full and not the function's own; slices that are made.
  The engine, part KK: keys that are arrays of numbers; structs of three cells.
  The engine, part LL: a range over an iterator that has memory of its own (what it is lent, and what it makes), or that is called by another iterator. What the iterator owns is told as one thing, G, beside what the loop owns.
  The engine, part MM: a range over an iterator inside another iterator. The outer one's rounds keep Jo, which tells of the world; so the loop's things are told as what Jo says of.
  The engine, part NN: a field of a struct that is no variable.
-/
import Derived.Test.YtkkglkdnnfegkaaEng
import Derived.Laws.Slices
import Derived.Laws.OwnMore
set_option linter.unusedSimpArgs false
set_option linter.unusedVariables false
namespace Go.Eng

section
variable {r : Option Nat} {P : Program} {o : Oper} {a : Act} {w w0 : World} {X : Nat → Prop} {L : List Res} {y : List Res → Value → Prop}

theorem op_append0 {t e : TypeId} {s x : Operand} {z : Value} {sz bytes : Nat} {b : Addr} {vx : Value} {m : Nat} {news : List Value}
    (ho : o.op = .call { callee := .builtin .append, args := #[s, x], argTypes := #[t, t] }) (ht : P.underlying t = some (.slice e)) (he : elK P e = some (z, sz, bytes))
    (hs : a.eval s = .slice (some b) 0 0) (hx : a.eval x = vx) (hsrc : SlAt w vx sz m news) (h1 : news.all (·.oneCell') = true)
    (h63 : m ≤ maxLen) (hbytes : m * bytes ≤ 140737488355328) (hm : 0 < m) :
    OpY r P o a w (fun v' w' => Ext NoB w w' ∧ w'.ownsRow w.heap.size e sz v' m news) := by
  unfold elK at he
  cases hi0 : P.info? e with
  | none => simp [hi0] at he
  | some ti =>
    simp only [hi0] at he
    cases hz : ti.zero with
    | none => simp [hz] at he
    | some z' =>
      simp only [hz] at he
      split at he
      case isFalse => cases he
      rename_i hcond
      simp only [Option.some.injEq, Prod.mk.injEq] at he
      obtain ⟨rfl, rfl, rfl⟩ := he
      obtain ⟨hl, A, cap', rfl, hc1, hc2, h3⟩ := hsrc
      have hne : news ≠ [] := by
        rintro rfl
        have := Nat.mul_pos hm hcond.2; simp at hl; omega
      obtain ⟨ad, rfl, hcells⟩ := h3 hne
      have hnil : w.ownsRow w.heap.size e ti.size (.slice none 0 0) 0 [] := ⟨by simp, .inl ⟨rfl, rfl⟩⟩
      obtain ⟨v', w', hrun, h2, h4, _, h5⟩ := run_append_own_at (P := P) w w.heap.size t o.type e ti z' ti.size ti.bytes ht hi0 hz rfl rfl hcond.1 hcond.2 (.slice none 0 0) 0 [] hnil ad m cap' news hl hcells (fun u hu => List.all_eq_true.1 h1 u hu) (by omega) (by rw [Nat.zero_add]; exact hbytes) (Nat.le_refl _)
      refine opY_value (v := v') (w' := w') (by rw [ho]; rfl) ?_ ⟨(Ext.of_grownBy h4).mono (fun b hb => by cases hb), by rw [Nat.zero_add, List.nil_append] at h2; exact h2⟩
      have hgo : ∀ R W, (Builtin.append_ #[t, t] o.type #[.slice (some b) 0 0, .slice (some ad) m cap']).run P w = .ok R W → (execOp a.eval o).run P w = .ok (.value R) W := fun R W hr => by
        simp only [execOp, ho, resolve, invoke, builtin, Sem.run_bind, Sem.run_pure, Result.andThen_ok, List.map_toArray, List.map_cons, List.map_nil, hs, hx, hr]
      refine hgo _ _ ?_
      have r1 := run_append_grow (P := P) w t o.type e ti z' ht hi0 hz b 0 0 [] (by simp) (by simp) ad m cap' news hl hcells (by omega) (by simp only [maxLen] at h63; omega) (growslice_fits (by omega) (by rw [Nat.zero_add]; exact hbytes))
      have r2 := run_append_nil (P := P) w t o.type e ti z' ht hi0 hz ad m cap' news hl hcells hm (by simp only [maxLen] at h63; omega) (by omega)
      rw [r2] at hrun
      cases hrun
      rw [r1]; simp

/-- Nothing is appended. -/
theorem op_appendZ {t e : TypeId} {s x : Operand} {z : Value} {sz bytes : Nat} {b : Addr} {vx : Value} {m : Nat} {news : List Value}
    (ho : o.op = .call { callee := .builtin .append, args := #[s, x], argTypes := #[t, t] }) (ht : P.underlying t = some (.slice e)) (he : elK P e = some (z, sz, bytes))
    (hs : a.eval s = .slice (some b) 0 0) (hx : a.eval x = vx) (hsrc : SlAt w vx sz m news) (hm : m = 0) :
    OpY r P o a w (fun v' w' => v' = .slice (some b) 0 0 ∧ w' = w) := by
  unfold elK at he
  cases hi0 : P.info? e with
  | none => simp [hi0] at he
  | some ti =>
    obtain ⟨hl, A, cap', rfl, hc1, hc2, h3⟩ := hsrc
    subst hm
    refine opY_value (v := .slice (some b) 0 0) (w' := w) (by rw [ho]; rfl) ?_ ⟨rfl, rfl⟩
    simp only [execOp, ho, resolve, invoke, builtin, Sem.run_bind, Sem.run_pure, Result.andThen_ok, List.map_toArray, List.map_cons, List.map_nil, hs, hx]
    cases A <;> simp [Builtin.append_, run_underlying ht, sizeOf, typeInfo, hi0, Builtin.lenOf, Builtin.firstCells, storeCells, loadCells, loadCellsFrom]

theorem vblz {t e : TypeId} {sz : Nat} {g : Bool} {parts : Array (Nat × Operand)} {ps : Array (Nat × Value)} {z : Value}
    (ho : o.op = .buildSlice t 0 parts) (hp : (parts.map fun (i, x) => (i, a.eval x)) = ps) (ht : P.underlying t = some (.slice e)) (he : tyK P e = some (g, sz)) (hz : (P.info? e).bind (·.zero) = some z)
    (hf : Instr.fill (fun i => some (i * sz, sz)) ((Array.range (0 * sz)).map (z.cells[· % z.cells.size]!)) ps.toList = some ([] : List Value).toArray) (hy : ∀ b, y [blk b e []] (.slice (some ⟨b, 0, none⟩) 0 0)) :
    OpY r P o a w (fun v w'' => Ext NoB w w'' ∧ ∃ rs, y rs v ∧ Sep NoB w w'' rs ∧ rs.all (·.own) = true) :=
  vn (op_buildSlice (X := NoB) (w0 := w) (L := []) (Sep.start _ _) ho hp ht he hz (by omega) hf) fun v w' ⟨b, h1, h2⟩ => by
    subst h1
    exact ⟨_, hy b, h2, rfl⟩
theorem vap0 {e sz m : Nat} {news : List Value} (h : OpY r P o a w (fun v' w' => Ext NoB w w' ∧ w'.ownsRow w.heap.size e sz v' m news)) (hy : ∀ v, y [row v e sz m news] v) :
    OpY r P o a w (fun v w'' => Ext NoB w w'' ∧ ∃ rs, y rs v ∧ Sep NoB w w'' rs ∧ rs.all (·.own) = true) :=
  vn h fun v w' hv => ⟨_, hy v, (Sep.start NoB _).new_row hv.1 hv.2, rfl⟩
end
end Go.Eng

namespace Go.Eng
open Go.RowKit

section
variable {r : Option Nat} {P : Program} {Q : Exit → Act → World → Prop} {n : Nat} {ds : List Deferred} {m : List (Nat × Value)} {X : Nat → Prop} {w0 : World} {L : List Res}

theorem v_step1 {l : List Oper} {h : Nat} {dl : List (List Nat)} {Y : List YV}
    (hdst : ∀ x, x < h → ∀ x_1, x_1 < h → (decide (x_1 = x) || match (l.toArray[x_1]?).bind (·.dst), (l.toArray[x]?).bind (·.dst) with | some d, some e => decide (d ≠ e) | _, _ => true) = true)
    (hok2 : ∀ x, x < h → ∀ x_1 ∈ dl.getD x [], x_1 < x ∧ (beforeOf l.toArray 12 (bindsOn l.toArray x)).contains x_1 = true) (hfree : freeOf l.toArray h (m.map (·.1)) = true) (hn : (List.range h).all (fun j => match (l.toArray[j]?).bind (·.dst) with | some d => decide (d < n) | none => true) = true)
    (hdep : AllDep dl Y)
    {j : Nat} {o : Oper} (hob : ∀ a w' vs, Fr n ds m a → Sep X w0 w' L → (∀ i ∈ dl.getD j [], SlotIs l.toArray a i (vs i) ∧ ∃ rs, yat Y i vs (vs i) rs ∧ ∀ s ∈ rs, s.p w') → OpG r P l.toArray o a w' (fun v w'' => Ext NoB w' w'' ∧ ∃ rs, yat Y j vs v rs ∧ Sep NoB w' w'' rs ∧ rs.all (·.own) = true))
    (ho : l[j]? = some o) (hj : j < h) {done : Nat → Bool} {a : Act} {w' : World} (hj0 : done j = false) (hcl : ∀ i, done i = true → ∀ k ∈ bindsOn l.toArray i, done k = true) (hjb : ∀ i ∈ bindsOn l.toArray j, done i = true) (hI : VInv l h n ds m X w0 L Y done a w') :
    OpG r P l.toArray o a w' (fun v w'' => VInv l h n ds m X w0 L Y (fun i => done i || (i == j)) (a.put o.dst v) w'') := by
  obtain ⟨hA, vs, rsf, hdone, hnot, hSep⟩ := hI
  have hoj : (l.toArray)[j]? = some o := by simpa using ho
  have hdj : ∀ i ∈ dl.getD j [], i < h ∧ done i = true := fun i hi => by
    have h1 := hok2 j hj i hi
    exact ⟨by omega, before_done hcl 12 _ hjb i (by simpa using h1.2)⟩
  refine opG_mono (hob a w' vs hA hSep.right (fun i hi => ?_)) (fun v w'' hv => ?_)
  · obtain ⟨h1, h2⟩ := hdj i hi
    obtain ⟨h3, h4⟩ := hdone i h1 h2
    exact ⟨h3, rsf i, h4, fun s hs => hSep.mem (List.mem_append_left _ (catR_mem rsf h 0 i (Nat.zero_le _) (by omega) s hs))⟩
  · obtain ⟨hext, rs, hy, hnew, hown⟩ := hv
    have hslot : ∀ i, i < h → i ≠ j → ∀ u, SlotIs l.toArray a i u → SlotIs l.toArray (a.put o.dst v) i u := fun i hi hij u hs => by
      unfold SlotIs at hs ⊢
      have hdd := hdst i hi j hj
      cases hdi : ((l.toArray)[i]?).bind (·.dst) with
      | none => trivial
      | some di =>
        rw [hdi] at hs
        cases hdj' : o.dst with
        | none => exact hs
        | some dj =>
          have hjd : ((l.toArray)[j]?).bind (·.dst) = some dj := by rw [hoj]; exact hdj'
          rw [hdi, hjd] at hdd
          simp only [Bool.or_eq_true, decide_eq_true_eq] at hdd
          have hne : dj ≠ di := fun e' => (hdd.resolve_left (fun e2 => hij e2.symm)) e'
          simp only [Act.put]
          rw [Array.getElem?_setIfInBounds_ne hne]; exact hs
    refine ⟨?_, upd vs j v, upd rsf j rs, fun i hi hdi => ?_, fun i hdi => ?_, ?_⟩
    · cases hd : o.dst with
      | none => exact hA.put_none v
      | some d =>
        have hf := List.all_eq_true.1 hfree j (List.mem_range.2 hj)
        have hjd : ((l.toArray)[j]?).bind (·.dst) = some d := by rw [hoj]; exact hd
        rw [hjd] at hf
        have hdn := List.all_eq_true.1 hn j (List.mem_range.2 hj)
        rw [hjd] at hdn
        refine (hA.put (by simpa using hdn) v).mono (fun i u hi => ?_)
        have : i ≠ d := by
          rintro rfl
          have := lookup_mem m hi
          simp [this] at hf
        have hb : (i == d) = false := by simpa using this
        simp only [List.lookup, hb]; exact hi
    · by_cases e : i = j
      · subst e
        rw [upd_same, upd_same]
        refine ⟨?_, yat_dep hdep (fun k hk => ?_) hy⟩
        · unfold SlotIs
          rw [hoj]
          cases hd : o.dst with
          | none => simp [hd]
          | some d =>
            simp only [Option.bind_some, hd]
            have hdn := List.all_eq_true.1 hn i (List.mem_range.2 hj)
            rw [hoj] at hdn
            simp only [Option.bind_some, hd, decide_eq_true_eq] at hdn
            simp only [Act.put]
            rw [Array.getElem?_setIfInBounds_self_of_lt (by rw [hA.1]; exact hdn)]
        · have := (hdj k hk).2
          rw [upd_ne _ _ (by rintro rfl; rw [hj0] at this; cases this)]
      · have hdi' : done i = true := by
          simp only [Bool.or_eq_true, beq_iff_eq] at hdi
          exact hdi.resolve_right e
        obtain ⟨h3, h4⟩ := hdone i hi hdi'
        rw [upd_ne _ _ e, upd_ne _ _ e]
        refine ⟨hslot i hi e _ h3, yat_dep hdep (fun k hk => ?_) h4⟩
        have hk1 := hok2 i hi k hk
        have := before_done hcl 12 _ (hcl i hdi') k (by simpa using hk1.2)
        rw [upd_ne _ _ (by rintro rfl; rw [hj0] at this; cases this)]
    · simp only [Bool.or_eq_false_iff, beq_eq_false_iff_ne, ne_eq] at hdi
      rw [upd_ne _ _ hdi.2]; exact hnot i hdi.1
    · have h1 := hSep.callS hnew hown
      refine h1.perm ?_
      rw [← List.append_assoc]
      exact (catR_upd rsf j rs (hnot j hj0) h 0 (Nat.zero_le _) (by omega)).append_right L


/-- The store s waits for all that stands before it, but for those of F. -/
def floatsOk (ops : Array Oper) (s : Nat) (F : List Nat) : Bool := (List.range s).all fun i => F.contains i || (beforeOf ops 12 (bindsOn ops s)).contains i

theorem c_drawS {id : Nat} {l : List Oper} {a : Act} {w : World} (hm : P.follows .mixedOrders = true) (hA : Fr n ds m a) (hS : Sep X w0 w L) (s : Nat) (F : List Nat) {os : Oper} (hos : l[s]? = some os) (hod : os.dst = none) (dl : List (List Nat)) (Y : List YV) (L' : List Res)
    (hok : drawOk l.toArray (s + 1) (fun _ => []) = true) (hfl : floatsOk l.toArray s F = true) (hok2 : depsOk l.toArray s dl = true) (hfree : freeOf l.toArray s (m.map (·.1)) = true) (hn : (List.range s).all (fun j => match (l.toArray[j]?).bind (·.dst) with | some d => decide (d < n) | none => true) = true)
    (hdep : AllDep dl Y)
    (hop : AllOps (fun j o => ∀ a w' vs, Fr n ds m a → Sep X w0 w' L → (∀ i ∈ dl.getD j [], SlotIs l.toArray a i (vs i) ∧ ∃ rs, yat Y i vs (vs i) rs ∧ ∀ s ∈ rs, s.p w') → OpG r P l.toArray o a w' (fun v w'' => Ext NoB w' w'' ∧ ∃ rs, yat Y j vs v rs ∧ Sep NoB w' w'' rs ∧ rs.all (·.own) = true)) 0 s l)
    (hop2 : AllOps (fun j o => F.contains j = true → ∀ a w' vs, Fr n ds m a → Sep X w0 w' L' → (∀ i ∈ dl.getD j [], SlotIs l.toArray a i (vs i) ∧ ∃ rs, yat Y i vs (vs i) rs ∧ ∀ s ∈ rs, s.p w') → OpG r P l.toArray o a w' (fun v w'' => Ext NoB w' w'' ∧ ∃ rs, yat Y j vs v rs ∧ Sep NoB w' w'' rs ∧ rs.all (·.own) = true)) 0 s l)
    (hFz : ∀ j, F.contains j = true → ∀ vs v rs, yat Y j vs v rs → rs = [])
    (hst : ∀ a w' vs rsf, Fr n ds m a → (∀ i, i < s → F.contains i = false → SlotIs l.toArray a i (vs i) ∧ yat Y i vs (vs i) (rsf i)) → (∀ i, i < s → F.contains i = true → rsf i = []) → Sep X w0 w' (catR rsf 0 s ++ L) → OpG r P l.toArray os a w' (fun _ w'' => Sep X w0 w'' (catR rsf 0 s ++ L')))
    (htail : ∀ a w' vs rsf, Fr n ds m a → (∀ i, i < s → SlotIs l.toArray a i (vs i) ∧ yat Y i vs (vs i) (rsf i)) → Sep X w0 w' (catR rsf 0 s ++ L') → WL r P l.toArray Q (l.drop (s + 1)) a w') :
    WC r P (.region id l.toArray true) Q a w := by
  have hok' := hok
  simp only [drawOk, Bool.and_eq_true, List.all_eq_true, List.mem_range, decide_eq_true_eq] at hok'
  obtain ⟨⟨⟨⟨hback, _⟩, htl⟩, hdst⟩, hh⟩ := hok'
  simp only [depsOk, List.all_eq_true, List.mem_range, Bool.and_eq_true, decide_eq_true_eq] at hok2
  simp only [floatsOk, List.all_eq_true, List.mem_range, Bool.or_eq_true] at hfl
  have hsa : (l.toArray)[s]? = some os := by simpa using hos
  refine c_drawK hm (s + 1) (fun _ => []) hok (fun done a w' => if done s = true then VInv l s n ds m X w0 L' Y done a w' else VInv l s n ds m X w0 L Y done a w') (fun w' he _ => ?_) (fun j o ho hj done a w' hj0 hcl hjb hI K hK => ?_) (fun done a w' hall hI => ?_)
  · rw [if_neg (by simp)]
    refine ⟨hA, fun _ => undef, fun _ => [], (fun i _ hi => by cases hi), fun _ _ => rfl, ?_⟩
    have : ∀ (h k : Nat), catR (fun _ => []) k h = [] := by
      intro h
      induction h with
      | zero => intro k; rfl
      | succ h ih => intro k; show [] ++ catR _ (k + 1) h = []; rw [ih]; rfl
    rw [this]; exact hS.step he
  · by_cases hs : done s = true
    · rw [if_pos hs] at hI
      have hjs : j < s := by
        rcases Nat.lt_or_ge j s with h1 | h1
        · exact h1
        · rw [show j = s by omega, hs] at hj0; cases hj0
      have hjF : F.contains j = true := by
        rcases hfl j hjs with h1 | h1
        · exact h1
        · have := before_done hcl 12 _ (hcl s hs) j (by simpa using h1)
          rw [this] at hj0; cases hj0
      have hoj : (l.toArray)[j]? = some o := by simpa using ho
      have hob := allOps_at s 0 l hop2 j o ho hjs
      rw [Nat.zero_add] at hob
      refine opG_wp hoj (v_step1 (fun x hx y hy => hdst x (by omega) y (by omega)) hok2 hfree hn hdep (hob hjF) ho hjs hj0 hcl hjb hI) (fun v w'' h => hK _ _ ?_)
      rw [if_pos (by simp only [hs, Bool.true_or])]
      exact h
    · rw [if_neg hs] at hI
      rcases Nat.lt_or_ge j s with h1 | h1
      · have hoj : (l.toArray)[j]? = some o := by simpa using ho
        have hob := allOps_at s 0 l hop j o ho h1
        rw [Nat.zero_add] at hob
        refine opG_wp hoj (v_step1 (fun x hx y hy => hdst x (by omega) y (by omega)) hok2 hfree hn hdep hob ho h1 hj0 hcl hjb hI) (fun v w'' h => hK _ _ ?_)
        rw [if_neg]
        · exact h
        · simp only [Bool.or_eq_true, beq_iff_eq, not_or]; exact ⟨hs, by omega⟩
      · obtain rfl : j = s := by omega
        have heo : o = os := by rw [hos] at ho; exact (Option.some.inj ho).symm
        subst heo
        have hall : ∀ i, i < j → F.contains i = false → done i = true := fun i hi hne => before_done hcl 12 _ hjb i (by have := (hfl i hi).resolve_left (by rw [hne]; simp); simpa using this)
        obtain ⟨hA, vs, rsf, hdone, hnot, hSep⟩ := hI
        refine opG_wp hsa (hst a w' vs rsf hA (fun i hi hne => hdone i hi (hall i hi hne)) (fun i hi hF => by
          cases hd : done i with
          | true => exact hFz i hF _ _ _ (hdone i hi hd).2
          | false => exact hnot i hd) hSep) (fun v w'' h => hK _ _ ?_)
        rw [if_pos (by simp)]
        have hput : a.put o.dst v = a := by rw [hod]; rfl
        rw [hput]
        refine ⟨hA, vs, rsf, fun i hi hd => hdone i hi ?_, fun i hd => hnot i ?_, h⟩
        · simp only [Bool.or_eq_true, beq_iff_eq] at hd
          exact hd.resolve_right (by omega)
        · simp only [Bool.or_eq_false_iff] at hd
          exact hd.1
  · rw [if_pos (hall s (by omega))] at hI
    obtain ⟨hA, vs, rsf, hdone, _, hSep⟩ := hI
    exact htail a w' vs rsf hA (fun i hi => hdone i hi (hall i (by omega))) hSep
end

section
variable {r : Option Nat} {P : Program} {o : Oper} {a : Act} {w : World}
theorem op_nilCheckE {x : Operand} {v : Value} {j sz n : Nat} {cs : List Value} (ho : o.op = .nilCheck x) (hx : a.eval x = eptr v j) (hs : SlAt w v sz n cs) (hl : 0 < cs.length) : OpY r P o a w (fun v' w' => v' = eptr v j ∧ w' = w) := by
  obtain ⟨ad, c, rfl⟩ := hs.addr hl
  exact op_nilCheck ho hx
end
theorem pairs_set0 : ∀ {xs : List (Int × Int)} {i : Nat} {c : Int}, i < xs.length → setFrom (pairs xs) (i * 2 + 0) [.int .i64 c] = pairs (xs.set i (c, (xs.getD i (0, 0)).2))
  | x :: xs, 0, c, _ => by simp [setFrom, pairs_cons]
  | x :: xs, i + 1, c, h => by
    have := pairs_set0 (xs := xs) (i := i) (c := c) (by simpa using h)
    rw [setFrom_one, Nat.add_zero] at this ⊢
    rw [pairs_cons, show (i + 1) * 2 = i * 2 + 1 + 1 by omega, List.set_cons_succ, List.set_cons_succ, this, List.set_cons_succ, pairs_cons]
    simp
theorem pairs_set1 : ∀ {xs : List (Int × Int)} {i : Nat} {c : Int}, i < xs.length → setFrom (pairs xs) (i * 2 + 1) [.int .i64 c] = pairs (xs.set i ((xs.getD i (0, 0)).1, c))
  | x :: xs, 0, c, _ => by simp [setFrom, pairs_cons]
  | x :: xs, i + 1, c, h => by
    have := pairs_set1 (xs := xs) (i := i) (c := c) (by simpa using h)
    rw [setFrom_one] at this ⊢
    rw [pairs_cons, show (i + 1) * 2 + 1 = (i * 2 + 1) + 1 + 1 by omega, List.set_cons_succ, List.set_cons_succ, this, List.set_cons_succ, pairs_cons]
    simp
theorem labs_set0 : ∀ {T : List Int} {V : List Value} {i : Nat} {c : Int}, V.length = T.length → i < T.length → setFrom (vpairs (T.zip V)) (i * 2 + 0) [.int .i64 c] = vpairs ((T.set i c).zip V)
  | t :: T, v :: V, 0, c, _, _ => by simp [setFrom, vpairs_cons]
  | t :: T, v :: V, i + 1, c, hl, h => by
    have := labs_set0 (T := T) (V := V) (i := i) (c := c) (by simpa using hl) (by simpa using h)
    rw [setFrom_one, Nat.add_zero] at this ⊢
    rw [List.zip_cons_cons, vpairs_cons, show (i + 1) * 2 = i * 2 + 1 + 1 by omega, List.set_cons_succ, List.set_cons_succ, this, List.set_cons_succ, List.zip_cons_cons, vpairs_cons]
  | t :: T, [], i, c, hl, _ => by simp at hl
theorem labs_set1 : ∀ {T : List Int} {V : List Value} {i : Nat} {c : Value}, V.length = T.length → i < T.length → setFrom (vpairs (T.zip V)) (i * 2 + 1) [c] = vpairs (T.zip (V.set i c))
  | t :: T, v :: V, 0, c, _, _ => by simp [setFrom, vpairs_cons]
  | t :: T, v :: V, i + 1, c, hl, h => by
    have := labs_set1 (T := T) (V := V) (i := i) (c := c) (by simpa using hl) (by simpa using h)
    rw [setFrom_one] at this ⊢
    rw [List.zip_cons_cons, vpairs_cons, show (i + 1) * 2 + 1 = (i * 2 + 1) + 1 + 1 by omega, List.set_cons_succ, List.set_cons_succ, this, List.set_cons_succ, List.zip_cons_cons, vpairs_cons]
  | t :: T, [], i, c, hl, _ => by simp at hl
theorem vals_set {V : List Value} {i : Nat} {c : Value} (h : i < V.length) : (V.set i c).getD i nilS = c := by simp [List.getD, h]
end Go.Eng

namespace Go.Eng
open Go.RowKit

/-- v[l:h], of elements of sz cells. -/
def slcut (v : Value) (l h sz : Nat) : Value := match v with
  | .slice a _ c => sliced a l h c sz
  | _ => undef
/-- v[l:h:m]. -/
def slcut3 (v : Value) (l h m sz : Nat) : Value := match v with
  | .slice a _ _ => sliced a l h m sz
  | _ => undef

theorem SlAt.cutAt {w : World} {A : Option Addr} {sz n cap m l h : Nat} {cs : List Value} (hs : SlAt w (.slice A n cap) sz n cs) (h1 : l ≤ h) (h2 : h ≤ n) (h3 : h ≤ m) (h4 : m ≤ cap) : SlAt w (sliced A l h m sz) sz (h - l) ((cs.drop (l * sz)).take ((h - l) * sz)) := by
  obtain ⟨hl, A', cap', he, hc, hm, hc2⟩ := hs
  cases he
  have hln : (h - l) * sz ≤ n * sz - l * sz := by rw [← Nat.sub_mul]; exact Nat.mul_le_mul_right _ (by omega)
  refine ⟨by rw [List.length_take, List.length_drop, hl]; omega, _, m - l, rfl, by omega, by omega, fun hne => ?_⟩
  have hlt : l < h := by
    rcases Nat.lt_or_ge l h with h5 | h5
    · exact h5
    · exfalso; apply hne; rw [show h - l = 0 by omega, Nat.zero_mul, List.take_zero]
  rw [if_neg (by omega)]
  have hne2 : cs ≠ [] := by rintro rfl; simp at hne
  obtain ⟨ad, rfl, hcell⟩ := hc2 hne2
  refine ⟨_, rfl, fun j u hu => ?_⟩
  rw [addr_add_add]
  rw [List.getElem?_take] at hu
  split at hu
  · rw [List.getElem?_drop] at hu
    exact hcell _ _ hu
  · cases hu
theorem SlAt.cut {w : World} {v : Value} {sz n l h : Nat} {cs : List Value} (hs : SlAt w v sz n cs) (h1 : l ≤ h) (h2 : h ≤ n) : SlAt w (slcut v l h sz) sz (h - l) ((cs.drop (l * sz)).take ((h - l) * sz)) := by
  have hs0 := hs
  obtain ⟨hl, A, cap, rfl, hc, hm, hc2⟩ := hs
  exact hs0.cutAt h1 h2 (by omega) (Nat.le_refl _)
/-- The cells are told in other words. -/
theorem SlAt.say {w : World} {v : Value} {sz n n' : Nat} {cs cs' : List Value} (h : SlAt w v sz n cs) (hn : n = n') (hc : cs = cs') : SlAt w v sz n' cs' := by subst hn; subst hc; exact h

section
variable {r : Option Nat} {P : Program} {o : Oper} {a : Act} {w : World}
theorem elem_of {t e : TypeId} (ht : P.underlying t = some (.slice e)) : P.elem t = e := by simp [Program.elem, ht]
theorem op_sliceLo {t e : TypeId} {x lo : Operand} {v : Value} {g : Bool} {sz n l : Nat} {cs : List Value} {k : IntKind} (ho : o.op = .slice t x (some lo) none none) (ht : P.underlying t = some (.slice e)) (he : tyK P e = some (g, sz)) (hx : a.eval x = v) (hl : a.eval lo = .int k (l : Int)) (hs : SlAt w v sz n cs) (h : l ≤ n) :
    OpY r P o a w (fun v' w' => v' = slcut v l n sz ∧ w' = w) := by
  obtain ⟨_, A, cap, rfl, hc, hm, _⟩ := hs
  have he' := elem_of ht
  have ht' : P.underlying t = some (.slice (P.elem t)) := by rw [he']; exact ht
  refine opY_value (by rw [ho]; rfl) ?_ ⟨rfl, rfl⟩
  have h1 := run_slice_l (P := P) w t A n cap ht' k (l : Int) (by omega) (by omega)
  rw [he', run_sizeOf he] at h1
  simp only [execOp, ho, hx, hl, Option.map_some, Option.map_none, Sem.run_bind, run_sliceAt_slice w t _ _ _ _ ht', h1, Result.andThen_ok, Sem.run_pure, Int.toNat_natCast]
  rfl
theorem op_sliceHi {t e : TypeId} {x hi : Operand} {v : Value} {g : Bool} {sz n h : Nat} {cs : List Value} {k : IntKind} (ho : o.op = .slice t x none (some hi) none) (ht : P.underlying t = some (.slice e)) (he : tyK P e = some (g, sz)) (hx : a.eval x = v) (hh : a.eval hi = .int k (h : Int)) (hs : SlAt w v sz n cs) (hn : h ≤ n) :
    OpY r P o a w (fun v' w' => v' = slcut v 0 h sz ∧ w' = w) := by
  obtain ⟨_, A, cap, rfl, hc, hm, _⟩ := hs
  have he' := elem_of ht
  have ht' : P.underlying t = some (.slice (P.elem t)) := by rw [he']; exact ht
  refine opY_value (by rw [ho]; rfl) ?_ ⟨rfl, rfl⟩
  have h1 := run_slice_h (P := P) w t A n cap ht' k (h : Int) (by omega) (by omega)
  rw [he', run_sizeOf he] at h1
  simp only [execOp, ho, hx, hh, Option.map_some, Option.map_none, Sem.run_bind, run_sliceAt_slice w t _ _ _ _ ht', h1, Result.andThen_ok, Sem.run_pure, Int.toNat_natCast]
  rfl
theorem op_sliceHM {t e : TypeId} {x hi mx : Operand} {v : Value} {g : Bool} {sz n h m : Nat} {cs : List Value} {k k2 : IntKind} (ho : o.op = .slice t x none (some hi) (some mx)) (ht : P.underlying t = some (.slice e)) (he : tyK P e = some (g, sz)) (hx : a.eval x = v) (hh : a.eval hi = .int k (h : Int)) (hm2 : a.eval mx = .int k2 (m : Int)) (hs : SlAt w v sz n cs) (hn : h ≤ m) (hmn : m ≤ n) :
    OpY r P o a w (fun v' w' => v' = slcut3 v 0 h m sz ∧ w' = w) := by
  obtain ⟨_, A, cap, rfl, hc, hm, _⟩ := hs
  have he' := elem_of ht
  have ht' : P.underlying t = some (.slice (P.elem t)) := by rw [he']; exact ht
  refine opY_value (by rw [ho]; rfl) ?_ ⟨rfl, rfl⟩
  have h1 := run_slice_hm (P := P) w t A n cap ht' k k2 (h : Int) (m : Int) (by omega) (by omega) (by omega)
  rw [he', run_sizeOf he] at h1
  simp only [execOp, ho, hx, hh, hm2, Option.map_some, Option.map_none, Sem.run_bind, run_sliceAt_slice w t _ _ _ _ ht', h1, Result.andThen_ok, Sem.run_pure, Int.toNat_natCast]
  rfl
end
theorem vpairs_drop (xs : List (Int × Value)) : ∀ (t : Nat), (vpairs xs).drop (t * 2) = vpairs (xs.drop t)
  | 0 => by simp
  | t + 1 => by
    cases xs with
    | nil => simp [vpairs]
    | cons x xs =>
      rw [vpairs_cons, show (t + 1) * 2 = t * 2 + 1 + 1 by omega, List.drop_succ_cons, List.drop_succ_cons, List.drop_succ_cons]
      exact vpairs_drop xs t
theorem vpairs_take (xs : List (Int × Value)) : ∀ (t : Nat), (vpairs xs).take (t * 2) = vpairs (xs.take t)
  | 0 => by simp [vpairs]
  | t + 1 => by
    cases xs with
    | nil => simp [vpairs]
    | cons x xs =>
      rw [vpairs_cons, show (t + 1) * 2 = t * 2 + 1 + 1 by omega, List.take_succ_cons, List.take_succ_cons, List.take_succ_cons, vpairs_cons]
      rw [vpairs_take xs t]
theorem labs_drop {T : List Int} {V : List Value} {t : Nat} (hl : V.length = T.length) (ht : t ≤ T.length) : ((vpairs (T.zip V)).drop (t * 2)).take ((T.length - t) * 2) = vpairs ((T.drop t).zip (V.drop t)) := by
  rw [vpairs_drop, List.take_of_length_le (by rw [vpairs_length, List.length_drop, List.length_zip]; omega)]
  congr 1
  exact List.drop_zipWith
theorem labs_take {T : List Int} {V : List Value} {t : Nat} : ((vpairs (T.zip V)).drop (0 * 2)).take ((t - 0) * 2) = vpairs ((T.take t).zip (V.take t)) := by
  rw [Nat.zero_mul, List.drop_zero, Nat.sub_zero, vpairs_take]
  congr 1
  exact List.take_zipWith
theorem labs_dropOne {T : List Int} {V : List Value} {t : Nat} (h : (vpairs (T.zip V)).all (·.oneCell') = true) : (vpairs ((T.drop t).zip (V.drop t))).all (·.oneCell') = true := by
  have e : (T.drop t).zip (V.drop t) = (T.zip V).drop t := List.drop_zipWith.symm
  rw [e, ← vpairs_drop, List.all_eq_true]
  exact fun u hu => List.all_eq_true.1 h u (List.mem_of_mem_drop hu)
theorem labs_takeOne {T : List Int} {V : List Value} {t : Nat} (h : (vpairs (T.zip V)).all (·.oneCell') = true) : (vpairs ((T.take t).zip (V.take t))).all (·.oneCell') = true := by
  have e : (T.take t).zip (V.take t) = (T.zip V).take t := List.take_zipWith.symm
  rw [e, ← vpairs_take, List.all_eq_true]
  exact fun u hu => List.all_eq_true.1 h u (List.mem_of_mem_take hu)
end Go.Eng

namespace Go.Eng
open Go.RowKit

section
variable {r : Option Nat} {P : Program} {Q : Exit → Act → World → Prop} {n : Nat} {ds : List Deferred} {m : List (Nat × Value)} {X : Nat → Prop} {w0 : World} {L : List Res}

theorem slot_put {l : List Oper} {h : Nat} {a : Act} (hdst : ∀ x, x < h → ∀ x_1, x_1 < h → (decide (x_1 = x) || match (l.toArray[x_1]?).bind (·.dst), (l.toArray[x]?).bind (·.dst) with | some d, some e => decide (d ≠ e) | _, _ => true) = true)
    {j : Nat} {o : Oper} {v : Value} (hoj : (l.toArray)[j]? = some o) (hj : j < h) : ∀ i, i < h → i ≠ j → ∀ u, SlotIs l.toArray a i u → SlotIs l.toArray (a.put o.dst v) i u := by
  intro i hi hij u hs
  unfold SlotIs at hs ⊢
  have hdd := hdst i hi j hj
  cases hdi : ((l.toArray)[i]?).bind (·.dst) with
  | none => trivial
  | some di =>
    rw [hdi] at hs
    cases hdj' : o.dst with
    | none => exact hs
    | some dj =>
      have hjd : ((l.toArray)[j]?).bind (·.dst) = some dj := by rw [hoj]; exact hdj'
      rw [hdi, hjd] at hdd
      simp only [Bool.or_eq_true, decide_eq_true_eq] at hdd
      have hne : dj ≠ di := fun e' => (hdd.resolve_left (fun e2 => hij e2.symm)) e'
      simp only [Act.put]
      rw [Array.getElem?_setIfInBounds_ne hne]; exact hs
theorem slot_new {l : List Oper} {h : Nat} {a : Act} (hA : Fr n ds m a) (hn : (List.range h).all (fun j => match (l.toArray[j]?).bind (·.dst) with | some d => decide (d < n) | none => true) = true)
    {j : Nat} {o : Oper} {v : Value} (hoj : (l.toArray)[j]? = some o) (hj : j < h) : SlotIs l.toArray (a.put o.dst v) j v := by
  unfold SlotIs
  rw [hoj]
  cases hd : o.dst with
  | none => simp [hd]
  | some d =>
    simp only [Option.bind_some, hd]
    have hdn := List.all_eq_true.1 hn j (List.mem_range.2 hj)
    rw [hoj] at hdn
    simp only [Option.bind_some, hd, decide_eq_true_eq] at hdn
    simp only [Act.put]
    rw [Array.getElem?_setIfInBounds_self_of_lt (by rw [hA.1]; exact hdn)]
theorem fr_put {l : List Oper} {h : Nat} {a : Act} (hA : Fr n ds m a) (hfree : freeOf l.toArray h (m.map (·.1)) = true) (hn : (List.range h).all (fun j => match (l.toArray[j]?).bind (·.dst) with | some d => decide (d < n) | none => true) = true)
    {j : Nat} {o : Oper} {v : Value} (hoj : (l.toArray)[j]? = some o) (hj : j < h) : Fr n ds m (a.put o.dst v) := by
  cases hd : o.dst with
  | none => exact hA.put_none v
  | some d =>
    have hf := List.all_eq_true.1 hfree j (List.mem_range.2 hj)
    have hjd : ((l.toArray)[j]?).bind (·.dst) = some d := by rw [hoj]; exact hd
    rw [hjd] at hf
    have hdn := List.all_eq_true.1 hn j (List.mem_range.2 hj)
    rw [hjd] at hdn
    refine (hA.put (by simpa using hdn) v).mono (fun i u hi => ?_)
    have : i ≠ d := by
      rintro rfl
      have := lookup_mem m hi
      simp [this] at hf
    have hb : (i == d) = false := by simpa using this
    simp only [List.lookup, hb]; exact hi

/-- What holds within the head; j0 takes the things of i0. -/
def CInv (l : List Oper) (h n : Nat) (ds : List Deferred) (m : List (Nat × Value)) (X : Nat → Prop) (w0 : World) (L : List Res) (Y : List YV) (j0 i0 : Nat) (done : Nat → Bool) (a : Act) (w' : World) : Prop :=
  Fr n ds m a ∧ ∃ vs rsf, (∀ i, i < h → done i = true → (i ≠ i0 ∨ done j0 = false) → SlotIs l.toArray a i (vs i) ∧ yat Y i vs (vs i) (rsf i)) ∧ (∀ i, done i = false → rsf i = []) ∧ (done j0 = true → rsf i0 = []) ∧ Sep X w0 w' (catR rsf 0 h ++ L)

theorem c_drawC {id : Nat} {l : List Oper} {a : Act} {w : World} (hm : P.follows .mixedOrders = true) (hA : Fr n ds m a) (hS : Sep X w0 w L) (h j0 i0 : Nat) (hij : i0 ≠ j0) (hjh : j0 < h) (hih : i0 < h) {oj : Oper} (hoj : l[j0]? = some oj) (dl : List (List Nat)) (Y : List YV)
    (hok : drawOk l.toArray h (fun _ => []) = true) (hok2 : depsOk l.toArray h dl = true) (hfree : freeOf l.toArray h (m.map (·.1)) = true) (hn : (List.range h).all (fun j => match (l.toArray[j]?).bind (·.dst) with | some d => decide (d < n) | none => true) = true)
    (hdep : AllDep dl Y) (hdl : (List.range h).all (fun j => decide (j = j0) || !(dl.getD j []).contains i0) = true) (hd0 : (dl.getD j0 []).contains i0 = true)
    (hop : AllOps (fun j o => j ≠ j0 → ∀ a w' vs, Fr n ds m a → Sep X w0 w' L → (∀ i ∈ dl.getD j [], SlotIs l.toArray a i (vs i) ∧ ∃ rs, yat Y i vs (vs i) rs ∧ ∀ s ∈ rs, s.p w') → OpG r P l.toArray o a w' (fun v w'' => Ext NoB w' w'' ∧ ∃ rs, yat Y j vs v rs ∧ Sep NoB w' w'' rs ∧ rs.all (·.own) = true)) 0 h l)
    (hopC : ∀ a w' vs rs0 Lr, Fr n ds m a → SlotIs l.toArray a i0 (vs i0) → yat Y i0 vs (vs i0) rs0 → (∀ i ∈ dl.getD j0 [], i ≠ i0 → SlotIs l.toArray a i (vs i) ∧ ∃ rs, yat Y i vs (vs i) rs ∧ ∀ s ∈ rs, s.p w') → Sep X w0 w' (rs0 ++ Lr) → OpG r P l.toArray oj a w' (fun v w'' => ∃ rs, yat Y j0 vs v rs ∧ Sep X w0 w'' (rs ++ Lr)))
    (htail : ∀ a w' vs rsf, Fr n ds m a → (∀ i, i < h → i ≠ i0 → SlotIs l.toArray a i (vs i) ∧ yat Y i vs (vs i) (rsf i)) → rsf i0 = [] → Sep X w0 w' (catR rsf 0 h ++ L) → WL r P l.toArray Q (l.drop h) a w') :
    WC r P (.region id l.toArray true) Q a w := by
  have hok' := hok
  simp only [drawOk, Bool.and_eq_true, List.all_eq_true, List.mem_range, decide_eq_true_eq] at hok'
  obtain ⟨⟨⟨⟨hback, _⟩, htl⟩, hdst⟩, hh⟩ := hok'
  simp only [depsOk, List.all_eq_true, List.mem_range, Bool.and_eq_true, decide_eq_true_eq] at hok2
  simp only [List.all_eq_true, List.mem_range, Bool.or_eq_true, decide_eq_true_eq, Bool.not_eq_true'] at hdl
  have hi0j : i0 ∈ dl.getD j0 [] := by simpa using hd0
  refine c_drawJ hm h (fun _ => []) hok (CInv l h n ds m X w0 L Y j0 i0) (fun w' he _ => ⟨hA, fun _ => undef, fun _ => [], (fun i _ hi => by cases hi), fun _ _ => rfl, fun _ => rfl, ?_⟩) (fun j o ho hj done a w' hj0 hcl hjb hI => ?_) (fun done a w' hall hI => ?_)
  · have : ∀ (h k : Nat), catR (fun _ => []) k h = [] := by
      intro h
      induction h with
      | zero => intro k; rfl
      | succ h ih => intro k; show [] ++ catR _ (k + 1) h = []; rw [ih]; rfl
    rw [this]; exact hS.step he
  · obtain ⟨hA, vs, rsf, hdone, hnot, hcon, hSep⟩ := hI
    have hoj' : (l.toArray)[j]? = some o := by simpa using ho
    have hdj : ∀ i ∈ dl.getD j [], i < h ∧ done i = true := fun i hi => by
      have h1 := hok2 j hj i hi
      exact ⟨by omega, before_done hcl 12 _ hjb i (by simpa using h1.2)⟩
    have hjd0 : done j0 = true → done i0 = true := fun h0 => by
      have h1 := hok2 j0 hjh i0 hi0j
      exact before_done hcl 12 _ (hcl j0 h0) i0 (by simpa using h1.2)
    by_cases hjj : j = j0
    · subst hjj
      have heo : o = oj := by rw [hoj] at ho; exact (Option.some.inj ho).symm
      subst heo
      have hdi0 : done i0 = true := (hdj i0 hi0j).2
      obtain ⟨s1, s2⟩ := hdone i0 hih hdi0 (.inr hj0)
      have hup : upd (upd rsf i0 []) i0 (rsf i0) = rsf := by
        funext k; unfold upd; by_cases e : k = i0
        · subst e; rw [if_pos rfl]
        · rw [if_neg e, if_neg e]
      have hp1 : (catR rsf 0 h).Perm (rsf i0 ++ catR (upd rsf i0 []) 0 h) := by
        have := catR_upd (upd rsf i0 []) i0 (rsf i0) (upd_same _ _ _) h 0 (Nat.zero_le _) (by omega)
        rw [hup] at this; exact this
      have hS2 : Sep X w0 w' (rsf i0 ++ (catR (upd rsf i0 []) 0 h ++ L)) := hSep.perm (by
        rw [← List.append_assoc]; exact (hp1.append_right L).symm)
      refine opG_mono (hopC a w' vs (rsf i0) _ hA s1 s2 (fun i hi hne => ?_) hS2) (fun v w'' hv => ?_)
      · obtain ⟨h1, h2⟩ := hdj i hi
        obtain ⟨h3, h4⟩ := hdone i h1 h2 (.inl hne)
        exact ⟨h3, rsf i, h4, fun s hs => hSep.mem (List.mem_append_left _ (catR_mem rsf h 0 i (Nat.zero_le _) (by omega) s hs))⟩
      · obtain ⟨rs, hy, hS3⟩ := hv
        refine ⟨fr_put hA hfree hn hoj' hj, upd vs j v, upd (upd rsf i0 []) j rs, fun i hi hdi hne => ?_, fun i hdi => ?_, fun _ => ?_, ?_⟩
        · have hne' : i ≠ i0 := hne.resolve_right (by simp)
          by_cases e : i = j
          · subst e
            rw [upd_same, upd_same]
            refine ⟨slot_new hA hn hoj' hj, yat_dep hdep (fun k hk => ?_) hy⟩
            have := (hdj k hk).2
            rw [upd_ne _ _ (by rintro rfl; rw [hj0] at this; cases this)]
          · have hdi' : done i = true := by
              simp only [Bool.or_eq_true, beq_iff_eq] at hdi
              exact hdi.resolve_right e
            obtain ⟨h3, h4⟩ := hdone i hi hdi' (.inl hne')
            rw [upd_ne _ _ e, upd_ne _ _ e, upd_ne _ _ hne']
            refine ⟨slot_put hdst hoj' hj i hi e _ h3, yat_dep hdep (fun k hk => ?_) h4⟩
            have hk1 := hok2 i hi k hk
            have := before_done hcl 12 _ (hcl i hdi') k (by simpa using hk1.2)
            rw [upd_ne _ _ (by rintro rfl; rw [hj0] at this; cases this)]
        · simp only [Bool.or_eq_false_iff, beq_eq_false_iff_ne, ne_eq] at hdi
          rw [upd_ne _ _ hdi.2]
          by_cases e : i = i0
          · subst e; exact upd_same _ _ _
          · rw [upd_ne _ _ e]; exact hnot i hdi.1
        · rw [upd_ne _ _ hij, upd_same]
        · refine hS3.perm ?_
          rw [← List.append_assoc]
          exact (catR_upd (upd rsf i0 []) j rs (by rw [upd_ne _ _ (fun e => hij e.symm)]; exact hnot j hj0) h 0 (Nat.zero_le _) (by omega)).append_right L
    · have hob := allOps_at h 0 l hop j o ho hj
      rw [Nat.zero_add] at hob
      have hni : ∀ i ∈ dl.getD j [], i ≠ i0 := fun i hi e => by
        subst e
        have := (hdl j hj).resolve_left hjj
        have h2 : (dl.getD j []).contains i = true := by simpa using hi
        rw [h2] at this; cases this
      refine opG_mono (hob hjj a w' vs hA hSep.right (fun i hi => ?_)) (fun v w'' hv => ?_)
      · obtain ⟨h1, h2⟩ := hdj i hi
        obtain ⟨h3, h4⟩ := hdone i h1 h2 (.inl (hni i hi))
        exact ⟨h3, rsf i, h4, fun s hs => hSep.mem (List.mem_append_left _ (catR_mem rsf h 0 i (Nat.zero_le _) (by omega) s hs))⟩
      · obtain ⟨hext, rs, hy, hnew, hown⟩ := hv
        have hj0' : ((fun i => done i || (i == j)) j0 = true) ↔ done j0 = true := by
          simp only [Bool.or_eq_true, beq_iff_eq]
          exact ⟨fun h => h.resolve_right (fun e => hjj e.symm), fun h => .inl h⟩
        refine ⟨fr_put hA hfree hn hoj' hj, upd vs j v, upd rsf j rs, fun i hi hdi hne => ?_, fun i hdi => ?_, fun hd => ?_, ?_⟩
        · by_cases e : i = j
          · subst e
            rw [upd_same, upd_same]
            refine ⟨slot_new hA hn hoj' hj, yat_dep hdep (fun k hk => ?_) hy⟩
            have := (hdj k hk).2
            rw [upd_ne _ _ (by rintro rfl; rw [hj0] at this; cases this)]
          · have hdi' : done i = true := by
              simp only [Bool.or_eq_true, beq_iff_eq] at hdi
              exact hdi.resolve_right e
            obtain ⟨h3, h4⟩ := hdone i hi hdi' (hne.imp (fun h => h) (fun h => by
              cases hc : done j0 with
              | false => rfl
              | true => rw [hj0'.2 hc] at h; cases h))
            rw [upd_ne _ _ e, upd_ne _ _ e]
            refine ⟨slot_put hdst hoj' hj i hi e _ h3, yat_dep hdep (fun k hk => ?_) h4⟩
            have hk1 := hok2 i hi k hk
            have := before_done hcl 12 _ (hcl i hdi') k (by simpa using hk1.2)
            rw [upd_ne _ _ (by rintro rfl; rw [hj0] at this; cases this)]
        · simp only [Bool.or_eq_false_iff, beq_eq_false_iff_ne, ne_eq] at hdi
          rw [upd_ne _ _ hdi.2]; exact hnot i hdi.1
        · have h1 := hj0'.1 hd
          have h2 := hjd0 h1
          rw [upd_ne _ _ (by rintro rfl; rw [hj0] at h2; cases h2)]
          exact hcon h1
        · have h1 := hSep.callS hnew hown
          refine h1.perm ?_
          rw [← List.append_assoc]
          exact (catR_upd rsf j rs (hnot j hj0) h 0 (Nat.zero_le _) (by omega)).append_right L
  · obtain ⟨hA, vs, rsf, hdone, _, hcon, hSep⟩ := hI
    exact htail a w' vs rsf hA (fun i hi hne => hdone i hi (hall i hi) (.inl hne)) (hcon (hall j0 hjh)) hSep
end

/-- The cells are told in other words. -/
theorem SlAt.tell {w : World} {v : Value} {sz n n' : Nat} {cs cs' : List Value} (h : SlAt w v sz n cs) (hn : n = n') (hc : cs = cs') : SlAt w v sz n' cs' := by subst hn; subst hc; exact h
section
variable {X : Nat → Prop} {w0 w : World} {L : List Res}
theorem lst_one {lv : List Value} {ls : List (List Int)} (h : (lstR lv ls).p w) : lv.all (·.oneCell') = true := by
  rw [List.all_eq_true]
  intro v hv
  obtain ⟨i, hi, rfl⟩ := List.getElem_of_mem hv
  have := (h.2 i (by rw [← h.1]; exact hi)).one
  simpa [List.getD, hi] using this
/-- Two lists of lists, as one. -/
theorem Sep.lst_app {lv lv2 : List Value} {ls ls2 : List (List Int)} (h : Sep X w0 w (lstR lv ls :: lstR lv2 ls2 :: L)) : Sep X w0 w (lstR (lv ++ lv2) (ls ++ ls2) :: L) := by
  have h1 : (lstR lv ls).p w := h.ok 0 _ rfl
  have h2 : (lstR lv2 ls2).p w := h.ok 1 _ rfl
  have each : ∀ i, i < (ls ++ ls2).length → ((lv ++ lv2).getD i nilS = lv.getD i nilS ∧ (ls ++ ls2).getD i [] = ls.getD i [] ∧ i < ls.length) ∨ (∃ j, j < ls2.length ∧ (lv ++ lv2).getD i nilS = lv2.getD j nilS ∧ (ls ++ ls2).getD i [] = ls2.getD j []) := fun i hi => by
    rw [List.length_append] at hi
    by_cases e : i < ls.length
    · left
      refine ⟨?_, ?_, e⟩
      · simp only [List.getD]; rw [List.getElem?_append_left (by rw [h1.1]; exact e)]
      · simp only [List.getD]; rw [List.getElem?_append_left e]
    · right
      refine ⟨i - ls.length, by omega, ?_, ?_⟩
      · simp only [List.getD]; rw [List.getElem?_append_right (by rw [h1.1]; omega), h1.1]
      · simp only [List.getD]; rw [List.getElem?_append_right (by omega)]
  refine h.join ⟨by simp [h1.1, h2.1], fun i hi => ?_⟩ (fun b ⟨i, hi, hb⟩ => ?_) (fun _ => ⟨rfl, rfl⟩) (fun _ => trivial)
  · rcases each i hi with ⟨e1, e2, e3⟩ | ⟨j, e3, e1, e2⟩
    · rw [e1, e2]; exact h1.2 i e3
    · rw [e1, e2]; exact h2.2 j e3
  · rcases each i hi with ⟨e1, e2, e3⟩ | ⟨j, e3, e1, e2⟩
    · rw [e1, e2] at hb; exact .inl ⟨i, e3, hb⟩
    · rw [e1, e2] at hb; exact .inr ⟨j, e3, hb⟩
/-- Some of the lists alone, in any order. -/
theorem Sep.lst_sel {lv : List Value} {ls : List (List Int)} (h : Sep X w0 w (lstR lv ls :: L)) (sel : List Nat) (hs : ∀ i ∈ sel, i < ls.length) : Sep X w0 w (lstR (sel.map fun i => lv.getD i nilS) (sel.map fun i => ls.getD i []) :: L) := by
  have h1 : (lstR lv ls).p w := h.ok 0 _ rfl
  have each : ∀ i, i < sel.length → (sel.map fun i => lv.getD i nilS).getD i nilS = lv.getD (sel.getD i 0) nilS ∧ (sel.map fun i => ls.getD i []).getD i [] = ls.getD (sel.getD i 0) [] ∧ sel.getD i 0 < ls.length := fun i hi => by
    have e : sel.getD i 0 = sel[i] := by simp [List.getD, hi]
    refine ⟨by simp [List.getD, hi], by simp [List.getD, hi], by rw [e]; exact hs _ (List.getElem_mem hi)⟩
  refine h.say (i := 0) rfl ⟨by simp, fun i hi => ?_⟩ (fun b ⟨i, hi, hb⟩ => ?_) (fun _ => rfl)
  · rw [List.length_map] at hi
    obtain ⟨e1, e2, e3⟩ := each i hi
    rw [e1, e2]; exact h1.2 _ e3
  · rw [List.length_map] at hi
    obtain ⟨e1, e2, e3⟩ := each i hi
    rw [e1, e2] at hb
    exact ⟨_, e3, hb⟩
end
end Go.Eng

namespace Go.Eng
open Go.RowKit

section
variable {r : Option Nat} {P : Program} {o : Oper} {a : Act} {w w0 : World} {X : Nat → Prop} {L : List Res}
theorem op_appendF {t e : TypeId} {s x : Operand} {z : Value} {sz bytes : Nat} {A : Option Addr} {vx : Value} {n m : Nat} {olds news : List Value}
    (ho : o.op = .call { callee := .builtin .append, args := #[s, x], argTypes := #[t, t] }) (ht : P.underlying t = some (.slice e)) (he : elK P e = some (z, sz, bytes))
    (hs : a.eval s = .slice A n n) (hx : a.eval x = vx) (hold : SlAt w (.slice A n n) sz n olds) (hn : 0 < n) (hsrc : SlAt w vx sz m news) (hm : 0 < m)
    (h63 : n + m ≤ maxLen) (hbytes : (n + m) * bytes ≤ 140737488355328) :
    OpY r P o a w (fun v' w' => Ext NoB w w' ∧ w'.ownsRow w.heap.size e sz v' (n + m) (olds ++ news)) := by
  unfold elK at he
  cases hi0 : P.info? e with
  | none => simp [hi0] at he
  | some ti =>
    simp only [hi0] at he
    cases hz : ti.zero with
    | none => simp [hz] at he
    | some z' =>
      simp only [hz] at he
      split at he
      case isFalse => cases he
      rename_i hcond
      simp only [Option.some.injEq, Prod.mk.injEq] at he
      obtain ⟨rfl, rfl, rfl⟩ := he
      obtain ⟨hl, A', cap', rfl, hc1, hc2, h3⟩ := hsrc
      have hne : news ≠ [] := by
        rintro rfl
        have := Nat.mul_pos hm hcond.2; simp at hl; omega
      obtain ⟨ad, rfl, hcells⟩ := h3 hne
      obtain ⟨hlo, B, capB, hB, _, _, h4⟩ := hold
      cases hB
      have hne2 : olds ≠ [] := by
        rintro rfl
        have := Nat.mul_pos hn hcond.2; simp at hlo; omega
      obtain ⟨bd, rfl, hcells2⟩ := h4 hne2
      have hr := run_append_grow (P := P) w t o.type e ti z' ht hi0 hz bd n n olds hlo hcells2 ad m cap' news hl hcells (by omega) (by simp only [maxLen] at h63; omega) (growslice_fits (by omega) hbytes)
      have hge := grownCap_ge w (n + m) n e
      have hcm : grownCap w (n + m) n e ≤ maxLen := grownCap_le_maxLen w (n + m) n e h63
      have hlen : (olds ++ news).length = (n + m) * ti.size := by rw [List.length_append, hlo, hl, Nat.add_mul]
      refine opY_value (by rw [ho]; rfl) (v := .slice (some ⟨w.heap.size, 0, none⟩) (n + m) (grownCap w (n + m) n e)) (w' := w.drew.alloc (.cells (olds.toArray ++ news.toArray ++ Builtin.zeroCells z'.cells (grownCap w (n + m) n e - (n + m))) e)) ?_ ⟨⟨rfl, rfl, rfl, by simp, fun b hb _ => heap_alloc_old w.drew _ (by simpa using hb)⟩, hlen, .inr ⟨w.heap.size, _, _, rfl, Nat.le_refl _, heap_alloc_new w.drew _, hge, hcm, ?_, ?_⟩⟩
      · simp only [execOp, ho, resolve, invoke, builtin, Sem.run_bind, Sem.run_pure, Result.andThen_ok, List.map_toArray, List.map_cons, List.map_nil, hs, hx, hr]
      · simp only [Array.size_append, List.size_toArray, size_zeroCells, hcond.1, hlo, hl, ← Nat.add_mul]
        congr 1
        omega
      · simp only [Array.toList_append, List.append_assoc]
        rw [← List.append_assoc, ← hlen]
        exact List.take_left

theorem op_makeFull {t e : TypeId} {x y : Operand} {z : Value} {sz bytes n : Nat} {k1 k2 : IntKind} {cs : List Value} (hS : Sep X w0 w L)
    (ho : o.op = .makeSlice t x y) (ht : P.underlying t = some (.slice e)) (he : elK P e = some (z, sz, bytes)) (hx : a.eval x = .int k1 (n : Int)) (hy : a.eval y = .int k2 (n : Int))
    (hc : (madeCells z.cells (n * sz)).toList = cs) (hcells : n * sz ≤ 16777216) (hb : bytes * n ≤ 281474976710656) (h63 : n ≤ maxLen) :
    OpY r P o a w (fun v' w' => Sep X w0 w' (row v' e sz n cs :: L)) := by
  unfold elK at he
  cases hi0 : P.info? e with
  | none => simp [hi0] at he
  | some ti =>
    simp only [hi0] at he
    cases hz : ti.zero with
    | none => simp [hz] at he
    | some z' =>
      simp only [hz] at he
      split at he
      case isFalse => cases he
      rename_i hcond
      simp only [Option.some.injEq, Prod.mk.injEq] at he
      obtain ⟨rfl, rfl, rfl⟩ := he
      subst hc
      obtain ⟨w', h1, h2, h3⟩ := run_makeSlice_full (P := P) w w.heap.size t e ti z' ti.size ht hi0 hz rfl k1 k2 n hcells hb h63 (Nat.le_refl _)
      refine opY_value (by rw [ho]; rfl) (v := .slice (some ⟨w.heap.size, 0, none⟩) n n) (w' := w') ?_ (hS.new_row ((Ext.of_grownBy h3).mono (fun b hb => by cases hb)) h2)
      simp only [execOp, ho, hx, hy, Sem.run_bind, h1, Result.andThen_ok, Sem.run_pure]
end
theorem SlAt.cut3 {w : World} {v : Value} {sz n h m : Nat} {cs : List Value} (hs : SlAt w v sz n cs) (h1 : h ≤ m) (h2 : m ≤ n) : SlAt w (slcut3 v 0 h m sz) sz h (cs.take (h * sz)) := by
  have hs0 := hs
  obtain ⟨hl, A, cap, rfl, hc, hm, hc2⟩ := hs
  have := hs0.cutAt (l := 0) (h := h) (m := m) (Nat.zero_le _) (by omega) h1 (by omega)
  rw [Nat.sub_zero, Nat.zero_mul, List.drop_zero] at this
  exact this
theorem slcut3_is {w : World} {v : Value} {sz n h : Nat} {cs : List Value} (hs : SlAt w v sz n cs) : ∃ A, slcut3 v 0 h h sz = .slice A h h := by
  obtain ⟨_, A, cap, rfl, _⟩ := hs
  exact ⟨_, rfl⟩
end Go.Eng

namespace Go.Eng
open Go.RowKit

section
variable {P : Program}
theorem run_equalIn_ints (w : World) (d : Nat) {t e n : Nat} (ht : P.underlying t = some (.array n e)) (he : P.underlying e = some (.int .i64)) (hsz : ∀ w, (sizeOf e).run P w = .ok 1 w)
    (xs ys : List Int) (hx : xs.length = n) (hy : ys.length = n) :
    (Op.equalIn (d + 2) t (.agg (ints xs).toArray) (.agg (ints ys).toArray)).run P w = .ok ((List.range n).all fun i => xs.getD i 0 == ys.getD i 0) w := by
  rw [List.range_eq_range', Op.equalIn]
  simp only [Sem.run_bind, run_underlying ht, Result.andThen_ok, hsz, Std.Legacy.Range.forIn_eq_forIn_range', Std.Legacy.Range.size, Nat.sub_zero, Nat.add_sub_cancel, Nat.div_one]
  have hl : ∀ i ∈ List.range' 0 n 1, i < n := fun i hi => by simpa using (List.mem_range'_1.1 hi).2
  generalize List.range' 0 n 1 = l at hl ⊢
  induction l with
  | nil => simp
  | cons i l ih =>
    have hi : i < n := hl i (by simp)
    have px : (part e (ints xs).toArray (i * 1)).run P w = .ok (.int .i64 (xs.getD i 0)) w := by
      simp [part, isAgg, run_underlying he, List.getD, ints, List.getElem?_eq_getElem (show i < xs.length by omega)]
    have py : (part e (ints ys).toArray (i * 1)).run P w = .ok (.int .i64 (ys.getD i 0)) w := by
      simp [part, isAgg, run_underlying he, List.getD, ints, List.getElem?_eq_getElem (show i < ys.length by omega)]
    have pe : (Op.equalIn (d + 1) e (.int .i64 (xs.getD i 0)) (.int .i64 (ys.getD i 0))).run P w = .ok (xs.getD i 0 == ys.getD i 0) w := by
      simp [Op.equalIn, run_underlying he]
    simp only [List.forIn_cons, Sem.run_bind, px, py, pe, Result.andThen_ok, List.all_cons]
    cases hb : (xs.getD i 0 == ys.getD i 0)
    · simp
    · simp only [Bool.not_true, Bool.false_eq_true, if_false, Sem.run_pure, Result.andThen_ok, Bool.true_and]
      exact ih fun j hj => hl j (by simp [hj])
theorem run_checkKey_ints (em : Bool) (w : World) (d : Nat) {t e n : Nat} (ht : P.underlying t = some (.array n e)) (he : P.underlying e = some (.int .i64)) (hsz : ∀ w, (sizeOf e).run P w = .ok 1 w)
    (xs : List Int) (hx : xs.length = n) : (Instr.checkKey em (d + 2) t (.agg (ints xs).toArray)).run P w = .ok () w := by
  rw [Instr.checkKey]
  simp only [Sem.run_bind, run_underlying ht, Result.andThen_ok, Std.Legacy.Range.forIn_eq_forIn_range', Std.Legacy.Range.size, Nat.sub_zero, Nat.add_sub_cancel, Nat.div_one]
  have hl : ∀ i ∈ List.range' 0 n 1, i < n := fun i hi => by simpa using (List.mem_range'_1.1 hi).2
  generalize List.range' 0 n 1 = l at hl ⊢
  induction l with
  | nil => simp
  | cons i l ih =>
    have hi : i < n := hl i (by simp)
    have px : (part e (ints xs).toArray (i * 1)).run P w = .ok (.int .i64 (xs.getD i 0)) w := by
      simp [part, isAgg, run_underlying he, List.getD, ints, List.getElem?_eq_getElem (show i < xs.length by omega)]
    have pc : (Instr.checkKey em (d + 1) e (.int .i64 (xs.getD i 0))).run P w = .ok () w := by
      simp [Instr.checkKey, run_underlying he]
    simp only [List.forIn_cons, Sem.run_bind, hsz, px, pc, Result.andThen_ok, Sem.run_pure]
    exact ih fun j hj => hl j (by simp [hj])
theorem sameBits_ints (d : Nat) (xs : List Int) : Instr.sameBits (d + 1) (.agg (ints xs).toArray) (.agg (ints xs).toArray) = true := by
  simp only [Instr.sameBits, beq_self_eq_true, Bool.true_and]
  rw [List.all_eq_true]
  intro p hp
  have : ∀ (l : List Int) (p : Value × Value), p ∈ (ints l).zip (ints l) → ∃ b, p = (.int .i64 b, .int .i64 b) := by
    intro l
    induction l with
    | nil => intro p hp; simp [ints] at hp
    | cons x l ih =>
      intro p hp
      simp only [ints, List.map_cons, List.zip_cons_cons, List.mem_cons] at hp
      rcases hp with rfl | hp
      · exact ⟨x, rfl⟩
      · exact ih p hp
  obtain ⟨b, rfl⟩ := this xs p (by simpa using hp)
  cases d <;> simp [Instr.sameBits]
theorem ints_inj {xs ys : List Int} (h : (Value.agg (ints xs).toArray) = .agg (ints ys).toArray) : xs = ys := by
  have h1 : (ints xs) = ints ys := by
    injection h with h; exact congrArg Array.toList h
  have : ∀ (xs ys : List Int), ints xs = ints ys → xs = ys := by
    intro xs
    induction xs with
    | nil => intro ys h; cases ys with | nil => rfl | cons y ys => simp [ints] at h
    | cons x xs ih =>
      intro ys h
      cases ys with
      | nil => simp [ints] at h
      | cons y ys =>
        simp only [ints, List.map_cons, List.cons.injEq, Value.int.injEq, true_and] at h
        rw [h.1, ih ys h.2]
  exact this xs ys h1
theorem keyOk_ints {K : Value → Value → Prop} {t e n : Nat} (ht : P.underlying t = some (.array n e)) (he : P.underlying e = some (.int .i64)) {g : Bool} (hsz : tyK P e = some (g, 1)) (hK : ∀ k' v, K k' v → ∃ ys : List Int, ys.length = n ∧ k' = .agg (ints ys).toArray)
    (xs : List Int) (hx : xs.length = n) : KeyOk P t (.agg (ints xs).toArray) K where
  check := fun em w => run_checkKey_ints em w 9998 ht he (run_sizeOf hsz) xs hx
  eq := fun k' v hk w => by
    obtain ⟨ys, hy, rfl⟩ := hK k' v hk
    refine ⟨_, run_equalIn_ints w 9998 ht he (run_sizeOf hsz) xs ys hx hy, ?_⟩
    constructor
    · intro h
      rw [List.all_eq_true] at h
      have : xs = ys := by
        apply List.ext_getElem (hx.trans hy.symm)
        intro i h1 h2
        have := h i (List.mem_range.2 (by omega))
        simpa [List.getD, h1, h2] using this
      rw [this]
    · intro h
      rw [ints_inj h]; simp
  bits := sameBits_ints 9999 xs
  deep := fun d _ k' => by cases d <;> cases k' <;> rfl
end
/-! ### Structs of three numbers -/
def trips (xs : List (Int × Int × Int)) : List Value := xs.flatMap fun p => [Value.int .i64 p.1, Value.int .i64 p.2.1, Value.int .i64 p.2.2]
theorem trips_cons (p : Int × Int × Int) (xs : List (Int × Int × Int)) : trips (p :: xs) = .int .i64 p.1 :: .int .i64 p.2.1 :: .int .i64 p.2.2 :: trips xs := rfl
theorem trips_append (xs ys : List (Int × Int × Int)) : trips (xs ++ ys) = trips xs ++ trips ys := by simp [trips]
theorem trips_one (xs : List (Int × Int × Int)) : (trips xs).all (·.oneCell') = true := by simp [trips, Value.oneCell']
theorem trips_length : ∀ (xs : List (Int × Int × Int)), (trips xs).length = xs.length * 3
  | [] => rfl
  | p :: xs => by rw [trips_cons]; simp only [List.length_cons]; have := trips_length xs; omega
theorem trips_all : ∀ {xs : List (Int × Int × Int)} {i : Nat}, i < xs.length → ((trips xs).drop (i * 3)).take 3 = [.int .i64 (xs.getD i (0, 0, 0)).1, .int .i64 (xs.getD i (0, 0, 0)).2.1, .int .i64 (xs.getD i (0, 0, 0)).2.2]
  | p :: xs, 0, _ => by simp [trips_cons]
  | p :: xs, i + 1, h => by
    have := trips_all (xs := xs) (i := i) (by simpa using h)
    rw [trips_cons, show (i + 1) * 3 = i * 3 + 3 by omega]
    simpa using this
theorem trips_at0 {xs : List (Int × Int × Int)} {i : Nat} (h : i < xs.length) : (trips xs)[i * 3]? = some (.int .i64 (xs.getD i (0, 0, 0)).1) := by
  have h2 := congrArg (·[0]?) (trips_all h)
  simpa [List.getElem?_take, List.getElem?_drop] using h2
theorem trips_at1 {xs : List (Int × Int × Int)} {i : Nat} (h : i < xs.length) : (trips xs)[i * 3 + 1]? = some (.int .i64 (xs.getD i (0, 0, 0)).2.1) := by
  have h2 := congrArg (·[1]?) (trips_all h)
  simpa [List.getElem?_take, List.getElem?_drop] using h2
theorem trips_at2 {xs : List (Int × Int × Int)} {i : Nat} (h : i < xs.length) : (trips xs)[i * 3 + 2]? = some (.int .i64 (xs.getD i (0, 0, 0)).2.2) := by
  have h2 := congrArg (·[2]?) (trips_all h)
  simpa [List.getElem?_take, List.getElem?_drop] using h2
/-! ### Structs of one cell and two numbers -/
def vtrips (xs : List (Value × Int × Int)) : List Value := xs.flatMap fun p => [p.1, Value.int .i64 p.2.1, Value.int .i64 p.2.2]
theorem vtrips_cons (p : Value × Int × Int) (xs : List (Value × Int × Int)) : vtrips (p :: xs) = p.1 :: .int .i64 p.2.1 :: .int .i64 p.2.2 :: vtrips xs := rfl
theorem vtrips_append (xs ys : List (Value × Int × Int)) : vtrips (xs ++ ys) = vtrips xs ++ vtrips ys := by simp [vtrips]
theorem vtrips_length : ∀ (xs : List (Value × Int × Int)), (vtrips xs).length = xs.length * 3
  | [] => rfl
  | p :: xs => by rw [vtrips_cons]; simp only [List.length_cons]; have := vtrips_length xs; omega
theorem vtrips_all : ∀ {xs : List (Value × Int × Int)} {i : Nat}, i < xs.length → ((vtrips xs).drop (i * 3)).take 3 = [(xs.getD i (nilS, 0, 0)).1, .int .i64 (xs.getD i (nilS, 0, 0)).2.1, .int .i64 (xs.getD i (nilS, 0, 0)).2.2]
  | p :: xs, 0, _ => by simp [vtrips_cons]
  | p :: xs, i + 1, h => by
    have := vtrips_all (xs := xs) (i := i) (by simpa using h)
    rw [vtrips_cons, show (i + 1) * 3 = i * 3 + 3 by omega]
    simpa using this
theorem vtrips_at0 {xs : List (Value × Int × Int)} {i : Nat} (h : i < xs.length) : (vtrips xs)[i * 3]? = some (xs.getD i (nilS, 0, 0)).1 := by
  have h2 := congrArg (·[0]?) (vtrips_all h)
  simpa [List.getElem?_take, List.getElem?_drop] using h2
theorem vtrips_at1 {xs : List (Value × Int × Int)} {i : Nat} (h : i < xs.length) : (vtrips xs)[i * 3 + 1]? = some (.int .i64 (xs.getD i (nilS, 0, 0)).2.1) := by
  have h2 := congrArg (·[1]?) (vtrips_all h)
  simpa [List.getElem?_take, List.getElem?_drop] using h2
theorem vtrips_at2 {xs : List (Value × Int × Int)} {i : Nat} (h : i < xs.length) : (vtrips xs)[i * 3 + 2]? = some (.int .i64 (xs.getD i (nilS, 0, 0)).2.2) := by
  have h2 := congrArg (·[2]?) (vtrips_all h)
  simpa [List.getElem?_take, List.getElem?_drop] using h2
theorem ints_set (xs : List Int) (i : Nat) (x : Int) : (ints xs).set i (.int .i64 x) = ints (xs.set i x) := by simp [ints, List.map_set]
end Go.Eng

namespace Go.Eng
open Go.RowKit

/-- Things of one's own, told as one. -/
def allR (A : List Res) : Res where
  S := fun b => ∃ r ∈ A, r.S b
  p := fun w => A.Pairwise apartR ∧ ∀ r ∈ A, r.p w
  own := true
  stable := fun w w' h k => ⟨h.1, fun r hr => r.stable w w' (h.2 r hr) (fun b hb => k b ⟨r, hr, hb⟩)⟩
  lt := fun w b h ⟨r, hr, hb⟩ => r.lt w b (h.2 r hr) hb

section
variable {X Y : Nat → Prop} {w0 w w' : World} {L A D : List Res} {G G' : Res}
theorem Sep.pack (h : Sep X w0 w (A ++ L)) (ho : ∀ r ∈ A, r.own = true) : Sep X w0 w (allR A :: L) := by
  have hp := List.pairwise_append.1 h.pw
  refine Sep.of_pw h.ext (fun r hr => ?_) (fun r hr hro b hb => ?_) (List.pairwise_cons.2 ⟨fun s hs => ?_, hp.2.1⟩)
  · rcases List.mem_cons.1 hr with rfl | hr
    · exact ⟨hp.1, fun r hr => h.mem (List.mem_append_left _ hr)⟩
    · exact h.mem (List.mem_append_right _ hr)
  · rcases List.mem_cons.1 hr with rfl | hr
    · obtain ⟨q, hq, hb⟩ := hb
      exact h.mineM (List.mem_append_left _ hq) (ho q hq) b hb
    · exact h.mineM (List.mem_append_right _ hr) hro b hb
  · refine ⟨fun _ b ⟨q, hq, hb⟩ => (hp.2.2 q hq s hs).1 (ho q hq) b hb, fun hso b hb ⟨q, hq, hb2⟩ => (hp.2.2 q hq s hs).2 hso b hb hb2⟩
theorem Sep.unpack (h : Sep X w0 w (allR A :: L)) : Sep X w0 w (A ++ L) := by
  have hp := List.pairwise_cons.1 h.pw
  have hA : (allR A).p w := h.ok 0 _ rfl
  refine Sep.of_pw h.ext (fun r hr => ?_) (fun r hr hro b hb => ?_) (List.pairwise_append.2 ⟨hA.1, hp.2, fun r hr s hs => ?_⟩)
  · rcases List.mem_append.1 hr with hr | hr
    · exact hA.2 r hr
    · exact h.mem (List.mem_cons_of_mem _ hr)
  · rcases List.mem_append.1 hr with hr | hr
    · exact h.mineM (List.mem_cons_self ..) rfl b ⟨r, hr, hb⟩
    · exact h.mineM (List.mem_cons_of_mem _ hr) hro b hb
  · have h1 := hp.1 s hs
    exact ⟨fun _ b hb => h1.1 rfl b ⟨r, hr, hb⟩, fun hso b hb hb2 => h1.2 hso b hb ⟨r, hr, hb2⟩⟩
theorem Sep.one (h : Sep X w0 w (G :: L)) : Sep X w0 w [G] :=
  Sep.of_pw h.ext (fun r hr => by rw [List.mem_singleton] at hr; subst hr; exact h.ok 0 _ rfl) (fun r hr => by rw [List.mem_singleton] at hr; subst hr; exact h.mine 0 _ rfl) (List.pairwise_singleton _ _)
theorem Sep.weaken (h : Sep X w w L) (hm : ∀ r ∈ L, r.own = true → ∀ b, r.S b → Y b) : Sep Y w w L :=
  Sep.of_pw (Ext.refl _ _) (fun _ hr => h.mem hr) (fun r hr ho b hb => .inl (hm r hr ho b hb)) h.pw
/-- As one begins: G and what is known besides. -/
theorem Sep.begin (h : Sep X w0 w (G :: D)) (hD : ∀ r ∈ D, r.own = false) : Sep G.S w w (G :: D) :=
  Sep.of_pw (Ext.refl _ _) (fun _ hr => h.mem hr) (fun r hr ho b hb => by
    rcases List.mem_cons.1 hr with rfl | hr
    · exact .inl hb
    · rw [hD r hr] at ho; cases ho) h.pw
/-- G's blocks have been worked on, and G' has come of it. -/
theorem Sep.work (h : Sep X w0 w (G :: L)) (hG : G.own = true) (k : Sep G.S w w' [G']) (hG' : G'.own = true) : Sep X w0 w' (G' :: L) := by
  have e : ∀ b, ownX [G] b ↔ G.S b := fun b => by
    constructor
    · rintro ⟨i, r, hi, _, hb⟩
      cases i with
      | zero => simp at hi; subst hi; exact hb
      | succ i => simp at hi
    · exact fun hb => ⟨0, G, rfl, hG, hb⟩
  have k' : Sep (ownX [G]) w w' [G'] := ⟨k.ext.mono (fun b hb => (e b).2 hb), k.ok, fun i r hi ho b hb => (k.mine i r hi ho b hb).imp (fun h => (e b).2 h) id, k.apart⟩
  exact Sep.callG (A := [G]) (B := L) h k' (fun i s hi => by
    cases i with
    | zero => simp at hi; subst hi; exact .inl hG'
    | succ i => simp at hi)
end
/-- Nothing at all. -/
def nilR : Res where
  S := fun _ => False
  p := fun _ => True
  own := true
  stable := fun _ _ _ _ => trivial
  lt := fun _ _ _ h => h.elim
theorem Sep.nilR {X : Nat → Prop} {w0 w : World} {L : List Res} (h : Sep X w0 w L) : Sep X w0 w (nilR :: L) := h.push (Ext.refl _ _) trivial (fun _ h => h.elim)

section
variable {X : Nat → Prop} {w0 w : World} {D : List Res} {a b c G : Res}
/-- Two things, and one's own of a call besides, packed. -/
theorem Sep.pk2 (h : Sep X w0 w (c :: a :: b :: G :: D)) (hc : c.own = true) (ha : a.own = true) (hb : b.own = true) (hG : G.own = true) : Sep X w0 w (allR [a, b, allR [c, G]] :: D) := by
  have h1 : Sep X w0 w ([c, G] ++ ([a, b] ++ D)) := h.perm (List.Perm.cons _ ((List.perm_middle (l₁ := [a, b]) (a := G) (l₂ := D)).symm))
  have h2 := h1.pack (fun r hr => by simp only [List.mem_cons, List.not_mem_nil, or_false] at hr; rcases hr with rfl | rfl; exact hc; exact hG)
  have h3 : Sep X w0 w ([a, b, allR [c, G]] ++ D) := h2.perm (List.perm_middle (l₁ := [a, b]) (a := allR [c, G]) (l₂ := D))
  exact h3.pack (fun r hr => by simp only [List.mem_cons, List.not_mem_nil, or_false] at hr; rcases hr with rfl | rfl | rfl; exact ha; exact hb; rfl)
theorem Sep.upk2 (h : Sep X w0 w (allR [a, b, allR [c, G]] :: D)) : Sep X w0 w (c :: a :: b :: G :: D) := by
  have h1 : Sep X w0 w ([a, b, allR [c, G]] ++ D) := h.unpack
  have h2 : Sep X w0 w (allR [c, G] :: ([a, b] ++ D)) := h1.perm (List.perm_middle (l₁ := [a, b]) (a := allR [c, G]) (l₂ := D)).symm
  have h3 : Sep X w0 w ([c, G] ++ ([a, b] ++ D)) := h2.unpack
  exact h3.perm (List.Perm.cons _ (List.perm_middle (l₁ := [a, b]) (a := G) (l₂ := D)))
theorem Sep.pk1 (h : Sep X w0 w (a :: b :: G :: D)) (ha : a.own = true) (hb : b.own = true) (hG : G.own = true) : Sep X w0 w (allR [a, b, G] :: D) :=
  Sep.pack (A := [a, b, G]) h (fun r hr => by simp only [List.mem_cons, List.not_mem_nil, or_false] at hr; rcases hr with rfl | rfl | rfl; exact ha; exact hb; exact hG)
theorem Sep.upk1 (h : Sep X w0 w (allR [a, b, G] :: D)) : Sep X w0 w (a :: b :: G :: D) := h.unpack
end

/-- The contract of an iterator: it is lent A, knows D, and hands over the elements 0 .. N - 1; a round may say 'no more'. -/
def IterG (P : Program) (gf : FuncId) (caps : Array Value) (A : Res) (D : List Res) (N : Nat) (enc : Nat → Array Value) : Prop :=
  ∀ (l : Nat) (J Jx : Nat → Res → World → Prop) (W : World), (∀ k G W G' W', J k G W → Sep G.S W W' [G'] → G'.own = true → J k G' W') → (∀ k G W G' W', Jx k G W → Sep G.S W W' [G'] → G'.own = true → Jx k G' W') →
    (∀ k G W, J k G W → G.own = true ∧ Sep G.S W W (G :: D)) → (∀ k G W, Jx k G W → G.own = true ∧ Sep G.S W W (G :: D)) → J 0 A W →
    (∀ k, k < N → ∀ G W1, J k G W1 → YT P l (enc k) W1 (fun v W' => (v = .bool true ∧ J (k + 1) G W') ∨ (v = .bool false ∧ Jx k G W'))) →
    Calls P gf (#[.func (.yield l) #[] #[]] ++ caps) W (Ret fun _ W' => J N A W' ∨ ∃ k, Jx k A W')

section
variable {P : Program} {Q : Exit → Act → World → Prop} {n : Nat} {ds : List Deferred} {m : List (Nat × Value)} {X : Nat → Prop} {w0 : World} {L : List Res}
/-- 'for .. := range g { .. }' in a function's own code. -/
theorem c_rangeG {g : Operand} {ps : Array Tmp} {assign body : Code} {a : Act} {w : World} {Ds : List Nat} {gf : FuncId} {caps : Array Value} (hA : Fr n (marks Ds) m a) (G0 : Res) (hG0 : G0.own = true) (hS : Sep X w0 w (marksR Ds :: G0 :: L))
    (hg : a.eval g = .func (.func gf) #[] caps) (hen : ∀ args w, (callFunc gf args).run P w = .ok (.enter gf args) w) (N : Nat) (enc : Nat → Array Value) (hps : ∀ k, (enc k).size = ps.size) (D : List Res) (hD : ∀ r ∈ D, r.own = false) (hit : IterG P gf caps G0 D N enc)
    (I : Nat → List Res → Prop) (Ix : List Res → Prop) (je : Option Code) (h0 : I 0 L)
    (hdata : ∀ k L', I k L' → ∀ G W r1 r2, Sep X w0 W (r1 :: r2 :: G :: L') → Sep X w0 W (G :: D))
    (hdatax : ∀ L', Ix L' → ∀ G W r1 r2, Sep X w0 W (r1 :: r2 :: G :: L') → Sep X w0 W (G :: D))
    (hround : ∀ k, k < N → ∀ L', I k L' → ∀ (G : Res), G.own = true → ∀ (l D : Nat) (rc : LoopState → Option Code → Loop) (a1 : Act) (W : World), a1 = { tmps := (ps.zip (enc k)).foldl (fun t (p, v) => t.setIfInBounds p v) a.tmps, defers := [] } → Sep X w0 W (obR l (.loop (rc .ready none)) :: marksR (D :: Ds) :: G :: L') →
      WC (some l) P assign (fun e a2 W2 => e = .normal ∧ ∃ L2, Sep X w0 W2 (obR l (.loop (rc .ready none)) :: marksR (D :: Ds) :: L2) ∧ ∀ W3, Sep X w0 W3 (obR l (.loop (rc .busy none)) :: marksR (D :: Ds) :: L2) → WC (some l) P body (RoundEnds X w0 l D Ds rc (fun L3 => ∃ L4, L3 = G :: L4 ∧ I (k + 1) L4) (fun L3 => ∃ L4, L3 = G :: L4 ∧ Ix L4) je) a2 W3) a1 W)
    (hdone : ∀ L', I N L' → ∀ (D : Nat) (a' : Act) (W : World), Fr n (marks (D :: Ds)) m a' → Sep X w0 W (marksR (D :: Ds) :: G0 :: L') → Q .normal a' W)
    (hstop : ∀ c, je = some c → ∀ L', Ix L' → ∀ (D : Nat) (a' : Act) (W : World), Fr n (marks (D :: Ds)) m a' → Sep X w0 W (marksR (D :: Ds) :: G0 :: L') → WC none P c Q a' W) :
    WC none P (.rangeFunc g ps assign body) Q a w := by
  refine wpIn_rangeFunc ?_
  intro fn _
  obtain ⟨rc, hrc⟩ : ∃ rc : LoopState → Option Code → Loop, rc = fun st pe => { state := st, pending := pe, fn, tmps := a.tmps, params := ps, assign, body, defers := w.heap.size } := ⟨_, rfl⟩
  obtain ⟨W1, hW1⟩ : ∃ W1, (w.alloc (.deferred (some []))).alloc (.loop (rc .ready none)) = W1 := ⟨_, rfl⟩
  have hSd : Sep X w0 (w.alloc (.deferred (some []))) (obR w.heap.size (.deferred (some [])) :: marksR Ds :: G0 :: L) :=
    hS.push (Ext.alloc NoB w _) (heap_alloc_new w _) (fun b hb => by cases hb; exact Nat.le_refl _)
  have hSm : Sep X w0 (w.alloc (.deferred (some []))) (marksR (w.heap.size :: Ds) :: G0 :: L) := by
    refine hSd.join ⟨?_, ?_⟩ (fun b hb => ?_) (fun _ => ⟨rfl, rfl⟩) (fun _ => trivial)
    · rw [List.nodup_cons]
      exact ⟨fun h => by have := hS.lt (i := 0) rfl (b := w.heap.size) h; omega, (hS.ok 0 _ rfl : (marksR Ds).p w).1⟩
    · intro D hD
      rcases List.mem_cons.1 hD with rfl | hD
      · exact hSd.ok 0 _ rfl
      · exact (hSd.ok 1 _ rfl : (marksR Ds).p _).2 D hD
    · rcases List.mem_cons.1 hb with rfl | hb
      · exact .inl rfl
      · exact .inr hb
  have hS1 : Sep X w0 W1 (obR (w.heap.size + 1) (.loop (rc .ready none)) :: marksR (w.heap.size :: Ds) :: G0 :: L) := by
    rw [← hW1]
    have := hSm.push (Ext.alloc NoB _ (.loop (rc .ready none))) (r := obR (w.heap.size + 1) (.loop (rc .ready none))) (by
      have := heap_alloc_new (w.alloc (.deferred (some []))) (.loop (rc .ready none))
      rw [World.size_alloc] at this; exact this) (fun b hb => by cases hb; simp)
    exact this
  refine ⟨w.heap.size + 1, [{ target := .collected w.heap.size, args := #[] }], W1, { target := .fn (.func gf) caps, args := #[.func (.yield (w.heap.size + 1)) #[] #[]] }, W1, gf,
    #[.func (.yield (w.heap.size + 1)) #[] #[]] ++ caps, W1, ?_, ?_, fun _ _ => trivial, ?_, fun h => by simp [FR] at h, ?_⟩
  · rw [← hW1, hrc]; exact run_enterLoop_outer _ _ _ _ _
  · simp only [resolve, hg]
    simp [Deferred.ofValue, Act.eval]
  · simp [invoke, hen]
  · refine callsIn_FR ?_
    have swap3 : ∀ {W : World} {r1 r2 G : Res} {L' : List Res}, Sep X w0 W (r1 :: r2 :: G :: L') → Sep X w0 W (G :: r1 :: r2 :: L') := fun h => h.perm ((List.Perm.swap _ _ _).trans ((List.Perm.swap _ _ _).cons _))
    have swap3' : ∀ {W : World} {r1 r2 G : Res} {L' : List Res}, Sep X w0 W (G :: r1 :: r2 :: L') → Sep X w0 W (r1 :: r2 :: G :: L') := fun h => h.perm (((List.Perm.swap _ _ _).cons _).trans (List.Perm.swap _ _ _))
    refine (hit (w.heap.size + 1) (fun k G W => G.own = true ∧ ∃ L', I k L' ∧ Sep X w0 W (obR (w.heap.size + 1) (.loop (rc .ready none)) :: marksR (w.heap.size :: Ds) :: G :: L'))
      (fun _ G W => G.own = true ∧ ∃ L' c, je = some c ∧ Ix L' ∧ Sep X w0 W (obR (w.heap.size + 1) (.loop (rc .done (some c))) :: marksR (w.heap.size :: Ds) :: G :: L')) W1
      (fun k G W G' W' ⟨ho, L', h1, h2⟩ k2 ho' => ⟨ho', L', h1, swap3' ((swap3 h2).work ho k2 ho')⟩) (fun k G W G' W' ⟨ho, L', c, h0, h1, h2⟩ k2 ho' => ⟨ho', L', c, h0, h1, swap3' ((swap3 h2).work ho k2 ho')⟩)
      (fun k G W ⟨ho, L', h1, h2⟩ => ⟨ho, (hdata k L' h1 G W _ _ h2).begin hD⟩) (fun k G W ⟨ho, L', c, h0, h1, h2⟩ => ⟨ho, (hdatax L' h1 G W _ _ h2).begin hD⟩) ⟨hG0, L, h0, hS1⟩ ?_).mono ?_
    · rintro k hk G W ⟨hoG, L', hI, hSW⟩
      have hl : W.heap[w.heap.size + 1]? = some (.loop (rc .ready none)) := hSW.ok 0 _ rfl
      have hy := run_yield (P := P) (args := enc k) hl (by rw [hrc]; exact hps k)
      rw [hrc] at hy
      refine ⟨fn, _, assign, body, hy, roundIn_of_wpIn trivial ?_⟩
      have hr := hround k hk L' hI G hoG (w.heap.size + 1) w.heap.size rc _ W rfl hSW
      refine wpIn_mono hr ?_
      rintro e a2 W2 ⟨rfl, L2, hS2, hbody⟩
      have hl2 : W2.heap[w.heap.size + 1]? = some (.loop (rc .ready none)) := hS2.ok 0 _ rfl
      refine ⟨_, run_beginRound hl2 (by rw [hrc]), ?_⟩
      have hS3 := hS2.put (i := 0) rfl (.loop { rc .ready none with state := .busy })
      have hbusy : ({ rc .ready none with state := .busy } : Loop) = rc .busy none := by rw [hrc]
      rw [hbusy] at hS3
      rw [hbusy]
      refine wpIn_mono (hbody _ hS3) ?_
      rintro e a3 W4 hp
      have fin : ∀ (jump : Option Code) (L3 : List Res), Sep X w0 W4 (obR (w.heap.size + 1) (.loop (rc .busy none)) :: marksR (w.heap.size :: Ds) :: L3) →
          ∃ w', (Instr.endRound (w.heap.size + 1) jump).run P W4 = .ok (.bool jump.isNone) w' ∧ Sep X w0 w' (obR (w.heap.size + 1) (.loop (rc (if jump.isNone then .ready else .done) jump)) :: marksR (w.heap.size :: Ds) :: L3) := by
        intro jump L3 hS4
        have hl4 : W4.heap[w.heap.size + 1]? = some (.loop (rc .busy none)) := hS4.ok 0 _ rfl
        refine ⟨_, run_endRound jump hl4, ?_⟩
        have := hS4.put (i := 0) rfl (.loop { rc .busy none with state := if jump.isNone then .ready else .done, pending := jump })
        have e2 : ({ rc .busy none with state := if jump.isNone then .ready else .done, pending := jump } : Loop) = rc (if jump.isNone then .ready else .done) jump := by rw [hrc]
        rw [e2] at this ⊢
        exact this
      cases e with
      | normal =>
        obtain ⟨L3, ⟨L4, rfl, hI3⟩, hS4⟩ := hp
        obtain ⟨w', h1, h2⟩ := fin none _ hS4
        exact ⟨_, w', h1, .inl ⟨rfl, hoG, L4, hI3, h2⟩⟩
      | ret =>
        obtain ⟨hje, L3, ⟨L4, rfl, hI3⟩, hS4⟩ := hp
        obtain ⟨w', h1, h2⟩ := fin (some .ret) _ hS4
        exact ⟨_, w', h1, .inr ⟨rfl, hoG, L4, _, hje, hI3, h2⟩⟩
      | exit id =>
        obtain ⟨hje, L3, ⟨L4, rfl, hI3⟩, hS4⟩ := hp
        obtain ⟨w', h1, h2⟩ := fin (some (.exit id)) _ hS4
        exact ⟨_, w', h1, .inr ⟨rfl, hoG, L4, _, hje, hI3, h2⟩⟩
      | goto t => exact hp.elim
      | panic c => exact hp.elim
      | outgrown => exact hp.elim
    · rintro e W' he
      cases e with
      | panicked c => exact he.elim
      | outgrown => exact he.elim
      | returned v =>
        have hfr : Fr n (marks (w.heap.size :: Ds)) m { a with defers := [{ target := .collected w.heap.size, args := #[] }] ++ a.defers } := ⟨hA.1, by simp [marks, hA.2.1], hA.2.2⟩
        rcases he with ⟨_, L', hI, hSW⟩ | ⟨_, _, L', c, hje, hI, hSW⟩
        · have hl : W'.heap[w.heap.size + 1]? = some (.loop (rc .ready none)) := hSW.ok 0 _ rfl
          refine ⟨_, _, run_endLoop hl (by rw [hrc]; simp), ?_⟩
          have e1 : (rc .ready none).pending = none := by rw [hrc]
          rw [e1]
          exact hdone L' hI _ _ _ hfr (hSW.put (i := 0) rfl _).tail
        · have hl : W'.heap[w.heap.size + 1]? = some (.loop (rc .done (some c))) := hSW.ok 0 _ rfl
          refine ⟨_, _, run_endLoop hl (by rw [hrc]; simp), ?_⟩
          have e1 : (rc .done (some c)).pending = some c := by rw [hrc]
          rw [e1]
          exact hstop c hje L' hI _ _ _ hfr (hSW.put (i := 0) rfl _).tail
end

end Go.Eng

namespace Go.Eng
open Go.RowKit

section
variable {Jo : Nat → Res → World → Prop} {W W' : World} {A A' D : List Res} {c : Nat}
theorem jU (hD : ∀ k G W, Jo k G W → G.own = true ∧ Sep G.S W W (G :: D)) (h : Jo c (allR A) W) : Sep (allR A).S W W (A ++ D) := (hD _ _ _ h).2.unpack
theorem jW (hJ : ∀ k G W G' W', Jo k G W → Sep G.S W W' [G'] → G'.own = true → Jo k G' W') (h : Jo c (allR A) W) (hS : Sep (allR A).S W W' (A' ++ D)) (ho : ∀ r ∈ A', r.own = true) : Jo c (allR A') W' := hJ _ _ _ _ _ h (hS.pack ho).one rfl
end

/-- How a round's body may be left. -/
def RoundEndsJ (Jo Jox : Nat → Res → World → Prop) (G : Res) (l D : Nat) (Ds : List Nat) (rc : LoopState → Option Code → Loop) (I Ix : Nat → List Res → Prop) (je : Option Code) : Exit → Act → World → Prop
  | .normal, _, W => ∃ c L, I c L ∧ Jo c (allR (obR l (.loop (rc .busy none)) :: marksR (D :: Ds) :: G :: L)) W
  | .ret, _, W => je = some .ret ∧ ∃ c L, Ix c L ∧ Jox c (allR (obR l (.loop (rc .busy none)) :: marksR (D :: Ds) :: G :: L)) W
  | .exit id, _, W => je = some (.exit id) ∧ ∃ c L, Ix c L ∧ Jox c (allR (obR l (.loop (rc .busy none)) :: marksR (D :: Ds) :: G :: L)) W
  | _, _, _ => False

section
variable {Jo Jox : Nat → Res → World → Prop} {G : Res} {l D : Nat} {Ds : List Nat} {rc : LoopState → Option Code → Loop} {I Ix : Nat → List Res → Prop} {je : Option Code} {a : Act} {W : World} {c : Nat} {L : List Res}
theorem rj_n (h : I c L) (hj : Jo c (allR (obR l (.loop (rc .busy none)) :: marksR (D :: Ds) :: G :: L)) W) : RoundEndsJ Jo Jox G l D Ds rc I Ix je .normal a W := ⟨c, L, h, hj⟩
theorem rj_ret (he : je = some .ret) (h : Ix c L) (hj : Jox c (allR (obR l (.loop (rc .busy none)) :: marksR (D :: Ds) :: G :: L)) W) : RoundEndsJ Jo Jox G l D Ds rc I Ix je .ret a W := ⟨he, c, L, h, hj⟩
theorem own_n : ∀ r ∈ ([] : List Res), r.own = true := fun _ h => by cases h
theorem own_c {r : Res} (h : r.own = true) (t : ∀ q ∈ L, q.own = true) : ∀ q ∈ r :: L, q.own = true := fun q hq => by
  rcases List.mem_cons.1 hq with rfl | hq
  · exact h
  · exact t q hq
end

section
variable {P : Program} {Q : Exit → Act → World → Prop} {n : Nat} {ds : List Deferred} {m : List (Nat × Value)}
theorem c_rangeJ {Jo Jox : Nat → Res → World → Prop} {Do : List Res} (hJ : ∀ k G W G' W', Jo k G W → Sep G.S W W' [G'] → G'.own = true → Jo k G' W') (hJx : ∀ k G W G' W', Jox k G W → Sep G.S W W' [G'] → G'.own = true → Jox k G' W')
    (hDo : ∀ k G W, Jo k G W → G.own = true ∧ Sep G.S W W (G :: Do)) (hDox : ∀ k G W, Jox k G W → G.own = true ∧ Sep G.S W W (G :: Do))
    {g : Operand} {ps : Array Tmp} {assign body : Code} {a : Act} {w : World} {Ds : List Nat} {gf : FuncId} {caps : Array Value} (hA : Fr n (marks Ds) m a) (G0 : Res) (hG0 : G0.own = true) (L : List Res) (c0 : Nat) (hj : Jo c0 (allR (marksR Ds :: G0 :: L)) w)
    (hg : a.eval g = .func (.func gf) #[] caps) (hen : ∀ args w, (callFunc gf args).run P w = .ok (.enter gf args) w) (N : Nat) (enc : Nat → Array Value) (hps : ∀ k, (enc k).size = ps.size) (D : List Res) (hD : ∀ r ∈ D, r.own = false) (hit : IterG P gf caps G0 D N enc)
    (I : Nat → Nat → List Res → Prop) (Ix : Nat → List Res → Prop) (hIo : ∀ k c L', I k c L' → ∀ r ∈ L', r.own = true) (hIxo : ∀ c L', Ix c L' → ∀ r ∈ L', r.own = true) (je : Option Code) (h0 : I 0 c0 L)
    (hdata : ∀ k c L', I k c L' → ∀ X W G r1 r2, Sep X W W (r1 :: r2 :: G :: (L' ++ Do)) → Sep X W W (G :: D))
    (hdatax : ∀ c L', Ix c L' → ∀ X W G r1 r2, Sep X W W (r1 :: r2 :: G :: (L' ++ Do)) → Sep X W W (G :: D))
    (hround : ∀ k, k < N → ∀ c L', I k c L' → ∀ (G : Res), G.own = true → ∀ (l D : Nat) (rc : LoopState → Option Code → Loop) (a1 : Act) (W : World), a1 = { tmps := (ps.zip (enc k)).foldl (fun t (p, v) => t.setIfInBounds p v) a.tmps, defers := [] } → Jo c (allR (obR l (.loop (rc .ready none)) :: marksR (D :: Ds) :: G :: L')) W →
      WC (some l) P assign (fun e a2 W2 => e = .normal ∧ ∃ L2, (∀ r ∈ L2, r.own = true) ∧ Jo c (allR (obR l (.loop (rc .ready none)) :: marksR (D :: Ds) :: L2)) W2 ∧ ∀ W3, Jo c (allR (obR l (.loop (rc .busy none)) :: marksR (D :: Ds) :: L2)) W3 → WC (some l) P body (RoundEndsJ Jo Jox G l D Ds rc (I (k + 1)) Ix je) a2 W3) a1 W)
    (hdone : ∀ c L', I N c L' → ∀ (D : Nat) (a' : Act) (W : World), Fr n (marks (D :: Ds)) m a' → Jo c (allR (marksR (D :: Ds) :: G0 :: L')) W → Q .normal a' W)
    (hstop : ∀ cd, je = some cd → ∀ c L', Ix c L' → ∀ (D : Nat) (a' : Act) (W : World), Fr n (marks (D :: Ds)) m a' → Jox c (allR (marksR (D :: Ds) :: G0 :: L')) W → WC none P cd Q a' W) :
    WC none P (.rangeFunc g ps assign body) Q a w := by
  refine wpIn_rangeFunc ?_
  intro fn _
  obtain ⟨rc, hrc⟩ : ∃ rc : LoopState → Option Code → Loop, rc = fun st pe => { state := st, pending := pe, fn, tmps := a.tmps, params := ps, assign, body, defers := w.heap.size } := ⟨_, rfl⟩
  obtain ⟨W1, hW1⟩ : ∃ W1, (w.alloc (.deferred (some []))).alloc (.loop (rc .ready none)) = W1 := ⟨_, rfl⟩
  have hS0 := jU hDo hj
  have hL0 := hIo _ _ _ h0
  have hSd : Sep (allR (marksR Ds :: G0 :: L)).S w (w.alloc (.deferred (some []))) (obR w.heap.size (.deferred (some [])) :: marksR Ds :: G0 :: (L ++ Do)) :=
    hS0.push (Ext.alloc NoB w _) (heap_alloc_new w _) (fun b hb => by cases hb; exact Nat.le_refl _)
  have hSm : Sep (allR (marksR Ds :: G0 :: L)).S w (w.alloc (.deferred (some []))) (marksR (w.heap.size :: Ds) :: G0 :: (L ++ Do)) := by
    refine hSd.join ⟨?_, ?_⟩ (fun b hb => ?_) (fun _ => ⟨rfl, rfl⟩) (fun _ => trivial)
    · rw [List.nodup_cons]
      exact ⟨fun h => by have := hS0.lt (i := 0) rfl (b := w.heap.size) h; omega, (hS0.ok 0 _ rfl : (marksR Ds).p w).1⟩
    · intro D hD
      rcases List.mem_cons.1 hD with rfl | hD
      · exact hSd.ok 0 _ rfl
      · exact (hSd.ok 1 _ rfl : (marksR Ds).p _).2 D hD
    · rcases List.mem_cons.1 hb with rfl | hb
      · exact .inl rfl
      · exact .inr hb
  have hS1 : Sep (allR (marksR Ds :: G0 :: L)).S w W1 (obR (w.heap.size + 1) (.loop (rc .ready none)) :: marksR (w.heap.size :: Ds) :: G0 :: (L ++ Do)) := by
    rw [← hW1]
    have := hSm.push (Ext.alloc NoB _ (.loop (rc .ready none))) (r := obR (w.heap.size + 1) (.loop (rc .ready none))) (by
      have := heap_alloc_new (w.alloc (.deferred (some []))) (.loop (rc .ready none))
      rw [World.size_alloc] at this; exact this) (fun b hb => by cases hb; simp)
    exact this
  have own3 : ∀ {o : Obj} {l : Nat} {D' : List Nat} {G : Res} {L' : List Res}, G.own = true → (∀ r ∈ L', r.own = true) → ∀ r ∈ (obR l o :: marksR D' :: G :: L'), r.own = true := by
    intro o l D' G L' hG hL r hr
    rcases List.mem_cons.1 hr with rfl | hr
    · rfl
    · rcases List.mem_cons.1 hr with rfl | hr
      · rfl
      · rcases List.mem_cons.1 hr with rfl | hr
        · exact hG
        · exact hL r hr
  have hj1 : Jo c0 (allR (obR (w.heap.size + 1) (.loop (rc .ready none)) :: marksR (w.heap.size :: Ds) :: G0 :: L)) W1 := jW hJ hj (A' := obR (w.heap.size + 1) (.loop (rc .ready none)) :: marksR (w.heap.size :: Ds) :: G0 :: L) hS1 (own3 hG0 hL0)
  refine ⟨w.heap.size + 1, [{ target := .collected w.heap.size, args := #[] }], W1, { target := .fn (.func gf) caps, args := #[.func (.yield (w.heap.size + 1)) #[] #[]] }, W1, gf,
    #[.func (.yield (w.heap.size + 1)) #[] #[]] ++ caps, W1, ?_, ?_, fun _ _ => trivial, ?_, fun h => by simp [FR] at h, ?_⟩
  · rw [← hW1, hrc]; exact run_enterLoop_outer _ _ _ _ _
  · simp only [resolve, hg]
    simp [Deferred.ofValue, Act.eval]
  · simp [invoke, hen]
  · refine callsIn_FR ?_
    have swap3 : ∀ {X : Nat → Prop} {w0 W : World} {r1 r2 G : Res} {L' : List Res}, Sep X w0 W (r1 :: r2 :: G :: L') → Sep X w0 W (G :: r1 :: r2 :: L') := fun h => h.perm ((List.Perm.swap _ _ _).trans ((List.Perm.swap _ _ _).cons _))
    have swap3' : ∀ {X : Nat → Prop} {w0 W : World} {r1 r2 G : Res} {L' : List Res}, Sep X w0 W (G :: r1 :: r2 :: L') → Sep X w0 W (r1 :: r2 :: G :: L') := fun h => h.perm (((List.Perm.swap _ _ _).cons _).trans (List.Perm.swap _ _ _))
    refine (hit (w.heap.size + 1) (fun k G W => G.own = true ∧ ∃ c L', I k c L' ∧ Jo c (allR (obR (w.heap.size + 1) (.loop (rc .ready none)) :: marksR (w.heap.size :: Ds) :: G :: L')) W)
      (fun _ G W => G.own = true ∧ ∃ c L' cd, je = some cd ∧ Ix c L' ∧ Jox c (allR (obR (w.heap.size + 1) (.loop (rc .done (some cd))) :: marksR (w.heap.size :: Ds) :: G :: L')) W) W1
      (fun k G W G' W' ⟨ho, c, L', h1, h2⟩ k2 ho' => ⟨ho', c, L', h1, jW hJ h2 (A' := _ :: _ :: G' :: L') (swap3' ((swap3 (jU hDo h2)).work ho k2 ho')) (own3 ho' (hIo _ _ _ h1))⟩)
      (fun k G W G' W' ⟨ho, c, L', cd, h0, h1, h2⟩ k2 ho' => ⟨ho', c, L', cd, h0, h1, jW hJx h2 (A' := _ :: _ :: G' :: L') (swap3' ((swap3 (jU hDox h2)).work ho k2 ho')) (own3 ho' (hIxo _ _ h1))⟩)
      (fun k G W ⟨ho, c, L', h1, h2⟩ => ⟨ho, (hdata k c L' h1 _ W G _ _ (jU hDo h2)).begin hD⟩) (fun k G W ⟨ho, c, L', cd, h0, h1, h2⟩ => ⟨ho, (hdatax c L' h1 _ W G _ _ (jU hDox h2)).begin hD⟩) ⟨hG0, c0, L, h0, hj1⟩ ?_).mono ?_
    · rintro k hk G W ⟨hoG, c, L', hI, hjW⟩
      have hl : W.heap[w.heap.size + 1]? = some (.loop (rc .ready none)) := (jU hDo hjW).ok 0 _ rfl
      have hy := run_yield (P := P) (args := enc k) hl (by rw [hrc]; exact hps k)
      rw [hrc] at hy
      refine ⟨fn, _, assign, body, hy, roundIn_of_wpIn trivial ?_⟩
      have hr := hround k hk c L' hI G hoG (w.heap.size + 1) w.heap.size rc _ W rfl hjW
      refine wpIn_mono hr ?_
      rintro e a2 W2 ⟨rfl, L2, hL2, hj2, hbody⟩
      have hS2 := jU hDo hj2
      have hl2 : W2.heap[w.heap.size + 1]? = some (.loop (rc .ready none)) := hS2.ok 0 _ rfl
      refine ⟨_, run_beginRound hl2 (by rw [hrc]), ?_⟩
      have hS3 := hS2.put (i := 0) rfl (.loop { rc .ready none with state := .busy })
      have hbusy : ({ rc .ready none with state := .busy } : Loop) = rc .busy none := by rw [hrc]
      rw [hbusy] at hS3
      rw [hbusy]
      have own2 : ∀ r ∈ (obR (w.heap.size + 1) (.loop (rc .busy none)) :: marksR (w.heap.size :: Ds) :: L2), r.own = true := by
        intro r hr
        rcases List.mem_cons.1 hr with rfl | hr
        · rfl
        · rcases List.mem_cons.1 hr with rfl | hr
          · rfl
          · exact hL2 r hr
      refine wpIn_mono (hbody _ (jW hJ hj2 (A' := obR (w.heap.size + 1) (.loop (rc .busy none)) :: marksR (w.heap.size :: Ds) :: L2) hS3 own2)) ?_
      rintro e a3 W4 hp
      have put : ∀ (jump : Option Code) {X : Nat → Prop} {w0 : World} {L3 : List Res}, Sep X w0 W4 (obR (w.heap.size + 1) (.loop (rc .busy none)) :: L3) →
          ∃ w', (Instr.endRound (w.heap.size + 1) jump).run P W4 = .ok (.bool jump.isNone) w' ∧ Sep X w0 w' (obR (w.heap.size + 1) (.loop (rc (if jump.isNone then .ready else .done) jump)) :: L3) := by
        intro jump X w0 L3 hS4
        have hl4 : W4.heap[w.heap.size + 1]? = some (.loop (rc .busy none)) := hS4.ok 0 _ rfl
        refine ⟨_, run_endRound jump hl4, ?_⟩
        have := hS4.put (i := 0) rfl (.loop { rc .busy none with state := if jump.isNone then .ready else .done, pending := jump })
        have e2 : ({ rc .busy none with state := if jump.isNone then .ready else .done, pending := jump } : Loop) = rc (if jump.isNone then .ready else .done) jump := by rw [hrc]
        rw [e2] at this ⊢
        exact this
      cases e with
      | normal =>
        obtain ⟨c', L4, hI3, hj4⟩ := hp
        obtain ⟨w', h1, h2⟩ := put none (jU hDo hj4)
        exact ⟨_, w', h1, .inl ⟨rfl, hoG, c', L4, hI3, jW hJ hj4 (A' := _ :: _ :: G :: L4) h2 (own3 hoG (hIo _ _ _ hI3))⟩⟩
      | ret =>
        obtain ⟨hje, c', L4, hI3, hj4⟩ := hp
        obtain ⟨w', h1, h2⟩ := put (some .ret) (jU hDox hj4)
        exact ⟨_, w', h1, .inr ⟨rfl, hoG, c', L4, _, hje, hI3, jW hJx hj4 (A' := _ :: _ :: G :: L4) h2 (own3 hoG (hIxo _ _ hI3))⟩⟩
      | exit id =>
        obtain ⟨hje, c', L4, hI3, hj4⟩ := hp
        obtain ⟨w', h1, h2⟩ := put (some (.exit id)) (jU hDox hj4)
        exact ⟨_, w', h1, .inr ⟨rfl, hoG, c', L4, _, hje, hI3, jW hJx hj4 (A' := _ :: _ :: G :: L4) h2 (own3 hoG (hIxo _ _ hI3))⟩⟩
      | goto t => exact hp.elim
      | panic c => exact hp.elim
      | outgrown => exact hp.elim
    · rintro e W' he
      cases e with
      | panicked c => exact he.elim
      | outgrown => exact he.elim
      | returned v =>
        have hfr : Fr n (marks (w.heap.size :: Ds)) m { a with defers := [{ target := .collected w.heap.size, args := #[] }] ++ a.defers } := ⟨hA.1, by simp [marks, hA.2.1], hA.2.2⟩
        have ownM : ∀ {D' : List Nat} {L' : List Res}, (∀ r ∈ L', r.own = true) → ∀ r ∈ (marksR D' :: G0 :: L'), r.own = true := by
          intro D' L' hL r hr
          rcases List.mem_cons.1 hr with rfl | hr
          · rfl
          · rcases List.mem_cons.1 hr with rfl | hr
            · exact hG0
            · exact hL r hr
        rcases he with ⟨_, c, L', hI, hjW⟩ | ⟨_, _, c, L', cd, hje, hI, hjW⟩
        · have hSW := jU hDo hjW
          have hl : W'.heap[w.heap.size + 1]? = some (.loop (rc .ready none)) := hSW.ok 0 _ rfl
          refine ⟨_, _, run_endLoop hl (by rw [hrc]; simp), ?_⟩
          have e1 : (rc .ready none).pending = none := by rw [hrc]
          rw [e1]
          exact hdone c L' hI _ _ _ hfr (jW hJ hjW (A' := marksR (w.heap.size :: Ds) :: G0 :: L') (hSW.put (i := 0) rfl _).tail (ownM (hIo _ _ _ hI)))
        · have hSW := jU hDox hjW
          have hl : W'.heap[w.heap.size + 1]? = some (.loop (rc .done (some cd))) := hSW.ok 0 _ rfl
          refine ⟨_, _, run_endLoop hl (by rw [hrc]; simp), ?_⟩
          have e1 : (rc .done (some cd)).pending = some cd := by rw [hrc]
          rw [e1]
          exact hstop cd hje c L' hI _ _ _ hfr (jW hJx hjW (A' := marksR (w.heap.size :: Ds) :: G0 :: L') (hSW.put (i := 0) rfl _).tail (ownM (hIxo _ _ hI)))
end
end Go.Eng

namespace Go.Eng
open Go.RowKit
section
variable {r : Option Nat} {P : Program} {o : Oper} {a : Act} {w : World}
theorem op_fieldV {t f : Nat} {x : Operand} {u v : Value} (ho : o.op = .field t x f) (hx : a.eval x = u) (hr : ∀ w, (Instr.field t u f).run P w = .ok v w) : OpY r P o a w (fun v' w' => v' = v ∧ w' = w) :=
  opY_value (v := v) (by rw [ho]; rfl) (by simp only [execOp, ho, hx, Sem.run_bind, hr, Result.andThen_ok, Sem.run_pure]) ⟨rfl, rfl⟩
end
end Go.Eng
