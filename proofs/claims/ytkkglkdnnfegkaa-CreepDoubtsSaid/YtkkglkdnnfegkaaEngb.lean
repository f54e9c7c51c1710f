/-
  The engine, part BB: drawn regions in which one operation takes a new thing of another and gives one of its own for it (an append onto what an append has given).
  The engine, part AA: slices of slices.
  The engine, part CC: an append onto a slice that is full and not the function's own; slices that are made.
  The engine, part MM: a range over an iterator inside another iterator. The outer one's rounds keep Jo, which tells of the world; so the loop's things are told as what Jo says of.
  The engine, part NN: a field of a struct that is no variable.
  The engine, part Y: appends onto an empty slice that was just built (its capacity is 0): always new memory, or nothing is done.
  The engine, part PP: the front of an array in memory, as a slice.
  The engine, part V: small words: shifts, bits, conversions.
  The engine: shifts of plain numbers.
-/
import Derived.Test.YtkkglkdnnfegkaaEnga
import Derived.Laws.Slices
import Derived.Laws.OwnMore
set_option linter.unusedSimpArgs false
set_option linter.unusedVariables false
namespace Go.Eng
open Go.RowKit
section
variable {r : Option Nat} {P : Program} {Q : Exit → Act → World → Prop} {n : Nat} {ds : List Deferred} {m : List (Nat × Value)} {X : Nat → Prop} {w0 : World} {L : List Res}
theorem slot_put {l : List Oper} {h : Nat} {a : Act} (hdst : ∀ x, x < h → ∀ x_1, x_1 < h → (decide (x_1 = x) || match (l.toArray[x_1]?).bind (·.dst), (l.toArray[x]?).bind (·.dst) with | some d, some e => decide (d ≠ e) | _, _ => true) = true)
    {j : Nat} {o : Oper} {v : Value} (hoj : (l.toArray)[j]? = some o) (hj : j < h) : ∀ i, i < h → i ≠ j → ∀ u, SlotIs l.toArray a i u → SlotIs l.toArray (a.put o.dst v) i u := by
  intro i hi hij u hs
  unfold SlotIs at hs ⊢
  have hdd := hdst i hi j hj
  cases hdi : ((l.toArray)[i]?).bind (·.dst) with
  | none => trivial
  | some di =>
    rw [hdi] at hs
    cases hdj' : o.dst with
    | none => exact hs
    | some dj =>
      have hjd : ((l.toArray)[j]?).bind (·.dst) = some dj := by rw [hoj]; exact hdj'
      rw [hdi, hjd] at hdd
      simp only [Bool.or_eq_true, decide_eq_true_eq] at hdd
      have hne : dj ≠ di := fun e' => (hdd.resolve_left (fun e2 => hij e2.symm)) e'
      simp only [Act.put]
      rw [Array.getElem?_setIfInBounds_ne hne]; exact hs
theorem slot_new {l : List Oper} {h : Nat} {a : Act} (hA : Fr n ds m a) (hn : (List.range h).all (fun j => match (l.toArray[j]?).bind (·.dst) with | some d => decide (d < n) | none => true) = true)
    {j : Nat} {o : Oper} {v : Value} (hoj : (l.toArray)[j]? = some o) (hj : j < h) : SlotIs l.toArray (a.put o.dst v) j v := by
  unfold SlotIs
  rw [hoj]
  cases hd : o.dst with
  | none => simp [hd]
  | some d =>
    simp only [Option.bind_some, hd]
    have hdn := List.all_eq_true.1 hn j (List.mem_range.2 hj)
    rw [hoj] at hdn
    simp only [Option.bind_some, hd, decide_eq_true_eq] at hdn
    simp only [Act.put]
    rw [Array.getElem?_setIfInBounds_self_of_lt (by rw [hA.1]; exact hdn)]
theorem fr_put {l : List Oper} {h : Nat} {a : Act} (hA : Fr n ds m a) (hfree : freeOf l.toArray h (m.map (·.1)) = true) (hn : (List.range h).all (fun j => match (l.toArray[j]?).bind (·.dst) with | some d => decide (d < n) | none => true) = true)
    {j : Nat} {o : Oper} {v : Value} (hoj : (l.toArray)[j]? = some o) (hj : j < h) : Fr n ds m (a.put o.dst v) := by
  cases hd : o.dst with
  | none => exact hA.put_none v
  | some d =>
    have hf := List.all_eq_true.1 hfree j (List.mem_range.2 hj)
    have hjd : ((l.toArray)[j]?).bind (·.dst) = some d := by rw [hoj]; exact hd
    rw [hjd] at hf
    have hdn := List.all_eq_true.1 hn j (List.mem_range.2 hj)
    rw [hjd] at hdn
    refine (hA.put (by simpa using hdn) v).mono (fun i u hi => ?_)
    have : i ≠ d := by
      rintro rfl
      have := lookup_mem m hi
      simp [this] at hf
    have hb : (i == d) = false := by simpa using this
    simp only [List.lookup, hb]; exact hi
def CInv (l : List Oper) (h n : Nat) (ds : List Deferred) (m : List (Nat × Value)) (X : Nat → Prop) (w0 : World) (L : List Res) (Y : List YV) (j0 i0 : Nat) (done : Nat → Bool) (a : Act) (w' : World) : Prop :=
  Fr n ds m a ∧ ∃ vs rsf, (∀ i, i < h → done i = true → (i ≠ i0 ∨ done j0 = false) → SlotIs l.toArray a i (vs i) ∧ yat Y i vs (vs i) (rsf i)) ∧ (∀ i, done i = false → rsf i = []) ∧ (done j0 = true → rsf i0 = []) ∧ Sep X w0 w' (catR rsf 0 h ++ L)
theorem c_drawC {id : Nat} {l : List Oper} {a : Act} {w : World} (hm : P.follows .mixedOrders = true) (hA : Fr n ds m a) (hS : Sep X w0 w L) (h j0 i0 : Nat) (hij : i0 ≠ j0) (hjh : j0 < h) (hih : i0 < h) {oj : Oper} (hoj : l[j0]? = some oj) (dl : List (List Nat)) (Y : List YV)
    (hok : drawOk l.toArray h (fun _ => []) = true) (hok2 : depsOk l.toArray h dl = true) (hfree : freeOf l.toArray h (m.map (·.1)) = true) (hn : (List.range h).all (fun j => match (l.toArray[j]?).bind (·.dst) with | some d => decide (d < n) | none => true) = true)
    (hdep : AllDep dl Y) (hdl : (List.range h).all (fun j => decide (j = j0) || !(dl.getD j []).contains i0) = true) (hd0 : (dl.getD j0 []).contains i0 = true)
    (hop : AllOps (fun j o => j ≠ j0 → ∀ a w' vs, Fr n ds m a → Sep X w0 w' L → (∀ i ∈ dl.getD j [], SlotIs l.toArray a i (vs i) ∧ ∃ rs, yat Y i vs (vs i) rs ∧ ∀ s ∈ rs, s.p w') → OpG r P l.toArray o a w' (fun v w'' => Ext NoB w' w'' ∧ ∃ rs, yat Y j vs v rs ∧ Sep NoB w' w'' rs ∧ rs.all (·.own) = true)) 0 h l)
    (hopC : ∀ a w' vs rs0 Lr, Fr n ds m a → SlotIs l.toArray a i0 (vs i0) → yat Y i0 vs (vs i0) rs0 → (∀ i ∈ dl.getD j0 [], i ≠ i0 → SlotIs l.toArray a i (vs i) ∧ ∃ rs, yat Y i vs (vs i) rs ∧ ∀ s ∈ rs, s.p w') → Sep X w0 w' (rs0 ++ Lr) → OpG r P l.toArray oj a w' (fun v w'' => ∃ rs, yat Y j0 vs v rs ∧ Sep X w0 w'' (rs ++ Lr)))
    (htail : ∀ a w' vs rsf, Fr n ds m a → (∀ i, i < h → i ≠ i0 → SlotIs l.toArray a i (vs i) ∧ yat Y i vs (vs i) (rsf i)) → rsf i0 = [] → Sep X w0 w' (catR rsf 0 h ++ L) → WL r P l.toArray Q (l.drop h) a w') :
    WC r P (.region id l.toArray true) Q a w := by
  have hok' := hok
  simp only [drawOk, Bool.and_eq_true, List.all_eq_true, List.mem_range, decide_eq_true_eq] at hok'
  obtain ⟨⟨⟨⟨hback, _⟩, htl⟩, hdst⟩, hh⟩ := hok'
  simp only [depsOk, List.all_eq_true, List.mem_range, Bool.and_eq_true, decide_eq_true_eq] at hok2
  simp only [List.all_eq_true, List.mem_range, Bool.or_eq_true, decide_eq_true_eq, Bool.not_eq_true'] at hdl
  have hi0j : i0 ∈ dl.getD j0 [] := by simpa using hd0
  refine c_drawJ hm h (fun _ => []) hok (CInv l h n ds m X w0 L Y j0 i0) (fun w' he _ => ⟨hA, fun _ => undef, fun _ => [], (fun i _ hi => by cases hi), fun _ _ => rfl, fun _ => rfl, ?_⟩) (fun j o ho hj done a w' hj0 hcl hjb hI => ?_) (fun done a w' hall hI => ?_)
  · have : ∀ (h k : Nat), catR (fun _ => []) k h = [] := by
      intro h
      induction h with
      | zero => intro k; rfl
      | succ h ih => intro k; show [] ++ catR _ (k + 1) h = []; rw [ih]; rfl
    rw [this]; exact hS.step he
  · obtain ⟨hA, vs, rsf, hdone, hnot, hcon, hSep⟩ := hI
    have hoj' : (l.toArray)[j]? = some o := by simpa using ho
    have hdj : ∀ i ∈ dl.getD j [], i < h ∧ done i = true := fun i hi => by
      have h1 := hok2 j hj i hi
      exact ⟨by omega, before_done hcl 12 _ hjb i (by simpa using h1.2)⟩
    have hjd0 : done j0 = true → done i0 = true := fun h0 => by
      have h1 := hok2 j0 hjh i0 hi0j
      exact before_done hcl 12 _ (hcl j0 h0) i0 (by simpa using h1.2)
    by_cases hjj : j = j0
    · subst hjj
      have heo : o = oj := by rw [hoj] at ho; exact (Option.some.inj ho).symm
      subst heo
      have hdi0 : done i0 = true := (hdj i0 hi0j).2
      obtain ⟨s1, s2⟩ := hdone i0 hih hdi0 (.inr hj0)
      have hup : upd (upd rsf i0 []) i0 (rsf i0) = rsf := by
        funext k; unfold upd; by_cases e : k = i0
        · subst e; rw [if_pos rfl]
        · rw [if_neg e, if_neg e]
      have hp1 : (catR rsf 0 h).Perm (rsf i0 ++ catR (upd rsf i0 []) 0 h) := by
        have := catR_upd (upd rsf i0 []) i0 (rsf i0) (upd_same _ _ _) h 0 (Nat.zero_le _) (by omega)
        rw [hup] at this; exact this
      have hS2 : Sep X w0 w' (rsf i0 ++ (catR (upd rsf i0 []) 0 h ++ L)) := hSep.perm (by
        rw [← List.append_assoc]; exact (hp1.append_right L).symm)
      refine opG_mono (hopC a w' vs (rsf i0) _ hA s1 s2 (fun i hi hne => ?_) hS2) (fun v w'' hv => ?_)
      · obtain ⟨h1, h2⟩ := hdj i hi
        obtain ⟨h3, h4⟩ := hdone i h1 h2 (.inl hne)
        exact ⟨h3, rsf i, h4, fun s hs => hSep.mem (List.mem_append_left _ (catR_mem rsf h 0 i (Nat.zero_le _) (by omega) s hs))⟩
      · obtain ⟨rs, hy, hS3⟩ := hv
        refine ⟨fr_put hA hfree hn hoj' hj, upd vs j v, upd (upd rsf i0 []) j rs, fun i hi hdi hne => ?_, fun i hdi => ?_, fun _ => ?_, ?_⟩
        · have hne' : i ≠ i0 := hne.resolve_right (by simp)
          by_cases e : i = j
          · subst e
            rw [upd_same, upd_same]
            refine ⟨slot_new hA hn hoj' hj, yat_dep hdep (fun k hk => ?_) hy⟩
            have := (hdj k hk).2
            rw [upd_ne _ _ (by rintro rfl; rw [hj0] at this; cases this)]
          · have hdi' : done i = true := by
              simp only [Bool.or_eq_true, beq_iff_eq] at hdi
              exact hdi.resolve_right e
            obtain ⟨h3, h4⟩ := hdone i hi hdi' (.inl hne')
            rw [upd_ne _ _ e, upd_ne _ _ e, upd_ne _ _ hne']
            refine ⟨slot_put hdst hoj' hj i hi e _ h3, yat_dep hdep (fun k hk => ?_) h4⟩
            have hk1 := hok2 i hi k hk
            have := before_done hcl 12 _ (hcl i hdi') k (by simpa using hk1.2)
            rw [upd_ne _ _ (by rintro rfl; rw [hj0] at this; cases this)]
        · simp only [Bool.or_eq_false_iff, beq_eq_false_iff_ne, ne_eq] at hdi
          rw [upd_ne _ _ hdi.2]
          by_cases e : i = i0
          · subst e; exact upd_same _ _ _
          · rw [upd_ne _ _ e]; exact hnot i hdi.1
        · rw [upd_ne _ _ hij, upd_same]
        · refine hS3.perm ?_
          rw [← List.append_assoc]
          exact (catR_upd (upd rsf i0 []) j rs (by rw [upd_ne _ _ (fun e => hij e.symm)]; exact hnot j hj0) h 0 (Nat.zero_le _) (by omega)).append_right L
    · have hob := allOps_at h 0 l hop j o ho hj
      rw [Nat.zero_add] at hob
      have hni : ∀ i ∈ dl.getD j [], i ≠ i0 := fun i hi e => by
        subst e
        have := (hdl j hj).resolve_left hjj
        have h2 : (dl.getD j []).contains i = true := by simpa using hi
        rw [h2] at this; cases this
      refine opG_mono (hob hjj a w' vs hA hSep.right (fun i hi => ?_)) (fun v w'' hv => ?_)
      · obtain ⟨h1, h2⟩ := hdj i hi
        obtain ⟨h3, h4⟩ := hdone i h1 h2 (.inl (hni i hi))
        exact ⟨h3, rsf i, h4, fun s hs => hSep.mem (List.mem_append_left _ (catR_mem rsf h 0 i (Nat.zero_le _) (by omega) s hs))⟩
      · obtain ⟨hext, rs, hy, hnew, hown⟩ := hv
        have hj0' : ((fun i => done i || (i == j)) j0 = true) ↔ done j0 = true := by
          simp only [Bool.or_eq_true, beq_iff_eq]
          exact ⟨fun h => h.resolve_right (fun e => hjj e.symm), fun h => .inl h⟩
        refine ⟨fr_put hA hfree hn hoj' hj, upd vs j v, upd rsf j rs, fun i hi hdi hne => ?_, fun i hdi => ?_, fun hd => ?_, ?_⟩
        · by_cases e : i = j
          · subst e
            rw [upd_same, upd_same]
            refine ⟨slot_new hA hn hoj' hj, yat_dep hdep (fun k hk => ?_) hy⟩
            have := (hdj k hk).2
            rw [upd_ne _ _ (by rintro rfl; rw [hj0] at this; cases this)]
          · have hdi' : done i = true := by
              simp only [Bool.or_eq_true, beq_iff_eq] at hdi
              exact hdi.resolve_right e
            obtain ⟨h3, h4⟩ := hdone i hi hdi' (hne.imp (fun h => h) (fun h => by
              cases hc : done j0 with
              | false => rfl
              | true => rw [hj0'.2 hc] at h; cases h))
            rw [upd_ne _ _ e, upd_ne _ _ e]
            refine ⟨slot_put hdst hoj' hj i hi e _ h3, yat_dep hdep (fun k hk => ?_) h4⟩
            have hk1 := hok2 i hi k hk
            have := before_done hcl 12 _ (hcl i hdi') k (by simpa using hk1.2)
            rw [upd_ne _ _ (by rintro rfl; rw [hj0] at this; cases this)]
        · simp only [Bool.or_eq_false_iff, beq_eq_false_iff_ne, ne_eq] at hdi
          rw [upd_ne _ _ hdi.2]; exact hnot i hdi.1
        · have h1 := hj0'.1 hd
          have h2 := hjd0 h1
          rw [upd_ne _ _ (by rintro rfl; rw [hj0] at h2; cases h2)]
          exact hcon h1
        · have h1 := hSep.callS hnew hown
          refine h1.perm ?_
          rw [← List.append_assoc]
          exact (catR_upd rsf j rs (hnot j hj0) h 0 (Nat.zero_le _) (by omega)).append_right L
  · obtain ⟨hA, vs, rsf, hdone, _, hcon, hSep⟩ := hI
    exact htail a w' vs rsf hA (fun i hi hne => hdone i hi (hall i hi) (.inl hne)) (hcon (hall j0 hjh)) hSep
end
theorem SlAt.tell {w : World} {v : Value} {sz n n' : Nat} {cs cs' : List Value} (h : SlAt w v sz n cs) (hn : n = n') (hc : cs = cs') : SlAt w v sz n' cs' := by subst hn; subst hc; exact h
section
variable {X : Nat → Prop} {w0 w : World} {L : List Res}
theorem lst_one {lv : List Value} {ls : List (List Int)} (h : (lstR lv ls).p w) : lv.all (·.oneCell') = true := by
  rw [List.all_eq_true]
  intro v hv
  obtain ⟨i, hi, rfl⟩ := List.getElem_of_mem hv
  have := (h.2 i (by rw [← h.1]; exact hi)).one
  simpa [List.getD, hi] using this
theorem Sep.lst_app {lv lv2 : List Value} {ls ls2 : List (List Int)} (h : Sep X w0 w (lstR lv ls :: lstR lv2 ls2 :: L)) : Sep X w0 w (lstR (lv ++ lv2) (ls ++ ls2) :: L) := by
  have h1 : (lstR lv ls).p w := h.ok 0 _ rfl
  have h2 : (lstR lv2 ls2).p w := h.ok 1 _ rfl
  have each : ∀ i, i < (ls ++ ls2).length → ((lv ++ lv2).getD i nilS = lv.getD i nilS ∧ (ls ++ ls2).getD i [] = ls.getD i [] ∧ i < ls.length) ∨ (∃ j, j < ls2.length ∧ (lv ++ lv2).getD i nilS = lv2.getD j nilS ∧ (ls ++ ls2).getD i [] = ls2.getD j []) := fun i hi => by
    rw [List.length_append] at hi
    by_cases e : i < ls.length
    · left
      refine ⟨?_, ?_, e⟩
      · simp only [List.getD]; rw [List.getElem?_append_left (by rw [h1.1]; exact e)]
      · simp only [List.getD]; rw [List.getElem?_append_left e]
    · right
      refine ⟨i - ls.length, by omega, ?_, ?_⟩
      · simp only [List.getD]; rw [List.getElem?_append_right (by rw [h1.1]; omega), h1.1]
      · simp only [List.getD]; rw [List.getElem?_append_right (by omega)]
  refine h.join ⟨by simp [h1.1, h2.1], fun i hi => ?_⟩ (fun b ⟨i, hi, hb⟩ => ?_) (fun _ => ⟨rfl, rfl⟩) (fun _ => trivial)
  · rcases each i hi with ⟨e1, e2, e3⟩ | ⟨j, e3, e1, e2⟩
    · rw [e1, e2]; exact h1.2 i e3
    · rw [e1, e2]; exact h2.2 j e3
  · rcases each i hi with ⟨e1, e2, e3⟩ | ⟨j, e3, e1, e2⟩
    · rw [e1, e2] at hb; exact .inl ⟨i, e3, hb⟩
    · rw [e1, e2] at hb; exact .inr ⟨j, e3, hb⟩
theorem Sep.lst_sel {lv : List Value} {ls : List (List Int)} (h : Sep X w0 w (lstR lv ls :: L)) (sel : List Nat) (hs : ∀ i ∈ sel, i < ls.length) : Sep X w0 w (lstR (sel.map fun i => lv.getD i nilS) (sel.map fun i => ls.getD i []) :: L) := by
  have h1 : (lstR lv ls).p w := h.ok 0 _ rfl
  have each : ∀ i, i < sel.length → (sel.map fun i => lv.getD i nilS).getD i nilS = lv.getD (sel.getD i 0) nilS ∧ (sel.map fun i => ls.getD i []).getD i [] = ls.getD (sel.getD i 0) [] ∧ sel.getD i 0 < ls.length := fun i hi => by
    have e : sel.getD i 0 = sel[i] := by simp [List.getD, hi]
    refine ⟨by simp [List.getD, hi], by simp [List.getD, hi], by rw [e]; exact hs _ (List.getElem_mem hi)⟩
  refine h.say (i := 0) rfl ⟨by simp, fun i hi => ?_⟩ (fun b ⟨i, hi, hb⟩ => ?_) (fun _ => rfl)
  · rw [List.length_map] at hi
    obtain ⟨e1, e2, e3⟩ := each i hi
    rw [e1, e2]; exact h1.2 _ e3
  · rw [List.length_map] at hi
    obtain ⟨e1, e2, e3⟩ := each i hi
    rw [e1, e2] at hb
    exact ⟨_, e3, hb⟩
end
end Go.Eng

namespace Go.Eng
open Go.RowKit
theorem SlAt.say {w : World} {v : Value} {sz n n' : Nat} {cs cs' : List Value} (h : SlAt w v sz n cs) (hn : n = n') (hc : cs = cs') : SlAt w v sz n' cs' := by subst hn; subst hc; exact h
section
variable {r : Option Nat} {P : Program} {o : Oper} {a : Act} {w : World}
end
end Go.Eng

namespace Go.Eng
open Go.RowKit
section
variable {r : Option Nat} {P : Program} {o : Oper} {a : Act} {w w0 : World} {X : Nat → Prop} {L : List Res}
theorem op_makeFull {t e : TypeId} {x y : Operand} {z : Value} {sz bytes n : Nat} {k1 k2 : IntKind} {cs : List Value} (hS : Sep X w0 w L)
    (ho : o.op = .makeSlice t x y) (ht : P.underlying t = some (.slice e)) (he : elK P e = some (z, sz, bytes)) (hx : a.eval x = .int k1 (n : Int)) (hy : a.eval y = .int k2 (n : Int))
    (hc : (madeCells z.cells (n * sz)).toList = cs) (hcells : n * sz ≤ 16777216) (hb : bytes * n ≤ 281474976710656) (h63 : n ≤ maxLen) :
    OpY r P o a w (fun v' w' => Sep X w0 w' (row v' e sz n cs :: L)) := by
  unfold elK at he
  cases hi0 : P.info? e with
  | none => simp [hi0] at he
  | some ti =>
    simp only [hi0] at he
    cases hz : ti.zero with
    | none => simp [hz] at he
    | some z' =>
      simp only [hz] at he
      split at he
      case isFalse => cases he
      rename_i hcond
      simp only [Option.some.injEq, Prod.mk.injEq] at he
      obtain ⟨rfl, rfl, rfl⟩ := he
      subst hc
      obtain ⟨w', h1, h2, h3⟩ := run_makeSlice_full (P := P) w w.heap.size t e ti z' ti.size ht hi0 hz rfl k1 k2 n hcells hb h63 (Nat.le_refl _)
      refine opY_value (by rw [ho]; rfl) (v := .slice (some ⟨w.heap.size, 0, none⟩) n n) (w' := w') ?_ (hS.new_row ((Ext.of_grownBy h3).mono (fun b hb => by cases hb)) h2)
      simp only [execOp, ho, hx, hy, Sem.run_bind, h1, Result.andThen_ok, Sem.run_pure]
end
end Go.Eng

namespace Go.Eng
open Go.RowKit
section
variable {Jo : Nat → Res → World → Prop} {W W' : World} {A A' D : List Res} {c : Nat}
theorem jU (hD : ∀ k G W, Jo k G W → G.own = true ∧ Sep G.S W W (G :: D)) (h : Jo c (allR A) W) : Sep (allR A).S W W (A ++ D) := (hD _ _ _ h).2.unpack
theorem jW (hJ : ∀ k G W G' W', Jo k G W → Sep G.S W W' [G'] → G'.own = true → Jo k G' W') (h : Jo c (allR A) W) (hS : Sep (allR A).S W W' (A' ++ D)) (ho : ∀ r ∈ A', r.own = true) : Jo c (allR A') W' := hJ _ _ _ _ _ h (hS.pack ho).one rfl
end
def RoundEndsJ (Jo Jox : Nat → Res → World → Prop) (G : Res) (l D : Nat) (Ds : List Nat) (rc : LoopState → Option Code → Loop) (I Ix : Nat → List Res → Prop) (je : Option Code) : Exit → Act → World → Prop
  | .normal, _, W => ∃ c L, I c L ∧ Jo c (allR (obR l (.loop (rc .busy none)) :: marksR (D :: Ds) :: G :: L)) W
  | .ret, _, W => je = some .ret ∧ ∃ c L, Ix c L ∧ Jox c (allR (obR l (.loop (rc .busy none)) :: marksR (D :: Ds) :: G :: L)) W
  | .exit id, _, W => je = some (.exit id) ∧ ∃ c L, Ix c L ∧ Jox c (allR (obR l (.loop (rc .busy none)) :: marksR (D :: Ds) :: G :: L)) W
  | _, _, _ => False
section
variable {Jo Jox : Nat → Res → World → Prop} {G : Res} {l D : Nat} {Ds : List Nat} {rc : LoopState → Option Code → Loop} {I Ix : Nat → List Res → Prop} {je : Option Code} {a : Act} {W : World} {c : Nat} {L : List Res}
theorem rj_n (h : I c L) (hj : Jo c (allR (obR l (.loop (rc .busy none)) :: marksR (D :: Ds) :: G :: L)) W) : RoundEndsJ Jo Jox G l D Ds rc I Ix je .normal a W := ⟨c, L, h, hj⟩
theorem rj_ret (he : je = some .ret) (h : Ix c L) (hj : Jox c (allR (obR l (.loop (rc .busy none)) :: marksR (D :: Ds) :: G :: L)) W) : RoundEndsJ Jo Jox G l D Ds rc I Ix je .ret a W := ⟨he, c, L, h, hj⟩
theorem own_n : ∀ r ∈ ([] : List Res), r.own = true := fun _ h => by cases h
theorem own_c {r : Res} (h : r.own = true) (t : ∀ q ∈ L, q.own = true) : ∀ q ∈ r :: L, q.own = true := fun q hq => by
  rcases List.mem_cons.1 hq with rfl | hq
  · exact h
  · exact t q hq
end
section
variable {P : Program} {Q : Exit → Act → World → Prop} {n : Nat} {ds : List Deferred} {m : List (Nat × Value)}
theorem c_rangeJ {Jo Jox : Nat → Res → World → Prop} {Do : List Res} (hJ : ∀ k G W G' W', Jo k G W → Sep G.S W W' [G'] → G'.own = true → Jo k G' W') (hJx : ∀ k G W G' W', Jox k G W → Sep G.S W W' [G'] → G'.own = true → Jox k G' W')
    (hDo : ∀ k G W, Jo k G W → G.own = true ∧ Sep G.S W W (G :: Do)) (hDox : ∀ k G W, Jox k G W → G.own = true ∧ Sep G.S W W (G :: Do))
    {g : Operand} {ps : Array Tmp} {assign body : Code} {a : Act} {w : World} {Ds : List Nat} {gf : FuncId} {caps : Array Value} (hA : Fr n (marks Ds) m a) (G0 : Res) (hG0 : G0.own = true) (L : List Res) (c0 : Nat) (hj : Jo c0 (allR (marksR Ds :: G0 :: L)) w)
    (hg : a.eval g = .func (.func gf) #[] caps) (hen : ∀ args w, (callFunc gf args).run P w = .ok (.enter gf args) w) (N : Nat) (enc : Nat → Array Value) (hps : ∀ k, (enc k).size = ps.size) (D : List Res) (hD : ∀ r ∈ D, r.own = false) (hit : IterG P gf caps G0 D N enc)
    (I : Nat → Nat → List Res → Prop) (Ix : Nat → List Res → Prop) (hIo : ∀ k c L', I k c L' → ∀ r ∈ L', r.own = true) (hIxo : ∀ c L', Ix c L' → ∀ r ∈ L', r.own = true) (je : Option Code) (h0 : I 0 c0 L)
    (hdata : ∀ k c L', I k c L' → ∀ X W G r1 r2, Sep X W W (r1 :: r2 :: G :: (L' ++ Do)) → Sep X W W (G :: D))
    (hdatax : ∀ c L', Ix c L' → ∀ X W G r1 r2, Sep X W W (r1 :: r2 :: G :: (L' ++ Do)) → Sep X W W (G :: D))
    (hround : ∀ k, k < N → ∀ c L', I k c L' → ∀ (G : Res), G.own = true → ∀ (l D : Nat) (rc : LoopState → Option Code → Loop) (a1 : Act) (W : World), a1 = { tmps := (ps.zip (enc k)).foldl (fun t (p, v) => t.setIfInBounds p v) a.tmps, defers := [] } → Jo c (allR (obR l (.loop (rc .ready none)) :: marksR (D :: Ds) :: G :: L')) W →
      WC (some l) P assign (fun e a2 W2 => e = .normal ∧ ∃ L2, (∀ r ∈ L2, r.own = true) ∧ Jo c (allR (obR l (.loop (rc .ready none)) :: marksR (D :: Ds) :: L2)) W2 ∧ ∀ W3, Jo c (allR (obR l (.loop (rc .busy none)) :: marksR (D :: Ds) :: L2)) W3 → WC (some l) P body (RoundEndsJ Jo Jox G l D Ds rc (I (k + 1)) Ix je) a2 W3) a1 W)
    (hdone : ∀ c L', I N c L' → ∀ (D : Nat) (a' : Act) (W : World), Fr n (marks (D :: Ds)) m a' → Jo c (allR (marksR (D :: Ds) :: G0 :: L')) W → Q .normal a' W)
    (hstop : ∀ cd, je = some cd → ∀ c L', Ix c L' → ∀ (D : Nat) (a' : Act) (W : World), Fr n (marks (D :: Ds)) m a' → Jox c (allR (marksR (D :: Ds) :: G0 :: L')) W → WC none P cd Q a' W) :
    WC none P (.rangeFunc g ps assign body) Q a w := by
  refine wpIn_rangeFunc ?_
  intro fn _
  obtain ⟨rc, hrc⟩ : ∃ rc : LoopState → Option Code → Loop, rc = fun st pe => { state := st, pending := pe, fn, tmps := a.tmps, params := ps, assign, body, defers := w.heap.size } := ⟨_, rfl⟩
  obtain ⟨W1, hW1⟩ : ∃ W1, (w.alloc (.deferred (some []))).alloc (.loop (rc .ready none)) = W1 := ⟨_, rfl⟩
  have hS0 := jU hDo hj
  have hL0 := hIo _ _ _ h0
  have hSd : Sep (allR (marksR Ds :: G0 :: L)).S w (w.alloc (.deferred (some []))) (obR w.heap.size (.deferred (some [])) :: marksR Ds :: G0 :: (L ++ Do)) :=
    hS0.push (Ext.alloc NoB w _) (heap_alloc_new w _) (fun b hb => by cases hb; exact Nat.le_refl _)
  have hSm : Sep (allR (marksR Ds :: G0 :: L)).S w (w.alloc (.deferred (some []))) (marksR (w.heap.size :: Ds) :: G0 :: (L ++ Do)) := by
    refine hSd.join ⟨?_, ?_⟩ (fun b hb => ?_) (fun _ => ⟨rfl, rfl⟩) (fun _ => trivial)
    · rw [List.nodup_cons]
      exact ⟨fun h => by have := hS0.lt (i := 0) rfl (b := w.heap.size) h; omega, (hS0.ok 0 _ rfl : (marksR Ds).p w).1⟩
    · intro D hD
      rcases List.mem_cons.1 hD with rfl | hD
      · exact hSd.ok 0 _ rfl
      · exact (hSd.ok 1 _ rfl : (marksR Ds).p _).2 D hD
    · rcases List.mem_cons.1 hb with rfl | hb
      · exact .inl rfl
      · exact .inr hb
  have hS1 : Sep (allR (marksR Ds :: G0 :: L)).S w W1 (obR (w.heap.size + 1) (.loop (rc .ready none)) :: marksR (w.heap.size :: Ds) :: G0 :: (L ++ Do)) := by
    rw [← hW1]
    have := hSm.push (Ext.alloc NoB _ (.loop (rc .ready none))) (r := obR (w.heap.size + 1) (.loop (rc .ready none))) (by
      have := heap_alloc_new (w.alloc (.deferred (some []))) (.loop (rc .ready none))
      rw [World.size_alloc] at this; exact this) (fun b hb => by cases hb; simp)
    exact this
  have own3 : ∀ {o : Obj} {l : Nat} {D' : List Nat} {G : Res} {L' : List Res}, G.own = true → (∀ r ∈ L', r.own = true) → ∀ r ∈ (obR l o :: marksR D' :: G :: L'), r.own = true := by
    intro o l D' G L' hG hL r hr
    rcases List.mem_cons.1 hr with rfl | hr
    · rfl
    · rcases List.mem_cons.1 hr with rfl | hr
      · rfl
      · rcases List.mem_cons.1 hr with rfl | hr
        · exact hG
        · exact hL r hr
  have hj1 : Jo c0 (allR (obR (w.heap.size + 1) (.loop (rc .ready none)) :: marksR (w.heap.size :: Ds) :: G0 :: L)) W1 := jW hJ hj (A' := obR (w.heap.size + 1) (.loop (rc .ready none)) :: marksR (w.heap.size :: Ds) :: G0 :: L) hS1 (own3 hG0 hL0)
  refine ⟨w.heap.size + 1, [{ target := .collected w.heap.size, args := #[] }], W1, { target := .fn (.func gf) caps, args := #[.func (.yield (w.heap.size + 1)) #[] #[]] }, W1, gf,
    #[.func (.yield (w.heap.size + 1)) #[] #[]] ++ caps, W1, ?_, ?_, fun _ _ => trivial, ?_, fun h => by simp [FR] at h, ?_⟩
  · rw [← hW1, hrc]; exact run_enterLoop_outer _ _ _ _ _
  · simp only [resolve, hg]
    simp [Deferred.ofValue, Act.eval]
  · simp [invoke, hen]
  · refine callsIn_FR ?_
    have swap3 : ∀ {X : Nat → Prop} {w0 W : World} {r1 r2 G : Res} {L' : List Res}, Sep X w0 W (r1 :: r2 :: G :: L') → Sep X w0 W (G :: r1 :: r2 :: L') := fun h => h.perm ((List.Perm.swap _ _ _).trans ((List.Perm.swap _ _ _).cons _))
    have swap3' : ∀ {X : Nat → Prop} {w0 W : World} {r1 r2 G : Res} {L' : List Res}, Sep X w0 W (G :: r1 :: r2 :: L') → Sep X w0 W (r1 :: r2 :: G :: L') := fun h => h.perm (((List.Perm.swap _ _ _).cons _).trans (List.Perm.swap _ _ _))
    refine (hit (w.heap.size + 1) (fun k G W => G.own = true ∧ ∃ c L', I k c L' ∧ Jo c (allR (obR (w.heap.size + 1) (.loop (rc .ready none)) :: marksR (w.heap.size :: Ds) :: G :: L')) W)
      (fun _ G W => G.own = true ∧ ∃ c L' cd, je = some cd ∧ Ix c L' ∧ Jox c (allR (obR (w.heap.size + 1) (.loop (rc .done (some cd))) :: marksR (w.heap.size :: Ds) :: G :: L')) W) W1
      (fun k G W G' W' ⟨ho, c, L', h1, h2⟩ k2 ho' => ⟨ho', c, L', h1, jW hJ h2 (A' := _ :: _ :: G' :: L') (swap3' ((swap3 (jU hDo h2)).work ho k2 ho')) (own3 ho' (hIo _ _ _ h1))⟩)
      (fun k G W G' W' ⟨ho, c, L', cd, h0, h1, h2⟩ k2 ho' => ⟨ho', c, L', cd, h0, h1, jW hJx h2 (A' := _ :: _ :: G' :: L') (swap3' ((swap3 (jU hDox h2)).work ho k2 ho')) (own3 ho' (hIxo _ _ h1))⟩)
      (fun k G W ⟨ho, c, L', h1, h2⟩ => ⟨ho, (hdata k c L' h1 _ W G _ _ (jU hDo h2)).begin hD⟩) (fun k G W ⟨ho, c, L', cd, h0, h1, h2⟩ => ⟨ho, (hdatax c L' h1 _ W G _ _ (jU hDox h2)).begin hD⟩) ⟨hG0, c0, L, h0, hj1⟩ ?_).mono ?_
    · rintro k hk G W ⟨hoG, c, L', hI, hjW⟩
      have hl : W.heap[w.heap.size + 1]? = some (.loop (rc .ready none)) := (jU hDo hjW).ok 0 _ rfl
      have hy := run_yield (P := P) (args := enc k) hl (by rw [hrc]; exact hps k)
      rw [hrc] at hy
      refine ⟨fn, _, assign, body, hy, roundIn_of_wpIn trivial ?_⟩
      have hr := hround k hk c L' hI G hoG (w.heap.size + 1) w.heap.size rc _ W rfl hjW
      refine wpIn_mono hr ?_
      rintro e a2 W2 ⟨rfl, L2, hL2, hj2, hbody⟩
      have hS2 := jU hDo hj2
      have hl2 : W2.heap[w.heap.size + 1]? = some (.loop (rc .ready none)) := hS2.ok 0 _ rfl
      refine ⟨_, run_beginRound hl2 (by rw [hrc]), ?_⟩
      have hS3 := hS2.put (i := 0) rfl (.loop { rc .ready none with state := .busy })
      have hbusy : ({ rc .ready none with state := .busy } : Loop) = rc .busy none := by rw [hrc]
      rw [hbusy] at hS3
      rw [hbusy]
      have own2 : ∀ r ∈ (obR (w.heap.size + 1) (.loop (rc .busy none)) :: marksR (w.heap.size :: Ds) :: L2), r.own = true := by
        intro r hr
        rcases List.mem_cons.1 hr with rfl | hr
        · rfl
        · rcases List.mem_cons.1 hr with rfl | hr
          · rfl
          · exact hL2 r hr
      refine wpIn_mono (hbody _ (jW hJ hj2 (A' := obR (w.heap.size + 1) (.loop (rc .busy none)) :: marksR (w.heap.size :: Ds) :: L2) hS3 own2)) ?_
      rintro e a3 W4 hp
      have put : ∀ (jump : Option Code) {X : Nat → Prop} {w0 : World} {L3 : List Res}, Sep X w0 W4 (obR (w.heap.size + 1) (.loop (rc .busy none)) :: L3) →
          ∃ w', (Instr.endRound (w.heap.size + 1) jump).run P W4 = .ok (.bool jump.isNone) w' ∧ Sep X w0 w' (obR (w.heap.size + 1) (.loop (rc (if jump.isNone then .ready else .done) jump)) :: L3) := by
        intro jump X w0 L3 hS4
        have hl4 : W4.heap[w.heap.size + 1]? = some (.loop (rc .busy none)) := hS4.ok 0 _ rfl
        refine ⟨_, run_endRound jump hl4, ?_⟩
        have := hS4.put (i := 0) rfl (.loop { rc .busy none with state := if jump.isNone then .ready else .done, pending := jump })
        have e2 : ({ rc .busy none with state := if jump.isNone then .ready else .done, pending := jump } : Loop) = rc (if jump.isNone then .ready else .done) jump := by rw [hrc]
        rw [e2] at this ⊢
        exact this
      cases e with
      | normal =>
        obtain ⟨c', L4, hI3, hj4⟩ := hp
        obtain ⟨w', h1, h2⟩ := put none (jU hDo hj4)
        exact ⟨_, w', h1, .inl ⟨rfl, hoG, c', L4, hI3, jW hJ hj4 (A' := _ :: _ :: G :: L4) h2 (own3 hoG (hIo _ _ _ hI3))⟩⟩
      | ret =>
        obtain ⟨hje, c', L4, hI3, hj4⟩ := hp
        obtain ⟨w', h1, h2⟩ := put (some .ret) (jU hDox hj4)
        exact ⟨_, w', h1, .inr ⟨rfl, hoG, c', L4, _, hje, hI3, jW hJx hj4 (A' := _ :: _ :: G :: L4) h2 (own3 hoG (hIxo _ _ hI3))⟩⟩
      | exit id =>
        obtain ⟨hje, c', L4, hI3, hj4⟩ := hp
        obtain ⟨w', h1, h2⟩ := put (some (.exit id)) (jU hDox hj4)
        exact ⟨_, w', h1, .inr ⟨rfl, hoG, c', L4, _, hje, hI3, jW hJx hj4 (A' := _ :: _ :: G :: L4) h2 (own3 hoG (hIxo _ _ hI3))⟩⟩
      | goto t => exact hp.elim
      | panic c => exact hp.elim
      | outgrown => exact hp.elim
    · rintro e W' he
      cases e with
      | panicked c => exact he.elim
      | outgrown => exact he.elim
      | returned v =>
        have hfr : Fr n (marks (w.heap.size :: Ds)) m { a with defers := [{ target := .collected w.heap.size, args := #[] }] ++ a.defers } := ⟨hA.1, by simp [marks, hA.2.1], hA.2.2⟩
        have ownM : ∀ {D' : List Nat} {L' : List Res}, (∀ r ∈ L', r.own = true) → ∀ r ∈ (marksR D' :: G0 :: L'), r.own = true := by
          intro D' L' hL r hr
          rcases List.mem_cons.1 hr with rfl | hr
          · rfl
          · rcases List.mem_cons.1 hr with rfl | hr
            · exact hG0
            · exact hL r hr
        rcases he with ⟨_, c, L', hI, hjW⟩ | ⟨_, _, c, L', cd, hje, hI, hjW⟩
        · have hSW := jU hDo hjW
          have hl : W'.heap[w.heap.size + 1]? = some (.loop (rc .ready none)) := hSW.ok 0 _ rfl
          refine ⟨_, _, run_endLoop hl (by rw [hrc]; simp), ?_⟩
          have e1 : (rc .ready none).pending = none := by rw [hrc]
          rw [e1]
          exact hdone c L' hI _ _ _ hfr (jW hJ hjW (A' := marksR (w.heap.size :: Ds) :: G0 :: L') (hSW.put (i := 0) rfl _).tail (ownM (hIo _ _ _ hI)))
        · have hSW := jU hDox hjW
          have hl : W'.heap[w.heap.size + 1]? = some (.loop (rc .done (some cd))) := hSW.ok 0 _ rfl
          refine ⟨_, _, run_endLoop hl (by rw [hrc]; simp), ?_⟩
          have e1 : (rc .done (some cd)).pending = some cd := by rw [hrc]
          rw [e1]
          exact hstop cd hje c L' hI _ _ _ hfr (jW hJx hjW (A' := marksR (w.heap.size :: Ds) :: G0 :: L') (hSW.put (i := 0) rfl _).tail (ownM (hIxo _ _ hI)))
end
end Go.Eng

namespace Go.Eng
open Go.RowKit
section
variable {r : Option Nat} {P : Program} {o : Oper} {a : Act} {w : World}
theorem op_fieldV {t f : Nat} {x : Operand} {u v : Value} (ho : o.op = .field t x f) (hx : a.eval x = u) (hr : ∀ w, (Instr.field t u f).run P w = .ok v w) : OpY r P o a w (fun v' w' => v' = v ∧ w' = w) :=
  opY_value (v := v) (by rw [ho]; rfl) (by simp only [execOp, ho, hx, Sem.run_bind, hr, Result.andThen_ok, Sem.run_pure]) ⟨rfl, rfl⟩
end
end Go.Eng

namespace Go.Eng
section
variable {r : Option Nat} {P : Program} {o : Oper} {a : Act} {w w0 : World} {X : Nat → Prop} {L : List Res} {y : List Res → Value → Prop}
theorem op_append0 {t e : TypeId} {s x : Operand} {z : Value} {sz bytes : Nat} {b : Addr} {vx : Value} {m : Nat} {news : List Value}
    (ho : o.op = .call { callee := .builtin .append, args := #[s, x], argTypes := #[t, t] }) (ht : P.underlying t = some (.slice e)) (he : elK P e = some (z, sz, bytes))
    (hs : a.eval s = .slice (some b) 0 0) (hx : a.eval x = vx) (hsrc : SlAt w vx sz m news) (h1 : news.all (·.oneCell') = true)
    (h63 : m ≤ maxLen) (hbytes : m * bytes ≤ 140737488355328) (hm : 0 < m) :
    OpY r P o a w (fun v' w' => Ext NoB w w' ∧ w'.ownsRow w.heap.size e sz v' m news) := by
  unfold elK at he
  cases hi0 : P.info? e with
  | none => simp [hi0] at he
  | some ti =>
    simp only [hi0] at he
    cases hz : ti.zero with
    | none => simp [hz] at he
    | some z' =>
      simp only [hz] at he
      split at he
      case isFalse => cases he
      rename_i hcond
      simp only [Option.some.injEq, Prod.mk.injEq] at he
      obtain ⟨rfl, rfl, rfl⟩ := he
      obtain ⟨hl, A, cap', rfl, hc1, hc2, h3⟩ := hsrc
      have hne : news ≠ [] := by
        rintro rfl
        have := Nat.mul_pos hm hcond.2; simp at hl; omega
      obtain ⟨ad, rfl, hcells⟩ := h3 hne
      have hnil : w.ownsRow w.heap.size e ti.size (.slice none 0 0) 0 [] := ⟨by simp, .inl ⟨rfl, rfl⟩⟩
      obtain ⟨v', w', hrun, h2, h4, _, h5⟩ := run_append_own_at (P := P) w w.heap.size t o.type e ti z' ti.size ti.bytes ht hi0 hz rfl rfl hcond.1 hcond.2 (.slice none 0 0) 0 [] hnil ad m cap' news hl hcells (fun u hu => List.all_eq_true.1 h1 u hu) (by omega) (by rw [Nat.zero_add]; exact hbytes) (Nat.le_refl _)
      refine opY_value (v := v') (w' := w') (by rw [ho]; rfl) ?_ ⟨(Ext.of_grownBy h4).mono (fun b hb => by cases hb), by rw [Nat.zero_add, List.nil_append] at h2; exact h2⟩
      have hgo : ∀ R W, (Builtin.append_ #[t, t] o.type #[.slice (some b) 0 0, .slice (some ad) m cap']).run P w = .ok R W → (execOp a.eval o).run P w = .ok (.value R) W := fun R W hr => by
        simp only [execOp, ho, resolve, invoke, builtin, Sem.run_bind, Sem.run_pure, Result.andThen_ok, List.map_toArray, List.map_cons, List.map_nil, hs, hx, hr]
      refine hgo _ _ ?_
      have r1 := run_append_grow (P := P) w t o.type e ti z' ht hi0 hz b 0 0 [] (by simp) (by simp) ad m cap' news hl hcells (by omega) (by simp only [maxLen] at h63; omega) (growslice_fits (by omega) (by rw [Nat.zero_add]; exact hbytes))
      have r2 := run_append_nil (P := P) w t o.type e ti z' ht hi0 hz ad m cap' news hl hcells hm (by simp only [maxLen] at h63; omega) (by omega)
      rw [r2] at hrun
      cases hrun
      rw [r1]; simp
theorem op_appendZ {t e : TypeId} {s x : Operand} {z : Value} {sz bytes : Nat} {b : Addr} {vx : Value} {m : Nat} {news : List Value}
    (ho : o.op = .call { callee := .builtin .append, args := #[s, x], argTypes := #[t, t] }) (ht : P.underlying t = some (.slice e)) (he : elK P e = some (z, sz, bytes))
    (hs : a.eval s = .slice (some b) 0 0) (hx : a.eval x = vx) (hsrc : SlAt w vx sz m news) (hm : m = 0) :
    OpY r P o a w (fun v' w' => v' = .slice (some b) 0 0 ∧ w' = w) := by
  unfold elK at he
  cases hi0 : P.info? e with
  | none => simp [hi0] at he
  | some ti =>
    obtain ⟨hl, A, cap', rfl, hc1, hc2, h3⟩ := hsrc
    subst hm
    refine opY_value (v := .slice (some b) 0 0) (w' := w) (by rw [ho]; rfl) ?_ ⟨rfl, rfl⟩
    simp only [execOp, ho, resolve, invoke, builtin, Sem.run_bind, Sem.run_pure, Result.andThen_ok, List.map_toArray, List.map_cons, List.map_nil, hs, hx]
    cases A <;> simp [Builtin.append_, run_underlying ht, sizeOf, typeInfo, hi0, Builtin.lenOf, Builtin.firstCells, storeCells, loadCells, loadCellsFrom]
theorem vblz {t e : TypeId} {sz : Nat} {g : Bool} {parts : Array (Nat × Operand)} {ps : Array (Nat × Value)} {z : Value}
    (ho : o.op = .buildSlice t 0 parts) (hp : (parts.map fun (i, x) => (i, a.eval x)) = ps) (ht : P.underlying t = some (.slice e)) (he : tyK P e = some (g, sz)) (hz : (P.info? e).bind (·.zero) = some z)
    (hf : Instr.fill (fun i => some (i * sz, sz)) ((Array.range (0 * sz)).map (z.cells[· % z.cells.size]!)) ps.toList = some ([] : List Value).toArray) (hy : ∀ b, y [blk b e []] (.slice (some ⟨b, 0, none⟩) 0 0)) :
    OpY r P o a w (fun v w'' => Ext NoB w w'' ∧ ∃ rs, y rs v ∧ Sep NoB w w'' rs ∧ rs.all (·.own) = true) :=
  vn (op_buildSlice (X := NoB) (w0 := w) (L := []) (Sep.start _ _) ho hp ht he hz (by omega) hf) fun v w' ⟨b, h1, h2⟩ => by
    subst h1
    exact ⟨_, hy b, h2, rfl⟩
theorem vap0 {e sz m : Nat} {news : List Value} (h : OpY r P o a w (fun v' w' => Ext NoB w w' ∧ w'.ownsRow w.heap.size e sz v' m news)) (hy : ∀ v, y [row v e sz m news] v) :
    OpY r P o a w (fun v w'' => Ext NoB w w'' ∧ ∃ rs, y rs v ∧ Sep NoB w w'' rs ∧ rs.all (·.own) = true) :=
  vn h fun v w' hv => ⟨_, hy v, (Sep.start NoB _).new_row hv.1 hv.2, rfl⟩
end
end Go.Eng

namespace Go.Eng
open Go.RowKit
section
variable {r : Option Nat} {P : Program} {o : Oper} {a : Act} {w : World}
end
end Go.Eng

namespace Go.Eng
open Go.RowKit
theorem wrap_u64 {n : Int} (h0 : 0 ≤ n) (h1 : n < 18446744073709551616) : IntKind.u64.wrap n = n := by
  simp only [IntKind.wrap, IntKind.bits, IntKind.signed, Bool.false_and, Bool.false_eq_true, if_false]
  omega
theorem wrap_i64 {n : Int} (h0 : -9223372036854775808 ≤ n) (h1 : n ≤ 9223372036854775807) : IntKind.i64.wrap n = n := IntWalk.i64_in _ (by omega)
section
variable {r : Option Nat} {P : Program} {o : Oper} {a : Act} {w : World}
end
end Go.Eng

namespace Go.Eng
open Go.RowKit
section
variable {r : Option Nat} {P : Program} {o : Oper} {a : Act} {w : World}
theorem op_shrI {t t' : TypeId} {kd : IntKind} {x y : Operand} {m k : Nat} (ho : o.op = .binOp .shr t x y t') (hx : a.eval x = .int .i64 (m : Int)) (hy : a.eval y = .int kd (k : Int)) (hk : k ≤ 60) : OpY r P o a w (fun v' w' => v' = .int .i64 ((m >>> k : Nat) : Int) ∧ w' = w) :=
  opY_value (v := .int .i64 ((m >>> k : Nat) : Int)) (by rw [ho]; rfl) (by
    have h1 : ¬ ((k : Int) < 0) := by omega
    have h2 : min k 64 = k := by omega
    have h3 : (m : Int).fdiv (2 ^ k) = ((m >>> k : Nat) : Int) := by
      rw [Nat.shiftRight_eq_div_pow, Int.natCast_ediv, Int.fdiv_eq_ediv_of_nonneg _ (by exact Int.pow_nonneg (by decide))]
      simp
    have e1 : (eqGuard .shr t x y (.int .i64 (m : Int)) (.int kd (k : Int))).run P w = .ok () w := eqGuard_int _ _ _ _ _ _ _ _ _
    simp only [execOp, ho, hx, hy, Sem.run_bind, e1, Result.andThen_ok, binOp, Op.shift, h1, if_false, IntKind.bits, Int.toNat_natCast, h2, h3, Sem.run_pure]) ⟨rfl, rfl⟩
theorem op_shlI {t t' : TypeId} {kd : IntKind} {x y : Operand} {m k : Nat} (ho : o.op = .binOp .shl t x y t') (hx : a.eval x = .int .i64 (m : Int)) (hy : a.eval y = .int kd (k : Int)) (hm : m * 2 ^ k < 9223372036854775808) (hk : k ≤ 60) : OpY r P o a w (fun v' w' => v' = .int .i64 ((m * 2 ^ k : Nat) : Int) ∧ w' = w) :=
  opY_value (v := .int .i64 ((m * 2 ^ k : Nat) : Int)) (by rw [ho]; rfl) (by
    have h1 : ¬ ((k : Int) < 0) := by omega
    have h2 : min k 64 = k := by omega
    have h3 : IntKind.i64.wrap ((m : Int) * 2 ^ k) = ((m * 2 ^ k : Nat) : Int) := by
      have e : (m : Int) * 2 ^ k = ((m * 2 ^ k : Nat) : Int) := by simp
      rw [e]
      exact wrap_i64 (by omega) (by omega)
    have e1 : (eqGuard .shl t x y (.int .i64 (m : Int)) (.int kd (k : Int))).run P w = .ok () w := eqGuard_int _ _ _ _ _ _ _ _ _
    simp only [execOp, ho, hx, hy, Sem.run_bind, e1, Result.andThen_ok, binOp, Op.shift, h1, if_false, IntKind.bits, Int.toNat_natCast, h2, h3, Sem.run_pure]) ⟨rfl, rfl⟩
theorem op_shlN {t t' : TypeId} {kd : IntKind} {x y : Operand} {m k N : Nat} (ho : o.op = .binOp .shl t x y t') (hx : a.eval x = .int .i64 (m : Int)) (hy : a.eval y = .int kd (k : Int)) (hN : m * 2 ^ k = N) (hm : N < 9223372036854775808) (hk : k ≤ 60) : OpY r P o a w (fun v' w' => v' = .int .i64 (N : Int) ∧ w' = w) := by
  subst hN; exact op_shlI ho hx hy hm hk
end
end Go.Eng
