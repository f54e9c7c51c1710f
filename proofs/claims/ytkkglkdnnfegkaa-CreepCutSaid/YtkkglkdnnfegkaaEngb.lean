/-
  The engine, part QQ: drawn regions in which some operations take a new thing of another and give one of their own for it (appends onto what appends have given).
-/
import Derived.Test.YtkkglkdnnfegkaaEnga
set_option linter.unusedSimpArgs false
set_option linter.unusedVariables false
namespace Go.Eng
open Go.RowKit
section
variable {r : Option Nat} {P : Program} {Q : Exit → Act → World → Prop} {n : Nat} {ds : List Deferred} {m : List (Nat × Value)} {X : Nat → Prop} {w0 : World} {L : List Res}
def liveC (C : List (Nat × Nat)) (done : Nat → Bool) (i : Nat) : Prop := ∀ p, p ∈ C → p.2 = i → done p.1 = false
def CCInv (l : List Oper) (h n : Nat) (ds : List Deferred) (m : List (Nat × Value)) (X : Nat → Prop) (w0 : World) (L : List Res) (Y : List YV) (C : List (Nat × Nat)) (done : Nat → Bool) (a : Act) (w' : World) : Prop :=
  Fr n ds m a ∧ ∃ vs rsf, (∀ i, i < h → done i = true → liveC C done i → SlotIs l.toArray a i (vs i) ∧ yat Y i vs (vs i) (rsf i)) ∧ (∀ i, done i = false → rsf i = []) ∧ (∀ p, p ∈ C → done p.1 = true → rsf p.2 = []) ∧ Sep X w0 w' (catR rsf 0 h ++ L)
def AllTk (l : List Oper) (Pr : Nat → Nat → Oper → Prop) : List (Nat × Nat) → Prop
  | [] => True
  | p :: C => (∀ o, l[p.1]? = some o → Pr p.1 p.2 o) ∧ AllTk l Pr C
theorem allTk_at {l : List Oper} {Pr : Nat → Nat → Oper → Prop} : ∀ {C : List (Nat × Nat)}, AllTk l Pr C → ∀ p, p ∈ C → ∀ o, l[p.1]? = some o → Pr p.1 p.2 o
  | q :: C, h, p, hp, o, ho => by
    rcases List.mem_cons.1 hp with rfl | hp
    · exact h.1 o ho
    · exact allTk_at h.2 p hp o ho
theorem c_drawCC {id : Nat} {l : List Oper} {a : Act} {w : World} (hm : P.follows .mixedOrders = true) (hA : Fr n ds m a) (hS : Sep X w0 w L) (h : Nat) (C : List (Nat × Nat)) (dl : List (List Nat)) (Y : List YV)
    (hC : C.all (fun p => decide (p.2 ≠ p.1) && decide (p.1 < h) && decide (p.2 < h) && (dl.getD p.1 []).contains p.2) = true)
    (hC1 : C.all (fun p => C.all fun q => decide (p.1 ≠ q.1) || decide (p = q)) = true)
    (hok : drawOk l.toArray h (fun _ => []) = true) (hok2 : depsOk l.toArray h dl = true) (hfree : freeOf l.toArray h (m.map (·.1)) = true) (hn : (List.range h).all (fun j => match (l.toArray[j]?).bind (·.dst) with | some d => decide (d < n) | none => true) = true)
    (hdep : AllDep dl Y) (hdl : C.all (fun p => (List.range h).all fun j => decide (j = p.1) || !(dl.getD j []).contains p.2) = true)
    (hop : AllOps (fun j o => C.all (fun p => decide (p.1 ≠ j)) = true → ∀ a w' vs, Fr n ds m a → Sep X w0 w' L → (∀ i ∈ dl.getD j [], SlotIs l.toArray a i (vs i) ∧ ∃ rs, yat Y i vs (vs i) rs ∧ ∀ s ∈ rs, s.p w') → OpG r P l.toArray o a w' (fun v w'' => Ext NoB w' w'' ∧ ∃ rs, yat Y j vs v rs ∧ Sep NoB w' w'' rs ∧ rs.all (·.own) = true)) 0 h l)
    (hopC : AllTk l (fun j0 i0 oj => ∀ a w' vs rs0 Lr, Fr n ds m a → SlotIs l.toArray a i0 (vs i0) → yat Y i0 vs (vs i0) rs0 → (∀ i ∈ dl.getD j0 [], i ≠ i0 → SlotIs l.toArray a i (vs i) ∧ ∃ rs, yat Y i vs (vs i) rs ∧ ∀ s ∈ rs, s.p w') → Sep X w0 w' L → Sep X w0 w' (rs0 ++ Lr) → OpG r P l.toArray oj a w' (fun v w'' => ∃ rs, yat Y j0 vs v rs ∧ Sep X w0 w'' (rs ++ Lr))) C)
    (htail : ∀ a w' vs rsf, Fr n ds m a → (∀ i, i < h → C.all (fun p => decide (p.2 ≠ i)) = true → SlotIs l.toArray a i (vs i) ∧ yat Y i vs (vs i) (rsf i)) → (∀ p, p ∈ C → rsf p.2 = []) → Sep X w0 w' (catR rsf 0 h ++ L) → WL r P l.toArray Q (l.drop h) a w') :
    WC r P (.region id l.toArray true) Q a w := by
  have hok' := hok
  simp only [drawOk, Bool.and_eq_true, List.all_eq_true, List.mem_range, decide_eq_true_eq] at hok'
  obtain ⟨⟨⟨⟨hback, _⟩, htl⟩, hdst⟩, hh⟩ := hok'
  simp only [depsOk, List.all_eq_true, List.mem_range, Bool.and_eq_true, decide_eq_true_eq] at hok2
  simp only [List.all_eq_true, List.mem_range, Bool.or_eq_true, decide_eq_true_eq, Bool.not_eq_true'] at hdl
  simp only [List.all_eq_true, Bool.and_eq_true, decide_eq_true_eq] at hC
  simp only [List.all_eq_true, Bool.or_eq_true, decide_eq_true_eq] at hC1
  have hCm : ∀ p, p ∈ C → p.2 ∈ dl.getD p.1 [] := fun p hp => by simpa using (hC p hp).2
  have hCu : ∀ p q, p ∈ C → q ∈ C → p.1 = q.1 → p = q := fun p q hp hq e => (hC1 p hp q hq).resolve_left (fun h => h e)
  have hCn : ∀ p j, p ∈ C → j < h → j ≠ p.1 → p.2 ∉ dl.getD j [] := fun p j hp hj hne hi => by
    have h1 := (hdl p hp j hj).resolve_left hne
    have h2 : (dl.getD j []).contains p.2 = true := by simpa using hi
    rw [h2] at h1; cases h1
  refine c_drawJ hm h (fun _ => []) hok (CCInv l h n ds m X w0 L Y C) (fun w' he _ => ⟨hA, fun _ => undef, fun _ => [], (fun i _ hi => by cases hi), fun _ _ => rfl, fun _ _ _ => rfl, ?_⟩) (fun j o ho hj done a w' hj0 hcl hjb hI => ?_) (fun done a w' hall hI => ?_)
  · have : ∀ (h k : Nat), catR (fun _ => []) k h = [] := by
      intro h
      induction h with
      | zero => intro k; rfl
      | succ h ih => intro k; show [] ++ catR _ (k + 1) h = []; rw [ih]; rfl
    rw [this]; exact hS.step he
  · obtain ⟨hA, vs, rsf, hdone, hnot, hcon, hSep⟩ := hI
    have hoj' : (l.toArray)[j]? = some o := by simpa using ho
    have hdj : ∀ i ∈ dl.getD j [], i < h ∧ done i = true := fun i hi => by
      have h1 := hok2 j hj i hi
      exact ⟨by omega, before_done hcl 12 _ hjb i (by simpa using h1.2)⟩
    have hjd0 : ∀ p, p ∈ C → done p.1 = true → done p.2 = true := fun p hp h0 => by
      have h1 := hok2 p.1 (hC p hp).1.1.2 p.2 (hCm p hp)
      exact before_done hcl 12 _ (hcl p.1 h0) p.2 (by simpa using h1.2)
    have hdd : ∀ i, done i = true → ∀ k ∈ dl.getD i [], i < h → done k = true := fun i hi k hk hih =>
      before_done hcl 12 _ (hcl i hi) k (by simpa using (hok2 i hih k hk).2)
    by_cases hjj : ∃ p, p ∈ C ∧ p.1 = j
    · obtain ⟨p, hp, rfl⟩ := hjj
      have hij := (hC p hp).1.1.1
      have hdi0 : done p.2 = true := (hdj p.2 (hCm p hp)).2
      have hlive : ∀ i, i ∈ dl.getD p.1 [] → liveC C done i := fun i hi q hq e => by
        subst e
        by_cases e2 : p.1 = q.1
        · rw [← e2]; exact hj0
        · exact absurd hi (hCn q p.1 hq hj e2)
      obtain ⟨s1, s2⟩ := hdone p.2 (hC p hp).1.2 hdi0 (hlive _ (hCm p hp))
      have hup : upd (upd rsf p.2 []) p.2 (rsf p.2) = rsf := by
        funext k; unfold upd; by_cases e : k = p.2
        · subst e; rw [if_pos rfl]
        · rw [if_neg e, if_neg e]
      have hp1 : (catR rsf 0 h).Perm (rsf p.2 ++ catR (upd rsf p.2 []) 0 h) := by
        have := catR_upd (upd rsf p.2 []) p.2 (rsf p.2) (upd_same _ _ _) h 0 (Nat.zero_le _) (by have := (hC p hp).1.2; omega)
        rw [hup] at this; exact this
      have hS2 : Sep X w0 w' (rsf p.2 ++ (catR (upd rsf p.2 []) 0 h ++ L)) := hSep.perm (by
        rw [← List.append_assoc]; exact (hp1.append_right L).symm)
      refine opG_mono (allTk_at hopC p hp o (by simpa using ho) a w' vs (rsf p.2) _ hA s1 s2 (fun i hi hne => ?_) hSep.right hS2) (fun v w'' hv => ?_)
      · obtain ⟨h1, h2⟩ := hdj i hi
        obtain ⟨h3, h4⟩ := hdone i h1 h2 (hlive i hi)
        exact ⟨h3, rsf i, h4, fun s hs => hSep.mem (List.mem_append_left _ (catR_mem rsf h 0 i (Nat.zero_le _) (by omega) s hs))⟩
      · obtain ⟨rs, hy, hS3⟩ := hv
        refine ⟨fr_put hA hfree hn hoj' hj, upd vs p.1 v, upd (upd rsf p.2 []) p.1 rs, fun i hi hdi hlv => ?_, fun i hdi => ?_, fun q hq hd => ?_, ?_⟩
        · have hne' : i ≠ p.2 := fun e => by
            have := hlv p hp e.symm
            simp at this
          have hlv0 : liveC C done i := fun q hq e => by
            have := hlv q hq e
            simp only [Bool.or_eq_false_iff] at this
            exact this.1
          by_cases e : i = p.1
          · subst e
            rw [upd_same, upd_same]
            refine ⟨slot_new hA hn hoj' hj, yat_dep hdep (fun k hk => ?_) hy⟩
            have := (hdj k hk).2
            rw [upd_ne _ _ (by rintro rfl; rw [hj0] at this; cases this)]
          · have hdi' : done i = true := by
              simp only [Bool.or_eq_true, beq_iff_eq] at hdi
              exact hdi.resolve_right e
            obtain ⟨h3, h4⟩ := hdone i hi hdi' hlv0
            rw [upd_ne _ _ e, upd_ne _ _ e, upd_ne _ _ hne']
            refine ⟨slot_put hdst hoj' hj i hi e _ h3, yat_dep hdep (fun k hk => ?_) h4⟩
            have := hdd i hdi' k hk hi
            rw [upd_ne _ _ (by rintro rfl; rw [hj0] at this; cases this)]
        · simp only [Bool.or_eq_false_iff, beq_eq_false_iff_ne, ne_eq] at hdi
          rw [upd_ne _ _ hdi.2]
          by_cases e : i = p.2
          · subst e; exact upd_same _ _ _
          · rw [upd_ne _ _ e]; exact hnot i hdi.1
        · by_cases e : q.1 = p.1
          · have := hCu q p hq hp e
            subst this
            rw [upd_ne _ _ hij, upd_same]
          · have hd' : done q.1 = true := by
              simp only [Bool.or_eq_true, beq_iff_eq] at hd
              exact hd.resolve_right e
            have h2 := hjd0 q hq hd'
            rw [upd_ne _ _ (fun e => by rw [e, hj0] at h2; cases h2)]
            by_cases e3 : q.2 = p.2
            · rw [e3]; exact upd_same _ _ _
            · rw [upd_ne _ _ e3]; exact hcon q hq hd'
        · refine hS3.perm ?_
          rw [← List.append_assoc]
          exact (catR_upd (upd rsf p.2 []) p.1 rs (by rw [upd_ne _ _ (fun e => hij e.symm)]; exact hnot p.1 hj0) h 0 (Nat.zero_le _) (by omega)).append_right L
    · have hob := allOps_at h 0 l hop j o ho hj
      rw [Nat.zero_add] at hob
      have hnt : ∀ p, p ∈ C → p.1 ≠ j := fun p hp e => hjj ⟨p, hp, e⟩
      have hni : ∀ i ∈ dl.getD j [], liveC C done i := fun i hi q hq e => by
        subst e
        exact absurd hi (hCn q j hq hj (fun e => hnt q hq e.symm))
      refine opG_mono (hob (by simp only [List.all_eq_true, decide_eq_true_eq]; exact hnt) a w' vs hA hSep.right (fun i hi => ?_)) (fun v w'' hv => ?_)
      · obtain ⟨h1, h2⟩ := hdj i hi
        obtain ⟨h3, h4⟩ := hdone i h1 h2 (hni i hi)
        exact ⟨h3, rsf i, h4, fun s hs => hSep.mem (List.mem_append_left _ (catR_mem rsf h 0 i (Nat.zero_le _) (by omega) s hs))⟩
      · obtain ⟨hext, rs, hy, hnew, hown⟩ := hv
        refine ⟨fr_put hA hfree hn hoj' hj, upd vs j v, upd rsf j rs, fun i hi hdi hlv => ?_, fun i hdi => ?_, fun q hq hd => ?_, ?_⟩
        · have hlv0 : liveC C done i := fun q hq e => by
            have := hlv q hq e
            simp only [Bool.or_eq_false_iff] at this
            exact this.1
          by_cases e : i = j
          · subst e
            rw [upd_same, upd_same]
            refine ⟨slot_new hA hn hoj' hj, yat_dep hdep (fun k hk => ?_) hy⟩
            have := (hdj k hk).2
            rw [upd_ne _ _ (by rintro rfl; rw [hj0] at this; cases this)]
          · have hdi' : done i = true := by
              simp only [Bool.or_eq_true, beq_iff_eq] at hdi
              exact hdi.resolve_right e
            obtain ⟨h3, h4⟩ := hdone i hi hdi' hlv0
            rw [upd_ne _ _ e, upd_ne _ _ e]
            refine ⟨slot_put hdst hoj' hj i hi e _ h3, yat_dep hdep (fun k hk => ?_) h4⟩
            have := hdd i hdi' k hk hi
            rw [upd_ne _ _ (by rintro rfl; rw [hj0] at this; cases this)]
        · simp only [Bool.or_eq_false_iff, beq_eq_false_iff_ne, ne_eq] at hdi
          rw [upd_ne _ _ hdi.2]; exact hnot i hdi.1
        · have hd' : done q.1 = true := by
            simp only [Bool.or_eq_true, beq_iff_eq] at hd
            exact hd.resolve_right (hnt q hq)
          have h2 := hjd0 q hq hd'
          rw [upd_ne _ _ (fun e => by rw [e, hj0] at h2; cases h2)]
          exact hcon q hq hd'
        · have h1 := hSep.callS hnew hown
          refine h1.perm ?_
          rw [← List.append_assoc]
          exact (catR_upd rsf j rs (hnot j hj0) h 0 (Nat.zero_le _) (by omega)).append_right L
  · obtain ⟨hA, vs, rsf, hdone, _, hcon, hSep⟩ := hI
    exact htail a w' vs rsf hA (fun i hi hne => hdone i hi (hall i hi) (fun q hq e => by
      simp only [List.all_eq_true, decide_eq_true_eq] at hne
      exact absurd e (hne q hq))) (fun p hp => hcon p hp (hall p.1 (hC p hp).1.1.2)) hSep
end
end Go.Eng
