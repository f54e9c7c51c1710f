/-
  The engine: as c_drawCD, where one operation (i1) hands on a thing that was there before (T0), to be taken by others.
  The engine: arrays of structs of two ints compared; slices of them.
-/
import Derived.Test.YtohgladndklciaaEnga
set_option linter.unusedSimpArgs false
set_option linter.unusedVariables false
namespace Go.Eng
open Go.RowKit
section
variable {r : Option Nat} {P : Program} {Q : Exit → Act → World → Prop} {n : Nat} {ds : List Deferred} {m : List (Nat × Value)} {X : Nat → Prop} {w0 : World} {L : List Res}
def CEInv (l : List Oper) (h n : Nat) (ds : List Deferred) (m : List (Nat × Value)) (X : Nat → Prop) (w0 : World) (L : List Res) (Y : List YV) (C : List (Nat × Nat)) (i1 : Nat) (T0 : Res) (done : Nat → Bool) (a : Act) (w' : World) : Prop :=
  Fr n ds m a ∧ ∃ vs rsf, (∀ i, i < h → done i = true → SlotIs l.toArray a i (vs i) ∧ ∃ rs, yat Y i vs (vs i) rs ∧ (liveC C done i → rsf i = rs)) ∧ (∀ i, done i = false → i ≠ i1 → rsf i = []) ∧ (done i1 = false → rsf i1 = [T0]) ∧ (∀ p, p ∈ C → done p.1 = true → rsf p.2 = []) ∧ Sep X w0 w' (catR rsf 0 h ++ L)
theorem catR_nil : ∀ (h k : Nat), catR (fun _ => []) k h = []
  | 0, _ => rfl
  | h + 1, k => by show [] ++ catR _ (k + 1) h = []; rw [catR_nil h]; rfl
theorem catR_front {rsf : Nat → List Res} {h i : Nat} (hi : i < h) : (catR rsf 0 h).Perm (rsf i ++ catR (upd rsf i []) 0 h) := by
  have hup : upd (upd rsf i []) i (rsf i) = rsf := by
    funext k; unfold upd; by_cases e : k = i
    · subst e; rw [if_pos rfl]
    · rw [if_neg e, if_neg e]
  have := catR_upd (upd rsf i []) i (rsf i) (upd_same _ _ _) h 0 (Nat.zero_le _) (by omega)
  rw [hup] at this; exact this
theorem c_drawCE {id : Nat} {l : List Oper} {a : Act} {w : World} (hm : P.follows .mixedOrders = true) (hA : Fr n ds m a) (T0 : Res) (hS : Sep X w0 w (T0 :: L)) (h i1 : Nat) (C : List (Nat × Nat)) (dl : List (List Nat)) (Y : List YV)
    (hi1 : (decide (i1 < h) && C.all (fun p => decide (p.1 ≠ i1))) = true)
    (hC : C.all (fun p => decide (p.2 ≠ p.1) && decide (p.1 < h) && decide (p.2 < h) && (dl.getD p.1 []).contains p.2) = true)
    (hC1 : C.all (fun p => C.all fun q => (decide (p.1 ≠ q.1) && decide (p.2 ≠ q.2)) || decide (p = q)) = true)
    (hok : drawOk l.toArray h (fun _ => []) = true) (hok2 : depsOk l.toArray h dl = true) (hfree : freeOf l.toArray h (m.map (·.1)) = true) (hn : (List.range h).all (fun j => match (l.toArray[j]?).bind (·.dst) with | some d => decide (d < n) | none => true) = true)
    (hdep : AllDep dl Y)
    (hop : AllOps (fun j o => C.all (fun p => decide (p.1 ≠ j)) = true → j ≠ i1 → ∀ a w' vs, Fr n ds m a → Sep X w0 w' L → (∀ i ∈ dl.getD j [], SlotIs l.toArray a i (vs i) ∧ ∃ rs, yat Y i vs (vs i) rs ∧ (C.all (fun p => decide (p.2 ≠ i)) = true → ∀ s ∈ rs, s.p w')) → OpG r P l.toArray o a w' (fun v w'' => Ext NoB w' w'' ∧ ∃ rs, yat Y j vs v rs ∧ Sep NoB w' w'' rs ∧ rs.all (·.own) = true)) 0 h l)
    (hop1 : ∀ o, l[i1]? = some o → ∀ a w' vs Lr, Fr n ds m a → (∀ i ∈ dl.getD i1 [], SlotIs l.toArray a i (vs i) ∧ ∃ rs, yat Y i vs (vs i) rs ∧ (C.all (fun p => decide (p.2 ≠ i)) = true → ∀ s ∈ rs, s.p w')) → Sep X w0 w' L → Sep X w0 w' (T0 :: Lr) → OpG r P l.toArray o a w' (fun v w'' => yat Y i1 vs v [T0] ∧ Sep X w0 w'' (T0 :: Lr)))
    (hopC : AllTk l (fun j0 i0 oj => ∀ a w' vs rs0 Lr, Fr n ds m a → SlotIs l.toArray a i0 (vs i0) → yat Y i0 vs (vs i0) rs0 → (∀ i ∈ dl.getD j0 [], i ≠ i0 → SlotIs l.toArray a i (vs i) ∧ ∃ rs, yat Y i vs (vs i) rs ∧ (C.all (fun p => decide (p.2 ≠ i)) = true → ∀ s ∈ rs, s.p w')) → Sep X w0 w' L → Sep X w0 w' (rs0 ++ Lr) → OpG r P l.toArray oj a w' (fun v w'' => ∃ rs, yat Y j0 vs v rs ∧ Sep X w0 w'' (rs ++ Lr))) C)
    (htail : ∀ a w' vs rsf, Fr n ds m a → (∀ i, i < h → SlotIs l.toArray a i (vs i) ∧ ∃ rs, yat Y i vs (vs i) rs ∧ (C.all (fun p => decide (p.2 ≠ i)) = true → rsf i = rs)) → (∀ p, p ∈ C → rsf p.2 = []) → Sep X w0 w' (catR rsf 0 h ++ L) → WL r P l.toArray Q (l.drop h) a w') :
    WC r P (.region id l.toArray true) Q a w := by
  have hok' := hok
  simp only [drawOk, Bool.and_eq_true, List.all_eq_true, List.mem_range, decide_eq_true_eq] at hok'
  obtain ⟨⟨⟨⟨hback, _⟩, htl⟩, hdst⟩, hh⟩ := hok'
  simp only [depsOk, List.all_eq_true, List.mem_range, Bool.and_eq_true, decide_eq_true_eq] at hok2
  simp only [List.all_eq_true, Bool.and_eq_true, decide_eq_true_eq] at hC hi1
  simp only [List.all_eq_true, Bool.or_eq_true, Bool.and_eq_true, decide_eq_true_eq] at hC1
  have hCm : ∀ p, p ∈ C → p.2 ∈ dl.getD p.1 [] := fun p hp => by simpa using (hC p hp).2
  have hCu : ∀ p q, p ∈ C → q ∈ C → p.1 = q.1 → p = q := fun p q hp hq e => (hC1 p hp q hq).resolve_left (fun h => h.1 e)
  have hCv : ∀ p q, p ∈ C → q ∈ C → p.2 = q.2 → p = q := fun p q hp hq e => (hC1 p hp q hq).resolve_left (fun h => h.2 e)
  have hlv : ∀ {done : Nat → Bool} {i : Nat}, (C.all (fun p => decide (p.2 ≠ i)) = true) → liveC C done i := fun {done i} hc q hq e => by
    simp only [List.all_eq_true, decide_eq_true_eq] at hc
    exact absurd e (hc q hq)
  refine c_drawJ hm h (fun _ => []) hok (CEInv l h n ds m X w0 L Y C i1 T0) (fun w' he _ => ⟨hA, fun _ => undef, upd (fun _ => []) i1 [T0], (fun i _ hi => by cases hi), (fun i _ hne => upd_ne _ _ hne), fun _ => upd_same _ _ _, fun _ _ h => (by cases h), ?_⟩) (fun j o ho hj done a w' hj0 hcl hjb hI => ?_) (fun done a w' hall hI => ?_)
  · refine (hS.step he).perm ?_
    have h1 := catR_upd (fun _ => ([] : List Res)) i1 [T0] rfl h 0 (Nat.zero_le _) (by omega)
    rw [catR_nil] at h1
    exact (h1.append_right L)
  · obtain ⟨hA, vs, rsf, hdone, hnot, hno1, hcon, hSep⟩ := hI
    have hoj' : (l.toArray)[j]? = some o := by simpa using ho
    have hdj : ∀ i ∈ dl.getD j [], i < h ∧ done i = true := fun i hi => by
      have h1 := hok2 j hj i hi
      exact ⟨by omega, before_done hcl 12 _ hjb i (by simpa using h1.2)⟩
    have hjd0 : ∀ p, p ∈ C → done p.1 = true → done p.2 = true := fun p hp h0 => by
      have h1 := hok2 p.1 (hC p hp).1.1.2 p.2 (hCm p hp)
      exact before_done hcl 12 _ (hcl p.1 h0) p.2 (by simpa using h1.2)
    have hdd : ∀ i, done i = true → ∀ k ∈ dl.getD i [], i < h → done k = true := fun i hi k hk hih =>
      before_done hcl 12 _ (hcl i hi) k (by simpa using (hok2 i hih k hk).2)
    have hdeps : ∀ i ∈ dl.getD j [], SlotIs l.toArray a i (vs i) ∧ ∃ rs, yat Y i vs (vs i) rs ∧ (C.all (fun p => decide (p.2 ≠ i)) = true → ∀ s ∈ rs, s.p w') := fun i hi => by
      obtain ⟨h1, h2⟩ := hdj i hi
      obtain ⟨h3, rs, h4, h5⟩ := hdone i h1 h2
      refine ⟨h3, rs, h4, fun hc s hs => ?_⟩
      rw [← h5 (hlv hc)] at hs
      exact hSep.mem (List.mem_append_left _ (catR_mem rsf h 0 i (Nat.zero_le _) (by omega) s hs))
    -- what has been yielded stays told
    have keepY : ∀ (v : Value) (i : Nat) (rs : List Res), i < h → done i = true → yat Y i vs (vs i) rs → yat Y i (upd vs j v) (vs i) rs := fun v i rs hi hdi hy =>
      yat_dep hdep (fun k hk => by
        have := hdd i hdi k hk hi
        rw [upd_ne _ _ (by rintro rfl; rw [hj0] at this; cases this)]) hy
    have newY : ∀ (v : Value) (rs : List Res), yat Y j vs v rs → yat Y j (upd vs j v) v rs := fun v rs hy =>
      yat_dep hdep (fun k hk => by
        have := (hdj k hk).2
        rw [upd_ne _ _ (by rintro rfl; rw [hj0] at this; cases this)]) hy
    have hdi' : ∀ i, (done i || (i == j)) = true → i ≠ j → done i = true := fun i hdi e => by
      simp only [Bool.or_eq_true, beq_iff_eq] at hdi
      exact hdi.resolve_right e
    have hlv0 : ∀ i, liveC C (fun i => done i || (i == j)) i → liveC C done i := fun i hl q hq e => by
      have := hl q hq e
      simp only [Bool.or_eq_false_iff] at this
      exact this.1
    by_cases hjj : ∃ p, p ∈ C ∧ p.1 = j
    · obtain ⟨p, hp, rfl⟩ := hjj
      have hij := (hC p hp).1.1.1
      have hne1 : p.1 ≠ i1 := hi1.2 p hp
      have hdi0 : done p.2 = true := (hdj p.2 (hCm p hp)).2
      have hlive : liveC C done p.2 := fun q hq e => by
        have := hCv q p hq hp e
        subst this; exact hj0
      obtain ⟨s1, rs0, s2, s3⟩ := hdone p.2 (hC p hp).1.2 hdi0
      have s3 := s3 hlive
      subst s3
      have hS2 : Sep X w0 w' (rsf p.2 ++ (catR (upd rsf p.2 []) 0 h ++ L)) := hSep.perm (by
        rw [← List.append_assoc]; exact ((catR_front (hC p hp).1.2).append_right L).symm)
      refine opG_mono (allTk_at hopC p hp o (by simpa using ho) a w' vs (rsf p.2) _ hA s1 s2 (fun i hi hne => hdeps i hi) hSep.right hS2) (fun v w'' hv => ?_)
      obtain ⟨rs, hy, hS3⟩ := hv
      refine ⟨fr_put hA hfree hn hoj' hj, upd vs p.1 v, upd (upd rsf p.2 []) p.1 rs, fun i hi hdi => ?_, fun i hdi hne => ?_, fun hd1 => ?_, fun q hq hd => ?_, ?_⟩
      · by_cases e : i = p.1
        · subst e; rw [upd_same]; exact ⟨slot_new hA hn hoj' hj, rs, newY v rs hy, fun _ => upd_same _ _ _⟩
        · have hd := hdi' i hdi e
          obtain ⟨h3, rs2, h4, h5⟩ := hdone i hi hd
          rw [upd_ne _ _ e]
          refine ⟨slot_put hdst hoj' hj i hi e _ h3, rs2, keepY v i rs2 hi hd h4, fun hl => ?_⟩
          have hne' : i ≠ p.2 := fun e => by
            have := hl p hp e.symm
            simp at this
          rw [upd_ne _ _ e, upd_ne _ _ hne']; exact h5 (hlv0 i hl)
      · simp only [Bool.or_eq_false_iff, beq_eq_false_iff_ne, ne_eq] at hdi
        rw [upd_ne _ _ hdi.2]
        by_cases e : i = p.2
        · subst e; exact upd_same _ _ _
        · rw [upd_ne _ _ e]; exact hnot i hdi.1 hne
      · simp only [Bool.or_eq_false_iff, beq_eq_false_iff_ne, ne_eq] at hd1
        rw [upd_ne _ _ hd1.2]
        by_cases e : i1 = p.2
        · rw [← e, hd1.1] at hdi0; cases hdi0
        · rw [upd_ne _ _ e]; exact hno1 hd1.1
      · by_cases e : q.1 = p.1
        · have := hCu q p hq hp e
          subst this
          rw [upd_ne _ _ hij, upd_same]
        · have hd' := hdi' q.1 hd e
          have h2 := hjd0 q hq hd'
          rw [upd_ne _ _ (fun e => by rw [e, hj0] at h2; cases h2)]
          by_cases e3 : q.2 = p.2
          · rw [e3]; exact upd_same _ _ _
          · rw [upd_ne _ _ e3]; exact hcon q hq hd'
      · refine hS3.perm ?_
        rw [← List.append_assoc]
        exact (catR_upd (upd rsf p.2 []) p.1 rs (by rw [upd_ne _ _ (fun e => hij e.symm)]; exact hnot p.1 hj0 hne1) h 0 (Nat.zero_le _) (by omega)).append_right L
    · have hnt : ∀ p, p ∈ C → p.1 ≠ j := fun p hp e => hjj ⟨p, hp, e⟩
      have hnc : C.all (fun p => decide (p.1 ≠ j)) = true := by simp only [List.all_eq_true, decide_eq_true_eq]; exact hnt
      by_cases hji : j = i1
      · subst hji
        have hS2 : Sep X w0 w' (T0 :: (catR (upd rsf j []) 0 h ++ L)) := hSep.perm (by
          have := ((catR_front (rsf := rsf) hj).append_right L).symm
          rw [hno1 hj0] at this
          exact this)
        refine opG_mono (hop1 o ho a w' vs _ hA hdeps hSep.right hS2) (fun v w'' hv => ?_)
        obtain ⟨hy, hS3⟩ := hv
        refine ⟨fr_put hA hfree hn hoj' hj, upd vs j v, rsf, fun i hi hdi => ?_, fun i hdi hne => ?_, fun hd1 => ?_, fun q hq hd => ?_, ?_⟩
        · by_cases e : i = j
          · subst e; rw [upd_same]; exact ⟨slot_new hA hn hoj' hj, [T0], newY v _ hy, fun _ => hno1 hj0⟩
          · have hd := hdi' i hdi e
            obtain ⟨h3, rs2, h4, h5⟩ := hdone i hi hd
            rw [upd_ne _ _ e]
            exact ⟨slot_put hdst hoj' hj i hi e _ h3, rs2, keepY v i rs2 hi hd h4, fun hl => h5 (hlv0 i hl)⟩
        · simp only [Bool.or_eq_false_iff, beq_eq_false_iff_ne, ne_eq] at hdi
          exact hnot i hdi.1 hne
        · simp at hd1
        · exact hcon q hq (hdi' q.1 hd (hnt q hq))
        · refine hS3.perm ?_
          have := (catR_front (rsf := rsf) hj).append_right L
          rw [hno1 hj0] at this
          exact this
      · have hob := allOps_at h 0 l hop j o ho hj
        rw [Nat.zero_add] at hob
        refine opG_mono (hob hnc hji a w' vs hA hSep.right hdeps) (fun v w'' hv => ?_)
        obtain ⟨hext, rs, hy, hnew, hown⟩ := hv
        refine ⟨fr_put hA hfree hn hoj' hj, upd vs j v, upd rsf j rs, fun i hi hdi => ?_, fun i hdi hne => ?_, fun hd1 => ?_, fun q hq hd => ?_, ?_⟩
        · by_cases e : i = j
          · subst e; rw [upd_same]; exact ⟨slot_new hA hn hoj' hj, rs, newY v rs hy, fun _ => upd_same _ _ _⟩
          · have hd := hdi' i hdi e
            obtain ⟨h3, rs2, h4, h5⟩ := hdone i hi hd
            rw [upd_ne _ _ e, upd_ne _ _ e]
            exact ⟨slot_put hdst hoj' hj i hi e _ h3, rs2, keepY v i rs2 hi hd h4, fun hl => h5 (hlv0 i hl)⟩
        · simp only [Bool.or_eq_false_iff, beq_eq_false_iff_ne, ne_eq] at hdi
          rw [upd_ne _ _ hdi.2]; exact hnot i hdi.1 hne
        · simp only [Bool.or_eq_false_iff, beq_eq_false_iff_ne, ne_eq] at hd1
          rw [upd_ne _ _ hd1.2]; exact hno1 hd1.1
        · have hd' := hdi' q.1 hd (hnt q hq)
          have h2 := hjd0 q hq hd'
          rw [upd_ne _ _ (fun e => by rw [e, hj0] at h2; cases h2)]
          exact hcon q hq hd'
        · have h1 := hSep.callS hnew hown
          refine h1.perm ?_
          rw [← List.append_assoc]
          exact (catR_upd rsf j rs (hnot j hj0 hji) h 0 (Nat.zero_le _) (by omega)).append_right L
  · obtain ⟨hA, vs, rsf, hdone, _, _, hcon, hSep⟩ := hI
    refine htail a w' vs rsf hA (fun i hi => ?_) (fun p hp => hcon p hp (hall p.1 (hC p hp).1.1.2)) hSep
    obtain ⟨h3, rs, h4, h5⟩ := hdone i hi (hall i hi)
    exact ⟨h3, rs, h4, fun hc => h5 (hlv hc)⟩
end
end Go.Eng

namespace Go.Eng
open Go.RowKit
section
variable {r : Option Nat} {P : Program} {o : Oper} {a : Act} {w : World}
theorem run_equalIn_pair {t : TypeId} (h : twoInts P t = true) (dp : Nat) (a b c d : Int) (w : World) : (Op.equalIn (dp + 2) t (.agg #[.int .i64 a, .int .i64 b]) (.agg #[.int .i64 c, .int .i64 d])).run P w = .ok (decide (a = c) && decide (b = d)) w := by
  unfold twoInts at h
  cases hu : P.underlying t with
  | none => rw [hu] at h; cases h
  | some u =>
    rw [hu] at h
    cases u with
    | struct fs =>
      dsimp only at h
      have hf : P.fieldsOf t = fs := by simp [Program.fieldsOf, hu]
      cases hfs : fs.toList with
      | nil => rw [hfs] at h; cases h
      | cons f l =>
        rw [hfs] at h
        match l, h, hfs with
        | [g], h, hfs =>
          simp only [Bool.and_eq_true, bne_iff_ne, beq_iff_eq, Bool.not_eq_true'] at h
          obtain ⟨⟨⟨⟨⟨⟨⟨h1, h2⟩, h3⟩, h4⟩, h5⟩, h6⟩, h7⟩, h8⟩ := h
          have hs := run_equalIn_struct (P := P) w (dp + 1) t #[.int .i64 a, .int .i64 b] #[.int .i64 c, .int .i64 d] (by rw [hf]; exact hu) h7
          rw [hs, hf, hfs]
          cases hu1 : P.underlying f.type with
          | none => rw [hu1] at h5; cases h5
          | some u1 =>
            rw [hu1] at h5
            cases u1 with
            | int k1 =>
              cases hu2 : P.underlying g.type with
              | none => rw [hu2] at h6; cases h6
              | some u2 =>
                rw [hu2] at h6
                cases u2 with
                | int k2 =>
                  have p1 : ∀ (x y : Int), (part f.type #[Value.int .i64 x, .int .i64 y] f.offset).run P w = .ok (.int .i64 x) w := fun x y => by
                    rw [h3]; simp [part, isAgg, run_underlying hu1, Sem.run_bind, Sem.run_pure, Result.andThen_ok]
                  have p2 : ∀ (x y : Int), (part g.type #[Value.int .i64 x, .int .i64 y] g.offset).run P w = .ok (.int .i64 y) w := fun x y => by
                    rw [h4]; simp [part, isAgg, run_underlying hu2, Sem.run_bind, Sem.run_pure, Result.andThen_ok]
                  have e1 : (Op.equalIn (dp + 1) f.type (.int .i64 a) (.int .i64 c)).run P w = .ok (a == c) w := run_equalIn_int (P := P) w dp f.type .i64 k1 a c hu1
                  have e2 : (Op.equalIn (dp + 1) g.type (.int .i64 b) (.int .i64 d)).run P w = .ok (b == d) w := run_equalIn_int (P := P) w dp g.type .i64 k2 b d hu2
                  simp only [Op.eqFields, ne_eq, h1, h2, not_false_eq_true, if_true, Sem.run_bind, p1, p2, Result.andThen_ok, e1, e2]
                  by_cases hac : a = c
                  · subst hac
                    by_cases hbd : b = d
                    · subst hbd; simp [p2, e2]
                    · simp [p2, e2, hbd]
                  · simp [hac]
                | _ => cases h6
            | _ => cases h5
        | [], h, _ => cases h
        | _ :: _ :: _, h, _ => cases h
    | _ => cases h
theorem run_isAgg_two {t : TypeId} (h : twoInts P t = true) (w : World) : (isAgg t).run P w = .ok true w := by
  unfold twoInts at h
  cases hu : P.underlying t with
  | none => rw [hu] at h; cases h
  | some u =>
    rw [hu] at h
    cases u with
    | struct fs => simp [isAgg, run_underlying hu]
    | _ => cases h
theorem run_equalIn_pairs (w : World) (d : Nat) {t e n : Nat} (ht : P.underlying t = some (.array n e)) (h2 : twoInts P e = true) (hsz : ∀ w, (sizeOf e).run P w = .ok 2 w)
    (xs ys : List (Int × Int)) (hx : xs.length = n) (hy : ys.length = n) :
    (Op.equalIn (d + 3) t (.agg (pairs xs).toArray) (.agg (pairs ys).toArray)).run P w = .ok ((List.range n).all fun i => decide (xs.getD i (0, 0) = ys.getD i (0, 0))) w := by
  rw [List.range_eq_range', Op.equalIn]
  simp only [Sem.run_bind, run_underlying ht, Result.andThen_ok, hsz, Std.Legacy.Range.forIn_eq_forIn_range', Std.Legacy.Range.size, Nat.sub_zero, Nat.add_sub_cancel, Nat.div_one]
  have hl : ∀ i ∈ List.range' 0 n 1, i < n := fun i hi => by simpa using (List.mem_range'_1.1 hi).2
  generalize List.range' 0 n 1 = l at hl ⊢
  induction l with
  | nil => simp
  | cons i l ih =>
    have hi : i < n := hl i (by simp)
    have pp : ∀ (zs : List (Int × Int)), zs.length = n → (part e (pairs zs).toArray (i * 2)).run P w = .ok (.agg #[.int .i64 (zs.getD i (0, 0)).1, .int .i64 (zs.getD i (0, 0)).2]) w := fun zs hz => by
      have := pairs_all (xs := zs) (i := i) (by omega)
      simp only [part, Sem.run_bind, run_isAgg_two h2, hsz, Result.andThen_ok, if_true, Sem.run_pure, List.extract_toArray, List.extract_eq_take_drop, Nat.add_sub_cancel_left, this]
    have pe : (Op.equalIn (d + 2) e (.agg #[.int .i64 (xs.getD i (0, 0)).1, .int .i64 (xs.getD i (0, 0)).2]) (.agg #[.int .i64 (ys.getD i (0, 0)).1, .int .i64 (ys.getD i (0, 0)).2])).run P w = .ok (decide (xs.getD i (0, 0) = ys.getD i (0, 0))) w := by
      rw [run_equalIn_pair h2]
      congr 1
      rw [Bool.eq_iff_iff]
      simp only [Bool.and_eq_true, decide_eq_true_eq, Prod.ext_iff]
    simp only [List.forIn_cons, Sem.run_bind, pp xs hx, pp ys hy, pe, Result.andThen_ok, List.all_cons]
    cases hb : decide (xs.getD i (0, 0) = ys.getD i (0, 0))
    · simp
    · simp only [Bool.not_true, Bool.false_eq_true, if_false, Sem.run_pure, Result.andThen_ok, Bool.true_and]
      exact ih fun j hj => hl j (by simp [hj])
theorem op_eqlAP {t e n t' : Nat} {x y : Operand} {xs ys : List (Int × Int)} {g : Bool} (ht : P.underlying t = some (.array n e)) (h2 : twoInts P e = true) (hsz : tyK P e = some (g, 2)) (hg : P.eqGuardType P.depth t = false) (ho : o.op = .binOp .eql t x y t')
    (hx : a.eval x = .agg (pairs xs).toArray) (hy : a.eval y = .agg (pairs ys).toArray) (hlx : xs.length = n) (hly : ys.length = n) :
    OpY r P o a w (fun v' w' => v' = .bool (decide (xs = ys)) ∧ w' = w) := by
  have hq : (eqGuard .eql t x y (.agg (pairs xs).toArray) (.agg (pairs ys).toArray)).run P w = .ok () w := by simp [go_sem, hg]
  have he : ((List.range n).all fun i => decide (xs.getD i (0, 0) = ys.getD i (0, 0))) = decide (xs = ys) := by
    rw [Bool.eq_iff_iff, List.all_eq_true, decide_eq_true_eq]
    constructor
    · intro h
      refine List.ext_getElem (hlx.trans hly.symm) fun i h1 h2 => ?_
      have := of_decide_eq_true (h i (List.mem_range.2 (by omega)))
      simpa [List.getD, List.getElem?_eq_getElem h1, List.getElem?_eq_getElem h2] using this
    · intro h i _; rw [h]; exact decide_eq_true rfl
  have hr : (Op.equal t (.agg (pairs xs).toArray) (.agg (pairs ys).toArray)).run P w = .ok (decide (xs = ys)) w := by
    rw [← he]; exact run_equalIn_pairs w 9997 ht h2 (run_sizeOf hsz) xs ys hlx hly
  exact opY_value (v := .bool (decide (xs = ys))) (by rw [ho]; rfl) (by
    simp only [execOp, ho, hx, hy, Sem.run_bind, hq, Result.andThen_ok, binOp, hr, Sem.run_pure]) ⟨rfl, rfl⟩
theorem pairs_takeH (s : List (Int × Int)) (h : Nat) : (pairs s).take (h * 2) = pairs (s.take h) := by
  induction s generalizing h with
  | nil => cases h <;> rfl
  | cons x s ih =>
    cases h with
    | zero => rfl
    | succ h =>
      show (.int .i64 x.1 :: .int .i64 x.2 :: pairs s).take ((h + 1) * 2) = .int .i64 x.1 :: .int .i64 x.2 :: pairs (s.take h)
      rw [show (h + 1) * 2 = h * 2 + 1 + 1 by omega, List.take_succ_cons, List.take_succ_cons, ih]
theorem pairs_all0 {xs : List (Int × Int)} {i : Nat} (h : i < xs.length) : ((pairs xs).drop (0 + i * 2)).take 2 = [.int .i64 (xs.getD i (0, 0)).1, .int .i64 (xs.getD i (0, 0)).2] := by rw [Nat.zero_add]; exact pairs_all h
theorem pairs_setZ (xs : List (Int × Int)) (i : Nat) (a b : Int) : setFrom (pairs xs) (0 + i * 2) [.int .i64 a, .int .i64 b] = pairs (xs.set i (a, b)) := by rw [Nat.zero_add]; exact pairs_set xs i (a, b)
end
end Go.Eng
