/-
  The engine, part MM: a range over an iterator inside another iterator. The outer one's rounds keep Jo, which tells of the world; so the loop's things are told as what Jo says of.
  The engine, part NN: a field of a struct that is no variable.
  The engine, part Y: appends onto an empty slice that was just built (its capacity is 0): always new memory, or nothing is done.
  The engine, part PP: the front of an array in memory, as a slice.
-/
import Derived.Test.YtkkglkdnnfegkaaEnga
import Derived.Laws.Slices
set_option linter.unusedSimpArgs false
set_option linter.unusedVariables false
namespace Go.Eng
open Go.RowKit
section
variable {Jo : Nat → Res → World → Prop} {W W' : World} {A A' D : List Res} {c : Nat}
theorem jU (hD : ∀ k G W, Jo k G W → G.own = true ∧ Sep G.S W W (G :: D)) (h : Jo c (allR A) W) : Sep (allR A).S W W (A ++ D) := (hD _ _ _ h).2.unpack
theorem jW (hJ : ∀ k G W G' W', Jo k G W → Sep G.S W W' [G'] → G'.own = true → Jo k G' W') (h : Jo c (allR A) W) (hS : Sep (allR A).S W W' (A' ++ D)) (ho : ∀ r ∈ A', r.own = true) : Jo c (allR A') W' := hJ _ _ _ _ _ h (hS.pack ho).one rfl
end
def RoundEndsJ (Jo Jox : Nat → Res → World → Prop) (G : Res) (l D : Nat) (Ds : List Nat) (rc : LoopState → Option Code → Loop) (I Ix : Nat → List Res → Prop) (je : Option Code) : Exit → Act → World → Prop
  | .normal, _, W => ∃ c L, I c L ∧ Jo c (allR (obR l (.loop (rc .busy none)) :: marksR (D :: Ds) :: G :: L)) W
  | .ret, _, W => je = some .ret ∧ ∃ c L, Ix c L ∧ Jox c (allR (obR l (.loop (rc .busy none)) :: marksR (D :: Ds) :: G :: L)) W
  | .exit id, _, W => je = some (.exit id) ∧ ∃ c L, Ix c L ∧ Jox c (allR (obR l (.loop (rc .busy none)) :: marksR (D :: Ds) :: G :: L)) W
  | _, _, _ => False
section
variable {Jo Jox : Nat → Res → World → Prop} {G : Res} {l D : Nat} {Ds : List Nat} {rc : LoopState → Option Code → Loop} {I Ix : Nat → List Res → Prop} {je : Option Code} {a : Act} {W : World} {c : Nat} {L : List Res}
theorem rj_n (h : I c L) (hj : Jo c (allR (obR l (.loop (rc .busy none)) :: marksR (D :: Ds) :: G :: L)) W) : RoundEndsJ Jo Jox G l D Ds rc I Ix je .normal a W := ⟨c, L, h, hj⟩
theorem rj_ret (he : je = some .ret) (h : Ix c L) (hj : Jox c (allR (obR l (.loop (rc .busy none)) :: marksR (D :: Ds) :: G :: L)) W) : RoundEndsJ Jo Jox G l D Ds rc I Ix je .ret a W := ⟨he, c, L, h, hj⟩
theorem own_n : ∀ r ∈ ([] : List Res), r.own = true := fun _ h => by cases h
theorem own_c {r : Res} (h : r.own = true) (t : ∀ q ∈ L, q.own = true) : ∀ q ∈ r :: L, q.own = true := fun q hq => by
  rcases List.mem_cons.1 hq with rfl | hq
  · exact h
  · exact t q hq
end
section
variable {P : Program} {Q : Exit → Act → World → Prop} {n : Nat} {ds : List Deferred} {m : List (Nat × Value)}
theorem c_rangeJ {Jo Jox : Nat → Res → World → Prop} {Do : List Res} (hJ : ∀ k G W G' W', Jo k G W → Sep G.S W W' [G'] → G'.own = true → Jo k G' W') (hJx : ∀ k G W G' W', Jox k G W → Sep G.S W W' [G'] → G'.own = true → Jox k G' W')
    (hDo : ∀ k G W, Jo k G W → G.own = true ∧ Sep G.S W W (G :: Do)) (hDox : ∀ k G W, Jox k G W → G.own = true ∧ Sep G.S W W (G :: Do))
    {g : Operand} {ps : Array Tmp} {assign body : Code} {a : Act} {w : World} {Ds : List Nat} {gf : FuncId} {caps : Array Value} (hA : Fr n (marks Ds) m a) (G0 : Res) (hG0 : G0.own = true) (L : List Res) (c0 : Nat) (hj : Jo c0 (allR (marksR Ds :: G0 :: L)) w)
    (hg : a.eval g = .func (.func gf) #[] caps) (hen : ∀ args w, (callFunc gf args).run P w = .ok (.enter gf args) w) (N : Nat) (enc : Nat → Array Value) (hps : ∀ k, (enc k).size = ps.size) (D : List Res) (hD : ∀ r ∈ D, r.own = false) (hit : IterG P gf caps G0 D N enc)
    (I : Nat → Nat → List Res → Prop) (Ix : Nat → List Res → Prop) (hIo : ∀ k c L', I k c L' → ∀ r ∈ L', r.own = true) (hIxo : ∀ c L', Ix c L' → ∀ r ∈ L', r.own = true) (je : Option Code) (h0 : I 0 c0 L)
    (hdata : ∀ k c L', I k c L' → ∀ X W G r1 r2, Sep X W W (r1 :: r2 :: G :: (L' ++ Do)) → Sep X W W (G :: D))
    (hdatax : ∀ c L', Ix c L' → ∀ X W G r1 r2, Sep X W W (r1 :: r2 :: G :: (L' ++ Do)) → Sep X W W (G :: D))
    (hround : ∀ k, k < N → ∀ c L', I k c L' → ∀ (G : Res), G.own = true → ∀ (l D : Nat) (rc : LoopState → Option Code → Loop) (a1 : Act) (W : World), a1 = { tmps := (ps.zip (enc k)).foldl (fun t (p, v) => t.setIfInBounds p v) a.tmps, defers := [] } → Jo c (allR (obR l (.loop (rc .ready none)) :: marksR (D :: Ds) :: G :: L')) W →
      WC (some l) P assign (fun e a2 W2 => e = .normal ∧ ∃ L2, (∀ r ∈ L2, r.own = true) ∧ Jo c (allR (obR l (.loop (rc .ready none)) :: marksR (D :: Ds) :: L2)) W2 ∧ ∀ W3, Jo c (allR (obR l (.loop (rc .busy none)) :: marksR (D :: Ds) :: L2)) W3 → WC (some l) P body (RoundEndsJ Jo Jox G l D Ds rc (I (k + 1)) Ix je) a2 W3) a1 W)
    (hdone : ∀ c L', I N c L' → ∀ (D : Nat) (a' : Act) (W : World), Fr n (marks (D :: Ds)) m a' → Jo c (allR (marksR (D :: Ds) :: G0 :: L')) W → Q .normal a' W)
    (hstop : ∀ cd, je = some cd → ∀ c L', Ix c L' → ∀ (D : Nat) (a' : Act) (W : World), Fr n (marks (D :: Ds)) m a' → Jox c (allR (marksR (D :: Ds) :: G0 :: L')) W → WC none P cd Q a' W) :
    WC none P (.rangeFunc g ps assign body) Q a w := by
  refine wpIn_rangeFunc ?_
  intro fn _
  obtain ⟨rc, hrc⟩ : ∃ rc : LoopState → Option Code → Loop, rc = fun st pe => { state := st, pending := pe, fn, tmps := a.tmps, params := ps, assign, body, defers := w.heap.size } := ⟨_, rfl⟩
  obtain ⟨W1, hW1⟩ : ∃ W1, (w.alloc (.deferred (some []))).alloc (.loop (rc .ready none)) = W1 := ⟨_, rfl⟩
  have hS0 := jU hDo hj
  have hL0 := hIo _ _ _ h0
  have hSd : Sep (allR (marksR Ds :: G0 :: L)).S w (w.alloc (.deferred (some []))) (obR w.heap.size (.deferred (some [])) :: marksR Ds :: G0 :: (L ++ Do)) :=
    hS0.push (Ext.alloc NoB w _) (heap_alloc_new w _) (fun b hb => by cases hb; exact Nat.le_refl _)
  have hSm : Sep (allR (marksR Ds :: G0 :: L)).S w (w.alloc (.deferred (some []))) (marksR (w.heap.size :: Ds) :: G0 :: (L ++ Do)) := by
    refine hSd.join ⟨?_, ?_⟩ (fun b hb => ?_) (fun _ => ⟨rfl, rfl⟩) (fun _ => trivial)
    · rw [List.nodup_cons]
      exact ⟨fun h => by have := hS0.lt (i := 0) rfl (b := w.heap.size) h; omega, (hS0.ok 0 _ rfl : (marksR Ds).p w).1⟩
    · intro D hD
      rcases List.mem_cons.1 hD with rfl | hD
      · exact hSd.ok 0 _ rfl
      · exact (hSd.ok 1 _ rfl : (marksR Ds).p _).2 D hD
    · rcases List.mem_cons.1 hb with rfl | hb
      · exact .inl rfl
      · exact .inr hb
  have hS1 : Sep (allR (marksR Ds :: G0 :: L)).S w W1 (obR (w.heap.size + 1) (.loop (rc .ready none)) :: marksR (w.heap.size :: Ds) :: G0 :: (L ++ Do)) := by
    rw [← hW1]
    have := hSm.push (Ext.alloc NoB _ (.loop (rc .ready none))) (r := obR (w.heap.size + 1) (.loop (rc .ready none))) (by
      have := heap_alloc_new (w.alloc (.deferred (some []))) (.loop (rc .ready none))
      rw [World.size_alloc] at this; exact this) (fun b hb => by cases hb; simp)
    exact this
  have own3 : ∀ {o : Obj} {l : Nat} {D' : List Nat} {G : Res} {L' : List Res}, G.own = true → (∀ r ∈ L', r.own = true) → ∀ r ∈ (obR l o :: marksR D' :: G :: L'), r.own = true := by
    intro o l D' G L' hG hL r hr
    rcases List.mem_cons.1 hr with rfl | hr
    · rfl
    · rcases List.mem_cons.1 hr with rfl | hr
      · rfl
      · rcases List.mem_cons.1 hr with rfl | hr
        · exact hG
        · exact hL r hr
  have hj1 : Jo c0 (allR (obR (w.heap.size + 1) (.loop (rc .ready none)) :: marksR (w.heap.size :: Ds) :: G0 :: L)) W1 := jW hJ hj (A' := obR (w.heap.size + 1) (.loop (rc .ready none)) :: marksR (w.heap.size :: Ds) :: G0 :: L) hS1 (own3 hG0 hL0)
  refine ⟨w.heap.size + 1, [{ target := .collected w.heap.size, args := #[] }], W1, { target := .fn (.func gf) caps, args := #[.func (.yield (w.heap.size + 1)) #[] #[]] }, W1, gf,
    #[.func (.yield (w.heap.size + 1)) #[] #[]] ++ caps, W1, ?_, ?_, fun _ _ => trivial, ?_, fun h => by simp [FR] at h, ?_⟩
  · rw [← hW1, hrc]; exact run_enterLoop_outer _ _ _ _ _
  · simp only [resolve, hg]
    simp [Deferred.ofValue, Act.eval]
  · simp [invoke, hen]
  · refine callsIn_FR ?_
    have swap3 : ∀ {X : Nat → Prop} {w0 W : World} {r1 r2 G : Res} {L' : List Res}, Sep X w0 W (r1 :: r2 :: G :: L') → Sep X w0 W (G :: r1 :: r2 :: L') := fun h => h.perm ((List.Perm.swap _ _ _).trans ((List.Perm.swap _ _ _).cons _))
    have swap3' : ∀ {X : Nat → Prop} {w0 W : World} {r1 r2 G : Res} {L' : List Res}, Sep X w0 W (G :: r1 :: r2 :: L') → Sep X w0 W (r1 :: r2 :: G :: L') := fun h => h.perm (((List.Perm.swap _ _ _).cons _).trans (List.Perm.swap _ _ _))
    refine (hit (w.heap.size + 1) (fun k G W => G.own = true ∧ ∃ c L', I k c L' ∧ Jo c (allR (obR (w.heap.size + 1) (.loop (rc .ready none)) :: marksR (w.heap.size :: Ds) :: G :: L')) W)
      (fun _ G W => G.own = true ∧ ∃ c L' cd, je = some cd ∧ Ix c L' ∧ Jox c (allR (obR (w.heap.size + 1) (.loop (rc .done (some cd))) :: marksR (w.heap.size :: Ds) :: G :: L')) W) W1
      (fun k G W G' W' ⟨ho, c, L', h1, h2⟩ k2 ho' => ⟨ho', c, L', h1, jW hJ h2 (A' := _ :: _ :: G' :: L') (swap3' ((swap3 (jU hDo h2)).work ho k2 ho')) (own3 ho' (hIo _ _ _ h1))⟩)
      (fun k G W G' W' ⟨ho, c, L', cd, h0, h1, h2⟩ k2 ho' => ⟨ho', c, L', cd, h0, h1, jW hJx h2 (A' := _ :: _ :: G' :: L') (swap3' ((swap3 (jU hDox h2)).work ho k2 ho')) (own3 ho' (hIxo _ _ h1))⟩)
      (fun k G W ⟨ho, c, L', h1, h2⟩ => ⟨ho, (hdata k c L' h1 _ W G _ _ (jU hDo h2)).begin hD⟩) (fun k G W ⟨ho, c, L', cd, h0, h1, h2⟩ => ⟨ho, (hdatax c L' h1 _ W G _ _ (jU hDox h2)).begin hD⟩) ⟨hG0, c0, L, h0, hj1⟩ ?_).mono ?_
    · rintro k hk G W ⟨hoG, c, L', hI, hjW⟩
      have hl : W.heap[w.heap.size + 1]? = some (.loop (rc .ready none)) := (jU hDo hjW).ok 0 _ rfl
      have hy := run_yield (P := P) (args := enc k) hl (by rw [hrc]; exact hps k)
      rw [hrc] at hy
      refine ⟨fn, _, assign, body, hy, roundIn_of_wpIn trivial ?_⟩
      have hr := hround k hk c L' hI G hoG (w.heap.size + 1) w.heap.size rc _ W rfl hjW
      refine wpIn_mono hr ?_
      rintro e a2 W2 ⟨rfl, L2, hL2, hj2, hbody⟩
      have hS2 := jU hDo hj2
      have hl2 : W2.heap[w.heap.size + 1]? = some (.loop (rc .ready none)) := hS2.ok 0 _ rfl
      refine ⟨_, run_beginRound hl2 (by rw [hrc]), ?_⟩
      have hS3 := hS2.put (i := 0) rfl (.loop { rc .ready none with state := .busy })
      have hbusy : ({ rc .ready none with state := .busy } : Loop) = rc .busy none := by rw [hrc]
      rw [hbusy] at hS3
      rw [hbusy]
      have own2 : ∀ r ∈ (obR (w.heap.size + 1) (.loop (rc .busy none)) :: marksR (w.heap.size :: Ds) :: L2), r.own = true := by
        intro r hr
        rcases List.mem_cons.1 hr with rfl | hr
        · rfl
        · rcases List.mem_cons.1 hr with rfl | hr
          · rfl
          · exact hL2 r hr
      refine wpIn_mono (hbody _ (jW hJ hj2 (A' := obR (w.heap.size + 1) (.loop (rc .busy none)) :: marksR (w.heap.size :: Ds) :: L2) hS3 own2)) ?_
      rintro e a3 W4 hp
      have put : ∀ (jump : Option Code) {X : Nat → Prop} {w0 : World} {L3 : List Res}, Sep X w0 W4 (obR (w.heap.size + 1) (.loop (rc .busy none)) :: L3) →
          ∃ w', (Instr.endRound (w.heap.size + 1) jump).run P W4 = .ok (.bool jump.isNone) w' ∧ Sep X w0 w' (obR (w.heap.size + 1) (.loop (rc (if jump.isNone then .ready else .done) jump)) :: L3) := by
        intro jump X w0 L3 hS4
        have hl4 : W4.heap[w.heap.size + 1]? = some (.loop (rc .busy none)) := hS4.ok 0 _ rfl
        refine ⟨_, run_endRound jump hl4, ?_⟩
        have := hS4.put (i := 0) rfl (.loop { rc .busy none with state := if jump.isNone then .ready else .done, pending := jump })
        have e2 : ({ rc .busy none with state := if jump.isNone then .ready else .done, pending := jump } : Loop) = rc (if jump.isNone then .ready else .done) jump := by rw [hrc]
        rw [e2] at this ⊢
        exact this
      cases e with
      | normal =>
        obtain ⟨c', L4, hI3, hj4⟩ := hp
        obtain ⟨w', h1, h2⟩ := put none (jU hDo hj4)
        exact ⟨_, w', h1, .inl ⟨rfl, hoG, c', L4, hI3, jW hJ hj4 (A' := _ :: _ :: G :: L4) h2 (own3 hoG (hIo _ _ _ hI3))⟩⟩
      | ret =>
        obtain ⟨hje, c', L4, hI3, hj4⟩ := hp
        obtain ⟨w', h1, h2⟩ := put (some .ret) (jU hDox hj4)
        exact ⟨_, w', h1, .inr ⟨rfl, hoG, c', L4, _, hje, hI3, jW hJx hj4 (A' := _ :: _ :: G :: L4) h2 (own3 hoG (hIxo _ _ hI3))⟩⟩
      | exit id =>
        obtain ⟨hje, c', L4, hI3, hj4⟩ := hp
        obtain ⟨w', h1, h2⟩ := put (some (.exit id)) (jU hDox hj4)
        exact ⟨_, w', h1, .inr ⟨rfl, hoG, c', L4, _, hje, hI3, jW hJx hj4 (A' := _ :: _ :: G :: L4) h2 (own3 hoG (hIxo _ _ hI3))⟩⟩
      | goto t => exact hp.elim
      | panic c => exact hp.elim
      | outgrown => exact hp.elim
    · rintro e W' he
      cases e with
      | panicked c => exact he.elim
      | outgrown => exact he.elim
      | returned v =>
        have hfr : Fr n (marks (w.heap.size :: Ds)) m { a with defers := [{ target := .collected w.heap.size, args := #[] }] ++ a.defers } := ⟨hA.1, by simp [marks, hA.2.1], hA.2.2⟩
        have ownM : ∀ {D' : List Nat} {L' : List Res}, (∀ r ∈ L', r.own = true) → ∀ r ∈ (marksR D' :: G0 :: L'), r.own = true := by
          intro D' L' hL r hr
          rcases List.mem_cons.1 hr with rfl | hr
          · rfl
          · rcases List.mem_cons.1 hr with rfl | hr
            · exact hG0
            · exact hL r hr
        rcases he with ⟨_, c, L', hI, hjW⟩ | ⟨_, _, c, L', cd, hje, hI, hjW⟩
        · have hSW := jU hDo hjW
          have hl : W'.heap[w.heap.size + 1]? = some (.loop (rc .ready none)) := hSW.ok 0 _ rfl
          refine ⟨_, _, run_endLoop hl (by rw [hrc]; simp), ?_⟩
          have e1 : (rc .ready none).pending = none := by rw [hrc]
          rw [e1]
          exact hdone c L' hI _ _ _ hfr (jW hJ hjW (A' := marksR (w.heap.size :: Ds) :: G0 :: L') (hSW.put (i := 0) rfl _).tail (ownM (hIo _ _ _ hI)))
        · have hSW := jU hDox hjW
          have hl : W'.heap[w.heap.size + 1]? = some (.loop (rc .done (some cd))) := hSW.ok 0 _ rfl
          refine ⟨_, _, run_endLoop hl (by rw [hrc]; simp), ?_⟩
          have e1 : (rc .done (some cd)).pending = some cd := by rw [hrc]
          rw [e1]
          exact hstop cd hje c L' hI _ _ _ hfr (jW hJx hjW (A' := marksR (w.heap.size :: Ds) :: G0 :: L') (hSW.put (i := 0) rfl _).tail (ownM (hIxo _ _ hI)))
end
end Go.Eng

namespace Go.Eng
open Go.RowKit
section
variable {r : Option Nat} {P : Program} {o : Oper} {a : Act} {w : World}
theorem op_fieldV {t f : Nat} {x : Operand} {u v : Value} (ho : o.op = .field t x f) (hx : a.eval x = u) (hr : ∀ w, (Instr.field t u f).run P w = .ok v w) : OpY r P o a w (fun v' w' => v' = v ∧ w' = w) :=
  opY_value (v := v) (by rw [ho]; rfl) (by simp only [execOp, ho, hx, Sem.run_bind, hr, Result.andThen_ok, Sem.run_pure]) ⟨rfl, rfl⟩
end
end Go.Eng

namespace Go.Eng
section
variable {r : Option Nat} {P : Program} {o : Oper} {a : Act} {w w0 : World} {X : Nat → Prop} {L : List Res} {y : List Res → Value → Prop}
end
end Go.Eng

namespace Go.Eng
open Go.RowKit
section
variable {r : Option Nat} {P : Program} {o : Oper} {a : Act} {w : World}
end
end Go.Eng
