/-
  The engine, part A: a small calculus for walking a function's code with an opaque frame and an opaque world (facts on the frame: 'Fr'; on the memory: 'Sep', part B). Generic over the program.
  The engine, part B: memory. 'Ext X w w'': nothing that lay in w has changed in w', but for the blocks X. 'Res': a thing in memory with its footprint. 'Sep X w0 w L': the world w as a function that began in w0 knows it.
  The engine, part C: the operations, one lemma each. Generic over the program; what is asked of a type is a closed fact on the program's table.
  The engine, part D: operations that make or write memory; calls.
  The engine, part E: a region that draws its order. Every operation of its head is told by what it yields ('φ'), whatever the order; the tail comes in the order of the text.
  The engine, part F: small lemmas for the printed walks: operands, slices by their content, ends of functions, ways out of blocks, scopes.
  The engine, part G: lists of numbers and of pairs as cells.
  The engine, part H: drawn regions, in the form that is printed.
  The engine, part I: min and max; indexes; small facts that printed walks use.
  The engine, part J: functions handed over; the first index; read-only blocks.
  The engine, part K: a map that remembers answers: each entry (key, value) is in the relation K.
  The engine, part L: a range over a function. The iterator's contract: it hands over the elements 0 .. N - 1 in order, whatever the rounds do, as long as each keeps J; a round may say 'no more'.
  The engine, part M: rows told in other words; nil rows; bools.
  The engine, part N: a slice held against nil; rows handed back.
  The engine, part O: how a round's body is left.
  The engine, part P: keys that are arrays of bools; a lookup that is settled ahead of the region in which it stands.
  The engine, part Q: a drawn region that hands a new row on.
  The engine, part R: calls that write to what is handed over; an append that may write in place, in a drawn region.
  The engine, part S: a slice built round a new row; lists of lists told in other words.
  The engine, part T: structs of two ints compared; slices of the function's own that are only read; things told as read-only.
  The engine, part U: drawn regions whose operations make new memory, several of them: each operation yields a value and new things, told in terms of what the others have yielded.
  The engine, part LL: a range over an iterator that has memory of its own (what it is lent, and what it makes), or that is called by another iterator. What the iterator owns is told as one thing, G, beside what the loop owns.
  The engine, part X: drawn regions in which one operation without effect may come before or after a store.
  The engine, part Z: drawn regions in which operations without effect may come before or after a store.
  The engine, part KK: keys that are arrays of numbers; structs of three cells.
  The engine: short forms of its rules, for walks that are printed.
  The engine: short forms for drawn regions whose operations make things; things chosen out of many.
  The engine, part V: small words: shifts, bits, conversions.
  The engine: shifts of plain numbers.
  The engine: lists of cells told by their index.
  The engine, part AA: slices of slices.
  The engine, part CC: an append onto a slice that is full and not the function's own; slices that are made.
  The engine, part BB: drawn regions in which one operation takes a new thing of another and gives one of its own for it (an append onto what an append has given).
  The engine, part QQ: drawn regions in which some operations take a new thing of another and give one of their own for it (appends onto what appends have given).
  The engine, part MM: a range over an iterator inside another iterator. The outer one's rounds keep Jo, which tells of the world; so the loop's things are told as what Jo says of.
  The engine, part NN: a field of a struct that is no variable.
  The engine, part PP: the front of an array in memory, as a slice.
  The engine: as c_drawCC, but the slots of what is taken stay known (a store fills the block of an alloc in the same drawn region).
  The engine, part AE: a drawn region with two appends onto rows of the function's own, whose head ends in a store that one operation without effect may follow.
  The engine, part AF: maps from numbers, of which it is known what may stand in them.
-/
import Derived.WalkKit
import Derived.OrdersIn
import Derived.RangeFuncNested
import Derived.DefersIn
import Derived.Maps.AppendAt
import Derived.StillTail
import Derived.Scope
import Derived.RangeFuncLeaves
import Derived.Lib.SliceRun
import Derived.Laws.StructEq
import Derived.Laws.Slices
import Derived.Laws.OwnMore
set_option linter.unusedSimpArgs false
set_option linter.unusedVariables false
namespace Go.Eng
def FR (r : Option Nat) : Fence := { fn := fun _ => True, depth := none, alive := false, round := r }
theorem callsIn_FR {r : Option Nat} {n : Nat} {P : Program} {f : FuncId} {args : Array Value} {w : World} {R : Ending → World → Prop}
    (h : Calls P f args w R) : CallsIn (FR r) n P f args w R := (callsIn_wide (n := n)).2 h
theorem calls_of_FR {r : Option Nat} {n : Nat} {P : Program} {f : FuncId} {args : Array Value} {w : World} {R : Ending → World → Prop}
    (h : CallsIn (FR r) n P f args w R) : Calls P f args w R := (callsIn_wide (n := n)).1 h
def Ret (R : Value → World → Prop) : Ending → World → Prop
  | .returned v, w => R v w
  | _, _ => False
theorem Ret.mono {R R' : Value → World → Prop} (h : ∀ v w, R v w → R' v w) : ∀ e w, Ret R e w → Ret R' e w
  | .returned _, _, h' => h _ _ h'
def Fr (n : Nat) (ds : List Deferred) (m : List (Nat × Value)) (a : Act) : Prop :=
  a.tmps.size = n ∧ a.defers = ds ∧ ∀ i v, m.lookup i = some v → a.tmps[i]? = some v
section
variable {n : Nat} {ds : List Deferred} {m : List (Nat × Value)} {a : Act}
theorem Fr.ev (h : Fr n ds m a) {i : Nat} {v : Value} (hi : m.lookup i = some v) : a.eval (.tmp i) = v := by
  have := h.2.2 i v hi
  simp [Act.eval, this]
theorem Fr.put (h : Fr n ds m a) {d : Nat} (hd : d < n) (v : Value) : Fr n ds ((d, v) :: m) (a.put (some d) v) := by
  refine ⟨by simp [Act.put, h.1], by simp [Act.put, h.2.1], fun i u hi => ?_⟩
  simp only [Act.put]
  by_cases he : i = d
  · subst he
    simp only [List.lookup, beq_self_eq_true, Option.some.injEq] at hi
    subst hi
    rw [Array.getElem?_setIfInBounds_self_of_lt (by rw [h.1]; exact hd)]
  · have hb : (i == d) = false := by simpa using he
    simp only [List.lookup, hb] at hi
    rw [Array.getElem?_setIfInBounds_ne (fun e => he e.symm)]
    exact h.2.2 i u hi
theorem Fr.put_none (h : Fr n ds m a) (v : Value) : Fr n ds m (a.put none v) := h
theorem Fr.mono (h : Fr n ds m a) {m' : List (Nat × Value)} (hm : ∀ i v, m'.lookup i = some v → m.lookup i = some v) : Fr n ds m' a :=
  ⟨h.1, h.2.1, fun i v hi => h.2.2 i v (hm i v hi)⟩
def m_4 (m : List (Nat × Value)) : List Nat → List (Nat × Value)
  | [] => []
  | i :: is => match m.lookup i with
    | some v => (i, v) :: m_4 m is
    | none => m_4 m is
theorem l_6 (m : List (Nat × Value)) : ∀ (is : List Nat) (i : Nat) (v : Value), (m_4 m is).lookup i = some v → m.lookup i = some v
  | [], i, v, h => by simp [m_4] at h
  | j :: is, i, v, h => by
    unfold m_4 at h
    split at h
    · rename_i u hu
      by_cases e : i = j
      · subst e
        simp only [List.lookup, beq_self_eq_true, Option.some.injEq] at h
        subst h; exact hu
      · have hb : (i == j) = false := by simpa using e
        simp only [List.lookup, hb] at h
        exact l_6 m is i v h
    · exact l_6 m is i v h
theorem Fr.keep (h : Fr n ds m a) (is : List Nat) : Fr n ds (m_4 m is) a := h.mono (l_6 m is)
theorem Fr.as (h : Fr n ds m a) (m' : List (Nat × Value)) (hm : m_4 m (m'.map (·.1)) = m') : Fr n ds m' a := hm ▸ h.keep _
theorem Fr.enter (args : Array Value) (k : Nat) : Fr (args.size + (k - args.size)) [] (args.toList.zipIdx.map fun p => (p.2, p.1)) { tmps := args ++ Array.replicate (k - args.size) undef, defers := [] } := by
  refine ⟨by simp, rfl, fun i v hi => ?_⟩
  have key : ∀ (l : List Value) (s i : Nat) (v : Value), ((l.zipIdx s).map fun p => (p.2, p.1)).lookup i = some v → s ≤ i ∧ l[i - s]? = some v := by
    intro l
    induction l with
    | nil => intro s i v h; simp at h
    | cons x l ih =>
      intro s i v h
      simp only [List.zipIdx_cons, List.map_cons] at h
      by_cases e : i = s
      · subst e
        simp only [List.lookup, beq_self_eq_true, Option.some.injEq] at h
        subst h; simp
      · have hb : (i == s) = false := by simpa using e
        simp only [List.lookup, hb] at h
        obtain ⟨h1, h2⟩ := ih (s + 1) i v h
        refine ⟨by omega, ?_⟩
        have : i - s = (i - (s + 1)) + 1 := by omega
        rw [this, List.getElem?_cons_succ]; exact h2
  obtain ⟨_, h2⟩ := key _ 0 i v hi
  have h3 : args[i]? = some v := by simpa using h2
  have hlt := (Array.getElem?_eq_some_iff.1 h3).1
  simp only [Array.getElem?_append, hlt, if_true]
  exact h3
end
def OpY (r : Option Nat) (P : Program) (o : Oper) (a : Act) (w : World) (R : Value → World → Prop) : Prop :=
  ∀ (K : Act → World → Prop) (Q : Exit → Act → World → Prop), (∀ v w', R v w' → K (a.put o.dst v) w') → o.wpIn (FR r) 0 P a w K Q
section
variable {r : Option Nat} {P : Program} {o : Oper} {a : Act} {w : World} {R : Value → World → Prop}
theorem n_4 {R' : Value → World → Prop} (h : OpY r P o a w R) (hr : ∀ v w', R v w' → R' v w') : OpY r P o a w R' :=
  fun K Q hK => h K Q fun v w' hv => hK v w' (hr v w' hv)
def notDefer : Op → Bool
  | .defer _ => false
  | _ => true
theorem l_4 (ro : Option Nat) (ρ : Operand → Value) (o : Oper) (h : notDefer o.op = true) : Oper.semAt ro ρ o = execOp ρ o :=
  Oper.semAt_eq ro ρ o (fun c e => by rw [e] at h; cases h)
theorem c_8 {v : Value} {w' : World} (hd : notDefer o.op = true) (hrun : (execOp a.eval o).run P w = .ok (.value v) w') (hR : R v w') : OpY r P o a w R := by
  intro K Q hK
  refine ⟨fun _ _ => trivial, ?_⟩
  rw [l_4 _ _ _ hd, hrun]
  exact hK v w' hR
theorem opY_skip {w' : World} (hd : notDefer o.op = true) (hrun : (execOp a.eval o).run P w = .ok .skip w') (hR : R undef w') : OpY r P o a w R := by
  intro K Q hK
  refine ⟨fun _ _ => trivial, ?_⟩
  rw [l_4 _ _ _ hd, hrun]
  exact hK undef w' hR
theorem opY_enter {f : FuncId} {args : Array Value} {w' : World} (hd : notDefer o.op = true) (hrun : (execOp a.eval o).run P w = .ok (.enter f args) w')
    (hc : Calls P f args w' (Ret R)) : OpY r P o a w R := by
  intro K Q hK
  refine ⟨fun _ _ => trivial, ?_⟩
  rw [l_4 _ _ _ hd, hrun]
  refine ⟨fun h => by simp [FR] at h, callsIn_FR (hc.mono fun e w'' he => ?_)⟩
  cases e with
  | returned v => exact hK v w'' he
  | panicked c => exact he.elim
  | outgrown => exact he.elim
end
abbrev WL (r : Option Nat) (P : Program) (ops : Array Oper) (Q : Exit → Act → World → Prop) : List Oper → Act → World → Prop := wpListIn (FR r) 0 P ops Q
abbrev WC (r : Option Nat) (P : Program) (c : Code) (Q : Exit → Act → World → Prop) (a : Act) (w : World) : Prop := c.wpIn (FR r) 0 P Q a w
section
variable {r : Option Nat} {P : Program} {ops : Array Oper} {Q : Exit → Act → World → Prop} {o : Oper} {rest : List Oper} {a : Act} {w : World} {R : Value → World → Prop}
variable {n : Nat} {ds : List Deferred} {m : List (Nat × Value)}
theorem wl_op (hg : o.guard = none) (h : OpY r P o a w R) (k : ∀ v w', R v w' → WL r P ops Q rest (a.put o.dst v) w') : WL r P ops Q (o :: rest) a w := by
  refine wpListIn_plain hg fun K hK => ?_
  exact h K Q fun v w' hv => hK _ _ (k v w' hv)
theorem wl_guard {j : Nat} {b : Bool} {t : Nat} (hg : o.guard = some (j, b)) (hj : (ops[j]?).bind (·.dst) = some t) (ht : a.eval (.tmp t) = .bool b)
    (h : OpY r P o a w R) (k : ∀ v w', R v w' → WL r P ops Q rest (a.put o.dst v) w') : WL r P ops Q (o :: rest) a w := by
  refine wpListIn_step fun K hK => ?_
  have hw : Region.wanted o (yielded ops a.tmps) = true := by
    have : a.tmps[t]? = some (.bool b) := by
      simp only [Act.eval] at ht
      rcases hh : a.tmps[t]? with _ | u
      · simp [hh, undef] at ht
      · simp [hh] at ht; rw [ht]
    simp [Region.wanted, hg, yielded, hj, this]
  rw [if_pos hw]
  exact h K Q fun v w' hv => hK _ _ (k v w' hv)
theorem wl_skip {j : Nat} {b b' : Bool} {t : Nat} (hg : o.guard = some (j, b)) (hj : (ops[j]?).bind (·.dst) = some t) (ht : a.eval (.tmp t) = .bool b') (hne : (b' == b) = false)
    (k : WL r P ops Q rest (a.put o.dst undef) w) : WL r P ops Q (o :: rest) a w := by
  refine wpListIn_step fun K hK => ?_
  have hw : Region.wanted o (yielded ops a.tmps) = false := by
    have : a.tmps[t]? = some (.bool b') := by
      simp only [Act.eval] at ht
      rcases hh : a.tmps[t]? with _ | u
      · simp [hh, undef] at ht
      · simp [hh] at ht; rw [ht]
    simp [Region.wanted, hg, yielded, hj, this]
    simpa using hne
  rw [if_neg (by simp [hw])]
  exact ⟨fun _ _ => trivial, hK _ _ k⟩
theorem wl_skipU {j : Nat} {b : Bool} {t : Nat} (hg : o.guard = some (j, b)) (hj : (ops[j]?).bind (·.dst) = some t) (ht : a.eval (.tmp t) = undef)
    (k : WL r P ops Q rest (a.put o.dst undef) w) : WL r P ops Q (o :: rest) a w := by
  refine wpListIn_step fun K hK => ?_
  have hw : Region.wanted o (yielded ops a.tmps) = false := by
    simp only [Act.eval] at ht
    rcases hh : a.tmps[t]? with _ | u
    · simp [Region.wanted, hg, yielded, hj, hh]
    · simp [hh, undef] at ht; subst ht; simp [Region.wanted, hg, yielded, hj, hh]
  rw [if_neg (by simp [hw])]
  exact ⟨fun _ _ => trivial, hK _ _ k⟩
theorem st {v : Value} {d : Nat} (hA : Fr n ds m a) (h : OpY r P o a w (fun v' w' => v' = v ∧ w' = w)) (hg : o.guard = none) (hd : o.dst = some d) (hlt : d < n)
    (k : ∀ a', Fr n ds ((d, v) :: m) a' → WL r P ops Q rest a' w) : WL r P ops Q (o :: rest) a w :=
  wl_op hg h fun v' w' ⟨hv, hw⟩ => by subst hv; subst hw; rw [hd]; exact k _ (hA.put hlt v')
theorem stg {v : Value} {d j t : Nat} {b : Bool} (hA : Fr n ds m a) (h : OpY r P o a w (fun v' w' => v' = v ∧ w' = w)) (hg : o.guard = some (j, b)) (hj : (ops[j]?).bind (·.dst) = some t) (ht : m.lookup t = some (.bool b)) (hd : o.dst = some d) (hlt : d < n)
    (k : ∀ a', Fr n ds ((d, v) :: m) a' → WL r P ops Q rest a' w) : WL r P ops Q (o :: rest) a w :=
  wl_guard hg hj (hA.ev ht) h fun v' w' ⟨hv, hw⟩ => by subst hv; subst hw; rw [hd]; exact k _ (hA.put hlt v')
theorem stw {d : Nat} (hA : Fr n ds m a) (h : OpY r P o a w R) (hg : o.guard = none) (hd : o.dst = some d) (hlt : d < n)
    (k : ∀ a' v w', R v w' → Fr n ds ((d, v) :: m) a' → WL r P ops Q rest a' w') : WL r P ops Q (o :: rest) a w :=
  wl_op hg h fun v' w' hv => by rw [hd]; exact k _ v' w' hv (hA.put hlt v')
theorem stwg {d j t : Nat} {b : Bool} (hA : Fr n ds m a) (h : OpY r P o a w R) (hg : o.guard = some (j, b)) (hj : (ops[j]?).bind (·.dst) = some t) (ht : m.lookup t = some (.bool b)) (hd : o.dst = some d) (hlt : d < n)
    (k : ∀ a' v w', R v w' → Fr n ds ((d, v) :: m) a' → WL r P ops Q rest a' w') : WL r P ops Q (o :: rest) a w :=
  wl_guard hg hj (hA.ev ht) h fun v' w' hv => by rw [hd]; exact k _ v' w' hv (hA.put hlt v')
theorem sts (hA : Fr n ds m a) (h : OpY r P o a w R) (hg : o.guard = none) (hd : o.dst = none)
    (k : ∀ v w', R v w' → Fr n ds m a → WL r P ops Q rest a w') : WL r P ops Q (o :: rest) a w :=
  wl_op hg h fun v' w' hv => by rw [hd]; exact k v' w' hv hA
theorem skp {d j t : Nat} {b b' : Bool} (hA : Fr n ds m a) (hg : o.guard = some (j, b)) (hj : (ops[j]?).bind (·.dst) = some t) (ht : m.lookup t = some (.bool b')) (hne : (b' == b) = false) (hd : o.dst = some d) (hlt : d < n)
    (k : ∀ a', Fr n ds ((d, undef) :: m) a' → WL r P ops Q rest a' w) : WL r P ops Q (o :: rest) a w :=
  wl_skip hg hj (hA.ev ht) hne (by rw [hd]; exact k _ (hA.put hlt undef))
theorem skpU {d j t : Nat} {b : Bool} (hA : Fr n ds m a) (hg : o.guard = some (j, b)) (hj : (ops[j]?).bind (·.dst) = some t) (ht : m.lookup t = some undef) (hd : o.dst = some d) (hlt : d < n)
    (k : ∀ a', Fr n ds ((d, undef) :: m) a' → WL r P ops Q rest a' w) : WL r P ops Q (o :: rest) a w :=
  wl_skipU hg hj (hA.ev ht) (by rw [hd]; exact k _ (hA.put hlt undef))
theorem d_0 (h : Q .normal a w) : WL r P ops Q [] a w := h
end
section
variable {r : Option Nat} {P : Program} {Q : Exit → Act → World → Prop} {a : Act} {w : World}
variable {n : Nat} {ds : List Deferred} {m : List (Nat × Value)}
theorem a_5 {id : Nat} {l : List Oper} (h : WL r P l.toArray Q l a w) : WC r P (.region id l.toArray false) Q a w := wpIn_region_lit h
theorem b_6 {x y : Code} (h : WC r P x (Exit.then (WC r P y Q) Q) a w) : WC r P (.seq x y) Q a w := wpIn_seq h
theorem c_0 (h : Q .normal a w) : WC r P .skip Q a w := wpIn_skip h
theorem c_label {l : Nat} (h : Q .normal a w) : WC r P (.label l) Q a w := wpIn_label h
theorem g_5 {id : Nat} (h : Q (.exit id) a w) : WC r P (.exit id) Q a w := wpIn_exit h
theorem c_3 (h : Q .ret a w) : WC r P .ret Q a w := wpIn_ret h
theorem c_9 {id : Nat} {c : Code} (h : WC r P c (Exit.inBlock id Q) a w) : WC r P (.block id c) Q a w := wpIn_block h
theorem c_1 {t : Nat} {x y : Code} (hA : Fr n ds m a) (ht : m.lookup t = some (.bool true)) (h : WC r P x Q a w) : WC r P (.cond (.tmp t) x y) Q a w := wpIn_cond_true (hA.ev ht) h
theorem b_3 {t : Nat} {x y : Code} (hA : Fr n ds m a) (ht : m.lookup t = some (.bool false)) (h : WC r P y Q a w) : WC r P (.cond (.tmp t) x y) Q a w := wpIn_cond_false (hA.ev ht) h
theorem g_6 {G : Type} {c : Code} (I : G → Act → World → Prop) (μ : G → Nat) (g₀ : G) (h₀ : I g₀ a w)
    (round : ∀ g a w, I g a w → WC r P c (Exit.then (fun a' w' => ∃ g', I g' a' w' ∧ μ g' < μ g) Q) a w) : WC r P (.loop c) Q a w := by
  intro b k cs hro hb hr
  have key : ∀ j g a w, μ g = j → I g a w →
      ∃ e a' w', Q e a' w' ∧ ArrivesIn (Machine.fenced P (FR r)) P (lone (b.atR a (.code c :: .inLoop c :: k)) cs w) b k cs e a' w' := by
    intro j
    induction j using Nat.strongRecOn with
    | _ j ih =>
      intro g a w hj hI
      obtain ⟨e, a₁, w₁, hq, harr⟩ := round g a w hI b (.inLoop c :: k) cs hro hb hr
      cases e with
      | normal =>
        obtain ⟨g', hI', hlt⟩ := hq
        obtain ⟨e₂, a₂, w₂, hq₂, harr₂⟩ := ih (μ g') (hj ▸ hlt) g' a₁ w₁ rfl hI'
        exact ⟨e₂, a₂, w₂, hq₂, .of_steps (StepsIn.trans harr (.one (fenced_calm hb hr rfl) stepR_inLoop)) harr₂⟩
      | exit id => exact ⟨_, a₁, w₁, hq, .pass (x := .inLoop c) rfl (fun _ _ => .inl (by simp)) harr⟩
      | goto l => exact ⟨_, a₁, w₁, hq, .pass (x := .inLoop c) rfl (fun _ _ => .inl (by simp)) harr⟩
      | ret => exact ⟨_, a₁, w₁, hq, .pass (x := .inLoop c) rfl (fun _ _ => .inl (by simp)) harr⟩
      | panic ch => exact ⟨_, a₁, w₁, hq, .pass (x := .inLoop c) rfl (fun _ _ => .inl (by simp)) harr⟩
      | outgrown => exact ⟨_, a₁, w₁, hq, .pass (x := .inLoop c) rfl (fun _ _ => .inl (by simp)) harr⟩
  obtain ⟨e, a', w', hq, harr⟩ := key _ g₀ a w rfl h₀
  exact ⟨e, a', w', hq, .of_steps (.one (fenced_calm hb hr rfl) stepR_loop) harr⟩
end
theorem b_2 {P : Program} {f : FuncId} {fn : Func} {c : Code} {args : Array Value} {w : World} {R : Value → World → Prop}
    (hf : P.funcs[f]? = some fn) (hb : fn.body = some c)
    (h : ∀ a, Fr (args.size + (fn.ntmps - args.size)) [] (args.toList.zipIdx.map fun p => (p.2, p.1)) a → WC none P c (bodyPost P fn (Ret R)) a w) : Calls P f args w (Ret R) :=
  calls_of_FR (r := none) (n := 0) (callsIn_of_wp hf hb trivial (h _ (Fr.enter args fn.ntmps)))
end Go.Eng

namespace Go.Eng
open Go.RowKit
structure Ext (X : Nat → Prop) (w w' : World) : Prop where
  os : w'.os = w.os
  tape : w'.tape = w.tape
  output : w'.output = w.output
  size : w.heap.size ≤ w'.heap.size
  keep : ∀ b, b < w.heap.size → ¬ X b → w'.heap[b]? = w.heap[b]?
def NoB : Nat → Prop := fun _ => False
theorem Ext.refl (X : Nat → Prop) (w : World) : Ext X w w := ⟨rfl, rfl, rfl, Nat.le_refl _, fun _ _ _ => rfl⟩
theorem Ext.trans' {X Y : Nat → Prop} {w w1 w2 : World} (h : Ext X w w1) (k : Ext Y w1 w2) (hY : ∀ b, Y b → X b ∨ w.heap.size ≤ b) : Ext X w w2 :=
  ⟨k.os.trans h.os, k.tape.trans h.tape, k.output.trans h.output, Nat.le_trans h.size k.size, fun b hb hx =>
    (k.keep b (Nat.lt_of_lt_of_le hb h.size) (fun hy => (hY b hy).elim hx (fun h' => by omega))).trans (h.keep b hb hx)⟩
theorem Ext.trans {X : Nat → Prop} {w w1 w2 : World} (h : Ext X w w1) (k : Ext X w1 w2) : Ext X w w2 := h.trans' k fun _ hb => .inl hb
theorem Ext.mono {X Y : Nat → Prop} {w w' : World} (h : Ext X w w') (hXY : ∀ b, X b → Y b) : Ext Y w w' :=
  ⟨h.os, h.tape, h.output, h.size, fun b hb hy => h.keep b hb fun hx => hy (hXY b hx)⟩
theorem Ext.thenNo {X : Nat → Prop} {w w1 w2 : World} (h : Ext X w w1) (k : Ext NoB w1 w2) : Ext X w w2 := h.trans' k fun _ hb => hb.elim
theorem Ext.alloc (X : Nat → Prop) (w : World) (o : Obj) : Ext X w (w.alloc o) :=
  ⟨rfl, rfl, rfl, by simp, fun b hb _ => Below.heap_alloc w o b hb⟩
theorem Ext.setCell {X : Nat → Prop} (w : World) (p : Addr) (v : Value) (h : X p.block) : Ext X w (w.setCell p v) :=
  ⟨rfl, rfl, rfl, by simp [World.setCell], fun b _ hx => Below.heap_setCell w p v b (fun e => hx (by rw [e]; exact h))⟩
theorem Ext.drewN (X : Nat → Prop) (w : World) (k : Nat) : Ext X w { w with drawn := w.drawn + k } := ⟨rfl, rfl, rfl, Nat.le_refl _, fun _ _ _ => rfl⟩
theorem Ext.below {w w' : World} (h : Ext NoB w w') : Below w.heap.size w w' := ⟨h.os, h.tape, h.output, h.size, fun b hb => h.keep b hb (fun hf => hf)⟩
theorem Ext.of_grownBy {w w' : World} {row : Option Nat} (h : w.grownBy w' row) : Ext (fun b => row = some b) w w' :=
  ⟨h.os, h.tape, h.output, h.size, fun b hb hx => h.block b hb (fun e => hx e.symm)⟩
structure Res where
  S : Nat → Prop
  p : World → Prop
  own : Bool
  stable : ∀ w w', p w → (∀ b, S b → w'.heap[b]? = w.heap[b]?) → p w'
  lt : ∀ w b, p w → S b → b < w.heap.size
theorem lt_of_heap {w : World} {b : Nat} {o : Obj} (h : w.heap[b]? = some o) : b < w.heap.size := (Array.getElem?_eq_some_iff.1 h).1
def blk (b : Nat) (t : TypeId) (cs : List Value) : Res where
  S := fun k => k = b
  p := fun w => w.heap[b]? = some (.cells cs.toArray t (0, 0))
  own := true
  stable := fun _ _ h k => (k b rfl).trans h
  lt := fun _ _ h e => by subst e; exact lt_of_heap h
def SlAt (w : World) (v : Value) (sz n : Nat) (cs : List Value) : Prop :=
  cs.length = n * sz ∧ ∃ A cap, v = .slice A n cap ∧ n ≤ cap ∧ cap ≤ maxLen ∧ (cs ≠ [] → ∃ ad, A = some ad ∧ ∀ j u, cs[j]? = some u → w.cell? (ad.add j) = some u)
theorem addr_add_block (a : Addr) (n : Nat) : (a.add n).block = a.block := by unfold Addr.add; split <;> rfl
theorem addr_add_add (a : Addr) (i j : Nat) : (a.add i).add j = a.add (i + j) := by
  unfold Addr.add
  by_cases hi : i = 0 <;> by_cases hj : j = 0 <;> simp [hi, hj, Nat.add_assoc]
theorem cell_lt {w : World} {p : Addr} {v : Value} (h : w.cell? p = some v) : p.block < w.heap.size := by
  unfold World.cell? at h
  split at h
  · rename_i hh; exact lt_of_heap hh
  · cases h
def slFoot (v : Value) (cs : List Value) (b : Nat) : Prop := cs ≠ [] ∧ ∃ ad n c, v = .slice (some ad) n c ∧ b = ad.block
def sl (v : Value) (sz n : Nat) (cs : List Value) : Res where
  S := slFoot v cs
  p := fun w => SlAt w v sz n cs
  own := false
  stable := fun w w' h k => by
    obtain ⟨hl, A, cap, hv, h1, h2, h3⟩ := h
    refine ⟨hl, A, cap, hv, h1, h2, fun hne => ?_⟩
    obtain ⟨ad, hA, hc⟩ := h3 hne
    refine ⟨ad, hA, fun j u hu => ?_⟩
    rw [← hc j u hu]
    exact World.cell?_of_block (k _ ⟨hne, ad, n, cap, by rw [hv, hA], addr_add_block ad j⟩)
  lt := fun w b h hb => by
    obtain ⟨hl, A, cap, hv, h1, h2, h3⟩ := h
    obtain ⟨hne, ad, n', c', hv', rfl⟩ := hb
    obtain ⟨ad', hA, hc⟩ := h3 hne
    subst hA
    rw [hv] at hv'
    cases hv'
    match cs, hne with
    | u :: _, _ =>
      have := cell_lt (hc 0 u rfl)
      rwa [addr_add_block] at this
def row (v : Value) (e : TypeId) (sz n : Nat) (xs : List Value) : Res where
  S := fun b => v.ownBlock = some b
  p := fun w => w.ownsRow 0 e sz v n xs
  own := true
  stable := fun w w' h k => by
    refine ⟨h.1, ?_⟩
    rcases h.2 with h2 | ⟨g, cap, cur, hv, hb, hh, h3⟩
    · exact .inl h2
    · exact .inr ⟨g, cap, cur, hv, hb, (k g (by rw [hv]; rfl)).trans hh, h3⟩
  lt := fun w b h hb => by
    rcases h.2 with ⟨rfl, _⟩ | ⟨g, cap, cur, rfl, _, hh, _⟩
    · cases hb
    · cases hb; exact lt_of_heap hh
structure Sep (X : Nat → Prop) (w0 w : World) (L : List Res) : Prop where
  ext : Ext X w0 w
  ok : ∀ (i : Nat) (r : Res), L[i]? = some r → r.p w
  mine : ∀ (i : Nat) (r : Res), L[i]? = some r → r.own = true → ∀ b, r.S b → X b ∨ w0.heap.size ≤ b
  apart : ∀ (i j : Nat) (r s : Res), i ≠ j → L[i]? = some r → L[j]? = some s → r.own = true → ∀ b, r.S b → ¬ s.S b
section
variable {X : Nat → Prop} {w0 w w' : World} {L : List Res}
theorem Sep.lt (h : Sep X w0 w L) {i : Nat} {r : Res} (hi : L[i]? = some r) {b : Nat} (hb : r.S b) : b < w.heap.size := r.lt w b (h.ok i r hi) hb
theorem Sep.start (X : Nat → Prop) (w : World) : Sep X w w [] := ⟨Ext.refl X w, fun _ _ h => by simp at h, fun _ _ h => by simp at h, fun _ _ _ _ _ h => by simp at h⟩
theorem Sep.step (h : Sep X w0 w L) (k : Ext NoB w w') : Sep X w0 w' L :=
  ⟨h.ext.thenNo k, fun i r hi => r.stable w w' (h.ok i r hi) fun b hb => k.keep b (h.lt hi hb) (fun hf => hf), h.mine, h.apart⟩
theorem Sep.push (h : Sep X w0 w L) (k : Ext NoB w w') {r : Res} (hr : r.p w') (hn : ∀ b, r.S b → w.heap.size ≤ b) : Sep X w0 w' (r :: L) := by
  have h' := h.step k
  refine ⟨h'.ext, ?_, ?_, ?_⟩
  · intro i s hi
    cases i with
    | zero => simp at hi; subst hi; exact hr
    | succ i => exact h'.ok i s (by simpa using hi)
  · intro i s hi ho b hb
    cases i with
    | zero => simp at hi; subst hi; exact .inr (Nat.le_trans h.ext.size (hn b hb))
    | succ i => exact h'.mine i s (by simpa using hi) ho b hb
  · intro i j s t hij hi hj ho b hb hb'
    cases i with
    | zero =>
      cases j with
      | zero => exact hij rfl
      | succ j =>
        simp at hi hj; subst hi
        have := h.lt hj hb'
        have := hn b hb
        omega
    | succ i =>
      cases j with
      | zero =>
        simp at hi hj; subst hj
        have := h.lt hi hb
        have := hn b hb'
        omega
      | succ j => exact h'.apart i j s t (by omega) (by simpa using hi) (by simpa using hj) ho b hb hb'
theorem Sep.fact (h : Sep X w0 w L) {r : Res} (ho : r.own = false) (hr : r.p w) (hn : ∀ b, r.S b → ∀ (i : Nat) (s : Res), L[i]? = some s → s.own = true → ¬ s.S b) : Sep X w0 w (r :: L) := by
  refine ⟨h.ext, ?_, ?_, ?_⟩
  · intro i s hi
    cases i with
    | zero => simp at hi; subst hi; exact hr
    | succ i => exact h.ok i s (by simpa using hi)
  · intro i s hi hw b hb
    cases i with
    | zero => simp at hi; subst hi; rw [ho] at hw; cases hw
    | succ i => exact h.mine i s (by simpa using hi) hw b hb
  · intro i j s t hij hi hj hw b hb hb'
    cases i with
    | zero => simp at hi; subst hi; rw [ho] at hw; cases hw
    | succ i =>
      cases j with
      | zero => simp at hi hj; subst hj; exact hn b hb' i s hi hw hb
      | succ j => exact h.apart i j s t (by omega) (by simpa using hi) (by simpa using hj) hw b hb hb'
theorem Sep.upd (h : Sep X w0 w L) {i : Nat} {r r' : Res} (hi : L[i]? = some r) (ho : r.own = true) (k : Ext r.S w w') (hr : r'.p w') (hn : ∀ b, r'.S b → r.S b ∨ w.heap.size ≤ b) : Sep X w0 w' (L.set i r') := by
  have hil : i < L.length := (List.getElem?_eq_some_iff.1 hi).1
  have oth : ∀ (j : Nat) (s : Res), j ≠ i → L[j]? = some s → s.p w' := fun j s hj hs =>
    s.stable w w' (h.ok j s hs) fun b hb => k.keep b (h.lt hs hb) fun hb' => h.apart i j r s (fun e => hj e.symm) hi hs ho b hb' hb
  refine ⟨h.ext.trans' k (fun b hb => h.mine i r hi ho b hb), ?_, ?_, ?_⟩
  · intro j s hj
    by_cases e : j = i
    · subst e; rw [List.getElem?_set_self hil] at hj; cases hj; exact hr
    · rw [List.getElem?_set_ne (fun e' => e e'.symm)] at hj; exact oth j s e hj
  · intro j s hj hs b hb
    by_cases e : j = i
    · subst e
      rw [List.getElem?_set_self hil] at hj; cases hj
      rcases hn b hb with h1 | h1
      · exact h.mine j r hi ho b h1
      · exact .inr (Nat.le_trans h.ext.size h1)
    · rw [List.getElem?_set_ne (fun e' => e e'.symm)] at hj; exact h.mine j s hj hs b hb
  · intro j l s t hjl hj hl hs b hb hb'
    by_cases e : j = i
    · subst e
      rw [List.getElem?_set_self hil] at hj; cases hj
      rw [List.getElem?_set_ne hjl] at hl
      rcases hn b hb with h1 | h1
      · exact h.apart j l r t hjl hi hl ho b h1 hb'
      · have := h.lt hl hb'; omega
    · rw [List.getElem?_set_ne (fun e' => e e'.symm)] at hj
      by_cases e2 : l = i
      · subst e2
        rw [List.getElem?_set_self hil] at hl; cases hl
        rcases hn b hb' with h1 | h1
        · exact h.apart j l s r hjl hj hi hs b hb h1
        · have := h.lt hj hb; omega
      · rw [List.getElem?_set_ne (fun e' => e2 e'.symm)] at hl
        exact h.apart j l s t hjl hj hl hs b hb hb'
theorem Sep.say (h : Sep X w0 w L) {i : Nat} {r r' : Res} (hi : L[i]? = some r) (hr : r'.p w) (hn : ∀ b, r'.S b → r.S b) (ho : r'.own = true → r.own = true) : Sep X w0 w (L.set i r') := by
  have hil : i < L.length := (List.getElem?_eq_some_iff.1 hi).1
  refine ⟨h.ext, ?_, ?_, ?_⟩
  · intro j s hj
    by_cases e : j = i
    · subst e; rw [List.getElem?_set_self hil] at hj; cases hj; exact hr
    · rw [List.getElem?_set_ne (fun e' => e e'.symm)] at hj; exact h.ok j s hj
  · intro j s hj hs b hb
    by_cases e : j = i
    · subst e
      rw [List.getElem?_set_self hil] at hj; cases hj
      exact h.mine j r hi (ho hs) b (hn b hb)
    · rw [List.getElem?_set_ne (fun e' => e e'.symm)] at hj; exact h.mine j s hj hs b hb
  · intro j l s t hjl hj hl hs b hb hb'
    by_cases e : j = i
    · subst e
      rw [List.getElem?_set_self hil] at hj; cases hj
      rw [List.getElem?_set_ne hjl] at hl
      exact h.apart j l r t hjl hi hl (ho hs) b (hn b hb) hb'
    · rw [List.getElem?_set_ne (fun e' => e e'.symm)] at hj
      by_cases e2 : l = i
      · subst e2
        rw [List.getElem?_set_self hil] at hl; cases hl
        exact h.apart j l s r hjl hj hi hs b hb (hn b hb')
      · rw [List.getElem?_set_ne (fun e' => e2 e'.symm)] at hl
        exact h.apart j l s t hjl hj hl hs b hb hb'
theorem Sep.keep (h : Sep X w0 w L) (is : List Nat) (hd : is.Nodup) (L' : List Res) (he : is.filterMap (L[·]?) = L') (hall : is.all (fun i => decide (i < L.length)) = true) : Sep X w0 w L' := by
  subst he
  have key : ∀ (k : Nat) (s : Res), (is.filterMap (L[·]?))[k]? = some s → ∃ i, is[k]? = some i ∧ L[i]? = some s := by
    have gen : ∀ (is : List Nat), is.all (fun i => decide (i < L.length)) = true → ∀ (k : Nat) (s : Res), (is.filterMap (L[·]?))[k]? = some s → ∃ i, is[k]? = some i ∧ L[i]? = some s := by
      intro is
      induction is with
      | nil => intro _ k s hk; simp at hk
      | cons i is ih =>
        intro ha k s hk
        simp only [List.all_cons, Bool.and_eq_true, decide_eq_true_eq] at ha
        have hs := List.getElem?_eq_getElem ha.1
        rw [List.filterMap_cons_some hs] at hk
        cases k with
        | zero => simp at hk; exact ⟨i, rfl, by rw [hs, hk]⟩
        | succ k =>
          obtain ⟨j, h1, h2⟩ := ih ha.2 k s (by simpa using hk)
          exact ⟨j, by simpa using h1, h2⟩
    exact gen is hall
  refine ⟨h.ext, ?_, ?_, ?_⟩
  · intro k s hk; obtain ⟨i, _, hi⟩ := key k s hk; exact h.ok i s hi
  · intro k s hk; obtain ⟨i, _, hi⟩ := key k s hk; exact h.mine i s hi
  · intro k l s t hkl hk hl
    obtain ⟨i, hi1, hi⟩ := key k s hk
    obtain ⟨j, hj1, hj⟩ := key l t hl
    refine h.apart i j s t (fun e => ?_) hi hj
    subst e
    have h1 := (List.getElem?_eq_some_iff.1 hi1).1
    have h2 := (List.getElem?_eq_some_iff.1 hj1).1
    exact hkl ((List.getElem_inj hd).1 ((List.getElem?_eq_some_iff.1 hi1).2.trans (List.getElem?_eq_some_iff.1 hj1).2.symm))
end
theorem blk_cell {w : World} {b t : Nat} {cs : List Value} (h : (blk b t cs).p w) (k : Nat) : w.cell? ⟨b, k, none⟩ = cs[k]? := by
  simp [World.cell?, show w.heap[b]? = _ from h]
theorem blk_frozen {w : World} {b t : Nat} {cs : List Value} (h : (blk b t cs).p w) (k : Nat) : w.frozen? ⟨b, k, none⟩ = false := by
  simp [World.frozen?, show w.heap[b]? = _ from h]
theorem blk_set {w : World} {b t : Nat} {cs : List Value} (h : (blk b t cs).p w) (k : Nat) (v : Value) : (blk b t (cs.set k v)).p (w.setCell ⟨b, k, none⟩ v) := by
  have h' : w.heap[b]? = some (.cells cs.toArray t (0, 0)) := h
  show (w.setCell ⟨b, k, none⟩ v).heap[b]? = _
  simp [World.setCell, Array.getElem?_modify, h']
def eptr : Value → Nat → Value
  | .slice (some ad) _ _, k => .pointer (some (ad.add k))
  | _, _ => .pointer none
def bptr (b k : Nat) : Value := .pointer (some ⟨b, k, none⟩)
end Go.Eng

namespace Go.Eng
open Go.RowKit
def tyK (P : Program) (t : TypeId) : Option (Bool × Nat) :=
  match P.underlying t, P.info? t with
  | some (.struct _), some i => some (true, i.size)
  | some (.array _ _), some i => some (true, i.size)
  | some _, some i => some (false, i.size)
  | _, _ => none
theorem tyK_parts {P : Program} {t : TypeId} {g : Bool} {k : Nat} (h : tyK P t = some (g, k)) : ∃ d i, P.underlying t = some d ∧ P.info? t = some i ∧ i.size = k ∧ (match d with | .struct _ | .array _ _ => true | _ => false) = g := by
  unfold tyK at h
  cases hd : P.underlying t with
  | none => rw [hd] at h; simp at h
  | some d =>
    cases hi : P.info? t with
    | none => rw [hd, hi] at h; cases d <;> simp at h
    | some i =>
      rw [hd, hi] at h
      refine ⟨d, i, rfl, rfl, ?_, ?_⟩ <;> cases d <;> simp_all
theorem run_sizeOf {P : Program} {t : TypeId} {g : Bool} {k : Nat} (h : tyK P t = some (g, k)) (w : World) : (sizeOf t).run P w = .ok k w := by
  obtain ⟨d, i, _, hi, rfl, _⟩ := tyK_parts h
  simp [sizeOf, typeInfo, program, Sem.run, hi]
theorem run_isAgg {P : Program} {t : TypeId} {g : Bool} {k : Nat} (h : tyK P t = some (g, k)) (w : World) : (isAgg t).run P w = .ok g w := by
  obtain ⟨d, i, hd, _, _, rfl⟩ := tyK_parts h
  simp only [isAgg, Sem.run_bind, run_underlying hd, Result.andThen]
  cases d <;> rfl
section
variable {r : Option Nat} {P : Program} {o : Oper} {a : Act} {w : World} {R : Value → World → Prop}
theorem a_0 {x : Operand} {v : Value} (ho : o.op = .move x) (hx : a.eval x = v) : OpY r P o a w (fun v' w' => v' = v ∧ w' = w) :=
  c_8 (by rw [ho]; rfl) (by simp [execOp, ho, hx]) ⟨rfl, rfl⟩
theorem a_1 {x : Operand} {v : Value} (ho : o.op = .assign x) (hx : a.eval x = v) : OpY r P o a w (fun v' w' => v' = v ∧ w' = w) :=
  c_8 (by rw [ho]; rfl) (by simp [execOp, ho, hx]) ⟨rfl, rfl⟩
theorem a_6 {c x y : Operand} {v : Value} (ho : o.op = .pick c x y) (hc : a.eval c = .bool true) (hx : a.eval x = v) : OpY r P o a w (fun v' w' => v' = v ∧ w' = w) :=
  c_8 (by rw [ho]; rfl) (by simp [execOp, ho, hx, hc, asBool, Sem.run_bind, Sem.run_pure, Result.andThen_ok]) ⟨rfl, rfl⟩
theorem a_8 {c x y : Operand} {v : Value} (ho : o.op = .pick c x y) (hc : a.eval c = .bool false) (hx : a.eval y = v) : OpY r P o a w (fun v' w' => v' = v ∧ w' = w) :=
  c_8 (by rw [ho]; rfl) (by simp [execOp, ho, hx, hc, asBool, Sem.run_bind, Sem.run_pure, Result.andThen_ok]) ⟨rfl, rfl⟩
theorem f_4 {x : Operand} {p : Addr} (ho : o.op = .nilCheck x) (hx : a.eval x = .pointer (some p)) : OpY r P o a w (fun v' w' => v' = .pointer (some p) ∧ w' = w) :=
  c_8 (by rw [ho]; rfl) (by simp [execOp, ho, hx]) ⟨rfl, rfl⟩
theorem c_4 {x : Operand} {i : Nat} {vs : Array Value} {v : Value} (ho : o.op = .extract x i) (hx : a.eval x = .tuple vs) (hi : vs[i]? = some v) : OpY r P o a w (fun v' w' => v' = v ∧ w' = w) :=
  c_8 (by rw [ho]; rfl) (by simp [execOp, ho, hx, Instr.extract, hi]) ⟨rfl, rfl⟩
theorem m_3 {fn : Fn} {first captured : Array Operand} {fs cs : Array Value} (ho : o.op = .makeFunc fn first captured) (hf : first.map a.eval = fs) (hc : captured.map a.eval = cs) : OpY r P o a w (fun v' w' => v' = .func fn fs cs ∧ w' = w) :=
  c_8 (by rw [ho]; rfl) (by simp [execOp, ho, hf, hc, Instr.makeFunc]) ⟨rfl, rfl⟩
theorem e_4 {t : TypeId} {x : Operand} {b : Bool} (ho : o.op = .unOp .not t x) (hx : a.eval x = .bool b) : OpY r P o a w (fun v' w' => v' = .bool (!b) ∧ w' = w) :=
  c_8 (by rw [ho]; rfl) (by simp [execOp, ho, hx, Op.unary]) ⟨rfl, rfl⟩
theorem f_3 (op : BinOp) (t : TypeId) (x y : Operand) (k k' : IntKind) (m n : Int) (w : World) : (eqGuard op t x y (.int k m) (.int k' n)).run P w = .ok () w := by
  unfold eqGuard; cases op <;> simp [go_sem]
theorem j_3 {t t' : TypeId} {k : IntKind} {x y : Operand} {m n : Int} (ho : o.op = .binOp .leq t x y t') (hx : a.eval x = .int k m) (hy : a.eval y = .int k n) : OpY r P o a w (fun v' w' => v' = .bool (decide (m ≤ n)) ∧ w' = w) :=
  c_8 (by rw [ho]; rfl) (by simp [execOp, ho, hx, hy, f_3, binOp, Op.intCmp, Sem.run_bind, Sem.run_pure, Result.andThen_ok]) ⟨rfl, rfl⟩
theorem e_2 {t t' : TypeId} {k : IntKind} {x y : Operand} {m n : Int} (ho : o.op = .binOp .lss t x y t') (hx : a.eval x = .int k m) (hy : a.eval y = .int k n) : OpY r P o a w (fun v' w' => v' = .bool (decide (m < n)) ∧ w' = w) :=
  c_8 (by rw [ho]; rfl) (by simp [execOp, ho, hx, hy, f_3, binOp, Op.intCmp, Sem.run_bind, Sem.run_pure, Result.andThen_ok]) ⟨rfl, rfl⟩
theorem h_4 {t t' : TypeId} {k : IntKind} {x y : Operand} {m n : Int} (ho : o.op = .binOp .gtr t x y t') (hx : a.eval x = .int k m) (hy : a.eval y = .int k n) : OpY r P o a w (fun v' w' => v' = .bool (decide (n < m)) ∧ w' = w) :=
  c_8 (by rw [ho]; rfl) (by simp [execOp, ho, hx, hy, f_3, binOp, Op.intCmp, Sem.run_bind, Sem.run_pure, Result.andThen_ok]) ⟨rfl, rfl⟩
theorem l_9 {t t' : TypeId} {k : IntKind} {x y : Operand} {m n : Int} (ho : o.op = .binOp .geq t x y t') (hx : a.eval x = .int k m) (hy : a.eval y = .int k n) : OpY r P o a w (fun v' w' => v' = .bool (decide (n ≤ m)) ∧ w' = w) :=
  c_8 (by rw [ho]; rfl) (by simp [execOp, ho, hx, hy, f_3, binOp, Op.intCmp, Sem.run_bind, Sem.run_pure, Result.andThen_ok]) ⟨rfl, rfl⟩
theorem f_5 {t t' : TypeId} {k : IntKind} {x y : Operand} {m n : Int} (ho : o.op = .binOp .eql t x y t') (hx : a.eval x = .int k m) (hy : a.eval y = .int k n) : OpY r P o a w (fun v' w' => v' = .bool (decide (m = n)) ∧ w' = w) :=
  c_8 (v := .bool (decide (m = n))) (by rw [ho]; rfl) (by
    have e : (m == n) = decide (m = n) := by by_cases h : m = n <;> simp [h]
    simp [execOp, ho, hx, hy, f_3, binOp, Op.intCmp, Sem.run_bind, Sem.run_pure, Result.andThen_ok, e]) ⟨rfl, rfl⟩
theorem j_7 {t t' : TypeId} {k : IntKind} {x y : Operand} {m n : Int} (ho : o.op = .binOp .neq t x y t') (hx : a.eval x = .int k m) (hy : a.eval y = .int k n) : OpY r P o a w (fun v' w' => v' = .bool (!decide (m = n)) ∧ w' = w) :=
  c_8 (v := .bool (!decide (m = n))) (by rw [ho]; rfl) (by
    have e : (m != n) = !decide (m = n) := by by_cases h : m = n <;> simp [h]
    simp [execOp, ho, hx, hy, f_3, binOp, Op.intCmp, Sem.run_bind, Sem.run_pure, Result.andThen_ok, e]) ⟨rfl, rfl⟩
theorem c_6 {t t' : TypeId} {x y : Operand} {m n : Int} (ho : o.op = .binOp .add t x y t') (hx : a.eval x = .int .i64 m) (hy : a.eval y = .int .i64 n) (h1 : -9223372036854775808 ≤ m + n) (h2 : m + n ≤ 9223372036854775807) : OpY r P o a w (fun v' w' => v' = .int .i64 (m + n) ∧ w' = w) :=
  c_8 (v := .int .i64 (m + n)) (by rw [ho]; rfl) (by
    have : IntKind.i64.wrap (m + n) = m + n := IntWalk.i64_in _ (by omega)
    simp [execOp, ho, hx, hy, f_3, binOp, Op.intArith, Sem.run_bind, Sem.run_pure, Result.andThen_ok, this]) ⟨rfl, rfl⟩
theorem f_9 {t t' : TypeId} {x y : Operand} {m n : Int} (ho : o.op = .binOp .sub t x y t') (hx : a.eval x = .int .i64 m) (hy : a.eval y = .int .i64 n) (h1 : -9223372036854775808 ≤ m - n) (h2 : m - n ≤ 9223372036854775807) : OpY r P o a w (fun v' w' => v' = .int .i64 (m - n) ∧ w' = w) :=
  c_8 (v := .int .i64 (m - n)) (by rw [ho]; rfl) (by
    have : IntKind.i64.wrap (m - n) = m - n := IntWalk.i64_in _ (by omega)
    simp [execOp, ho, hx, hy, f_3, binOp, Op.intArith, Sem.run_bind, Sem.run_pure, Result.andThen_ok, this]) ⟨rfl, rfl⟩
theorem op_mul {t t' : TypeId} {x y : Operand} {m n : Int} (ho : o.op = .binOp .mul t x y t') (hx : a.eval x = .int .i64 m) (hy : a.eval y = .int .i64 n) (h1 : -9223372036854775808 ≤ m * n) (h2 : m * n ≤ 9223372036854775807) : OpY r P o a w (fun v' w' => v' = .int .i64 (m * n) ∧ w' = w) :=
  c_8 (v := .int .i64 (m * n)) (by rw [ho]; rfl) (by
    have : IntKind.i64.wrap (m * n) = m * n := IntWalk.i64_in _ (by omega)
    simp [execOp, ho, hx, hy, f_3, binOp, Op.intArith, Sem.run_bind, Sem.run_pure, Result.andThen_ok, this]) ⟨rfl, rfl⟩
theorem op_rem {t t' : TypeId} {k : IntKind} {x y : Operand} {m n : Int} (ho : o.op = .binOp .rem t x y t') (hx : a.eval x = .int k m) (hy : a.eval y = .int k n) (h1 : n ≠ 0) : OpY r P o a w (fun v' w' => v' = .int k (m.tmod n) ∧ w' = w) :=
  c_8 (v := .int k (m.tmod n)) (by rw [ho]; rfl) (by
    simp [execOp, ho, hx, hy, f_3, binOp, Op.intDiv, Sem.run_bind, Sem.run_pure, Result.andThen_ok, h1]) ⟨rfl, rfl⟩
theorem op_quo {t t' : TypeId} {x y : Operand} {m n : Int} (ho : o.op = .binOp .quo t x y t') (hx : a.eval x = .int .i64 m) (hy : a.eval y = .int .i64 n) (h1 : n ≠ 0) (h2 : -9223372036854775808 ≤ m.tdiv n) (h3 : m.tdiv n ≤ 9223372036854775807) : OpY r P o a w (fun v' w' => v' = .int .i64 (m.tdiv n) ∧ w' = w) :=
  c_8 (v := .int .i64 (m.tdiv n)) (by rw [ho]; rfl) (by
    have : IntKind.i64.wrap (m.tdiv n) = m.tdiv n := IntWalk.i64_in _ (by omega)
    simp [execOp, ho, hx, hy, f_3, binOp, Op.intDiv, Sem.run_bind, Sem.run_pure, Result.andThen_ok, h1, this]) ⟨rfl, rfl⟩
theorem op_conv {t t' : TypeId} {k k' : IntKind} {x : Operand} {n v : Int} {u : TypeDesc} (hs : P.underlying t = some u) (hd : P.underlying t' = some (.int k')) (ho : o.op = .convert t t' x) (hx : a.eval x = .int k n) (hv : k'.wrap n = v) : OpY r P o a w (fun v' w' => v' = .int k' v ∧ w' = w) :=
  c_8 (v := .int k' v) (by rw [ho]; rfl) (by
    cases u <;> simp [execOp, ho, hx, convert, Sem.run_bind, Sem.run_pure, Result.andThen_ok, run_underlying hs, run_underlying hd, Conv.intToInt, hv]) ⟨rfl, rfl⟩
theorem op_len {x : Operand} {t e : TypeId} {A : Option Addr} {n c : Nat} (ho : o.op = .call { callee := .builtin .len, args := #[x], argTypes := #[t] }) (ht : P.underlying t = some (.slice e)) (hx : a.eval x = .slice A n c) : OpY r P o a w (fun v' w' => v' = .int .i64 (n : Int) ∧ w' = w) :=
  c_8 (v := .int .i64 (n : Int)) (by rw [ho]; rfl) (by
    simp [execOp, ho, hx, resolve, invoke, builtin, Builtin.len_, Sem.run_bind, Sem.run_pure, Result.andThen_ok, run_underlying ht, goInt]) ⟨rfl, rfl⟩
theorem n_2 (b k j : Nat) : (⟨b, k, none⟩ : Addr).add j = ⟨b, k + j, none⟩ := by
  unfold Addr.add; split
  · rename_i h; subst h; rfl
  · rfl
def fldK (P : Program) (t : TypeId) (f : Nat) : Option Nat :=
  match P.underlying t with
  | some (.struct fs) => match fs[f]? with
    | some fl => match tyK P fl.type with
      | some (_, k + 1) => some fl.offset
      | _ => none
    | none => none
  | _ => none
theorem run_fieldAt {t f off : Nat} (h : fldK P t f = some off) (p : Addr) (w : World) : (Instr.fieldAt t (.pointer (some p)) f).run P w = .ok (.pointer (some (p.add off))) w := by
  unfold fldK at h
  split at h
  · rename_i fs hu
    split at h
    · rename_i fl hf
      split at h
      · rename_i g k hk
        cases h
        simp [Instr.fieldAt, Sem.run_bind, Sem.run_pure, Result.andThen_ok, run_underlying hu, hf, Instr.sureAddr, fieldPlace, run_sizeOf hk]
      · cases h
    · cases h
  · cases h
theorem a_2 {t f off b k : Nat} {x : Operand} (ho : o.op = .fieldAddr t x f) (hf : fldK P t f = some off) (hx : a.eval x = bptr b k) : OpY r P o a w (fun v' w' => v' = bptr b (k + off) ∧ w' = w) :=
  c_8 (v := bptr b (k + off)) (by rw [ho]; rfl) (by
    simp only [execOp, ho, hx, bptr, Sem.run_bind, run_fieldAt hf, Result.andThen, Sem.run_pure, n_2]) ⟨rfl, rfl⟩
theorem eptr_field {v : Value} {sz n : Nat} {cs : List Value} {w : World} (h : SlAt w v sz n cs) (hne : cs ≠ []) : ∃ ad c, v = .slice (some ad) n c ∧ ∀ j u, cs[j]? = some u → w.cell? (ad.add j) = some u := by
  obtain ⟨_, A, cap, hv, _, _, h3⟩ := h
  obtain ⟨ad, hA, hc⟩ := h3 hne
  exact ⟨ad, cap, by rw [hv, hA], hc⟩
theorem op_fieldE {t f off k : Nat} {x : Operand} {v : Value} {ad : Addr} {n c : Nat} (ho : o.op = .fieldAddr t x f) (hf : fldK P t f = some off) (hx : a.eval x = eptr v k) (hv : v = .slice (some ad) n c) : OpY r P o a w (fun v' w' => v' = eptr v (k + off) ∧ w' = w) :=
  c_8 (v := eptr v (k + off)) (by rw [ho]; rfl) (by
    subst hv
    simp only [execOp, ho, hx, eptr, Sem.run_bind, run_fieldAt hf, Result.andThen, Sem.run_pure, addr_add_add]) ⟨rfl, rfl⟩
theorem op_index {t e sz : Nat} {g : Bool} {x ix : Operand} {kd : IntKind} {i : Nat} {v : Value} {ad : Addr} {n c : Nat} (ho : o.op = .indexAddr t x ix) (ht : P.underlying t = some (.slice e)) (he : tyK P e = some (g, sz)) (hx : a.eval x = v) (hv : v = .slice (some ad) n c) (hi : a.eval ix = .int kd (i : Int)) (hlt : i < n) :
    OpY r P o a w (fun v' w' => v' = eptr v (i * sz) ∧ w' = w) :=
  c_8 (v := eptr v (i * sz)) (by rw [ho]; rfl) (by
    subst hv
    have h2 : ((i : Int) < (n : Int)) := by omega
    simp [execOp, ho, hx, hi, eptr, Instr.indexAt, Sem.run_bind, Sem.run_pure, Result.andThen_ok, run_underlying ht, run_sizeOf he, asIntOf, h2, hlt]) ⟨rfl, rfl⟩
theorem run_loadCellsFrom (p : Addr) : ∀ (l : List Value) (i : Nat) (acc : Array Value) (w : World), (∀ j u, l[j]? = some u → w.cell? (p.add (i + j)) = some u) → (loadCellsFrom p i l.length acc).run P w = .ok (acc ++ l.toArray) w
  | [], i, acc, w, _ => by simp [loadCellsFrom]
  | v :: l, i, acc, w, h => by
    have h0 : w.cell? (p.add i) = some v := by have := h 0 v rfl; simpa using this
    have hl : (load (p.add i)).run P w = .ok v w := by simp [load, Sem.run, h0]
    simp only [List.length_cons, loadCellsFrom, Sem.run_bind, hl, Result.andThen]
    rw [run_loadCellsFrom p l (i + 1) (acc.push v) w (fun j u hu => by
      have := h (j + 1) u (by simpa using hu)
      rwa [show i + (j + 1) = i + 1 + j by omega] at this)]
    simp
theorem m_5 {t k : Nat} {p : Addr} {l : List Value} (ht : tyK P t = some (true, k)) (hl : l.length = k) (w : World) (h : ∀ j u, l[j]? = some u → w.cell? (p.add j) = some u) : (loadVar t p).run P w = .ok (.agg l.toArray) w := by
  subst hl
  have := run_loadCellsFrom (P := P) p l 0 #[] w (by simpa using h)
  simp only [loadVar, Sem.run_bind, run_isAgg ht, run_sizeOf ht, Result.andThen, if_true, loadCells, this, Sem.run_pure]
  simp
theorem m_6 {t k : Nat} {p : Addr} {v : Value} (ht : tyK P t = some (false, k)) (w : World) (h : w.cell? p = some v) : (loadVar t p).run P w = .ok v w := by
  simp [loadVar, run_isAgg ht, load, Sem.run, h, Sem.run_bind, Sem.run_pure, Result.andThen_ok]
theorem a_3 {t k b j : Nat} {x : Operand} {v : Value} {tb : TypeId} {cs : List Value} (ho : o.op = .load t x) (ht : tyK P t = some (false, k)) (hx : a.eval x = bptr b j) (hb : (blk b tb cs).p w) (hv : cs[j]? = some v) : OpY r P o a w (fun v' w' => v' = v ∧ w' = w) :=
  c_8 (v := v) (by rw [ho]; rfl) (by
    have := m_6 (P := P) ht w ((blk_cell hb j).trans hv)
    simp only [execOp, ho, hx, bptr, Instr.loadAt, Instr.sureAddr, Sem.run_bind, Sem.run_pure, Result.andThen, this]) ⟨rfl, rfl⟩
theorem c_2 {t k b j : Nat} {x : Operand} {tb : TypeId} {cs l : List Value} (ho : o.op = .load t x) (ht : tyK P t = some (true, k)) (hx : a.eval x = bptr b j) (hb : (blk b tb cs).p w) (hv : (cs.drop j).take k = l) (hl : l.length = k) : OpY r P o a w (fun v' w' => v' = .agg l.toArray ∧ w' = w) :=
  c_8 (v := .agg l.toArray) (by rw [ho]; rfl) (by
    have := m_5 (P := P) (p := ⟨b, j, none⟩) ht hl w (fun i u hu => by
      rw [n_2, blk_cell hb, ← hu, ← hv, List.getElem?_take, if_pos, List.getElem?_drop]
      have := (List.getElem?_eq_some_iff.1 hu).1
      omega)
    simp only [execOp, ho, hx, bptr, Instr.loadAt, Instr.sureAddr, Sem.run_bind, Sem.run_pure, Result.andThen, this]) ⟨rfl, rfl⟩
theorem d_3 {t k j : Nat} {x : Operand} {v u : Value} {sz n : Nat} {cs : List Value} (ho : o.op = .load t x) (ht : tyK P t = some (false, k)) (hx : a.eval x = eptr v j) (hs : SlAt w v sz n cs) (hv : cs[j]? = some u) : OpY r P o a w (fun v' w' => v' = u ∧ w' = w) :=
  c_8 (v := u) (by rw [ho]; rfl) (by
    obtain ⟨ad, c, rfl, hc⟩ := eptr_field hs (by rintro rfl; simp at hv)
    have := m_6 (P := P) ht w (hc j u hv)
    simp only [execOp, ho, hx, eptr, Instr.loadAt, Instr.sureAddr, Sem.run_bind, Sem.run_pure, Result.andThen, this]) ⟨rfl, rfl⟩
theorem e_1 {t k j : Nat} {x : Operand} {v : Value} {sz n : Nat} {cs l : List Value} (ho : o.op = .load t x) (ht : tyK P t = some (true, k)) (hx : a.eval x = eptr v j) (hs : SlAt w v sz n cs) (hv : (cs.drop j).take k = l) (hl : l.length = k) (hk : 0 < k) : OpY r P o a w (fun v' w' => v' = .agg l.toArray ∧ w' = w) :=
  c_8 (v := .agg l.toArray) (by rw [ho]; rfl) (by
    obtain ⟨ad, c, rfl, hc⟩ := eptr_field hs (by rintro rfl; simp at hv; subst hv; simp at hl; omega)
    have := m_5 (P := P) (p := ad.add j) ht hl w (fun i u hu => by
      rw [addr_add_add]
      refine hc _ u ?_
      rw [← hu, ← hv, List.getElem?_take, if_pos, List.getElem?_drop]
      have := (List.getElem?_eq_some_iff.1 hu).1
      omega)
    simp only [execOp, ho, hx, eptr, Instr.loadAt, Instr.sureAddr, Sem.run_bind, Sem.run_pure, Result.andThen, this]) ⟨rfl, rfl⟩
theorem SlAt.b_4 {v : Value} {e sz n : Nat} {xs : List Value} (h : w.ownsRow 0 e sz v n xs) : SlAt w v sz n xs := by
  refine ⟨h.1, ?_⟩
  rcases h.2 with ⟨rfl, rfl⟩ | ⟨g, cap, cur, rfl, _, hh, h1, h2, h3, h4⟩
  · refine ⟨none, 0, rfl, Nat.le_refl _, by simp [maxLen], fun hne => ?_⟩
    have : xs = [] := List.eq_nil_of_length_eq_zero (by simpa using h.1)
    exact absurd this hne
  · refine ⟨_, cap, rfl, h1, h2, fun _ => ⟨_, rfl, fun j u hu => ?_⟩⟩
    rw [n_2]
    simp only [World.cell?, hh, Nat.zero_add, Option.isSome_none, Bool.false_eq_true, if_false]
    rw [← h4, List.getElem?_take] at hu
    split at hu
    · simpa using hu
    · cases hu
end
end Go.Eng

namespace Go.Eng
open Go.RowKit
section
variable {r : Option Nat} {P : Program} {o : Oper} {a : Act} {w w0 : World} {R : Value → World → Prop} {X : Nat → Prop} {L : List Res}
theorem blk_new (w : World) (t : TypeId) (cs : List Value) : (blk w.heap.size t cs).p (w.alloc (.cells cs.toArray t)) := heap_alloc_new w _
theorem sep_new (hS : Sep X w0 w L) (t : TypeId) (cs : List Value) : Sep X w0 (w.alloc (.cells cs.toArray t)) (blk w.heap.size t cs :: L) :=
  hS.push (Ext.alloc NoB w _) (blk_new w t cs) (fun b hb => by cases hb; exact Nat.le_refl _)
theorem e_5 {t : TypeId} {x : Operand} {v : Value} {cs : List Value} (hS : Sep X w0 w L) (ho : o.op = .box t x) (hx : a.eval x = v) (hc : v.cells = cs.toArray) :
    OpY r P o a w (fun v' w' => ∃ b, v' = bptr b 0 ∧ Sep X w0 w' (blk b t cs :: L)) :=
  c_8 (v := bptr w.heap.size 0) (w' := w.alloc (.cells cs.toArray t)) (by rw [ho]; rfl) (by
    simp only [execOp, ho, hx, Instr.box, newVar, newRow, newObj, hc, Sem.run_bind, Sem.run, Sem.run_pure, Result.andThen_ok, bptr]; rfl) ⟨_, rfl, sep_new hS t cs⟩
theorem run_zeroValue {t : TypeId} {z : Value} (h : (P.info? t).bind (·.zero) = some z) (w : World) : (zeroValue t).run P w = .ok z w := by
  cases hi : P.info? t with
  | none => simp [hi] at h
  | some i => simp [hi] at h; simp [zeroValue, typeInfo, program, Sem.run, hi, h]
theorem e_6 {t : TypeId} {z : Value} {cs : List Value} (hS : Sep X w0 w L) (ho : o.op = .alloc t) (hz : (P.info? t).bind (·.zero) = some z) (hc : z.cells = cs.toArray) :
    OpY r P o a w (fun v' w' => ∃ b, v' = bptr b 0 ∧ Sep X w0 w' (blk b t cs :: L)) :=
  c_8 (v := bptr w.heap.size 0) (w' := w.alloc (.cells cs.toArray t)) (by rw [ho]; rfl) (by
    simp only [execOp, ho, Instr.alloc, run_zeroValue hz, newVar, newRow, newObj, hc, Sem.run_bind, Sem.run, Sem.run_pure, Result.andThen_ok, bptr]; rfl) ⟨_, rfl, sep_new hS t cs⟩
theorem c_7 {t e : TypeId} {len sz : Nat} {g : Bool} {parts : Array (Nat × Operand)} {ps : Array (Nat × Value)} {z : Value} {cs : List Value} (hS : Sep X w0 w L)
    (ho : o.op = .buildSlice t len parts) (hp : (parts.map fun (i, x) => (i, a.eval x)) = ps) (ht : P.underlying t = some (.slice e)) (he : tyK P e = some (g, sz)) (hz : (P.info? e).bind (·.zero) = some z)
    (hbig : len * sz ≤ 16777216) (hf : Instr.fill (fun i => some (i * sz, sz)) ((Array.range (len * sz)).map (z.cells[· % z.cells.size]!)) ps.toList = some cs.toArray) :
    OpY r P o a w (fun v' w' => ∃ b, v' = .slice (some ⟨b, 0, none⟩) len len ∧ Sep X w0 w' (blk b e cs :: L)) :=
  c_8 (v := .slice (some ⟨w.heap.size, 0, none⟩) len len) (w' := w.alloc (.cells cs.toArray e)) (by rw [ho]; rfl) (by
    have h1 : ¬ (len * sz > 2 ^ 24) := by omega
    by_cases h0 : len * sz = 0
    · rw [h0] at hf
      have e0 : (Array.range 0).map (z.cells[· % z.cells.size]!) = (Array.range 0).map ((#[] : Array Value)[· % (#[] : Array Value).size]!) := by simp
      rw [e0] at hf
      rw [h0] at h1
      simp only [execOp, ho, hp, Instr.buildSlice, Sem.run_bind, run_underlying ht, Result.andThen_ok, run_sizeOf he, h1, if_false, h0, if_true, Sem.run_pure, hf, newRow, newObj, Sem.run]
      rfl
    · simp only [execOp, ho, hp, Instr.buildSlice, Sem.run_bind, run_underlying ht, Result.andThen_ok, run_sizeOf he, h1, if_false, h0, run_zeroValue hz, Sem.run_pure, hf, newRow, newObj, Sem.run]
      rfl) ⟨_, rfl, sep_new hS e cs⟩
def m_7 : List Value → Nat → List Value → List Value
  | cs, _, [] => cs
  | cs, j, v :: vs => m_7 (cs.set j v) (j + 1) vs
theorem run_store_cell {p : Addr} {v u : Value} {w : World} (h1 : v.oneCell' = true) (hc : w.cell? p = some u) (hf : w.frozen? p = false) : (store p v).run P w = .ok () (w.setCell p v) := by
  cases v <;> first | (simp [Value.oneCell'] at h1; done) | simp [store, Sem.run, hc, hf]
theorem run_storeCells_blk {b t : Nat} : ∀ (vs cs : List Value) (j : Nat) (i : Nat) (w : World), (blk b t cs).p w → (∀ v ∈ vs, v.oneCell' = true) → j + i + vs.length ≤ cs.length →
    ∃ w', (storeCells ⟨b, j, none⟩ vs i).run P w = .ok () w' ∧ (blk b t (m_7 cs (j + i) vs)).p w' ∧ Ext (fun k => k = b) w w'
  | [], cs, j, i, w, hb, _, _ => ⟨w, by simp [storeCells], hb, Ext.refl _ _⟩
  | v :: vs, cs, j, i, w, hb, h1, hl => by
    simp only [List.length_cons] at hl
    have hc : w.cell? ⟨b, j + i, none⟩ = some (cs[j + i]'(by omega)) := by rw [blk_cell hb, List.getElem?_eq_getElem]
    have hs := run_store_cell (P := P) (p := ⟨b, j + i, none⟩) (h1 v (by simp)) hc (blk_frozen hb _)
    obtain ⟨w', hr, hb', he⟩ := run_storeCells_blk vs (cs.set (j + i) v) j (i + 1) _ (blk_set hb (j + i) v) (fun u hu => h1 u (by simp [hu])) (by simp; omega)
    refine ⟨w', ?_, hb', (Ext.setCell (X := fun k => k = b) w _ v rfl).trans he⟩
    simp only [storeCells, Sem.run_bind, n_2, hs, Result.andThen_ok, hr]
theorem d_8 {t k b j : Nat} {g : Bool} {x y : Operand} {v : Value} {vs : List Value} {tb i : Nat} {cs : List Value} (hS : Sep X w0 w L) (ho : o.op = .store t x y) (ht : tyK P t = some (g, k)) (hx : a.eval x = bptr b j) (hy : a.eval y = v)
    (hi : L[i]? = some (blk b tb cs)) (hv : v.cells = vs.toArray) (hk : vs.length = k) (h1 : vs.all (·.oneCell') = true) (hl : j + k ≤ cs.length) :
    OpY r P o a w (fun _ w' => Sep X w0 w' (L.set i (blk b tb (m_7 cs j vs)))) := by
  obtain ⟨w', hr, hb', he⟩ := run_storeCells_blk (P := P) (b := b) (t := tb) vs cs j 0 w (hS.ok i _ hi) (fun v hv => List.all_eq_true.1 h1 v hv) (by omega)
  have hsz : ¬ (vs.toArray.size ≠ k) := by simp [hk]
  refine opY_skip (w' := w') (by rw [ho]; rfl) ?_ (hS.upd hi rfl he hb' (fun _ hb => .inl hb))
  simp only [execOp, ho, hx, hy, bptr, Instr.storeAt, Instr.sureAddr, Sem.run_bind, Sem.run_pure, Result.andThen_ok, storeVar, run_sizeOf ht, hv, hsz, if_false, hr]
theorem run_storeCells_row {e sz n : Nat} {v : Value} : ∀ (vs xs : List Value) (j i : Nat) (w : World) (ad : Addr) (c : Nat), v = .slice (some ad) n c → w.ownsRow 0 e sz v n xs → (∀ v ∈ vs, v.oneCell' = true) → j + i + vs.length ≤ xs.length →
    ∃ w', (storeCells (ad.add j) vs i).run P w = .ok () w' ∧ w'.ownsRow 0 e sz v n (m_7 xs (j + i) vs) ∧ Ext (fun k => v.ownBlock = some k) w w'
  | [], xs, j, i, w, ad, c, hv, hb, _, _ => ⟨w, by simp [storeCells], hb, Ext.refl _ _⟩
  | u :: vs, xs, j, i, w, ad, c, hv, hb, h1, hl => by
    simp only [List.length_cons] at hl
    have hb0 := hb
    rcases hb.2 with ⟨h0, _⟩ | ⟨g, cap, cur, h0, hg, hh, hn, hm, hsz, hx⟩
    · rw [hv] at h0; cases h0
    rw [hv] at h0
    injection h0 with ha hn' hcap
    injection ha with ha
    subst ha
    have hlx : xs.length ≤ cur.size := by
      have := congrArg List.length hx
      simp at this; omega
    have hc : w.cell? ⟨g, j + i, none⟩ = some (cur[j + i]'(by omega)) := by
      simp only [World.cell?, hh, Option.isSome_none, Bool.false_eq_true, if_false]
      exact Array.getElem?_eq_getElem _
    have hf : w.frozen? ⟨g, j + i, none⟩ = false := by simp [World.frozen?, hh]
    have hs := run_store_cell (P := P) (p := ⟨g, j + i, none⟩) (h1 u (by simp)) hc hf
    have hb' : (w.setCell ⟨g, j + i, none⟩ u).ownsRow 0 e sz v n (xs.set (j + i) u) := by
      refine ⟨by simpa using hb.1, .inr ⟨g, cap, cur.setIfInBounds (j + i) u, by rw [hv, hcap], hg, ?_, hn, hm, by simpa using hsz, ?_⟩⟩
      · simp [World.setCell, Array.getElem?_modify, hh]
      · rw [← hx, Array.toList_setIfInBounds, List.take_set]
    obtain ⟨w', hr, hb2, he⟩ := run_storeCells_row vs (xs.set (j + i) u) j (i + 1) _ ⟨g, 0, none⟩ c hv hb' (fun v hv => h1 v (by simp [hv])) (by simp; omega)
    refine ⟨w', ?_, hb2, (Ext.setCell (X := fun k => v.ownBlock = some k) w _ u (by rw [hv]; rfl)).trans he⟩
    simp only [n_2, Nat.zero_add] at hr ⊢
    simp only [storeCells, Sem.run_bind, n_2, hs, Result.andThen_ok, hr]
theorem o_2 {t k j e sz n : Nat} {g : Bool} {x y : Operand} {v u : Value} {vs : List Value} {i : Nat} {xs : List Value} (hS : Sep X w0 w L) (ho : o.op = .store t x y) (ht : tyK P t = some (g, k)) (hx : a.eval x = eptr v j) (hy : a.eval y = u)
    (hi : L[i]? = some (row v e sz n xs)) (hv : u.cells = vs.toArray) (hk : vs.length = k) (h1 : vs.all (·.oneCell') = true) (hl : j + k ≤ xs.length) (hk0 : 0 < k) :
    OpY r P o a w (fun _ w' => Sep X w0 w' (L.set i (row v e sz n (m_7 xs j vs)))) := by
  have hrow : w.ownsRow 0 e sz v n xs := hS.ok i _ hi
  obtain ⟨ad, c, hvv, _⟩ := eptr_field (SlAt.b_4 hrow) (by rintro rfl; simp at hl; omega)
  obtain ⟨w', hr, hb', he⟩ := run_storeCells_row (P := P) vs xs j 0 w ad c hvv hrow (fun v hv => List.all_eq_true.1 h1 v hv) (by omega)
  have hsz : ¬ (vs.toArray.size ≠ k) := by simp [hk]
  refine opY_skip (w' := w') (by rw [ho]; rfl) ?_ (hS.upd hi rfl he hb' (fun _ hb => .inl hb))
  rw [hvv] at hx
  simp only [execOp, ho, hx, hy, eptr, Instr.storeAt, Instr.sureAddr, Sem.run_bind, Sem.run_pure, Result.andThen_ok, storeVar, run_sizeOf ht, hv, hsz, if_false, hr]
theorem b_5 {f : FuncId} {xs : Array Operand} {ts : Array TypeId} {vs : Array Value} (ho : o.op = .call { callee := .value (.func f), args := xs, argTypes := ts }) (hen : ∀ args w, (callFunc f args).run P w = .ok (.enter f args) w)
    (hv : xs.map a.eval = vs) (hc : Calls P f vs w (Ret R)) : OpY r P o a w R :=
  opY_enter (f := f) (args := vs) (w' := w) (by rw [ho]; rfl) (by
    simp only [execOp, ho, resolve, hv, Act.eval, Deferred.ofValue, Sem.run_bind, Sem.run_pure, Result.andThen_ok, invoke, hen]
    simp) hc
theorem i_9 {f : FuncId} {x : Operand} {xs : Array Operand} {ts : Array TypeId} {vs fs cs : Array Value} (ho : o.op = .call { callee := .value x, args := xs, argTypes := ts }) (hx : a.eval x = .func (.func f) fs cs) (hen : ∀ args w, (callFunc f args).run P w = .ok (.enter f args) w)
    (hv : xs.map a.eval = vs) (hc : Calls P f (fs ++ vs ++ cs) w (Ret R)) : OpY r P o a w R :=
  opY_enter (f := f) (args := fs ++ vs ++ cs) (w' := w) (by rw [ho]; rfl) (by
    simp only [execOp, ho, resolve, hv, hx, Deferred.ofValue, Sem.run_bind, Sem.run_pure, Result.andThen_ok, invoke, hen]) hc
theorem SlAt.h_3 {b e : Nat} {sz n : Nat} {cs : List Value} (h : (blk b e cs).p w) (hl : cs.length = n * sz) (hn : n ≤ maxLen) : SlAt w (.slice (some ⟨b, 0, none⟩) n n) sz n cs :=
  ⟨hl, _, n, rfl, Nat.le_refl _, hn, fun _ => ⟨_, rfl, fun j u hu => by rw [n_2, blk_cell h, Nat.zero_add]; exact hu⟩⟩
theorem run_append_nothing (t ty e : TypeId) (i : TypeInfo) (size : Nat) (ht : P.underlying t = some (.slice e)) (hi : P.info? e = some i)
    (v : Value) (n : Nat) (xs : List Value) (hown : w.ownsRow 0 e size v n xs) (c : Nat) : (Builtin.append_ #[t, t] ty #[v, .slice none 0 c]).run P w = .ok v w := by
  rcases hown.2 with ⟨rfl, rfl⟩ | ⟨g, cap, cur, rfl, _, _, hnc, _⟩
  · simp [Builtin.append_, run_underlying ht, sizeOf, typeInfo, hi, Builtin.lenOf, Builtin.firstCells]
  · simp [Builtin.append_, run_underlying ht, sizeOf, typeInfo, hi, Builtin.lenOf, Builtin.firstCells, hnc, storeCells]
def elK (P : Program) (e : TypeId) : Option (Value × Nat × Nat) :=
  match P.info? e with
  | some i => match i.zero with
    | some z => if z.cells.size = i.size ∧ 0 < i.size then some (z, i.size, i.bytes) else none
    | none => none
  | none => none
theorem e_9 {t e : TypeId} {s x : Operand} {z : Value} {sz bytes : Nat} {v vx : Value} {n m i : Nat} {xs news : List Value} (hS : Sep X w0 w L)
    (ho : o.op = .call { callee := .builtin .append, args := #[s, x], argTypes := #[t, t] }) (ht : P.underlying t = some (.slice e)) (he : elK P e = some (z, sz, bytes))
    (hs : a.eval s = v) (hx : a.eval x = vx) (hi : L[i]? = some (row v e sz n xs)) (hsrc : SlAt w vx sz m news) (h1 : news.all (·.oneCell') = true)
    (h63 : n + m ≤ maxLen) (hbytes : (n + m) * bytes ≤ 140737488355328) :
    OpY r P o a w (fun v' w' => Sep X w0 w' (L.set i (row v' e sz (n + m) (xs ++ news)))) := by
  unfold elK at he
  cases hi0 : P.info? e with
  | none => simp [hi0] at he
  | some ti =>
    simp only [hi0] at he
    cases hz : ti.zero with
    | none => simp [hz] at he
    | some z' =>
      simp only [hz] at he
      split at he
      case isFalse => cases he
      rename_i hcond
      simp only [Option.some.injEq, Prod.mk.injEq] at he
      obtain ⟨rfl, rfl, rfl⟩ := he
      have hown : w.ownsRow 0 e ti.size v n xs := hS.ok i _ hi
      have key : ∃ v' w', (Builtin.append_ #[t, t] o.type #[v, vx]).run P w = .ok v' w' ∧ w'.ownsRow 0 e ti.size v' (n + m) (xs ++ news) ∧ w.grownBy w' v.ownBlock ∧ (v'.ownBlock = v.ownBlock ∨ v'.ownBlock = some w.heap.size) := by
        obtain ⟨hl, A, cap, rfl, hc1, hc2, h3⟩ := hsrc
        cases A with
        | none =>
          have hn : news = [] := by
            by_cases hne : news = []
            · exact hne
            · obtain ⟨ad, h, _⟩ := h3 hne; cases h
          subst hn
          have hm : m = 0 := by
            have := hcond.2
            rcases Nat.eq_zero_or_pos m with h | h
            · exact h
            · have := Nat.mul_pos h hcond.2; simp at hl; omega
          subst hm
          exact ⟨v, w, run_append_nothing t o.type e ti ti.size ht hi0 v n xs hown cap, by simpa using hown, World.grownBy.refl w _, .inl rfl⟩
        | some ad =>
          have hcells : ∀ j u, news[j]? = some u → w.cell? (ad.add j) = some u := by
            intro j u hu
            obtain ⟨ad', h, hc⟩ := h3 (by rintro rfl; simp at hu)
            cases h
            exact hc j u hu
          obtain ⟨v', w', hrun, h2, h3, _, h5⟩ := run_append_own_at (P := P) w 0 t o.type e ti z' ti.size ti.bytes ht hi0 hz rfl rfl hcond.1 hcond.2 v n xs hown ad m cap news hl hcells (fun u hu => List.all_eq_true.1 h1 u hu) h63 hbytes (Nat.zero_le _)
          exact ⟨v', w', hrun, h2, h3, h5⟩
      obtain ⟨v', w', hrun, h2, h3, h4⟩ := key
      refine c_8 (v := v') (w' := w') (by rw [ho]; rfl) ?_ (hS.upd hi rfl (Ext.of_grownBy h3) h2 (fun b hb => ?_))
      · simp only [execOp, ho, resolve, invoke, builtin, Sem.run_bind, Sem.run_pure, Result.andThen_ok, List.map_toArray, List.map_cons, List.map_nil, hs, hx, hrun]
      · rcases h4 with h4 | h4
        · exact .inl (h4.symm.trans hb)
        · right
          have : (row v' e ti.size (n + m) (xs ++ news)).S b = (v'.ownBlock = some b) := rfl
          rw [this, h4] at hb
          cases hb; exact Nat.le_refl _
end
end Go.Eng

namespace Go.Eng
open Go.RowKit
theorem countP_lt {α : Type} {p q : α → Bool} : ∀ {l : List α}, (∀ x ∈ l, q x = true → p x = true) → ∀ {y : α}, y ∈ l → p y = true → q y = false → l.countP q + 1 ≤ l.countP p
  | [], _, y, hy, _, _ => by simp at hy
  | x :: l, h, y, hy, hp, hq => by
    rw [List.countP_cons, List.countP_cons]
    have hle : l.countP q ≤ l.countP p := List.countP_mono_left (fun z hz hqz => h z (by simp [hz]) hqz)
    by_cases hyl : y ∈ l
    · have ih := countP_lt (p := p) (q := q) (l := l) (fun z hz => h z (by simp [hz])) hyl hp hq
      have : (if q x = true then 1 else 0) ≤ (if p x = true then 1 else 0) := by
        by_cases hqx : q x = true
        · simp [hqx, h x (by simp) hqx]
        · simp [hqx]
      omega
    · have : y = x := by simpa [hyl] using hy
      subst this
      simp only [hp, hq, if_true]
      simp
      omega
def h_0 (ops : Array Oper) (j : Nat) : List Nat :=
  match ops[j]? with
  | some o => (o.after.toList.filter (Region.binds .any)).map (·.on)
  | none => []
def beforeOf (ops : Array Oper) : Nat → List Nat → List Nat
  | 0, l => l
  | k + 1, l => beforeOf ops k (l ++ (l.flatMap (h_0 ops)).filter (fun i => !l.contains i)).eraseDups
def m_1 (ops : Array Oper) (h : Nat) (deps : Nat → List Nat) : Bool :=
  ((List.range ops.size).all fun j => (h_0 ops j).all fun i => decide (i < j)) &&
  ((List.range h).all fun j => (deps j).all fun i => (h_0 ops j).contains i) &&
  ((List.range ops.size).all fun t => decide (t < h) || (List.range t).all fun i => (beforeOf ops 12 (h_0 ops t)).contains i) &&
  ((List.range h).all fun j => (List.range h).all fun i => decide (i = j) || match (ops[i]?).bind (·.dst), (ops[j]?).bind (·.dst) with | some d, some e => decide (d ≠ e) | _, _ => true) &&
  decide (h ≤ ops.size)
def q_3 (ops : Array Oper) (h : Nat) (ks : List Nat) : Bool :=
  (List.range h).all fun j => match (ops[j]?).bind (·.dst) with | some d => !ks.contains d | none => true
def un (ops : Array Oper) (listed : Array Bool) : Nat := (List.range ops.size).countP fun i => !(listed.getD i true)
structure Listed (ops : Array Oper) (listed : Array Bool) : Prop where
  size : listed.size = ops.size
  closed : ∀ j, listed.getD j false = true → ∀ i ∈ h_0 ops j, listed.getD i false = true
theorem i_7 {listed : Array Bool} {i : Nat} (hi : i < listed.size) : listed.getD i true = listed.getD i false := by simp [hi]
theorem j_4 {ops : Array Oper} {listed : Array Bool} {j : Nat} (h : j ∈ Region.ready .any ops listed) : (listed.getD j true = false) ∧ j < ops.size ∧ ∀ i ∈ h_0 ops j, listed.getD i false = true := by
  obtain ⟨h0, o, ho, hall⟩ := mem_ready.1 h
  refine ⟨h0, (Array.getElem?_eq_some_iff.1 ho).1, fun i hi => ?_⟩
  unfold h_0 at hi
  rw [ho] at hi
  simp only [List.mem_map, List.mem_filter] at hi
  obtain ⟨e, ⟨he, hb⟩, rfl⟩ := hi
  exact hall e (by simpa using he) hb
theorem ready_of {ops : Array Oper} {listed : Array Bool} {j : Nat} (h0 : listed.getD j true = false) (hj : j < ops.size) (hall : ∀ i ∈ h_0 ops j, listed.getD i false = true) : j ∈ Region.ready .any ops listed := by
  refine mem_ready.2 ⟨h0, ops[j], Array.getElem?_eq_getElem hj, fun e he hb => ?_⟩
  refine hall e.on ?_
  unfold h_0
  rw [Array.getElem?_eq_getElem hj]
  exact List.mem_map.2 ⟨e, List.mem_filter.2 ⟨by simpa using he, hb⟩, rfl⟩
theorem Listed.set {ops : Array Oper} {listed : Array Bool} {j : Nat} (h : Listed ops listed) (hj : j ∈ Region.ready .any ops listed) : Listed ops (listed.setIfInBounds j true) := by
  obtain ⟨h0, hlt, hall⟩ := j_4 hj
  refine ⟨by simp [h.size], fun k hk i hi => ?_⟩
  by_cases e : k = j
  · subst e; exact getD_set_true (hall i hi)
  · rw [getD_set_ne false (fun e' => e e'.symm)] at hk
    exact getD_set_true (h.closed k hk i hi)
theorem un_set {ops : Array Oper} {listed : Array Bool} {j : Nat} (h0 : listed.getD j true = false) (hj : j < ops.size) (hs : listed.size = ops.size) : un ops (listed.setIfInBounds j true) + 1 ≤ un ops listed := by
  refine countP_lt (fun x _ hx => ?_) (List.mem_range.2 hj) (by simp [h0]) (by simp [hs, hj])
  by_cases e : x = j
  · subst e; simp [h0]
  · rw [getD_set_ne true (fun e' => e e'.symm)] at hx; exact hx
theorem h_5 {ops : Array Oper} {listed : Array Bool} (h : Listed ops listed) : ∀ (k : Nat) (l : List Nat), (∀ i ∈ l, listed.getD i false = true) → ∀ i ∈ beforeOf ops k l, listed.getD i false = true
  | 0, _, hl => hl
  | k + 1, l, hl => h_5 h k _ (fun i hi => by
      rw [List.mem_eraseDups, List.mem_append, List.mem_filter, List.mem_flatMap] at hi
      rcases hi with hi | ⟨⟨j, hj, hij⟩, _⟩
      · exact hl i hi
      · exact h.closed j (hl j hj) i hij)
section
variable {r : Option Nat} {P : Program} {Q : Exit → Act → World → Prop} {n : Nat} {ds : List Deferred} {m : List (Nat × Value)}
def OpG (r : Option Nat) (P : Program) (ops : Array Oper) (o : Oper) (a : Act) (w : World) (R : Value → World → Prop) : Prop :=
  (Region.wanted o (yielded ops a.tmps) = true ∧ OpY r P o a w R) ∨ (Region.wanted o (yielded ops a.tmps) = false ∧ R undef w)
theorem opG_wp {ops : Array Oper} {i : Nat} {o : Oper} {a : Act} {w : World} {R : Value → World → Prop} {K : Act → World → Prop} (hi : ops[i]? = some o) (h : OpG r P ops o a w R) (hK : ∀ v w', R v w' → K (a.put o.dst v) w') : wpOpIn (FR r) 0 P ops Q i K a w := by
  unfold wpOpIn
  simp only [hi]
  rcases h with ⟨hw, h⟩ | ⟨hw, h⟩
  · rw [if_pos hw]; exact h K Q hK
  · rw [if_neg (by simp [hw])]; exact ⟨fun _ _ => trivial, hK _ _ h⟩
theorem e_7 {ops : Array Oper} {o : Oper} {a : Act} {w : World} {R : Value → World → Prop} (hg : o.guard = none) (h : OpY r P o a w R) : OpG r P ops o a w R := .inl ⟨by simp [Region.wanted, hg], h⟩
theorem wanted_is {ops : Array Oper} {o : Oper} {a : Act} {j t : Nat} {b b' : Bool} (hg : o.guard = some (j, b)) (hj : (ops[j]?).bind (·.dst) = some t) (ht : a.tmps[t]? = some (.bool b')) : Region.wanted o (yielded ops a.tmps) = (b' == b) := by
  simp [Region.wanted, hg, yielded, hj, ht]
theorem wanted_undef {ops : Array Oper} {o : Oper} {a : Act} {j t : Nat} {b : Bool} (hg : o.guard = some (j, b)) (hj : (ops[j]?).bind (·.dst) = some t) (ht : a.tmps[t]? = some undef) : Region.wanted o (yielded ops a.tmps) = false := by
  simp [Region.wanted, hg, yielded, hj, ht, undef]
def Has (ops : Array Oper) (φ : Nat → Value → World → Prop) (a : Act) (w : World) (i : Nat) : Prop :=
  match (ops[i]?).bind (·.dst) with
  | some d => ∃ v, a.tmps[d]? = some v ∧ φ i v w
  | none => ∃ v, φ i v w
theorem c_drawG {id : Nat} {l : List Oper} {a : Act} {w : World} (Rel : Nat → World → World → Prop) (hm : P.follows .mixedOrders = true) (h : Nat) (deps : Nat → List Nat) (hok : m_1 l.toArray h deps = true) (hfree : q_3 l.toArray h (m.map (·.1)) = true) (hn : (List.range h).all (fun j => match (l.toArray[j]?).bind (·.dst) with | some d => decide (d < n) | none => true) = true)
    (M : World → Prop) (φ : Nat → Value → World → Prop) (hmono : ∀ i j v w w', i ≠ j → φ i v w → Rel j w w' → φ i v w')
    (hA : Fr n ds m a) (hM : ∀ w', Ext NoB w w' → w'.heap = w.heap → M w')
    (hop : ∀ j o, l[j]? = some o → j < h → ∀ a w, Fr n ds m a → M w → (∀ i ∈ deps j, Has l.toArray φ a w i) → OpG r P l.toArray o a w (fun v w' => Rel j w w' ∧ M w' ∧ φ j v w'))
    (htail : ∀ a w, Fr n ds m a → M w → (∀ i, i < h → Has l.toArray φ a w i) → WL r P l.toArray Q (l.drop h) a w) :
    WC r P (.region id l.toArray true) Q a w := by
  generalize hops : l.toArray = ops at *
  have hlops : ∀ j : Nat, l[j]? = ops[j]? := fun j => by subst hops; simp
  have hlen : l.length = ops.size := by subst hops; simp
  simp only [m_1, Bool.and_eq_true, List.all_eq_true, List.mem_range, decide_eq_true_eq] at hok
  obtain ⟨⟨⟨⟨hback, hdeps⟩, htl⟩, hdst⟩, hh⟩ := hok
  refine wpIn_region_any hm ?_
  have main : ∀ (fuel : Nat) (listed : Array Bool) (a : Act) (w : World), un ops listed ≤ fuel → Listed ops listed →
      (((∃ j, j < h ∧ listed.getD j true = false) ∧ (∀ t, h ≤ t → t < ops.size → listed.getD t true = false) ∧ Fr n ds m a ∧ M w ∧ (∀ i, i < h → listed.getD i false = true → Has ops φ a w i)) ∨
        (∃ t, t ≤ ops.size ∧ (∀ i, i < ops.size → listed.getD i true = decide (i < t)) ∧ h ≤ t ∧ WL r P ops Q (l.drop t) a w)) →
      wpAnyIn (FR r) 0 P .any ops Q fuel listed a w := by
    intro fuel
    induction fuel with
    | zero =>
      intro listed a w hu hL hst
      have hall : ∀ i, i < ops.size → listed.getD i true = true := fun i hi => by
        cases hc : listed.getD i true with
        | true => rfl
        | false =>
          have : 0 < un ops listed := List.countP_pos_iff.2 ⟨i, List.mem_range.2 hi, by simp [hc]⟩
          omega
      rcases hst with ⟨⟨j, hj, hj0⟩, _⟩ | ⟨t, ht, hlt, hht, hw⟩
      · rw [hall j (by omega)] at hj0; cases hj0
      · refine ⟨?_, ?_⟩
        · rw [List.eq_nil_iff_forall_not_mem]
          intro j hj
          obtain ⟨h0, hjl, _⟩ := j_4 hj
          rw [hall j hjl] at h0; cases h0
        · have ht' : t = ops.size := by
            rcases Nat.lt_or_ge t ops.size with h1 | h1
            · have := hlt t h1
              rw [hall t h1] at this
              simp at this
            · omega
          rw [ht', ← hlen, List.drop_length] at hw
          exact hw
    | succ fuel ih =>
      intro listed a w hu hL hst
      refine ⟨fun hnil => ?_, fun j hj => ?_⟩
      · -- nothing is ready: all has come
        rcases hst with ⟨⟨j, hj, hj0⟩, _⟩ | ⟨t, ht, hlt, hht, hw⟩
        · exfalso
          have key : ∀ k, k < ops.size → listed.getD k true = false → False := by
            intro k
            induction k using Nat.strongRecOn with
            | _ k ihk =>
              intro hk hk0
              have : k ∈ Region.ready .any ops listed := ready_of hk0 hk (fun i hi => by
                have hik := hback k hk i hi
                cases hc : listed.getD i false with
                | true => rfl
                | false => exact (ihk i hik (by omega) (by rw [i_7 (by rw [hL.size]; omega)]; exact hc)).elim)
              rw [hnil] at this; cases this
          exact key j (by omega) hj0
        · have ht' : t = ops.size := by
            rcases Nat.lt_or_ge t ops.size with h1 | h1
            · exfalso
              have : t ∈ Region.ready .any ops listed := ready_of (by rw [hlt t h1]; simp) h1 (fun i hi => by
                have hik := hback t h1 i hi
                rw [← i_7 (by rw [hL.size]; omega), hlt i (by omega)]; simpa using hik)
              rw [hnil] at this; cases this
            · omega
          rw [ht', ← hlen, List.drop_length] at hw
          exact hw
      · obtain ⟨h0, hjl, hjb⟩ := j_4 hj
        have hL' := hL.set hj
        have hu' : un ops (listed.setIfInBounds j true) ≤ fuel := by have := un_set h0 hjl hL.size; omega
        have hoj : ops[j]? = some ops[j] := Array.getElem?_eq_getElem hjl
        rcases hst with ⟨⟨j0, hj0, hj00⟩, htun, hA, hM, hHas⟩ | ⟨t, ht, hlt, hht, hw⟩
        · -- the head
          have hjh : j < h := by
            rcases Nat.lt_or_ge j h with h1 | h1
            · exact h1
            · exfalso
              have h2 := htl j hjl
              simp only [Bool.or_eq_true, decide_eq_true_eq] at h2
              rcases h2 with h2 | h2
              · omega
              · rw [List.all_eq_true] at h2
                have h3 := h2 j0 (List.mem_range.2 (by omega))
                have h4 := h_5 hL 12 _ hjb j0 (by simpa using h3)
                rw [← i_7 (by rw [hL.size]; omega), hj00] at h4; cases h4
          refine opG_wp hoj (hop j _ ((hlops j).trans hoj) hjh a w hA hM (fun i hi => ?_)) ?_
          · have hib := hdeps j hjh i hi
            have hib' : i ∈ h_0 ops j := by simpa using hib
            exact hHas i (by have := hback j hjl i hib'; omega) (hjb i hib')
          · rintro v w' ⟨hext, hM', hφ⟩
            refine ih _ _ _ hu' hL' ?_
            have hA' : Fr n ds m (a.put ops[j].dst v) := by
              cases hd : ops[j].dst with
              | none => exact hA.put_none v
              | some d =>
                have hf := List.all_eq_true.1 hfree j (List.mem_range.2 hjh)
                have hjd : (ops[j]?).bind (·.dst) = some d := by rw [hoj]; exact hd
                rw [hjd] at hf
                have hdn := List.all_eq_true.1 hn j (List.mem_range.2 hjh)
                rw [hjd] at hdn
                refine (hA.put (by simpa using hdn) v).mono (fun i u hi => ?_)
                have : i ≠ d := by
                  rintro rfl
                  have h5 : ∀ (l : List (Nat × Value)), l.lookup i = some u → i ∈ l.map (·.1) := by
                    intro l
                    induction l with
                    | nil => intro h; simp at h
                    | cons p l ihl =>
                      obtain ⟨p1, p2⟩ := p
                      intro h
                      by_cases e : i = p1
                      · simp [e]
                      · have hb : (i == p1) = false := by simpa using e
                        simp only [List.lookup, hb] at h
                        have := ihl h
                        simp only [List.map_cons, List.mem_cons]
                        exact .inr this
                  have := h5 m hi
                  simp [this] at hf
                have hb : (i == d) = false := by simpa using this
                simp only [List.lookup, hb]; exact hi
            have hHas' : ∀ i, i < h → (listed.setIfInBounds j true).getD i false = true → Has ops φ (a.put ops[j].dst v) w' i := by
              intro i hi hli
              by_cases e : i = j
              · subst e
                unfold Has
                rw [hoj]
                cases hd : ops[i].dst with
                | none => simp [hd]; exact ⟨v, hφ⟩
                | some d =>
                  simp only [Option.bind_some, hd]
                  have hdn := List.all_eq_true.1 hn i (List.mem_range.2 hi)
                  rw [hoj] at hdn
                  simp only [Option.bind_some, hd, decide_eq_true_eq] at hdn
                  refine ⟨v, ?_, hφ⟩
                  simp only [Act.put]
                  rw [Array.getElem?_setIfInBounds_self_of_lt (by rw [hA.1]; exact hdn)]
              · rw [getD_set_ne false (fun e' => e e'.symm)] at hli
                have hh0 := hHas i hi hli
                unfold Has at hh0 ⊢
                have hdd := hdst i hi j hjh
                cases hdi : (ops[i]?).bind (·.dst) with
                | none => rw [hdi] at hh0; obtain ⟨u, hu0⟩ := hh0; exact ⟨u, hmono _ _ _ _ _ e hu0 hext⟩
                | some di =>
                  rw [hdi] at hh0
                  obtain ⟨u, hu1, hu2⟩ := hh0
                  refine ⟨u, ?_, hmono _ _ _ _ _ e hu2 hext⟩
                  cases hdj : ops[j].dst with
                  | none => exact hu1
                  | some dj =>
                    have hjd : (ops[j]?).bind (·.dst) = some dj := by rw [hoj]; exact hdj
                    rw [hdi, hjd] at hdd
                    simp only [Bool.or_eq_true, decide_eq_true_eq] at hdd
                    have hne : dj ≠ di := fun e' => (hdd.resolve_left (fun e2 => e e2.symm)) e'
                    simp only [Act.put]
                    rw [Array.getElem?_setIfInBounds_ne hne]; exact hu1
            by_cases hmore : ∃ k, k < h ∧ (listed.setIfInBounds j true).getD k true = false
            · refine .inl ⟨hmore, fun t ht1 ht2 => ?_, hA', hM', hHas'⟩
              rw [getD_set_ne true (by omega)]; exact htun t ht1 ht2
            · -- the head is over
              refine .inr ⟨h, hh, fun i hi => ?_, Nat.le_refl _, ?_⟩
              · by_cases hih : i < h
                · cases hc : (listed.setIfInBounds j true).getD i true with
                  | true => simp [hih]
                  | false => exact (hmore ⟨i, hih, hc⟩).elim
                · rw [getD_set_ne true (by omega), htun i (by omega) hi]; simp [hih]
              · exact htail _ _ hA' hM' (fun i hi => hHas' i hi (by
                  cases hc : (listed.setIfInBounds j true).getD i true with
                  | true => rw [← i_7 (by simp [hL.size]; omega)]; exact hc
                  | false => exact (hmore ⟨i, hi, hc⟩).elim))
        · -- the tail
          have hjt : j = t := by
            rw [hlt j hjl] at h0
            simp only [decide_eq_false_iff_not, Nat.not_lt] at h0
            rcases Nat.lt_or_ge t j with h1 | h1
            · exfalso
              have h2 := htl j hjl
              simp only [Bool.or_eq_true, decide_eq_true_eq] at h2
              rcases h2 with h2 | h2
              · omega
              · rw [List.all_eq_true] at h2
                have h4 := h_5 hL 12 _ hjb t (by simpa using h2 t (List.mem_range.2 h1))
                rw [← i_7 (by rw [hL.size]; omega), hlt t (by omega)] at h4
                simp at h4
            · omega
          subst hjt
          have hdrop : l.drop j = ops[j] :: l.drop (j + 1) := by
            rw [List.drop_eq_getElem_cons (by rw [hlen]; exact hjl)]
            congr 1
            subst hops; simp
          rw [hdrop] at hw
          have hcont : ∀ a w, WL r P ops Q (l.drop (j + 1)) a w → wpAnyIn (FR r) 0 P .any ops Q fuel (listed.setIfInBounds j true) a w := by
            intro a w hw'
            refine ih _ _ _ hu' hL' (.inr ⟨j + 1, by omega, fun i hi => ?_, by omega, hw'⟩)
            by_cases e : i = j
            · subst e; simp [hL.size, hi]
            · rw [getD_set_ne true (fun e' => e e'.symm), hlt i hi]
              simp only [decide_eq_decide]; omega
          unfold wpOpIn
          simp only [hoj]
          have hw2 : (if Region.wanted ops[j] (yielded ops a.tmps) then ops[j].wpIn (FR r) 0 P a w (wpListIn (FR r) 0 P ops Q (l.drop (j + 1))) Q else (∀ f, ops[j].about P w a.eval = some f → (FR r).fn f) ∧ wpListIn (FR r) 0 P ops Q (l.drop (j + 1)) (a.put ops[j].dst undef) w) := by
            have := hw
            simp only [WL, wpListIn] at this
            exact this
          split
          · rename_i hwn; rw [if_pos hwn] at hw2; exact Oper.wpIn_mono hcont hw2
          · rename_i hwn; rw [if_neg hwn] at hw2; exact ⟨hw2.1, hcont _ _ hw2.2⟩
  have hw1 : Ext NoB w { w with drawn := w.drawn + 1 } := Ext.drewN NoB w 1
  refine main ops.size _ a _ (by unfold un; exact Nat.le_trans List.countP_le_length (by simp)) ⟨by simp, fun j hj => by rw [getD_replicate_false] at hj; cases hj⟩ ?_
  have hrep : ∀ t, t < ops.size → (Array.replicate ops.size false).getD t true = false := fun t ht => by simp [ht]
  rcases Nat.eq_zero_or_pos h with h0 | h0
  · refine .inr ⟨0, Nat.zero_le _, fun i hi => by rw [hrep i hi]; simp, by omega, ?_⟩
    have := htail a _ hA (hM _ hw1 rfl) (fun i hi => by omega)
    rw [h0] at this; exact this
  · refine .inl ⟨⟨0, h0, hrep 0 (by omega)⟩, fun t _ ht => hrep t ht, hA, hM _ hw1 rfl, fun i hi hl => by rw [getD_replicate_false] at hl; cases hl⟩
theorem c_draw {id : Nat} {l : List Oper} {a : Act} {w : World} (hm : P.follows .mixedOrders = true) (h : Nat) (deps : Nat → List Nat) (hok : m_1 l.toArray h deps = true) (hfree : q_3 l.toArray h (m.map (·.1)) = true) (hn : (List.range h).all (fun j => match (l.toArray[j]?).bind (·.dst) with | some d => decide (d < n) | none => true) = true)
    (M : World → Prop) (φ : Nat → Value → World → Prop) (hmono : ∀ i v w w', φ i v w → Ext NoB w w' → φ i v w')
    (hA : Fr n ds m a) (hM : ∀ w', Ext NoB w w' → w'.heap = w.heap → M w')
    (hop : ∀ j o, l[j]? = some o → j < h → ∀ a w, Fr n ds m a → M w → (∀ i ∈ deps j, Has l.toArray φ a w i) → OpG r P l.toArray o a w (fun v w' => Ext NoB w w' ∧ M w' ∧ φ j v w'))
    (htail : ∀ a w, Fr n ds m a → M w → (∀ i, i < h → Has l.toArray φ a w i) → WL r P l.toArray Q (l.drop h) a w) :
    WC r P (.region id l.toArray true) Q a w :=
  c_drawG (fun _ w w' => Ext NoB w w') hm h deps hok hfree hn M φ (fun i _ v w w' _ h1 h2 => hmono i v w w' h1 h2) hA hM hop htail
end
end Go.Eng

namespace Go.Eng
open Go.RowKit
theorem evc (a : Act) (v : Value) : a.eval (.const v) = v := rfl
theorem evf (a : Act) (f : FuncId) : a.eval (.func f) = .func (.func f) #[] #[] := rfl
section
variable {a : Act} {x1 x2 x3 x4 x5 x6 : Operand} {v1 v2 v3 v4 v5 v6 : Value}
theorem ev0 : (#[] : Array Operand).map a.eval = #[] := by simp
theorem ev1 (h1 : a.eval x1 = v1) : #[x1].map a.eval = #[v1] := by simp [h1]
theorem ev2 (h1 : a.eval x1 = v1) (h2 : a.eval x2 = v2) : #[x1, x2].map a.eval = #[v1, v2] := by simp [h1, h2]
theorem ev3 (h1 : a.eval x1 = v1) (h2 : a.eval x2 = v2) (h3 : a.eval x3 = v3) : #[x1, x2, x3].map a.eval = #[v1, v2, v3] := by simp [h1, h2, h3]
theorem ev4 (h1 : a.eval x1 = v1) (h2 : a.eval x2 = v2) (h3 : a.eval x3 = v3) (h4 : a.eval x4 = v4) : #[x1, x2, x3, x4].map a.eval = #[v1, v2, v3, v4] := by simp [h1, h2, h3, h4]
variable {i1 i2 i3 i4 i5 i6 : Nat}
theorem pv0 : ((#[] : Array (Nat × Operand)).map fun (i, x) => (i, a.eval x)) = #[] := by simp
theorem pv1 (h1 : a.eval x1 = v1) : (#[(i1, x1)].map fun (i, x) => (i, a.eval x)) = #[(i1, v1)] := by simp [h1]
theorem pv2 (h1 : a.eval x1 = v1) (h2 : a.eval x2 = v2) : (#[(i1, x1), (i2, x2)].map fun (i, x) => (i, a.eval x)) = #[(i1, v1), (i2, v2)] := by simp [h1, h2]
theorem pv3 (h1 : a.eval x1 = v1) (h2 : a.eval x2 = v2) (h3 : a.eval x3 = v3) : (#[(i1, x1), (i2, x2), (i3, x3)].map fun (i, x) => (i, a.eval x)) = #[(i1, v1), (i2, v2), (i3, v3)] := by simp [h1, h2, h3]
theorem pv4 (h1 : a.eval x1 = v1) (h2 : a.eval x2 = v2) (h3 : a.eval x3 = v3) (h4 : a.eval x4 = v4) : (#[(i1, x1), (i2, x2), (i3, x3), (i4, x4)].map fun (i, x) => (i, a.eval x)) = #[(i1, v1), (i2, v2), (i3, v3), (i4, v4)] := by simp [h1, h2, h3, h4]
end
section
variable {r : Option Nat} {P : Program} {o : Oper} {a : Act} {w : World}
theorem e_8 {t : TypeId} {parts : Array (Nat × Operand)} {ps : Array (Nat × Value)} {v : Value} (ho : o.op = .build t parts) (hp : (parts.map fun (i, x) => (i, a.eval x)) = ps) (hb : ∀ w, (Instr.build t ps).run P w = .ok v w) : OpY r P o a w (fun v' w' => v' = v ∧ w' = w) :=
  c_8 (v := v) (by rw [ho]; rfl) (by simp only [execOp, ho, hp, Sem.run_bind, hb, Result.andThen_ok, Sem.run_pure]) ⟨rfl, rfl⟩
theorem d_7 {x : Operand} {t e : TypeId} {v : Value} {sz n : Nat} {cs : List Value} (ho : o.op = .call { callee := .builtin .len, args := #[x], argTypes := #[t] }) (ht : P.underlying t = some (.slice e)) (hx : a.eval x = v) (hs : SlAt w v sz n cs) : OpY r P o a w (fun v' w' => v' = .int .i64 (n : Int) ∧ w' = w) := by
  obtain ⟨_, A, cap, hv, _⟩ := hs
  exact op_len ho ht (hx.trans hv)
theorem SlAt.addr {v : Value} {sz n : Nat} {cs : List Value} (hs : SlAt w v sz n cs) (h : 0 < cs.length) : ∃ ad c, v = .slice (some ad) n c := by
  obtain ⟨ad, c, h, _⟩ := eptr_field hs (by rintro rfl; simp at h)
  exact ⟨ad, c, h⟩
theorem b_8 {t e sz : Nat} {g : Bool} {x ix : Operand} {kd : IntKind} {i : Nat} {v : Value} {n : Nat} {cs : List Value} (ho : o.op = .indexAddr t x ix) (ht : P.underlying t = some (.slice e)) (he : tyK P e = some (g, sz)) (hx : a.eval x = v) (hi : a.eval ix = .int kd (i : Int)) (hs : SlAt w v sz n cs) (hsz : 0 < sz) (hlt : i < n) :
    OpY r P o a w (fun v' w' => v' = eptr v (i * sz) ∧ w' = w) := by
  obtain ⟨ad, c, hv⟩ := hs.addr (by rw [hs.1]; exact Nat.mul_pos (by omega) hsz)
  exact op_index ho ht he hx hv hi hlt
theorem l_5 {t f off k : Nat} {x : Operand} {v : Value} {sz n : Nat} {cs : List Value} (ho : o.op = .fieldAddr t x f) (hf : fldK P t f = some off) (hx : a.eval x = eptr v k) (hs : SlAt w v sz n cs) (hl : 0 < cs.length) : OpY r P o a w (fun v' w' => v' = eptr v (k + off) ∧ w' = w) := by
  obtain ⟨ad, c, hv⟩ := hs.addr hl
  exact op_fieldE ho hf hx hv
end
section
variable {K : Act → World → Prop} {Q : Exit → Act → World → Prop} {a : Act} {w : World} {id id' : Nat}
theorem b_0 (h : K a w) : Exit.then K Q .normal a w := h
theorem b_1 (h : Q .ret a w) : Exit.then K Q .ret a w := h
theorem b_9 (h : Q (.exit id) a w) : Exit.then K Q (.exit id) a w := h
theorem f_8 (h : Q .normal a w) : Exit.inBlock id Q .normal a w := h
theorem d_2 (h : Q .ret a w) : Exit.inBlock id Q .ret a w := h
theorem f_1 (h : Q .normal a w) : Exit.inBlock id Q (.exit id) a w := by simp only [Exit.inBlock, if_true]; exact h
theorem blk_miss (hne : id' ≠ id) (h : Q (.exit id') a w) : Exit.inBlock id Q (.exit id') a w := by simp only [Exit.inBlock, if_neg hne]; exact h
theorem ng_ret (h : Q .ret a w) : Exit.noGoto Q .ret a w := h
end
theorem l_0 {P : Program} {b : Frame} {a : Act} {k : List Item} {cs : List Frame} {w : World} {c : Code} : step P (lone (b.atR a (.code (.scope c) :: k)) cs w) = .next (lone (b.atR a (.code c :: .inScope c :: k)) cs w) :=
  step_lone_go (by simp [stepG, stepG.exec, Frame.atR])
theorem stepR_inScope {P : Program} {b : Frame} {a : Act} {k : List Item} {cs : List Frame} {w : World} {c : Code} : step P (lone (b.atR a (.inScope c :: k)) cs w) = .next (lone (b.atR a k) cs w) :=
  step_lone_go (by simp [stepG, stepG.exec, Frame.atR])
theorem c_scope {r : Option Nat} {P : Program} {Q : Exit → Act → World → Prop} {a : Act} {w : World} {c : Code} (h : WC r P c (Exit.noGoto Q) a w) : WC r P (.scope c) Q a w := by
  intro b k cs hro hb hr
  have h0 : (lone (b.atR a (.code (.scope c) :: k)) cs w).fenced P (FR r) := fenced_calm hb hr rfl
  obtain ⟨e, a₁, w₁, hq, harr⟩ := h b (.inScope c :: k) cs hro hb hr
  cases e with
  | normal => exact ⟨.normal, a₁, w₁, hq, .head h0 l_0 (StepsIn.trans harr (.one (fenced_calm hb hr rfl) stepR_inScope))⟩
  | exit id =>
    have hx : exitTo id (.inScope c :: k) = exitTo id k := by simp [exitTo]
    exact ⟨.exit id, a₁, w₁, hq, fun k' hk => .head h0 l_0 (harr.1 k' (by rw [hx]; exact hk)), fun hr' hk => let ⟨k₁, h1, h2⟩ := harr.2 hr' (by rw [hx]; exact hk); ⟨k₁, h1, .head h0 l_0 h2⟩⟩
  | goto l => exact hq.elim
  | ret => exact ⟨_, a₁, w₁, hq, .of_steps (.one h0 l_0) harr⟩
  | panic ch => exact ⟨_, a₁, w₁, hq, .of_steps (.one h0 l_0) harr⟩
  | outgrown => exact ⟨_, a₁, w₁, hq, .of_steps (.one h0 l_0) harr⟩
section
variable {P : Program} {fn : Func} {R : Value → World → Prop} {a : Act} {w : World} {n : Nat} {m : List (Nat × Value)} {e : Exit}
inductive p_3 (P : Program) (w : World) (m : List (Nat × Value)) : ResultVar → Value → Prop
  | tmp {t : Nat} {v : Value} (h : m.lookup t = some v) : p_3 P w m (.tmp t) v
  | cellA {t b j k : Nat} {ty tb : TypeId} {cs l : List Value} (h : m.lookup t = some (bptr b j)) (ht : tyK P ty = some (true, k)) (hb : (blk b tb cs).p w) (hv : (cs.drop j).take k = l) (hl : l.length = k) : p_3 P w m (.cell t ty) (.agg l.toArray)
  | cell1 {t b j k : Nat} {ty tb : TypeId} {cs : List Value} {v : Value} (h : m.lookup t = some (bptr b j)) (ht : tyK P ty = some (false, k)) (hb : (blk b tb cs).p w) (hv : cs[j]? = some v) : p_3 P w m (.cell t ty) v
theorem p_3.run {ds : List Deferred} (hA : Fr n ds m a) {x : ResultVar} {v : Value} (h : p_3 P w m x v) :
    (match x with | .tmp t => (pure (a.tmps.getD t undef) : Sem Value) | .cell p t => do loadVar t (← asAddr (a.tmps.getD p undef))).run P w = .ok v w := by
  cases h with
  | tmp h => have := hA.ev h; simp only [Act.eval] at this; simp only [this, Sem.run_pure]
  | cellA h ht hb hv hl =>
    rename_i t b j k ty tb cs l
    have h1 := hA.ev h
    simp only [Act.eval] at h1
    have := m_5 (P := P) (p := ⟨b, j, none⟩) ht hl w (fun i u hu => by
      rw [n_2, blk_cell hb, ← hu, ← hv, List.getElem?_take, if_pos, List.getElem?_drop]
      have := (List.getElem?_eq_some_iff.1 hu).1
      omega)
    simp only [h1, bptr, asAddr, Sem.run_bind, Sem.run_pure, Result.andThen_ok, this]
  | cell1 h ht hb hv =>
    have h1 := hA.ev h
    simp only [Act.eval] at h1
    have := m_6 (P := P) ht w ((blk_cell hb _).trans hv)
    simp only [h1, bptr, asAddr, Sem.run_bind, Sem.run_pure, Result.andThen_ok, this]
theorem a_9 {v : Value} (hA : Fr n [] m a) (he : e = .ret ∨ e = .normal) (hr : (results fn a.tmps).run P w = .ok v w) (hR : R v w) : bodyPost P fn (Ret R) e a w := by
  rcases he with rfl | rfl
  · exact ⟨hA.2.1, v, hr, hR⟩
  · exact ⟨hA.2.1, v, hr, hR⟩
theorem e_3 (hf : fn.results = #[]) (tmps : Array Value) : (results fn tmps).run P w = .ok (.tuple #[]) w := results_none hf tmps P w
def q_0 (a : Act) (x : ResultVar) : Sem Value := match x with | .tmp t => pure (a.tmps.getD t undef) | .cell p t => do loadVar t (← asAddr (a.tmps.getD p undef))
theorem results_eq : results fn a.tmps = (do let vs ← fn.results.mapM (q_0 a); pure (if h : vs.size = 1 then vs[0] else .tuple vs)) := by
  unfold results
  congr 1
theorem a_4 {x : ResultVar} {v : Value} {ds : List Deferred} (hA : Fr n ds m a) (hf : fn.results = #[x]) (h : p_3 P w m x v) : (results fn a.tmps).run P w = .ok v w := by
  have h1 : (q_0 a x).run P w = .ok v w := p_3.run hA h
  rw [results_eq, hf]
  generalize q_0 a = g at *
  simp [Sem.run_bind, Sem.run_pure, h1]
theorem n_5 {x y : ResultVar} {v u : Value} {ds : List Deferred} (hA : Fr n ds m a) (hf : fn.results = #[x, y]) (h : p_3 P w m x v) (h2 : p_3 P w m y u) : (results fn a.tmps).run P w = .ok (.tuple #[v, u]) w := by
  have h1 : (q_0 a x).run P w = .ok v w := p_3.run hA h
  have h2 : (q_0 a y).run P w = .ok u w := p_3.run hA h2
  rw [results_eq, hf]
  generalize q_0 a = g at *
  simp [Sem.run_bind, Sem.run_pure, h1, h2]
theorem g_0 {x y z : ResultVar} {v u t : Value} {ds : List Deferred} (hA : Fr n ds m a) (hf : fn.results = #[x, y, z]) (h : p_3 P w m x v) (h2 : p_3 P w m y u) (h3 : p_3 P w m z t) : (results fn a.tmps).run P w = .ok (.tuple #[v, u, t]) w := by
  have h1 : (q_0 a x).run P w = .ok v w := p_3.run hA h
  have h2 : (q_0 a y).run P w = .ok u w := p_3.run hA h2
  have h3 : (q_0 a z).run P w = .ok t w := p_3.run hA h3
  rw [results_eq, hf]
  generalize q_0 a = g at *
  simp [Sem.run_bind, Sem.run_pure, h1, h2, h3]
theorem Fr.add {ds : List Deferred} (hA : Fr n ds m a) {d : Nat} {v : Value} (h : a.tmps[d]? = some v) : Fr n ds ((d, v) :: m) a :=
  ⟨hA.1, hA.2.1, fun i u hi => by
    by_cases e : i = d
    · subst e; simp only [List.lookup, beq_self_eq_true, Option.some.injEq] at hi; subst hi; exact h
    · have hb : (i == d) = false := by simpa using e
      simp only [List.lookup, hb] at hi
      exact hA.2.2 i u hi⟩
end
section
variable {r : Option Nat} {P : Program} {o : Oper} {a : Act} {w : World} {M : World → Prop} {φ : Value → World → Prop} {v : Value}
theorem dr_val (h : OpY r P o a w (fun v' w' => v' = v ∧ w' = w)) (hM : M w) (hφ : φ v w) : OpY r P o a w (fun v w' => Ext NoB w w' ∧ M w' ∧ φ v w') :=
  n_4 h fun v' w' ⟨h1, h2⟩ => by subst h1; subst h2; exact ⟨Ext.refl _ _, hM, hφ⟩
theorem dr_ext (h : OpY r P o a w (fun v' w' => v' = v ∧ Ext NoB w w')) (hM : ∀ w', Ext NoB w w' → M w') (hφ : ∀ w', Ext NoB w w' → φ v w') : OpY r P o a w (fun v w' => Ext NoB w w' ∧ M w' ∧ φ v w') :=
  n_4 h fun v' w' ⟨h1, h2⟩ => by subst h1; exact ⟨h2, hM _ h2, hφ _ h2⟩
theorem j_6 {ops : Array Oper} {φ : Nat → Value → World → Prop} {i d : Nat} {v : Value} (h : Has ops φ a w i) (hd : (ops[i]?).bind (·.dst) = some d) (hφ : ∀ u, φ i u w → u = v) : a.tmps[d]? = some v := by
  unfold Has at h
  rw [hd] at h
  obtain ⟨u, h1, h2⟩ := h
  rw [h1, hφ u h2]
theorem e_0 {d : Nat} (h : a.tmps[d]? = some v) : a.eval (.tmp d) = v := by simp [Act.eval, h]
end
end Go.Eng

namespace Go.Eng
open Go.RowKit
def ints (xs : List Int) : List Value := xs.map (Value.int .i64)
theorem ints_length (xs : List Int) : (ints xs).length = xs.length := by simp [ints]
theorem ints_at {xs : List Int} {i : Nat} (h : i < xs.length) : (ints xs)[i * 1]? = some (.int .i64 (xs.getD i 0)) := by
  simp [ints, List.getD, h]
theorem ints_one (xs : List Int) : (ints xs).all (·.oneCell') = true := by simp [ints, Value.oneCell']
end Go.Eng
namespace Go.Eng
open Go.RowKit
end Go.Eng

namespace Go.Eng
open Go.RowKit
structure Yd where
  p : Value → World → Prop
  mono : ∀ v w w', p v w → Ext NoB w w' → p v w'
def Yd.val (u : Value) : Yd := ⟨fun v _ => v = u, fun _ _ _ h _ => h⟩
def Yd.any : Yd := ⟨fun _ _ => True, fun _ _ _ _ _ => trivial⟩
def Yd.new (B : Nat) (mk : Value → Res) : Yd := ⟨fun v w => (mk v).p w ∧ ∀ b, (mk v).S b → B ≤ b, fun v w w' h k => ⟨(mk v).stable w w' h.1 fun b hb => k.keep b ((mk v).lt w b h.1 hb) (fun hf => hf), h.2⟩⟩
def Yd.blt (B : Nat) (e : TypeId) (len : Nat) (cs : List Value) : Yd :=
  ⟨fun v w => ∃ b, v = .slice (some ⟨b, 0, none⟩) len len ∧ (blk b e cs).p w ∧ B ≤ b, fun v w w' ⟨b, h1, h2, h3⟩ k => ⟨b, h1, (blk b e cs).stable w w' h2 fun x hx => k.keep x ((blk b e cs).lt w x h2 hx) (fun hf => hf), h3⟩⟩
def phi (ys : List Yd) (j : Nat) (v : Value) (w : World) : Prop := match ys[j]? with | some y => y.p v w | none => True
theorem phi_mono (ys : List Yd) : ∀ i v w w', phi ys i v w → Ext NoB w w' → phi ys i v w' := by
  intro i v w w' h k
  unfold phi at *
  split
  · rename_i y hy; rw [hy] at h; exact y.mono _ _ _ h k
  · trivial
def m_9 (Pr : Nat → Oper → Prop) : Nat → Nat → List Oper → Prop
  | _, 0, _ => True
  | _, _ + 1, [] => True
  | k, h + 1, o :: l => Pr k o ∧ m_9 Pr (k + 1) h l
theorem allOps_at {Pr : Nat → Oper → Prop} : ∀ (h k : Nat) (l : List Oper), m_9 Pr k h l → ∀ (j : Nat) (o : Oper), l[j]? = some o → j < h → Pr (k + j) o
  | 0, _, _, _, j, _, _, hj => by omega
  | _ + 1, _, [], _, _, _, ho, _ => by simp at ho
  | h + 1, k, x :: l, ha, 0, o, ho, _ => by
    have : x = o := by simpa using ho
    subst this; exact ha.1
  | h + 1, k, x :: l, ha, j + 1, o, ho, hj => by
    have := allOps_at h (k + 1) l ha.2 j o (by simpa using ho) (by omega)
    rwa [show k + 1 + j = k + (j + 1) by omega] at this
section
variable {r : Option Nat} {P : Program} {Q : Exit → Act → World → Prop} {n : Nat} {ds : List Deferred} {m : List (Nat × Value)} {X : Nat → Prop} {w0 : World} {L : List Res}
theorem h_7 {id : Nat} {l : List Oper} {a : Act} {w : World} (hm : P.follows .mixedOrders = true) (hA : Fr n ds m a) (hS : Sep X w0 w L) (h : Nat) (dl : List (List Nat)) (ys : List Yd)
    (hok : m_1 l.toArray h (fun j => dl.getD j []) = true) (hfree : q_3 l.toArray h (m.map (·.1)) = true) (hn : (List.range h).all (fun j => match (l.toArray[j]?).bind (·.dst) with | some d => decide (d < n) | none => true) = true)
    (hop : m_9 (fun j o => ∀ a w, Fr n ds m a → Sep X w0 w L → (∀ i ∈ dl.getD j [], Has l.toArray (phi ys) a w i) → OpG r P l.toArray o a w (fun v w' => Ext NoB w w' ∧ Sep X w0 w' L ∧ phi ys j v w')) 0 h l)
    (htail : ∀ a w, Fr n ds m a → Sep X w0 w L → (∀ i, i < h → Has l.toArray (phi ys) a w i) → WL r P l.toArray Q (l.drop h) a w) :
    WC r P (.region id l.toArray true) Q a w := by
  refine c_draw hm h (fun j => dl.getD j []) hok hfree hn (fun w => Sep X w0 w L) (phi ys) (phi_mono ys) hA (fun w' he _ => hS.step he) (fun j o ho hj a w hA hM hd => ?_) htail
  have := allOps_at h 0 l hop j o ho hj a w hA hM
  rw [Nat.zero_add] at this
  exact this hd
theorem has_get {ops : Array Oper} {φ : Nat → Value → World → Prop} {a : Act} {w : World} {i d : Nat} (h : Has ops φ a w i) (hd : (ops[i]?).bind (·.dst) = some d) : ∃ v, a.tmps[d]? = some v ∧ φ i v w := by
  unfold Has at h
  rw [hd] at h
  exact h
theorem k_3 {ops : Array Oper} {o : Oper} {a : Act} {w : World} {R : Value → World → Prop} {j t : Nat} {b : Bool} (hg : o.guard = some (j, b)) (hj : (ops[j]?).bind (·.dst) = some t) (ht : a.tmps[t]? = some (.bool b)) (h : OpY r P o a w R) : OpG r P ops o a w R :=
  .inl ⟨by rw [wanted_is hg hj ht]; simp, h⟩
theorem opG_no {ops : Array Oper} {o : Oper} {a : Act} {w : World} {R : Value → World → Prop} {j t : Nat} {b b' : Bool} (hg : o.guard = some (j, b)) (hj : (ops[j]?).bind (·.dst) = some t) (ht : a.tmps[t]? = some (.bool b')) (hne : (b' == b) = false) (h : R undef w) : OpG r P ops o a w R :=
  .inr ⟨by rw [wanted_is hg hj ht]; exact hne, h⟩
theorem opG_noU {ops : Array Oper} {o : Oper} {a : Act} {w : World} {R : Value → World → Prop} {j t : Nat} {b : Bool} (hg : o.guard = some (j, b)) (hj : (ops[j]?).bind (·.dst) = some t) (ht : a.tmps[t]? = some undef) (h : R undef w) : OpG r P ops o a w R :=
  .inr ⟨wanted_undef hg hj ht, h⟩
variable {o : Oper} {a : Act} {w : World} {φ : Value → World → Prop} {v : Value}
theorem dv (h : OpY r P o a w (fun v' w' => v' = v ∧ w' = w)) (hM : Sep X w0 w L) (hφ : φ v w) : OpY r P o a w (fun v w' => Ext NoB w w' ∧ Sep X w0 w' L ∧ φ v w') := dr_val h hM hφ
theorem dx (h : OpY r P o a w (fun v' w' => v' = v ∧ Ext NoB w w')) (hM : Sep X w0 w L) (hφ : ∀ w', φ v w') : OpY r P o a w (fun v w' => Ext NoB w w' ∧ Sep X w0 w' L ∧ φ v w') := dr_ext h (fun _ he => hM.step he) (fun w' _ => hφ w')
theorem dskip (hM : Sep X w0 w L) (hφ : φ undef w) : Ext NoB w w ∧ Sep X w0 w L ∧ φ undef w := ⟨Ext.refl _ _, hM, hφ⟩
end
end Go.Eng

namespace Go.Eng
open Go.RowKit
theorem i_8 {k : IntKind} {t : Int} (h : 0 ≤ t) : Value.int k t = Value.int k (t.toNat : Int) := by rw [Int.toNat_of_nonneg h]
section
variable {r : Option Nat} {P : Program} {o : Oper} {a : Act} {w : World}
end
theorem SlAt.one {w : World} {v : Value} {sz n : Nat} {cs : List Value} (h : SlAt w v sz n cs) : v.oneCell' = true := by
  obtain ⟨_, A, cap, rfl, _⟩ := h; rfl
def IsSl (v : Value) : Prop := ∃ A n c, v = .slice A n c
theorem SlAt.isSl {w : World} {v : Value} {sz n : Nat} {cs : List Value} (h : SlAt w v sz n cs) : IsSl v := by
  obtain ⟨_, A, cap, rfl, _⟩ := h; exact ⟨_, _, _, rfl⟩
theorem m_8 (xs : List Int) (k : Nat) (h : k < xs.length) : xs.take (k + 1) = xs.take k ++ [xs.getD k 0] := by
  rw [List.take_succ_eq_append_getElem h]; simp [List.getD, h]
end Go.Eng

namespace Go.Eng
open Go.RowKit
def rob (b : Nat) (t : TypeId) (cs : List Value) : Res where
  S := fun k => k = b
  p := fun w => w.heap[b]? = some (.cells cs.toArray t (0, 0))
  own := false
  stable := fun _ _ h k => (k b rfl).trans h
  lt := fun _ _ h e => by subst e; exact lt_of_heap h
def AllRo : List Res → World → Prop
  | [], _ => True
  | r :: L, w => r.own = false ∧ r.p w ∧ AllRo L w
theorem f_7 {X : Nat → Prop} {w : World} : ∀ {L : List Res}, AllRo L w → Sep X w w L
  | [], _ => Sep.start X w
  | r :: L, h => by
    have ih := f_7 (X := X) (L := L) h.2.2
    refine ih.fact h.1 h.2.1 (fun b _ i s hi ho => ?_)
    exfalso
    have key : ∀ (L : List Res), AllRo L w → ∀ (i : Nat) (s : Res), L[i]? = some s → s.own = false := by
      intro L
      induction L with
      | nil => intro _ i s hi; simp at hi
      | cons r L ihL =>
        intro h i s hi
        cases i with
        | zero => simp at hi; subst hi; exact h.1
        | succ i => exact ihL h.2.2 i s (by simpa using hi)
    rw [key L h.2.2 i s hi] at ho; cases ho
theorem res_step {r : Res} {w w' : World} (h : r.p w) (k : Ext NoB w w') : r.p w' := r.stable w w' h fun b hb => k.keep b (r.lt w b h hb) (fun hf => hf)
theorem SlAt.step {w w' : World} {v : Value} {sz n : Nat} {cs : List Value} (h : SlAt w v sz n cs) (k : Ext NoB w w') : SlAt w' v sz n cs := res_step (r := sl v sz n cs) h k
def fidx (p : Nat → Bool) (n : Nat) : Int := match (List.range n).find? p with | some i => (i : Int) | none => -1
theorem k_2 {p : Nat → Bool} {n k : Nat} (hk : k < n) (h : ∀ i, i < k → p i = false) (hp : p k = true) : fidx p n = k := by
  unfold fidx
  have : (List.range n).find? p = some k := by
    rw [List.find?_range_eq_some]
    exact ⟨hp, List.mem_range.2 hk, fun j hj => by simp [h j hj]⟩
  rw [this]
theorem i_0 {p : Nat → Bool} {n : Nat} (h : ∀ i, i < n → p i = false) : fidx p n = -1 := by
  unfold fidx
  have : (List.range n).find? p = none := by
    rw [List.find?_eq_none]
    intro x hx; simp [h x (List.mem_range.1 hx)]
  rw [this]
theorem fidx_any (p : Nat → Bool) (n : Nat) : decide (0 ≤ fidx p n) = (List.range n).any p := by
  unfold fidx
  cases h : (List.range n).find? p with
  | none =>
    rw [List.find?_eq_none] at h
    have : (List.range n).any p = false := by rw [List.any_eq_false]; intro x hx; simpa using h x hx
    rw [this]; rfl
  | some i =>
    have h1 := List.find?_some h
    have h2 := List.mem_of_find?_eq_some h
    have : (List.range n).any p = true := List.any_eq_true.2 ⟨i, h2, h1⟩
    rw [this]; simp
theorem any_not (p : Nat → Bool) (n : Nat) : (!(List.range n).any (fun i => !p i)) = (List.range n).all p := by
  rw [List.not_any_eq_all_not]
  congr 1; funext i; simp
def Asks (P : Program) (w : World) (fid : FuncId) (fs cs : Array Value) (n : Nat) (el : Nat → Value) (p : Nat → Bool) : Prop :=
  (∀ args W, (callFunc fid args).run P W = .ok (.enter fid args) W) ∧ ∀ i, i < n → ∀ W, Ext NoB w W → Calls P fid (fs ++ #[el i] ++ cs) W (Ret fun v w' => v = .bool (p i) ∧ Ext NoB W w')
theorem Asks.step {P : Program} {w w' : World} {fid : FuncId} {fs cs : Array Value} {n : Nat} {el : Nat → Value} {p : Nat → Bool} (h : Asks P w fid fs cs n el p) (k : Ext NoB w w') : Asks P w' fid fs cs n el p :=
  ⟨h.1, fun i hi W hW => h.2 i hi W (k.trans hW)⟩
end Go.Eng
namespace Go.Eng
section
variable {X : Nat → Prop} {w0 w : World} {L : List Res}
theorem Sep.bk (h : Sep X w0 w L) (i : Nat) {b t : Nat} {cs : List Value} (hi : L[i]? = some (blk b t cs)) : (blk b t cs).p w := h.ok i _ hi
theorem Sep.rk (h : Sep X w0 w L) (i : Nat) {b t : Nat} {cs : List Value} (hi : L[i]? = some (rob b t cs)) : (blk b t cs).p w := h.ok i (rob b t cs) hi
theorem Sep.sk (h : Sep X w0 w L) (i : Nat) {v : Value} {sz n : Nat} {cs : List Value} (hi : L[i]? = some (sl v sz n cs)) : SlAt w v sz n cs := h.ok i _ hi
theorem Sep.b_7 (h : Sep X w0 w L) (i : Nat) {v : Value} {e sz n : Nat} {cs : List Value} (hi : L[i]? = some (row v e sz n cs)) : w.ownsRow 0 e sz v n cs := h.ok i _ hi
end
end Go.Eng

namespace Go.Eng
open Go.RowKit
def memo (bm : Nat) (K : Value → Value → Prop) : Res where
  S := fun k => k = bm
  p := fun w => ∃ es clock, w.heap[bm]? = some (.map es clock) ∧ ∀ e ∈ es.toList, K e.key e.val
  own := true
  stable := fun _ _ ⟨es, c, h, hk⟩ k => ⟨es, c, (k bm rfl).trans h, hk⟩
  lt := fun _ _ ⟨_, _, h, _⟩ e => by subst e; exact lt_of_heap h
section
variable {r : Option Nat} {P : Program} {o : Oper} {a : Act} {w w0 : World} {X : Nat → Prop} {L : List Res} {K : Value → Value → Prop}
theorem op_makeMap {t : TypeId} (hS : Sep X w0 w L) (K : Value → Value → Prop) (ho : o.op = .makeMap t none) :
    OpY r P o a w (fun v' w' => ∃ bm, v' = .map (some bm) ∧ Sep X w0 w' (memo bm K :: L)) :=
  c_8 (v := .map (some w.heap.size)) (w' := w.alloc (.map #[] 0)) (by rw [ho]; rfl) (by
    simp only [execOp, ho, Instr.makeMap, newObj, Sem.run_bind, Sem.run, Sem.run_pure, Result.andThen_ok, Option.map_none]; rfl)
    ⟨_, rfl, hS.push (Ext.alloc NoB w _) ⟨#[], 0, heap_alloc_new w _, by simp⟩ (fun b hb => by cases hb; exact Nat.le_refl _)⟩
theorem set_same {α : Type} {l : List α} {i : Nat} {x : α} (h : l[i]? = some x) : l.set i x = l := by
  apply List.ext_getElem?
  intro j
  by_cases e : i = j
  · subst e; rw [List.getElem?_set_self (List.getElem?_eq_some_iff.1 h).1, h]
  · rw [List.getElem?_set_ne e]
end
end Go.Eng

namespace Go.Eng
open Go.RowKit
def obR (b : Nat) (o : Obj) : Res where
  S := fun k => k = b
  p := fun w => w.heap[b]? = some o
  own := true
  stable := fun _ _ h k => (k b rfl).trans h
  lt := fun _ _ h e => by subst e; exact lt_of_heap h
def marks (Ds : List Nat) : List Deferred := Ds.map fun D => { target := .collected D, args := #[] }
def h_1 (Ds : List Nat) : Res where
  S := fun k => k ∈ Ds
  p := fun w => Ds.Nodup ∧ ∀ D ∈ Ds, w.heap[D]? = some (.deferred (some []))
  own := true
  stable := fun _ _ ⟨hn, h⟩ k => ⟨hn, fun D hD => (k D hD).trans (h D hD)⟩
  lt := fun _ _ h e => lt_of_heap (h.2 _ e)
theorem putObj_ext (w : World) (b : Nat) (o : Obj) : Ext (fun k => k = b) w (w.putObj b o) :=
  ⟨rfl, rfl, rfl, by simp [World.putObj], fun x _ hne => World.putObj_heap_other (fun e => hne e)⟩
section
variable {X : Nat → Prop} {w0 w w' : World} {L : List Res}
theorem Sep.put {b : Nat} {o : Obj} {i : Nat} (h : Sep X w0 w L) (hi : L[i]? = some (obR b o)) (o' : Obj) : Sep X w0 (w.putObj b o') (L.set i (obR b o')) :=
  h.upd hi rfl (putObj_ext w b o') (World.putObj_heap_same (lt_of_heap (h.ok i _ hi))) (fun _ hb => .inl hb)
theorem Sep.tail {r : Res} (h : Sep X w0 w (r :: L)) : Sep X w0 w L :=
  ⟨h.ext, fun i s hi => h.ok (i + 1) s (by simpa using hi), fun i s hi => h.mine (i + 1) s (by simpa using hi), fun i j s t hij hi hj => h.apart (i + 1) (j + 1) s t (by omega) (by simpa using hi) (by simpa using hj)⟩
theorem Sep.join {r s t : Res} (h : Sep X w0 w (r :: s :: L)) (ht : t.p w) (hS : ∀ b, t.S b → r.S b ∨ s.S b) (ho : t.own = true → r.own = true ∧ s.own = true) (ho2 : t.own = false → True) : Sep X w0 w (t :: L) := by
  have h2 := h.tail.tail
  refine ⟨h.ext, ?_, ?_, ?_⟩
  · intro i x hi
    cases i with
    | zero => simp at hi; subst hi; exact ht
    | succ i => exact h2.ok i x (by simpa using hi)
  · intro i x hi hx b hb
    cases i with
    | zero =>
      simp at hi; subst hi
      rcases hS b hb with h1 | h1
      · exact h.mine 0 r rfl (ho hx).1 b h1
      · exact h.mine 1 s rfl (ho hx).2 b h1
    | succ i => exact h2.mine i x (by simpa using hi) hx b hb
  · intro i j x y hij hi hj hx b hb hb'
    cases i with
    | zero =>
      cases j with
      | zero => exact hij rfl
      | succ j =>
        simp at hi hj; subst hi
        rcases hS b hb with h1 | h1
        · exact h.apart 0 (j + 2) r y (by omega) rfl (by simpa using hj) (ho hx).1 b h1 hb'
        · exact h.apart 1 (j + 2) s y (by omega) rfl (by simpa using hj) (ho hx).2 b h1 hb'
    | succ i =>
      cases j with
      | zero =>
        simp at hi hj; subst hj
        rcases hS b hb' with h1 | h1
        · exact h.apart (i + 2) 0 x r (by omega) (by simpa using hi) rfl hx b hb h1
        · exact h.apart (i + 2) 1 x s (by omega) (by simpa using hi) rfl hx b hb h1
      | succ j => exact h2.apart i j x y (by omega) (by simpa using hi) (by simpa using hj) hx b hb hb'
theorem Sep.swap {r s : Res} (h : Sep X w0 w (r :: s :: L)) : Sep X w0 w (s :: r :: L) := by
  have key : ∀ (i : Nat) (x : Res), (s :: r :: L)[i]? = some x → ∃ j, (r :: s :: L)[j]? = some x ∧ (i = 0 → j = 1) ∧ (i = 1 → j = 0) ∧ (2 ≤ i → j = i) := by
    intro i x hi
    match i, hi with
    | 0, hi => exact ⟨1, by simpa using hi, fun _ => rfl, fun h => by omega, fun h => by omega⟩
    | 1, hi => exact ⟨0, by simpa using hi, fun h => by omega, fun _ => rfl, fun h => by omega⟩
    | i + 2, hi => exact ⟨i + 2, by simpa using hi, fun h => by omega, fun h => by omega, fun _ => rfl⟩
  refine ⟨h.ext, fun i x hi => ?_, fun i x hi => ?_, fun i j x y hij hi hj => ?_⟩
  · obtain ⟨q, hq, _⟩ := key i x hi; exact h.ok q x hq
  · obtain ⟨q, hq, _⟩ := key i x hi; exact h.mine q x hq
  · obtain ⟨q, hq, q1, q2, q3⟩ := key i x hi
    obtain ⟨p, hp, p1, p2, p3⟩ := key j y hj
    refine h.apart q p x y (fun e => hij ?_) hq hp
    rcases Nat.lt_or_ge i 2 with a | a <;> rcases Nat.lt_or_ge j 2 with b | b
    · rcases (by omega : i = 0 ∨ i = 1) with rfl | rfl <;> rcases (by omega : j = 0 ∨ j = 1) with rfl | rfl <;> simp_all
    · have := p3 b; rcases (by omega : i = 0 ∨ i = 1) with rfl | rfl <;> simp_all <;> omega
    · have := q3 a; rcases (by omega : j = 0 ∨ j = 1) with rfl | rfl <;> simp_all <;> omega
    · have := q3 a; have := p3 b; omega
end
def YT (P : Program) (l : Nat) (vs : Array Value) (w : World) (R : Value → World → Prop) : Prop := YieldAt (FR none) 0 P l vs w (Ret R)
theorem op_yield {r : Option Nat} {P : Program} {o : Oper} {a : Act} {w : World} {R : Value → World → Prop} {x : Operand} {xs : Array Operand} {ts : Array TypeId} {vs : Array Value} {l : Nat} (ho : o.op = .call { callee := .value x, args := xs, argTypes := ts }) (hx : a.eval x = .func (.yield l) #[] #[]) (hv : xs.map a.eval = vs) (hy : YT P l vs w R) : OpY r P o a w R := by
  obtain ⟨fn, tmps, assign, body, hrun, hR⟩ := hy
  intro K Q hK
  refine ⟨fun _ _ => trivial, ?_⟩
  rw [l_4 _ _ _ (by rw [ho]; rfl)]
  have : (execOp a.eval o).run P w = .ok (.round l fn tmps assign body) w := by
    simp only [execOp, ho, resolve, hv, hx, Deferred.ofValue, Sem.run_bind, Sem.run_pure, Result.andThen_ok, invoke]
    simpa using hrun
  rw [this]
  refine ⟨fun h => by simp [FR] at h, ?_⟩
  have hR' : RoundIn (FR r) (0 - 1) P l fn tmps assign body w (Ret R) := hR
  refine hR'.mono fun e w' he => ?_
  cases e with
  | returned v => exact hK v w' he
  | panicked c => exact he.elim
  | outgrown => exact he.elim
def RoundEnds (X : Nat → Prop) (w0 : World) (l D : Nat) (Ds : List Nat) (rc : LoopState → Option Code → Loop) (I Ix : List Res → Prop) (je : Option Code) : Exit → Act → World → Prop
  | .normal, _, W => ∃ L, I L ∧ Sep X w0 W (obR l (.loop (rc .busy none)) :: h_1 (D :: Ds) :: L)
  | .ret, _, W => je = some .ret ∧ ∃ L, Ix L ∧ Sep X w0 W (obR l (.loop (rc .busy none)) :: h_1 (D :: Ds) :: L)
  | .exit id, _, W => je = some (.exit id) ∧ ∃ L, Ix L ∧ Sep X w0 W (obR l (.loop (rc .busy none)) :: h_1 (D :: Ds) :: L)
  | _, _, _ => False
section
variable {P : Program} {Q : Exit → Act → World → Prop} {n : Nat} {ds : List Deferred} {m : List (Nat × Value)} {X : Nat → Prop} {w0 : World} {L : List Res}
theorem Fr.round1 {a : Act} (hA : Fr n ds m a) {p : Nat} {v : Value} (hp : p < n) : Fr n [] ((p, v) :: m) { tmps := (#[p].zip #[v]).foldl (fun t (q, u) => t.setIfInBounds q u) a.tmps, defers := [] } := by
  have h0 : Fr n [] m { tmps := a.tmps, defers := [] } := ⟨hA.1, rfl, hA.2.2⟩
  have := h0.put hp v
  simpa [Act.put] using this
end
theorem calls_enterM {P : Program} {f : FuncId} {fn : Func} {c : Code} {args : Array Value} {w : World} {R : Value → World → Prop}
    (hf : P.funcs[f]? = some fn) (hb : fn.body = some c)
    (h : ∀ a, Fr (args.size + (fn.ntmps - args.size)) (marks []) (args.toList.zipIdx.map fun p => (p.2, p.1)) a → WC none P c (bodyPostM (FR none) 0 P fn (Ret R)) a w) : Calls P f args w (Ret R) :=
  calls_of_FR (r := none) (n := 0) (callsIn_of_wp_marks hf hb trivial (h _ (Fr.enter args fn.ntmps)))
theorem leaves_marks {P : Program} {fn : Func} {tmps : Array Value} {R : Value → World → Prop} {X : Nat → Prop} {w0 : World} {L : List Res} : ∀ (Ds : List Nat) (w : World), Sep X w0 w (h_1 Ds :: L) → (∀ w', Sep X w0 w' L → ∃ v, (results fn tmps).run P w' = .ok v w' ∧ R v w') → LeavesInM (FR none) 0 P fn tmps (Ret R) (marks Ds) .returning w
  | [], w, hS, h => by
    obtain ⟨v, h1, h2⟩ := h w hS.tail
    exact ⟨v, h1, h2⟩
  | D :: Ds, w, hS, h => by
    have hp : (h_1 (D :: Ds)).p w := hS.ok 0 _ rfl
    refine ⟨by simp, .inl ⟨D, _, rfl, run_takeDeferred (hp.2 D (by simp)), ?_⟩⟩
    refine leaves_marks Ds _ ?_ h
    have hnd := List.nodup_cons.1 hp.1
    refine hS.upd (i := 0) (r' := h_1 Ds) rfl rfl ((putObj_ext w D _).mono (fun b hb => by rw [hb]; exact List.mem_cons_self ..)) ⟨hnd.2, fun E hE => ?_⟩ (fun b hb => .inl (List.mem_cons_of_mem _ hb))
    rw [World.putObj_heap_other (fun e => hnd.1 (by rw [← e]; exact hE))]
    exact hp.2 E (List.mem_cons_of_mem _ hE)
theorem fin_runM {P : Program} {fn : Func} {R : Value → World → Prop} {a : Act} {w : World} {n : Nat} {m : List (Nat × Value)} {e : Exit} {X : Nat → Prop} {w0 : World} {L : List Res} {Ds : List Nat} (hA : Fr n (marks Ds) m a) (he : e = .ret ∨ e = .normal) (hS : Sep X w0 w (h_1 Ds :: L))
    (h : ∀ w', Sep X w0 w' L → ∃ v, (results fn a.tmps).run P w' = .ok v w' ∧ R v w') : bodyPostM (FR none) 0 P fn (Ret R) e a w := by
  have := leaves_marks (R := R) Ds w hS h
  rcases he with rfl | rfl
  · show LeavesInM _ _ _ _ _ _ a.defers _ _; rw [hA.2.1]; exact this
  · show LeavesInM _ _ _ _ _ _ a.defers _ _; rw [hA.2.1]; exact this
theorem sep_marks {X : Nat → Prop} {w0 w : World} {L : List Res} (h : Sep X w0 w L) : Sep X w0 w (h_1 [] :: L) :=
  h.push (Ext.refl _ _) ⟨List.nodup_nil, by simp⟩ (fun b hb => by cases hb)
end Go.Eng

namespace Go.Eng
open Go.RowKit
section
variable {X : Nat → Prop} {w0 w : World} {L : List Res}
theorem Sep.c_5 {i : Nat} {v : Value} {e sz n n' : Nat} {xs xs' : List Value} (h : Sep X w0 w L) (hi : L[i]? = some (row v e sz n xs)) (hn : n = n') (hx : xs = xs') : Sep X w0 w (L.set i (row v e sz n' xs')) := by
  subst hn; subst hx; rw [set_same hi]; exact h
theorem Sep.i_4 (h : Sep X w0 w L) (e sz : Nat) : Sep X w0 w (row (.slice none 0 0) e sz 0 [] :: L) :=
  h.push (Ext.refl _ _) ⟨by simp, .inl ⟨rfl, rfl⟩⟩ (fun b hb => by cases hb)
theorem Sep.new_row {w' : World} {v : Value} {e sz n : Nat} {xs : List Value} (h : Sep X w0 w L) (k : Ext NoB w w') (hr : w'.ownsRow w.heap.size e sz v n xs) : Sep X w0 w' (row v e sz n xs :: L) := by
  refine h.push k ?_ (fun b hb => ?_)
  · refine ⟨hr.1, ?_⟩
    rcases hr.2 with h1 | ⟨g, cap, cur, h1, h2, h3⟩
    · exact .inl h1
    · exact .inr ⟨g, cap, cur, h1, Nat.zero_le _, h3⟩
  · rcases hr.2 with ⟨rfl, _⟩ | ⟨g, cap, cur, rfl, h2, _⟩
    · cases hb
    · cases hb; exact h2
theorem Sep.g_7 {i : Nat} {v : Value} {e sz n : Nat} {xs : List Value} (h : Sep NoB w0 w L) (hi : L[i]? = some (row v e sz n xs)) : w.ownsRow w0.heap.size e sz v n xs := by
  have hr : w.ownsRow 0 e sz v n xs := h.ok i _ hi
  refine ⟨hr.1, ?_⟩
  rcases hr.2 with h1 | ⟨g, cap, cur, h1, _, h3⟩
  · exact .inl h1
  · refine .inr ⟨g, cap, cur, h1, ?_, h3⟩
    rcases h.mine i _ hi rfl g (by rw [h1]; rfl) with h4 | h4
    · exact h4.elim
    · exact h4
theorem Sep.blk_row {i b e sz n : Nat} {cs : List Value} (h : Sep X w0 w L) (hi : L[i]? = some (blk b e cs)) (hl : cs.length = n * sz) (hn : n ≤ maxLen) : Sep X w0 w (L.set i (row (.slice (some ⟨b, 0, none⟩) n n) e sz n cs)) := by
  refine h.say hi ?_ (fun x hx => ?_) (fun _ => rfl)
  · refine ⟨hl, .inr ⟨b, n, cs.toArray, rfl, Nat.zero_le _, h.ok i _ hi, Nat.le_refl _, hn, by simpa using hl, by simp [← hl]⟩⟩
  · cases hx; rfl
end
theorem Sep.q_1 {X : Nat → Prop} {w0 w w' : World} {L : List Res} (h : Sep X w0 w L) : ∀ {L' : List Res}, Sep NoB w w' L' → L'.all (·.own) = true → Sep X w0 w' (L' ++ L) := by
  intro L' k ho
  have h' := h.step k.ext
  have own' : ∀ (i : Nat) (r : Res), L'[i]? = some r → r.own = true := fun i r hi => List.all_eq_true.1 ho r (List.mem_of_getElem? hi)
  have new' : ∀ (i : Nat) (r : Res), L'[i]? = some r → ∀ b, r.S b → w.heap.size ≤ b := fun i r hi b hb => (k.mine i r hi (own' i r hi) b hb).elim (fun hf => hf.elim) id
  have parts : ∀ (i : Nat) (r : Res), (L' ++ L)[i]? = some r → (i < L'.length ∧ L'[i]? = some r) ∨ (L'.length ≤ i ∧ L[i - L'.length]? = some r) := fun i r hi => by
    rcases Nat.lt_or_ge i L'.length with h1 | h1
    · rw [List.getElem?_append_left h1] at hi; exact .inl ⟨h1, hi⟩
    · rw [List.getElem?_append_right h1] at hi; exact .inr ⟨h1, hi⟩
  refine ⟨h'.ext, fun i r hi => ?_, fun i r hi hr b hb => ?_, fun i j r s hij hi hj hr b hb hb' => ?_⟩
  · rcases parts i r hi with ⟨_, h1⟩ | ⟨_, h1⟩
    · exact k.ok i r h1
    · exact h'.ok _ r h1
  · rcases parts i r hi with ⟨_, h1⟩ | ⟨_, h1⟩
    · exact .inr (Nat.le_trans h.ext.size (new' i r h1 b hb))
    · exact h'.mine _ r h1 hr b hb
  · rcases parts i r hi with ⟨i1, h1⟩ | ⟨i1, h1⟩ <;> rcases parts j s hj with ⟨j1, h2⟩ | ⟨j1, h2⟩
    · exact k.apart i j r s hij h1 h2 hr b hb hb'
    · have := new' i r h1 b hb; have := h.lt h2 hb'; omega
    · have := new' j s h2 b hb'; have := h.lt h1 hb; omega
    · exact h'.apart _ _ r s (by omega) h1 h2 hr b hb hb'
theorem p_2 : ([] : List Value).all (·.oneCell') = true := rfl
theorem j_8 {v : Value} {vs : List Value} (h : v.oneCell' = true) (h2 : vs.all (·.oneCell') = true) : (v :: vs).all (·.oneCell') = true := by simp only [List.all_cons, h, h2]; rfl
end Go.Eng

namespace Go.Eng
open Go.RowKit
section
variable {r : Option Nat} {P : Program} {o : Oper} {a : Act} {w : World}
end
end Go.Eng

namespace Go.Eng
open Go.RowKit
section
variable {X : Nat → Prop} {w0 W : World} {l D : Nat} {Ds : List Nat} {rc : LoopState → Option Code → Loop} {I Ix : List Res → Prop} {je : Option Code} {a : Act} {L : List Res}
theorem re_n (h : I L) (hS : Sep X w0 W (obR l (.loop (rc .busy none)) :: h_1 (D :: Ds) :: L)) : RoundEnds X w0 l D Ds rc I Ix je .normal a W := ⟨L, h, hS⟩
end
end Go.Eng

namespace Go.Eng
open Go.RowKit
section
variable {P : Program}
section
variable {r : Option Nat} {o : Oper} {a : Act} {w w0 : World} {X : Nat → Prop} {L : List Res} {K : Value → Value → Prop}
end
end
end Go.Eng

namespace Go.Eng
open Go.RowKit
section
variable {X : Nat → Prop} {w0 w : World} {L : List Res}
theorem Sep.below (h : Sep X w0 w L) : w0.heap.size ≤ w.heap.size ∧ ∀ (i : Nat) (r : Res), L[i]? = some r → ∀ b, r.S b → b < w.heap.size := ⟨h.ext.size, fun _ _ hi _ hb => h.lt hi hb⟩
end
section
variable {r : Option Nat} {P : Program} {Q : Exit → Act → World → Prop} {n : Nat} {ds : List Deferred} {m : List (Nat × Value)} {X : Nat → Prop} {w0 : World} {L : List Res}
theorem o_8 {ops : Array Oper} {o : Oper} {a : Act} {w : World} {R R' : Value → World → Prop} (h : OpG r P ops o a w R) (hr : ∀ v w', R v w' → R' v w') : OpG r P ops o a w R' := by
  rcases h with ⟨h1, h2⟩ | ⟨h1, h2⟩
  · exact .inl ⟨h1, n_4 h2 hr⟩
  · exact .inr ⟨h1, hr _ _ h2⟩
end
end Go.Eng

namespace Go.Eng
open Go.RowKit
def ownX (A : List Res) (b : Nat) : Prop := ∃ (i : Nat) (r : Res), A[i]? = some r ∧ r.own = true ∧ r.S b
section
variable {X Y : Nat → Prop} {w0 w w' : World} {A A' B L : List Res}
theorem Sep.callG (h : Sep Y w0 w (A ++ B)) (k : Sep (ownX A) w w' A') (hA' : ∀ (i : Nat) (s : Res), A'[i]? = some s → s.own = true ∨ ∃ j : Nat, A[j]? = some s) : Sep Y w0 w' (A' ++ B) := by
  have gA : ∀ (i : Nat) (r : Res), A[i]? = some r → (A ++ B)[i]? = some r := fun i r hi => by
    rw [List.getElem?_append_left (List.getElem?_eq_some_iff.1 hi).1]; exact hi
  have gB : ∀ (i : Nat) (r : Res), B[i]? = some r → (A ++ B)[A.length + i]? = some r := fun i r hi => by
    rw [List.getElem?_append_right (by omega), Nat.add_sub_cancel_left]; exact hi
  have ltA : ∀ (i : Nat) (r : Res), A[i]? = some r → i < A.length := fun i r hi => (List.getElem?_eq_some_iff.1 hi).1
  have noB : ∀ (j : Nat) (s : Res), B[j]? = some s → ∀ b, s.S b → ¬ ownX A b := fun j s hj b hb ⟨i, r, hi, ho, hr⟩ =>
    h.apart i (A.length + j) r s (by have := ltA i r hi; omega) (gA i r hi) (gB j s hj) ho b hr hb
  have newA' : ∀ (i : Nat) (s : Res), A'[i]? = some s → s.own = true → ∀ b, s.S b → ownX A b ∨ w.heap.size ≤ b := fun i s hi ho b hb => k.mine i s hi ho b hb
  have parts : ∀ (i : Nat) (r : Res), (A' ++ B)[i]? = some r → (i < A'.length ∧ A'[i]? = some r) ∨ (A'.length ≤ i ∧ B[i - A'.length]? = some r) := fun i r hi => by
    rcases Nat.lt_or_ge i A'.length with h1 | h1
    · rw [List.getElem?_append_left h1] at hi; exact .inl ⟨h1, hi⟩
    · rw [List.getElem?_append_right h1] at hi; exact .inr ⟨h1, hi⟩
  have okB : ∀ (j : Nat) (s : Res), B[j]? = some s → s.p w' := fun j s hj => s.stable w w' (h.ok _ s (gB j s hj)) fun b hb => k.ext.keep b (h.lt (gB j s hj) hb) (noB j s hj b hb)
  have sepAB : ∀ (i j : Nat) (s t : Res), A'[i]? = some s → B[j]? = some t → (s.own = true ∨ t.own = true) → ∀ b, s.S b → ¬ t.S b := fun i j s t hi hj ho b hb hb' => by
    rcases hA' i s hi with h1 | ⟨q, hq⟩
    · rcases newA' i s hi h1 b hb with h2 | h2
      · exact noB j t hj b hb' h2
      · have := h.lt (gB j t hj) hb'; omega
    · rcases ho with ho | ho
      · exact h.apart q (A.length + j) s t (by have := ltA q s hq; omega) (gA q s hq) (gB j t hj) ho b hb hb'
      · exact h.apart (A.length + j) q t s (by have := ltA q s hq; omega) (gB j t hj) (gA q s hq) ho b hb' hb
  refine ⟨h.ext.trans' k.ext (fun b ⟨i, r, hi, ho, hr⟩ => h.mine i r (gA i r hi) ho b hr), fun i r hi => ?_, fun i r hi hr b hb => ?_, fun i j r s hij hi hj hr b hb hb' => ?_⟩
  · rcases parts i r hi with ⟨_, h1⟩ | ⟨_, h1⟩
    · exact k.ok i r h1
    · exact okB _ r h1
  · rcases parts i r hi with ⟨_, h1⟩ | ⟨_, h1⟩
    · rcases newA' i r h1 hr b hb with ⟨q, t, hq, ho, ht⟩ | h2
      · exact h.mine q t (gA q t hq) ho b ht
      · exact .inr (Nat.le_trans h.ext.size h2)
    · exact h.mine _ r (gB _ r h1) hr b hb
  · rcases parts i r hi with ⟨i1, h1⟩ | ⟨i1, h1⟩ <;> rcases parts j s hj with ⟨j1, h2⟩ | ⟨j1, h2⟩
    · exact k.apart i j r s hij h1 h2 hr b hb hb'
    · exact sepAB i _ r s h1 h2 (.inl hr) b hb hb'
    · exact sepAB j _ s r h2 h1 (.inr hr) b hb' hb
    · exact h.apart _ _ r s (by omega) (gB _ r h1) (gB _ s h2) hr b hb hb'
end
section
variable {X : Nat → Prop} {w0 w : World} {L : List Res}
end
def AppL (B : Nat) (v : Value) (e sz n m : Nat) (xs : List Value) (v' : Value) (w : World) : Prop :=
  w.ownsRow 0 e sz v' (n + m) xs ∧ ((∃ g cap, v = .slice (some ⟨g, 0, none⟩) n cap ∧ v' = .slice (some ⟨g, 0, none⟩) (n + m) cap) ∨ ∀ b, v'.ownBlock = some b → B ≤ b)
section
variable {r : Option Nat} {P : Program} {o : Oper} {a : Act} {w w0 : World} {X : Nat → Prop} {L : List Res}
theorem op_appendL {t e : TypeId} {s x : Operand} {z : Value} {sz bytes B : Nat} {v vx : Value} {n m i : Nat} {xs news : List Value} (hS : Sep X w0 w L) (hB : B ≤ w.heap.size)
    (ho : o.op = .call { callee := .builtin .append, args := #[s, x], argTypes := #[t, t] }) (ht : P.underlying t = some (.slice e)) (he : elK P e = some (z, sz, bytes))
    (hs : a.eval s = v) (hx : a.eval x = vx) (hi : L[i]? = some (row v e sz n xs)) (hsrc : SlAt w vx sz m news) (hm : 0 < m) (h1 : news.all (·.oneCell') = true)
    (h63 : n + m ≤ maxLen) (hbytes : (n + m) * bytes ≤ 140737488355328) :
    OpY r P o a w (fun v' w' => Ext (fun b => v.ownBlock = some b) w w' ∧ Sep X w0 w' L ∧ AppL B v e sz n m (xs ++ news) v' w') := by
  unfold elK at he
  cases hi0 : P.info? e with
  | none => simp [hi0] at he
  | some ti =>
    simp only [hi0] at he
    cases hz : ti.zero with
    | none => simp [hz] at he
    | some z' =>
      simp only [hz] at he
      split at he
      case isFalse => cases he
      rename_i hcond
      simp only [Option.some.injEq, Prod.mk.injEq] at he
      obtain ⟨rfl, rfl, rfl⟩ := he
      have hown : w.ownsRow 0 e ti.size v n xs := hS.ok i _ hi
      obtain ⟨hl, A, cap', rfl, hc1, hc2, h3⟩ := hsrc
      have hne : news ≠ [] := by
        rintro rfl
        have := Nat.mul_pos hm hcond.2; simp at hl; omega
      obtain ⟨ad, rfl, hcells⟩ := h3 hne
      have run : ∀ v' w', (Builtin.append_ #[t, t] o.type #[v, .slice (some ad) m cap']).run P w = .ok v' w' → (execOp a.eval o).run P w = .ok (.value v') w' := fun v' w' hr => by
        simp only [execOp, ho, resolve, invoke, builtin, Sem.run_bind, Sem.run_pure, Result.andThen_ok, List.map_toArray, List.map_cons, List.map_nil, hs, hx, hr]
      have viaOwn : (∀ v' w', w'.ownsRow 0 e ti.size v' (n + m) (xs ++ news) → w.grownBy w' v.ownBlock → (v'.ownBlock = some w.heap.size) → (Builtin.append_ #[t, t] o.type #[v, .slice (some ad) m cap']).run P w = .ok v' w' → Ext NoB w w' → OpY r P o a w (fun v' w' => Ext (fun b => v.ownBlock = some b) w w' ∧ Sep X w0 w' L ∧ AppL B v e ti.size n m (xs ++ news) v' w')) := fun v' w' h4 h5 h6 h7 h8 =>
        c_8 (by rw [ho]; rfl) (run v' w' h7) ⟨h8.mono (fun _ hf => hf.elim), hS.step h8, h4, .inr fun b hb => by rw [h6] at hb; cases hb; exact hB⟩
      obtain ⟨v', w', hrun, h2, h4, _, h5⟩ := run_append_own_at (P := P) w 0 t o.type e ti z' ti.size ti.bytes ht hi0 hz rfl rfl hcond.1 hcond.2 v n xs hown ad m cap' news hl hcells (fun u hu => List.all_eq_true.1 h1 u hu) h63 hbytes (Nat.zero_le _)
      rcases hown.2 with ⟨rfl, rfl⟩ | ⟨g, cap, cur, rfl, hbg, hg, hnc, hcm, hcs, htake⟩
      · -- nil: new memory
        have hb : v'.ownBlock = some w.heap.size := by
          rcases h5 with h5 | h5
          · exfalso
            rcases h2.2 with ⟨rfl, h0⟩ | ⟨g, cap, cur, rfl, _⟩
            · omega
            · cases h5
          · exact h5
        refine viaOwn v' w' h2 h4 hb hrun ⟨h4.os, h4.tape, h4.output, h4.size, fun b hb _ => h4.block b hb (by simp [Value.ownBlock])⟩
      · by_cases hroom : n + m ≤ cap
        · have hfit : n * ti.size + news.length ≤ cur.size := by rw [hl, hcs, ← Nat.add_mul]; exact Nat.mul_le_mul_right _ hroom
          have hr := run_append_room (P := P) w t o.type e ti ht hi0 g n cap cur hg ad m cap' news hl hcells (fun u hu => List.all_eq_true.1 h1 u hu) hroom hfit
          rw [hr] at hrun
          cases hrun
          have hext : Ext (fun b => Value.ownBlock (.slice (some ⟨g, 0, none⟩) n cap) = some b) w (w.setRow g (cur.toList.take (n * ti.size) ++ news ++ cur.toList.drop (n * ti.size + news.length)).toArray) :=
            ⟨h4.os, h4.tape, h4.output, h4.size, fun b hb hx => h4.block b hb (fun e => hx e.symm)⟩
          have hrow : (w.setRow g (cur.toList.take (n * ti.size) ++ news ++ cur.toList.drop (n * ti.size + news.length)).toArray).ownsRow 0 e ti.size (.slice (some ⟨g, 0, none⟩) n cap) n xs := by
            refine ⟨hown.1, .inr ⟨g, cap, _, rfl, Nat.zero_le _, setRow_heap w g cur _ e _ hg, hnc, hcm, ?_, ?_⟩⟩
            · simp only [List.size_toArray, List.length_append, List.length_take, List.length_drop, Array.length_toList]
              omega
            · rw [htake, List.append_assoc]
              have : xs.length = n * ti.size := hown.1
              rw [← this]; exact List.take_left
          refine c_8 (by rw [ho]; rfl) (run _ _ hr) ⟨hext, ?_, h2, .inl ⟨g, cap, rfl, rfl⟩⟩
          have := hS.upd (r' := row (.slice (some ⟨g, 0, none⟩) n cap) e ti.size n xs) hi rfl hext hrow (fun _ hb => .inl hb)
          rwa [set_same hi] at this
        · have holds : ∀ j u, xs[j]? = some u → w.cell? ((⟨g, 0, none⟩ : Addr).add j) = some u := hown.cells (g := g) rfl
          have hr := run_append_grow (P := P) w t o.type e ti z' ht hi0 hz ⟨g, 0, none⟩ n cap xs hown.1 holds ad m cap' news hl hcells (by omega) (by simp only [maxLen] at h63; omega) (growslice_fits (by omega) hbytes)
          rw [hr] at hrun
          cases hrun
          exact viaOwn _ _ h2 h4 rfl hr ⟨rfl, rfl, rfl, by simp, fun b hb _ => heap_alloc_old w.drew _ (by simpa using hb)⟩
end
def YdB (B : Nat) (y : Yd) : Prop := ∀ (X : Nat → Prop) v w w', (∀ b, X b → b < B) → y.p v w → Ext X w w' → y.p v w'
theorem l_2 (B : Nat) (u : Value) : YdB B (Yd.val u) := fun _ _ _ _ _ h _ => h
theorem ydb_any (B : Nat) : YdB B Yd.any := fun _ _ _ _ _ h _ => h
theorem ydb_blt (B : Nat) (e : TypeId) (len : Nat) (cs : List Value) : YdB B (Yd.blt B e len cs) := fun X v w w' hX ⟨b, h1, h2, h3⟩ k =>
  ⟨b, h1, (blk b e cs).stable w w' h2 fun x hx => k.keep x ((blk b e cs).lt w x h2 hx) (fun hf => by cases hx; have := hX _ hf; omega), h3⟩
def AllYdB (B : Nat) : List Yd → Prop
  | [] => True
  | y :: ys => YdB B y ∧ AllYdB B ys
theorem allYdB_at {B : Nat} : ∀ {ys : List Yd}, AllYdB B ys → ∀ (i : Nat) (y : Yd), ys[i]? = some y → YdB B y
  | [], _, i, y, h => by simp at h
  | x :: ys, ha, 0, y, h => by simp at h; subst h; exact ha.1
  | x :: ys, ha, i + 1, y, h => allYdB_at ha.2 i y (by simpa using h)
section
variable {r : Option Nat} {P : Program} {Q : Exit → Act → World → Prop} {n : Nat} {ds : List Deferred} {m : List (Nat × Value)} {X : Nat → Prop} {w0 : World} {L : List Res}
theorem has_phi {ops : Array Oper} {φ ψ : Nat → Value → World → Prop} {a : Act} {w : World} {i : Nat} (h : Has ops φ a w i) (he : ∀ u, φ i u w → ψ i u w) : Has ops ψ a w i := by
  unfold Has at *
  split
  · rename_i d hd; rw [hd] at h; obtain ⟨v, h1, h2⟩ := h; exact ⟨v, h1, he v h2⟩
  · rename_i hd; rw [hd] at h; obtain ⟨v, h2⟩ := h; exact ⟨v, he v h2⟩
end
end Go.Eng

namespace Go.Eng
open Go.RowKit
theorem i_3 {v : Value} (h : IsSl v) : v.cells = [v].toArray := by obtain ⟨A, n, c, rfl⟩ := h; rfl
section
variable {X : Nat → Prop} {w0 w : World} {L : List Res}
end
section
variable {r : Option Nat} {P : Program} {o : Oper} {a : Act} {w w0 : World} {X : Nat → Prop} {L : List Res} {φ : Value → World → Prop}
theorem dbltZ {B : Nat} {t e : TypeId} {len sz : Nat} {g : Bool} {parts : Array (Nat × Operand)} {ps : Array (Nat × Value)} {z : Value} {cs : List Value} (hM : Sep X w0 w L) (hB : B ≤ w.heap.size)
    (ho : o.op = .buildSlice t len parts) (hp : (parts.map fun (i, x) => (i, a.eval x)) = ps) (ht : P.underlying t = some (.slice e)) (he : tyK P e = some (g, sz)) (hz : (P.info? e).bind (·.zero) = some z)
    (hbig : len * sz ≤ 16777216) (hf : Instr.fill (fun i => some (i * sz, sz)) ((Array.range (len * sz)).map (z.cells[· % z.cells.size]!)) ps.toList = some cs.toArray) (hφ : ∀ v w', (Yd.blt B e len cs).p v w' → φ v w') :
    OpY r P o a w (fun v w' => Ext NoB w w' ∧ Sep X w0 w' L ∧ φ v w') :=
  n_4 (c_7 (X := NoB) (w0 := w) (L := []) (Sep.start _ _) ho hp ht he hz hbig hf) fun v w' ⟨b, h1, h2⟩ =>
    ⟨h2.ext, hM.step h2.ext, hφ v w' ⟨b, h1, h2.ok 0 _ rfl, by
      have h3 := h2.mine 0 _ rfl rfl b rfl
      rcases h3 with h3 | h3
      · exact h3.elim
      · omega⟩⟩
end
end Go.Eng

namespace Go.Eng
open Go.RowKit
section
variable {r : Option Nat} {P : Program} {o : Oper} {a : Act} {w : World}
end
section
variable {X : Nat → Prop} {w0 w : World} {L : List Res}
end
end Go.Eng

namespace Go.Eng
open Go.RowKit
def apartR (r s : Res) : Prop := (r.own = true → ∀ b, r.S b → ¬ s.S b) ∧ (s.own = true → ∀ b, s.S b → ¬ r.S b)
theorem apartR.symm {r s : Res} (h : apartR r s) : apartR s r := ⟨h.2, h.1⟩
section
variable {X : Nat → Prop} {w0 w w' : World} {L L' : List Res}
theorem Sep.pw (h : Sep X w0 w L) : L.Pairwise apartR := by
  rw [List.pairwise_iff_getElem]
  intro i j hi hj hij
  exact ⟨h.apart i j _ _ (by omega) (List.getElem?_eq_getElem hi) (List.getElem?_eq_getElem hj), h.apart j i _ _ (by omega) (List.getElem?_eq_getElem hj) (List.getElem?_eq_getElem hi)⟩
theorem Sep.of_pw (he : Ext X w0 w) (hok : ∀ r ∈ L, r.p w) (hm : ∀ r ∈ L, r.own = true → ∀ b, r.S b → X b ∨ w0.heap.size ≤ b) (hp : L.Pairwise apartR) : Sep X w0 w L := by
  refine ⟨he, fun i r hi => hok r (List.mem_of_getElem? hi), fun i r hi => hm r (List.mem_of_getElem? hi), fun i j r s hij hi hj => ?_⟩
  obtain ⟨hi1, rfl⟩ := List.getElem?_eq_some_iff.1 hi
  obtain ⟨hj1, rfl⟩ := List.getElem?_eq_some_iff.1 hj
  rw [List.pairwise_iff_getElem] at hp
  rcases Nat.lt_or_ge i j with h | h
  · exact (hp i j hi1 hj1 h).1
  · exact (hp j i hj1 hi1 (by omega)).2
theorem Sep.mem (h : Sep X w0 w L) {r : Res} (hr : r ∈ L) : r.p w := by
  obtain ⟨i, hi⟩ := List.getElem?_of_mem hr; exact h.ok i r hi
theorem Sep.mineM (h : Sep X w0 w L) {r : Res} (hr : r ∈ L) : r.own = true → ∀ b, r.S b → X b ∨ w0.heap.size ≤ b := by
  obtain ⟨i, hi⟩ := List.getElem?_of_mem hr; exact h.mine i r hi
theorem Sep.perm (h : Sep X w0 w L) (hp : L'.Perm L) : Sep X w0 w L' :=
  Sep.of_pw h.ext (fun r hr => h.mem (hp.mem_iff.1 hr)) (fun r hr => h.mineM (hp.mem_iff.1 hr)) ((hp.pairwise_iff (fun h => h.symm)).2 h.pw)
theorem Sep.right {A B : List Res} (h : Sep X w0 w (A ++ B)) : Sep X w0 w B :=
  Sep.of_pw h.ext (fun _ hr => h.mem (List.mem_append_right _ hr)) (fun _ hr => h.mineM (List.mem_append_right _ hr)) (List.pairwise_append.1 h.pw).2.1
end
section
variable {r : Option Nat} {P : Program} {Q : Exit → Act → World → Prop} {n : Nat} {ds : List Deferred} {m : List (Nat × Value)}
theorem getD_set_or {listed : Array Bool} {j : Nat} (hj : j < listed.size) (i : Nat) : (listed.setIfInBounds j true).getD i false = (listed.getD i false || (i == j)) := by
  by_cases e : i = j
  · subst e; simp [hj]
  · have : (i == j) = false := by simpa using e
    rw [getD_set_ne false (fun e' => e e'.symm), this, Bool.or_false]
theorem c_drawJ {id : Nat} {l : List Oper} {a : Act} {w : World} (hm : P.follows .mixedOrders = true) (h : Nat) (deps : Nat → List Nat) (hok : m_1 l.toArray h deps = true)
    (Inv : (Nat → Bool) → Act → World → Prop)
    (hM : ∀ w', Ext NoB w w' → w'.heap = w.heap → Inv (fun _ => false) a w')
    (hop : ∀ j o, l[j]? = some o → j < h → ∀ done a w, done j = false → (∀ i, done i = true → ∀ k ∈ h_0 l.toArray i, done k = true) → (∀ i ∈ h_0 l.toArray j, done i = true) → Inv done a w → OpG r P l.toArray o a w (fun v w' => Inv (fun i => done i || (i == j)) (a.put o.dst v) w'))
    (htail : ∀ done a w, (∀ i, i < h → done i = true) → Inv done a w → WL r P l.toArray Q (l.drop h) a w) :
    WC r P (.region id l.toArray true) Q a w := by
  generalize hops : l.toArray = ops at *
  have hlops : ∀ j : Nat, l[j]? = ops[j]? := fun j => by subst hops; simp
  have hlen : l.length = ops.size := by subst hops; simp
  simp only [m_1, Bool.and_eq_true, List.all_eq_true, List.mem_range, decide_eq_true_eq] at hok
  obtain ⟨⟨⟨⟨hback, hdeps⟩, htl⟩, hdst⟩, hh⟩ := hok
  refine wpIn_region_any hm ?_
  have main : ∀ (fuel : Nat) (listed : Array Bool) (a : Act) (w : World), un ops listed ≤ fuel → Listed ops listed →
      (((∃ j, j < h ∧ listed.getD j true = false) ∧ (∀ t, h ≤ t → t < ops.size → listed.getD t true = false) ∧ Inv (fun i => listed.getD i false) a w) ∨
        (∃ t, t ≤ ops.size ∧ (∀ i, i < ops.size → listed.getD i true = decide (i < t)) ∧ h ≤ t ∧ WL r P ops Q (l.drop t) a w)) →
      wpAnyIn (FR r) 0 P .any ops Q fuel listed a w := by
    intro fuel
    induction fuel with
    | zero =>
      intro listed a w hu hL hst
      have hall : ∀ i, i < ops.size → listed.getD i true = true := fun i hi => by
        cases hc : listed.getD i true with
        | true => rfl
        | false =>
          have : 0 < un ops listed := List.countP_pos_iff.2 ⟨i, List.mem_range.2 hi, by simp [hc]⟩
          omega
      rcases hst with ⟨⟨j, hj, hj0⟩, _⟩ | ⟨t, ht, hlt, hht, hw⟩
      · rw [hall j (by omega)] at hj0; cases hj0
      · refine ⟨?_, ?_⟩
        · rw [List.eq_nil_iff_forall_not_mem]
          intro j hj
          obtain ⟨h0, hjl, _⟩ := j_4 hj
          rw [hall j hjl] at h0; cases h0
        · have ht' : t = ops.size := by
            rcases Nat.lt_or_ge t ops.size with h1 | h1
            · have := hlt t h1
              rw [hall t h1] at this
              simp at this
            · omega
          rw [ht', ← hlen, List.drop_length] at hw
          exact hw
    | succ fuel ih =>
      intro listed a w hu hL hst
      refine ⟨fun hnil => ?_, fun j hj => ?_⟩
      · rcases hst with ⟨⟨j, hj, hj0⟩, _⟩ | ⟨t, ht, hlt, hht, hw⟩
        · exfalso
          have key : ∀ k, k < ops.size → listed.getD k true = false → False := by
            intro k
            induction k using Nat.strongRecOn with
            | _ k ihk =>
              intro hk hk0
              have : k ∈ Region.ready .any ops listed := ready_of hk0 hk (fun i hi => by
                have hik := hback k hk i hi
                cases hc : listed.getD i false with
                | true => rfl
                | false => exact (ihk i hik (by omega) (by rw [i_7 (by rw [hL.size]; omega)]; exact hc)).elim)
              rw [hnil] at this; cases this
          exact key j (by omega) hj0
        · have ht' : t = ops.size := by
            rcases Nat.lt_or_ge t ops.size with h1 | h1
            · exfalso
              have : t ∈ Region.ready .any ops listed := ready_of (by rw [hlt t h1]; simp) h1 (fun i hi => by
                have hik := hback t h1 i hi
                rw [← i_7 (by rw [hL.size]; omega), hlt i (by omega)]; simpa using hik)
              rw [hnil] at this; cases this
            · omega
          rw [ht', ← hlen, List.drop_length] at hw
          exact hw
      · obtain ⟨h0, hjl, hjb⟩ := j_4 hj
        have hL' := hL.set hj
        have hu' : un ops (listed.setIfInBounds j true) ≤ fuel := by have := un_set h0 hjl hL.size; omega
        have hoj : ops[j]? = some ops[j] := Array.getElem?_eq_getElem hjl
        rcases hst with ⟨⟨j0, hj0, hj00⟩, htun, hI⟩ | ⟨t, ht, hlt, hht, hw⟩
        · have hjh : j < h := by
            rcases Nat.lt_or_ge j h with h1 | h1
            · exact h1
            · exfalso
              have h2 := htl j hjl
              simp only [Bool.or_eq_true, decide_eq_true_eq] at h2
              rcases h2 with h2 | h2
              · omega
              · rw [List.all_eq_true] at h2
                have h3 := h2 j0 (List.mem_range.2 (by omega))
                have h4 := h_5 hL 12 _ hjb j0 (by simpa using h3)
                rw [← i_7 (by rw [hL.size]; omega), hj00] at h4; cases h4
          refine opG_wp hoj (hop j _ ((hlops j).trans hoj) hjh (fun i => listed.getD i false) a w (by rw [← i_7 (by rw [hL.size]; omega)]; exact h0) hL.closed hjb hI) ?_
          intro v w' hI'
          refine ih _ _ _ hu' hL' ?_
          have hI2 : Inv (fun i => (listed.setIfInBounds j true).getD i false) (a.put ops[j].dst v) w' := by
            have e : (fun i => (listed.setIfInBounds j true).getD i false) = (fun i => listed.getD i false || (i == j)) := by
              funext i; exact getD_set_or (by rw [hL.size]; exact hjl) i
            rw [e]; exact hI'
          by_cases hmore : ∃ k, k < h ∧ (listed.setIfInBounds j true).getD k true = false
          · refine .inl ⟨hmore, fun t ht1 ht2 => ?_, hI2⟩
            rw [getD_set_ne true (by omega)]; exact htun t ht1 ht2
          · refine .inr ⟨h, hh, fun i hi => ?_, Nat.le_refl _, ?_⟩
            · by_cases hih : i < h
              · cases hc : (listed.setIfInBounds j true).getD i true with
                | true => simp [hih]
                | false => exact (hmore ⟨i, hih, hc⟩).elim
              · rw [getD_set_ne true (by omega), htun i (by omega) hi]; simp [hih]
            · refine htail _ _ _ (fun i hi => ?_) hI2
              cases hc : (listed.setIfInBounds j true).getD i true with
              | true => rw [← i_7 (by simp [hL.size]; omega)]; exact hc
              | false => exact (hmore ⟨i, hi, hc⟩).elim
        · have hjt : j = t := by
            rw [hlt j hjl] at h0
            simp only [decide_eq_false_iff_not, Nat.not_lt] at h0
            rcases Nat.lt_or_ge t j with h1 | h1
            · exfalso
              have h2 := htl j hjl
              simp only [Bool.or_eq_true, decide_eq_true_eq] at h2
              rcases h2 with h2 | h2
              · omega
              · rw [List.all_eq_true] at h2
                have h4 := h_5 hL 12 _ hjb t (by simpa using h2 t (List.mem_range.2 h1))
                rw [← i_7 (by rw [hL.size]; omega), hlt t (by omega)] at h4
                simp at h4
            · omega
          subst hjt
          have hdrop : l.drop j = ops[j] :: l.drop (j + 1) := by
            rw [List.drop_eq_getElem_cons (by rw [hlen]; exact hjl)]
            congr 1
            subst hops; simp
          rw [hdrop] at hw
          have hcont : ∀ a w, WL r P ops Q (l.drop (j + 1)) a w → wpAnyIn (FR r) 0 P .any ops Q fuel (listed.setIfInBounds j true) a w := by
            intro a w hw'
            refine ih _ _ _ hu' hL' (.inr ⟨j + 1, by omega, fun i hi => ?_, by omega, hw'⟩)
            by_cases e : i = j
            · subst e; simp [hL.size, hi]
            · rw [getD_set_ne true (fun e' => e e'.symm), hlt i hi]
              simp only [decide_eq_decide]; omega
          unfold wpOpIn
          simp only [hoj]
          have hw2 : (if Region.wanted ops[j] (yielded ops a.tmps) then ops[j].wpIn (FR r) 0 P a w (wpListIn (FR r) 0 P ops Q (l.drop (j + 1))) Q else (∀ f, ops[j].about P w a.eval = some f → (FR r).fn f) ∧ wpListIn (FR r) 0 P ops Q (l.drop (j + 1)) (a.put ops[j].dst undef) w) := by
            have := hw
            simp only [WL, wpListIn] at this
            exact this
          split
          · rename_i hwn; rw [if_pos hwn] at hw2; exact Oper.wpIn_mono hcont hw2
          · rename_i hwn; rw [if_neg hwn] at hw2; exact ⟨hw2.1, hcont _ _ hw2.2⟩
  have hw1 : Ext NoB w { w with drawn := w.drawn + 1 } := Ext.drewN NoB w 1
  have hrep0 : (fun i => (Array.replicate ops.size false).getD i false) = (fun _ => false) := by funext i; exact getD_replicate_false ..
  refine main ops.size _ a _ (by unfold un; exact Nat.le_trans List.countP_le_length (by simp)) ⟨by simp, fun j hj => by rw [getD_replicate_false] at hj; cases hj⟩ ?_
  have hrep : ∀ t, t < ops.size → (Array.replicate ops.size false).getD t true = false := fun t ht => by simp [ht]
  rcases Nat.eq_zero_or_pos h with h0 | h0
  · refine .inr ⟨0, Nat.zero_le _, fun i hi => by rw [hrep i hi]; simp, by omega, ?_⟩
    have := htail (fun _ => false) a _ (fun i hi => by omega) (hM _ hw1 rfl)
    rw [h0] at this; exact this
  · refine .inl ⟨⟨0, h0, hrep 0 (by omega)⟩, fun t _ ht => hrep t ht, ?_⟩
    rw [hrep0]; exact hM _ hw1 rfl
end
abbrev YV := (Nat → Value) → Value → List Res → Prop
def YV.val (u : (Nat → Value) → Value) : YV := fun vs v rs => v = u vs ∧ rs = []
def YV.new (mk : (Nat → Value) → Value → List Res) : YV := fun vs v rs => rs = mk vs v
def YV.blt (e len : Nat) (cs : (Nat → Value) → List Value) : YV := fun vs v rs => ∃ b, v = .slice (some ⟨b, 0, none⟩) len len ∧ rs = [blk b e (cs vs)]
def yat (Y : List YV) (j : Nat) (vs : Nat → Value) (v : Value) (rs : List Res) : Prop := match Y[j]? with | some y => y vs v rs | none => rs = []
def YDep (D : List Nat) (y : YV) : Prop := ∀ vs vs' v rs, (∀ i ∈ D, vs i = vs' i) → y vs v rs → y vs' v rs
def AllDep : List (List Nat) → List YV → Prop
  | _, [] => True
  | [], y :: Y => YDep [] y ∧ AllDep [] Y
  | D :: dl, y :: Y => YDep D y ∧ AllDep dl Y
theorem allDep_at : ∀ {Y : List YV} {dl : List (List Nat)}, AllDep dl Y → ∀ (j : Nat) (y : YV), Y[j]? = some y → YDep (dl.getD j []) y
  | [], _, _, j, y, h => by simp at h
  | x :: Y, [], ha, 0, y, h => by simp at h; subst h; exact ha.1
  | x :: Y, [], ha, j + 1, y, h => by
    have := allDep_at ha.2 j y (by simpa using h)
    simpa using this
  | x :: Y, D :: dl, ha, 0, y, h => by simp at h; subst h; exact ha.1
  | x :: Y, D :: dl, ha, j + 1, y, h => by
    have := allDep_at ha.2 j y (by simpa using h)
    simpa using this
theorem yat_dep {Y : List YV} {dl : List (List Nat)} (h : AllDep dl Y) {j : Nat} {vs vs' : Nat → Value} {v : Value} {rs : List Res} (he : ∀ i ∈ dl.getD j [], vs i = vs' i) (hy : yat Y j vs v rs) : yat Y j vs' v rs := by
  unfold yat at *
  split
  · rename_i y hj; rw [hj] at hy; exact allDep_at h j y hj vs vs' v rs he hy
  · rename_i hj; rw [hj] at hy; exact hy
def catR (rsf : Nat → List Res) : Nat → Nat → List Res
  | _, 0 => []
  | k, h + 1 => rsf k ++ catR rsf (k + 1) h
def upd {α : Type} (f : Nat → α) (j : Nat) (x : α) (i : Nat) : α := if i = j then x else f i
theorem upd_same {α : Type} (f : Nat → α) (j : Nat) (x : α) : upd f j x j = x := if_pos rfl
theorem upd_ne {α : Type} (f : Nat → α) {j i : Nat} (x : α) (h : i ≠ j) : upd f j x i = f i := if_neg h
theorem catR_out (rsf : Nat → List Res) (j : Nat) (rs : List Res) : ∀ (h k : Nat), j < k ∨ k + h ≤ j → catR (upd rsf j rs) k h = catR rsf k h
  | 0, _, _ => rfl
  | h + 1, k, hj => by
    show upd rsf j rs k ++ catR (upd rsf j rs) (k + 1) h = rsf k ++ catR rsf (k + 1) h
    rw [upd_ne _ _ (by omega), catR_out rsf j rs h (k + 1) (by omega)]
theorem catR_upd (rsf : Nat → List Res) (j : Nat) (rs : List Res) (h0 : rsf j = []) : ∀ (h k : Nat), k ≤ j → j < k + h → (catR (upd rsf j rs) k h).Perm (rs ++ catR rsf k h)
  | 0, k, h1, h2 => by omega
  | h + 1, k, h1, h2 => by
    show (upd rsf j rs k ++ catR (upd rsf j rs) (k + 1) h).Perm (rs ++ (rsf k ++ catR rsf (k + 1) h))
    by_cases e : k = j
    · subst e
      rw [upd_same, h0, catR_out rsf k rs h (k + 1) (by omega)]
      exact List.Perm.refl _
    · rw [upd_ne _ _ e]
      refine ((catR_upd rsf j rs h0 h (k + 1) (by omega) (by omega)).append_left (rsf k)).trans ?_
      rw [← List.append_assoc, ← List.append_assoc]
      exact List.perm_append_comm.append_right _
theorem catR_mem (rsf : Nat → List Res) : ∀ (h k i : Nat), k ≤ i → i < k + h → ∀ r ∈ rsf i, r ∈ catR rsf k h
  | 0, k, i, h1, h2, _, _ => by omega
  | h + 1, k, i, h1, h2, r, hr => by
    show r ∈ rsf k ++ catR rsf (k + 1) h
    by_cases e : k = i
    · subst e; exact List.mem_append_left _ hr
    · exact List.mem_append_right _ (catR_mem rsf h (k + 1) i (by omega) (by omega) r hr)
def j_2 (ops : Array Oper) (a : Act) (i : Nat) (v : Value) : Prop := match (ops[i]?).bind (·.dst) with | some d => a.tmps[d]? = some v | none => True
theorem j_5 {ops : Array Oper} {a : Act} {i d : Nat} {v : Value} (h : j_2 ops a i v) (hd : (ops[i]?).bind (·.dst) = some d) : a.tmps[d]? = some v := by
  unfold j_2 at h; rw [hd] at h; exact h
section
variable {r : Option Nat} {P : Program} {Q : Exit → Act → World → Prop} {n : Nat} {ds : List Deferred} {m : List (Nat × Value)} {X : Nat → Prop} {w0 : World} {L : List Res}
theorem lookup_mem {i : Nat} {u : Value} : ∀ (l : List (Nat × Value)), l.lookup i = some u → i ∈ l.map (·.1)
  | [], h => by simp at h
  | (p1, p2) :: l, h => by
    by_cases e : i = p1
    · simp [e]
    · have hb : (i == p1) = false := by simpa using e
      simp only [List.lookup, hb] at h
      have := lookup_mem l h
      simp only [List.map_cons, List.mem_cons]
      exact .inr this
def depsOk (ops : Array Oper) (h : Nat) (dl : List (List Nat)) : Bool :=
  (List.range h).all fun j => (dl.getD j []).all fun i => decide (i < j) && (beforeOf ops 12 (h_0 ops j)).contains i
theorem i_6 {ops : Array Oper} {done : Nat → Bool} (hcl : ∀ i, done i = true → ∀ k ∈ h_0 ops i, done k = true) : ∀ (k : Nat) (l : List Nat), (∀ i ∈ l, done i = true) → ∀ i ∈ beforeOf ops k l, done i = true
  | 0, _, hl => hl
  | k + 1, l, hl => i_6 hcl k _ (fun i hi => by
      rw [List.mem_eraseDups, List.mem_append, List.mem_filter, List.mem_flatMap] at hi
      rcases hi with hi | ⟨⟨j, hj, hij⟩, _⟩
      · exact hl i hi
      · exact hcl j (hl j hj) i hij)
theorem c_drawV {id : Nat} {l : List Oper} {a : Act} {w : World} (hm : P.follows .mixedOrders = true) (hA : Fr n ds m a) (hS : Sep X w0 w L) (h : Nat) (dl : List (List Nat)) (Y : List YV)
    (hok : m_1 l.toArray h (fun _ => []) = true) (hok2 : depsOk l.toArray h dl = true) (hfree : q_3 l.toArray h (m.map (·.1)) = true) (hn : (List.range h).all (fun j => match (l.toArray[j]?).bind (·.dst) with | some d => decide (d < n) | none => true) = true)
    (hdep : AllDep dl Y)
    (hop : m_9 (fun j o => ∀ a w' vs, Fr n ds m a → Sep X w0 w' L → (∀ i ∈ dl.getD j [], j_2 l.toArray a i (vs i) ∧ ∃ rs, yat Y i vs (vs i) rs ∧ ∀ s ∈ rs, s.p w') → OpG r P l.toArray o a w' (fun v w'' => Ext NoB w' w'' ∧ ∃ rs, yat Y j vs v rs ∧ Sep NoB w' w'' rs ∧ rs.all (·.own) = true)) 0 h l)
    (htail : ∀ a w' vs rsf, Fr n ds m a → (∀ i, i < h → j_2 l.toArray a i (vs i) ∧ yat Y i vs (vs i) (rsf i)) → Sep X w0 w' (catR rsf 0 h ++ L) → WL r P l.toArray Q (l.drop h) a w') :
    WC r P (.region id l.toArray true) Q a w := by
  have hok' := hok
  simp only [m_1, Bool.and_eq_true, List.all_eq_true, List.mem_range, decide_eq_true_eq] at hok'
  obtain ⟨⟨⟨⟨hback, _⟩, htl⟩, hdst⟩, hh⟩ := hok'
  simp only [depsOk, List.all_eq_true, List.mem_range, Bool.and_eq_true, decide_eq_true_eq] at hok2
  refine c_drawJ hm h (fun _ => []) hok (fun done a w' => Fr n ds m a ∧ ∃ vs rsf, (∀ i, i < h → done i = true → j_2 l.toArray a i (vs i) ∧ yat Y i vs (vs i) (rsf i)) ∧ (∀ i, done i = false → rsf i = []) ∧ Sep X w0 w' (catR rsf 0 h ++ L)) (fun w' he _ => ⟨hA, fun _ => undef, fun _ => [], (fun i _ hi => by cases hi), fun _ _ => rfl, ?_⟩) (fun j o ho hj done a w' hj0 hcl hjb hI => ?_) (fun done a w' hall hI => ?_)
  · have : ∀ (h k : Nat), catR (fun _ => []) k h = [] := by
      intro h
      induction h with
      | zero => intro k; rfl
      | succ h ih => intro k; show [] ++ catR _ (k + 1) h = []; rw [ih]; rfl
    rw [this]; exact hS.step he
  · obtain ⟨hA, vs, rsf, hdone, hnot, hSep⟩ := hI
    have hob := allOps_at h 0 l hop j o ho hj
    rw [Nat.zero_add] at hob
    have hoj : (l.toArray)[j]? = some o := by simpa using ho
    have hdj : ∀ i ∈ dl.getD j [], i < h ∧ done i = true := fun i hi => by
      have h1 := hok2 j hj i hi
      exact ⟨by omega, i_6 hcl 12 _ hjb i (by simpa using h1.2)⟩
    refine o_8 (hob a w' vs hA hSep.right (fun i hi => ?_)) (fun v w'' hv => ?_)
    · obtain ⟨h1, h2⟩ := hdj i hi
      obtain ⟨h3, h4⟩ := hdone i h1 h2
      exact ⟨h3, rsf i, h4, fun s hs => hSep.mem (List.mem_append_left _ (catR_mem rsf h 0 i (Nat.zero_le _) (by omega) s hs))⟩
    · obtain ⟨hext, rs, hy, hnew, hown⟩ := hv
      have hslot : ∀ i, i < h → i ≠ j → ∀ u, j_2 l.toArray a i u → j_2 l.toArray (a.put o.dst v) i u := fun i hi hij u hs => by
        unfold j_2 at hs ⊢
        have hdd := hdst i hi j hj
        cases hdi : ((l.toArray)[i]?).bind (·.dst) with
        | none => trivial
        | some di =>
          rw [hdi] at hs
          cases hdj' : o.dst with
          | none => exact hs
          | some dj =>
            have hjd : ((l.toArray)[j]?).bind (·.dst) = some dj := by rw [hoj]; exact hdj'
            rw [hdi, hjd] at hdd
            simp only [Bool.or_eq_true, decide_eq_true_eq] at hdd
            have hne : dj ≠ di := fun e' => (hdd.resolve_left (fun e2 => hij e2.symm)) e'
            simp only [Act.put]
            rw [Array.getElem?_setIfInBounds_ne hne]; exact hs
      refine ⟨?_, upd vs j v, upd rsf j rs, fun i hi hdi => ?_, fun i hdi => ?_, ?_⟩
      · cases hd : o.dst with
        | none => exact hA.put_none v
        | some d =>
          have hf := List.all_eq_true.1 hfree j (List.mem_range.2 hj)
          have hjd : ((l.toArray)[j]?).bind (·.dst) = some d := by rw [hoj]; exact hd
          rw [hjd] at hf
          have hdn := List.all_eq_true.1 hn j (List.mem_range.2 hj)
          rw [hjd] at hdn
          refine (hA.put (by simpa using hdn) v).mono (fun i u hi => ?_)
          have : i ≠ d := by
            rintro rfl
            have := lookup_mem m hi
            simp [this] at hf
          have hb : (i == d) = false := by simpa using this
          simp only [List.lookup, hb]; exact hi
      · by_cases e : i = j
        · subst e
          rw [upd_same, upd_same]
          refine ⟨?_, yat_dep hdep (fun k hk => ?_) hy⟩
          · unfold j_2
            rw [hoj]
            cases hd : o.dst with
            | none => simp [hd]
            | some d =>
              simp only [Option.bind_some, hd]
              have hdn := List.all_eq_true.1 hn i (List.mem_range.2 hj)
              rw [hoj] at hdn
              simp only [Option.bind_some, hd, decide_eq_true_eq] at hdn
              simp only [Act.put]
              rw [Array.getElem?_setIfInBounds_self_of_lt (by rw [hA.1]; exact hdn)]
          · have := (hdj k hk).2
            rw [upd_ne _ _ (by rintro rfl; rw [hj0] at this; cases this)]
        · have hdi' : done i = true := by
            simp only [Bool.or_eq_true, beq_iff_eq] at hdi
            exact hdi.resolve_right e
          obtain ⟨h3, h4⟩ := hdone i hi hdi'
          rw [upd_ne _ _ e, upd_ne _ _ e]
          refine ⟨hslot i hi e _ h3, yat_dep hdep (fun k hk => ?_) h4⟩
          have hk1 := hok2 i hi k hk
          have := i_6 hcl 12 _ (hcl i hdi') k (by simpa using hk1.2)
          rw [upd_ne _ _ (by rintro rfl; rw [hj0] at this; cases this)]
      · simp only [Bool.or_eq_false_iff, beq_eq_false_iff_ne, ne_eq] at hdi
        rw [upd_ne _ _ hdi.2]; exact hnot i hdi.1
      · have h1 := hSep.q_1 hnew hown
        refine h1.perm ?_
        rw [← List.append_assoc]
        exact (catR_upd rsf j rs (hnot j hj0) h 0 (Nat.zero_le _) (by omega)).append_right L
  · obtain ⟨hA, vs, rsf, hdone, _, hSep⟩ := hI
    exact htail a w' vs rsf hA (fun i hi => hdone i hi (hall i hi)) hSep
end
section
variable {r : Option Nat} {P : Program} {o : Oper} {a : Act} {w : World} {y : List Res → Value → Prop}
theorem vv {v : Value} (h : OpY r P o a w (fun v' w' => v' = v ∧ w' = w)) (hy : y [] v) : OpY r P o a w (fun v w'' => Ext NoB w w'' ∧ ∃ rs, y rs v ∧ Sep NoB w w'' rs ∧ rs.all (·.own) = true) :=
  n_4 h fun v' w' ⟨h1, h2⟩ => by subst h1; subst h2; exact ⟨Ext.refl _ _, [], hy, Sep.start _ _, rfl⟩
theorem vx {v : Value} (h : OpY r P o a w (fun v' w' => v' = v ∧ Ext NoB w w')) (hy : y [] v) : OpY r P o a w (fun v w'' => Ext NoB w w'' ∧ ∃ rs, y rs v ∧ Sep NoB w w'' rs ∧ rs.all (·.own) = true) :=
  n_4 h fun v' w' ⟨h1, h2⟩ => by subst h1; exact ⟨h2, [], hy, (Sep.start _ _).step h2, rfl⟩
theorem vn {R : Value → World → Prop} (h : OpY r P o a w R) (hy : ∀ v w', R v w' → ∃ rs, y rs v ∧ Sep NoB w w' rs ∧ rs.all (·.own) = true) : OpY r P o a w (fun v w'' => Ext NoB w w'' ∧ ∃ rs, y rs v ∧ Sep NoB w w'' rs ∧ rs.all (·.own) = true) :=
  n_4 h fun v' w' hv => by obtain ⟨rs, h1, h2, h3⟩ := hy v' w' hv; exact ⟨h2.ext, rs, h1, h2, h3⟩
end
theorem slAt_nil (w : World) (sz : Nat) : SlAt w (.slice none 0 0) sz 0 [] := ⟨by simp, none, 0, rfl, Nat.le_refl _, by simp [maxLen], fun h => absurd rfl h⟩
section
variable {r : Option Nat} {P : Program} {o : Oper} {a : Act} {w : World} {y : List Res → Value → Prop}
theorem vblt {t e : TypeId} {len sz : Nat} {g : Bool} {parts : Array (Nat × Operand)} {ps : Array (Nat × Value)} {z : Value} {cs : List Value}
    (ho : o.op = .buildSlice t len parts) (hp : (parts.map fun (i, x) => (i, a.eval x)) = ps) (ht : P.underlying t = some (.slice e)) (he : tyK P e = some (g, sz)) (hz : (P.info? e).bind (·.zero) = some z)
    (hbig : len * sz ≤ 16777216) (hf : Instr.fill (fun i => some (i * sz, sz)) ((Array.range (len * sz)).map (z.cells[· % z.cells.size]!)) ps.toList = some cs.toArray) (hl : cs.length = len * sz) (hlm : len ≤ maxLen) (hy : ∀ v, y [row v e sz len cs] v) :
    OpY r P o a w (fun v w'' => Ext NoB w w'' ∧ ∃ rs, y rs v ∧ Sep NoB w w'' rs ∧ rs.all (·.own) = true) :=
  vn (c_7 (X := NoB) (w0 := w) (L := []) (Sep.start _ _) ho hp ht he hz hbig hf) fun v w' ⟨b, h1, h2⟩ => by
    subst h1
    exact ⟨_, hy _, h2.blk_row (i := 0) rfl hl hlm, rfl⟩
end
end Go.Eng

namespace Go.Eng
open Go.RowKit
section
variable {X Y : Nat → Prop} {w0 w w' : World} {L A D : List Res} {G G' : Res}
theorem Sep.one (h : Sep X w0 w (G :: L)) : Sep X w0 w [G] :=
  Sep.of_pw h.ext (fun r hr => by rw [List.mem_singleton] at hr; subst hr; exact h.ok 0 _ rfl) (fun r hr => by rw [List.mem_singleton] at hr; subst hr; exact h.mine 0 _ rfl) (List.pairwise_singleton _ _)
theorem Sep.begin (h : Sep X w0 w (G :: D)) (hD : ∀ r ∈ D, r.own = false) : Sep G.S w w (G :: D) :=
  Sep.of_pw (Ext.refl _ _) (fun _ hr => h.mem hr) (fun r hr ho b hb => by
    rcases List.mem_cons.1 hr with rfl | hr
    · exact .inl hb
    · rw [hD r hr] at ho; cases ho) h.pw
theorem Sep.work (h : Sep X w0 w (G :: L)) (hG : G.own = true) (k : Sep G.S w w' [G']) (hG' : G'.own = true) : Sep X w0 w' (G' :: L) := by
  have e : ∀ b, ownX [G] b ↔ G.S b := fun b => by
    constructor
    · rintro ⟨i, r, hi, _, hb⟩
      cases i with
      | zero => simp at hi; subst hi; exact hb
      | succ i => simp at hi
    · exact fun hb => ⟨0, G, rfl, hG, hb⟩
  have k' : Sep (ownX [G]) w w' [G'] := ⟨k.ext.mono (fun b hb => (e b).2 hb), k.ok, fun i r hi ho b hb => (k.mine i r hi ho b hb).imp (fun h => (e b).2 h) id, k.apart⟩
  exact Sep.callG (A := [G]) (B := L) h k' (fun i s hi => by
    cases i with
    | zero => simp at hi; subst hi; exact .inl hG'
    | succ i => simp at hi)
end
def nilR : Res where
  S := fun _ => False
  p := fun _ => True
  own := true
  stable := fun _ _ _ _ => trivial
  lt := fun _ _ _ h => h.elim
theorem Sep.nilR {X : Nat → Prop} {w0 w : World} {L : List Res} (h : Sep X w0 w L) : Sep X w0 w (nilR :: L) := h.push (Ext.refl _ _) trivial (fun _ h => h.elim)
section
variable {X : Nat → Prop} {w0 w : World} {D : List Res} {a b c G : Res}
end
def IterG (P : Program) (gf : FuncId) (caps : Array Value) (A : Res) (D : List Res) (N : Nat) (enc : Nat → Array Value) : Prop :=
  ∀ (l : Nat) (J Jx : Nat → Res → World → Prop) (W : World), (∀ k G W G' W', J k G W → Sep G.S W W' [G'] → G'.own = true → J k G' W') → (∀ k G W G' W', Jx k G W → Sep G.S W W' [G'] → G'.own = true → Jx k G' W') →
    (∀ k G W, J k G W → G.own = true ∧ Sep G.S W W (G :: D)) → (∀ k G W, Jx k G W → G.own = true ∧ Sep G.S W W (G :: D)) → J 0 A W →
    (∀ k, k < N → ∀ G W1, J k G W1 → YT P l (enc k) W1 (fun v W' => (v = .bool true ∧ J (k + 1) G W') ∨ (v = .bool false ∧ Jx k G W'))) →
    Calls P gf (#[.func (.yield l) #[] #[]] ++ caps) W (Ret fun _ W' => J N A W' ∨ ∃ k, Jx k A W')
section
variable {P : Program} {Q : Exit → Act → World → Prop} {n : Nat} {ds : List Deferred} {m : List (Nat × Value)} {X : Nat → Prop} {w0 : World} {L : List Res}
theorem c_rangeG {g : Operand} {ps : Array Tmp} {assign body : Code} {a : Act} {w : World} {Ds : List Nat} {gf : FuncId} {caps : Array Value} (hA : Fr n (marks Ds) m a) (G0 : Res) (hG0 : G0.own = true) (hS : Sep X w0 w (h_1 Ds :: G0 :: L))
    (hg : a.eval g = .func (.func gf) #[] caps) (hen : ∀ args w, (callFunc gf args).run P w = .ok (.enter gf args) w) (N : Nat) (enc : Nat → Array Value) (hps : ∀ k, (enc k).size = ps.size) (D : List Res) (hD : ∀ r ∈ D, r.own = false) (hit : IterG P gf caps G0 D N enc)
    (I : Nat → List Res → Prop) (Ix : List Res → Prop) (je : Option Code) (h0 : I 0 L)
    (hdata : ∀ k L', I k L' → ∀ G W r1 r2, Sep X w0 W (r1 :: r2 :: G :: L') → Sep X w0 W (G :: D))
    (hdatax : ∀ L', Ix L' → ∀ G W r1 r2, Sep X w0 W (r1 :: r2 :: G :: L') → Sep X w0 W (G :: D))
    (hround : ∀ k, k < N → ∀ L', I k L' → ∀ (G : Res), G.own = true → ∀ (l D : Nat) (rc : LoopState → Option Code → Loop) (a1 : Act) (W : World), a1 = { tmps := (ps.zip (enc k)).foldl (fun t (p, v) => t.setIfInBounds p v) a.tmps, defers := [] } → Sep X w0 W (obR l (.loop (rc .ready none)) :: h_1 (D :: Ds) :: G :: L') →
      WC (some l) P assign (fun e a2 W2 => e = .normal ∧ ∃ L2, Sep X w0 W2 (obR l (.loop (rc .ready none)) :: h_1 (D :: Ds) :: L2) ∧ ∀ W3, Sep X w0 W3 (obR l (.loop (rc .busy none)) :: h_1 (D :: Ds) :: L2) → WC (some l) P body (RoundEnds X w0 l D Ds rc (fun L3 => ∃ L4, L3 = G :: L4 ∧ I (k + 1) L4) (fun L3 => ∃ L4, L3 = G :: L4 ∧ Ix L4) je) a2 W3) a1 W)
    (hdone : ∀ L', I N L' → ∀ (D : Nat) (a' : Act) (W : World), Fr n (marks (D :: Ds)) m a' → Sep X w0 W (h_1 (D :: Ds) :: G0 :: L') → Q .normal a' W)
    (hstop : ∀ c, je = some c → ∀ L', Ix L' → ∀ (D : Nat) (a' : Act) (W : World), Fr n (marks (D :: Ds)) m a' → Sep X w0 W (h_1 (D :: Ds) :: G0 :: L') → WC none P c Q a' W) :
    WC none P (.rangeFunc g ps assign body) Q a w := by
  refine wpIn_rangeFunc ?_
  intro fn _
  obtain ⟨rc, hrc⟩ : ∃ rc : LoopState → Option Code → Loop, rc = fun st pe => { state := st, pending := pe, fn, tmps := a.tmps, params := ps, assign, body, defers := w.heap.size } := ⟨_, rfl⟩
  obtain ⟨W1, hW1⟩ : ∃ W1, (w.alloc (.deferred (some []))).alloc (.loop (rc .ready none)) = W1 := ⟨_, rfl⟩
  have hSd : Sep X w0 (w.alloc (.deferred (some []))) (obR w.heap.size (.deferred (some [])) :: h_1 Ds :: G0 :: L) :=
    hS.push (Ext.alloc NoB w _) (heap_alloc_new w _) (fun b hb => by cases hb; exact Nat.le_refl _)
  have hSm : Sep X w0 (w.alloc (.deferred (some []))) (h_1 (w.heap.size :: Ds) :: G0 :: L) := by
    refine hSd.join ⟨?_, ?_⟩ (fun b hb => ?_) (fun _ => ⟨rfl, rfl⟩) (fun _ => trivial)
    · rw [List.nodup_cons]
      exact ⟨fun h => by have := hS.lt (i := 0) rfl (b := w.heap.size) h; omega, (hS.ok 0 _ rfl : (h_1 Ds).p w).1⟩
    · intro D hD
      rcases List.mem_cons.1 hD with rfl | hD
      · exact hSd.ok 0 _ rfl
      · exact (hSd.ok 1 _ rfl : (h_1 Ds).p _).2 D hD
    · rcases List.mem_cons.1 hb with rfl | hb
      · exact .inl rfl
      · exact .inr hb
  have hS1 : Sep X w0 W1 (obR (w.heap.size + 1) (.loop (rc .ready none)) :: h_1 (w.heap.size :: Ds) :: G0 :: L) := by
    rw [← hW1]
    have := hSm.push (Ext.alloc NoB _ (.loop (rc .ready none))) (r := obR (w.heap.size + 1) (.loop (rc .ready none))) (by
      have := heap_alloc_new (w.alloc (.deferred (some []))) (.loop (rc .ready none))
      rw [World.size_alloc] at this; exact this) (fun b hb => by cases hb; simp)
    exact this
  refine ⟨w.heap.size + 1, [{ target := .collected w.heap.size, args := #[] }], W1, { target := .fn (.func gf) caps, args := #[.func (.yield (w.heap.size + 1)) #[] #[]] }, W1, gf,
    #[.func (.yield (w.heap.size + 1)) #[] #[]] ++ caps, W1, ?_, ?_, fun _ _ => trivial, ?_, fun h => by simp [FR] at h, ?_⟩
  · rw [← hW1, hrc]; exact run_enterLoop_outer _ _ _ _ _
  · simp only [resolve, hg]
    simp [Deferred.ofValue, Act.eval]
  · simp [invoke, hen]
  · refine callsIn_FR ?_
    have swap3 : ∀ {W : World} {r1 r2 G : Res} {L' : List Res}, Sep X w0 W (r1 :: r2 :: G :: L') → Sep X w0 W (G :: r1 :: r2 :: L') := fun h => h.perm ((List.Perm.swap _ _ _).trans ((List.Perm.swap _ _ _).cons _))
    have swap3' : ∀ {W : World} {r1 r2 G : Res} {L' : List Res}, Sep X w0 W (G :: r1 :: r2 :: L') → Sep X w0 W (r1 :: r2 :: G :: L') := fun h => h.perm (((List.Perm.swap _ _ _).cons _).trans (List.Perm.swap _ _ _))
    refine (hit (w.heap.size + 1) (fun k G W => G.own = true ∧ ∃ L', I k L' ∧ Sep X w0 W (obR (w.heap.size + 1) (.loop (rc .ready none)) :: h_1 (w.heap.size :: Ds) :: G :: L'))
      (fun _ G W => G.own = true ∧ ∃ L' c, je = some c ∧ Ix L' ∧ Sep X w0 W (obR (w.heap.size + 1) (.loop (rc .done (some c))) :: h_1 (w.heap.size :: Ds) :: G :: L')) W1
      (fun k G W G' W' ⟨ho, L', h1, h2⟩ k2 ho' => ⟨ho', L', h1, swap3' ((swap3 h2).work ho k2 ho')⟩) (fun k G W G' W' ⟨ho, L', c, h0, h1, h2⟩ k2 ho' => ⟨ho', L', c, h0, h1, swap3' ((swap3 h2).work ho k2 ho')⟩)
      (fun k G W ⟨ho, L', h1, h2⟩ => ⟨ho, (hdata k L' h1 G W _ _ h2).begin hD⟩) (fun k G W ⟨ho, L', c, h0, h1, h2⟩ => ⟨ho, (hdatax L' h1 G W _ _ h2).begin hD⟩) ⟨hG0, L, h0, hS1⟩ ?_).mono ?_
    · rintro k hk G W ⟨hoG, L', hI, hSW⟩
      have hl : W.heap[w.heap.size + 1]? = some (.loop (rc .ready none)) := hSW.ok 0 _ rfl
      have hy := run_yield (P := P) (args := enc k) hl (by rw [hrc]; exact hps k)
      rw [hrc] at hy
      refine ⟨fn, _, assign, body, hy, roundIn_of_wpIn trivial ?_⟩
      have hr := hround k hk L' hI G hoG (w.heap.size + 1) w.heap.size rc _ W rfl hSW
      refine wpIn_mono hr ?_
      rintro e a2 W2 ⟨rfl, L2, hS2, hbody⟩
      have hl2 : W2.heap[w.heap.size + 1]? = some (.loop (rc .ready none)) := hS2.ok 0 _ rfl
      refine ⟨_, run_beginRound hl2 (by rw [hrc]), ?_⟩
      have hS3 := hS2.put (i := 0) rfl (.loop { rc .ready none with state := .busy })
      have hbusy : ({ rc .ready none with state := .busy } : Loop) = rc .busy none := by rw [hrc]
      rw [hbusy] at hS3
      rw [hbusy]
      refine wpIn_mono (hbody _ hS3) ?_
      rintro e a3 W4 hp
      have fin : ∀ (jump : Option Code) (L3 : List Res), Sep X w0 W4 (obR (w.heap.size + 1) (.loop (rc .busy none)) :: h_1 (w.heap.size :: Ds) :: L3) →
          ∃ w', (Instr.endRound (w.heap.size + 1) jump).run P W4 = .ok (.bool jump.isNone) w' ∧ Sep X w0 w' (obR (w.heap.size + 1) (.loop (rc (if jump.isNone then .ready else .done) jump)) :: h_1 (w.heap.size :: Ds) :: L3) := by
        intro jump L3 hS4
        have hl4 : W4.heap[w.heap.size + 1]? = some (.loop (rc .busy none)) := hS4.ok 0 _ rfl
        refine ⟨_, run_endRound jump hl4, ?_⟩
        have := hS4.put (i := 0) rfl (.loop { rc .busy none with state := if jump.isNone then .ready else .done, pending := jump })
        have e2 : ({ rc .busy none with state := if jump.isNone then .ready else .done, pending := jump } : Loop) = rc (if jump.isNone then .ready else .done) jump := by rw [hrc]
        rw [e2] at this ⊢
        exact this
      cases e with
      | normal =>
        obtain ⟨L3, ⟨L4, rfl, hI3⟩, hS4⟩ := hp
        obtain ⟨w', h1, h2⟩ := fin none _ hS4
        exact ⟨_, w', h1, .inl ⟨rfl, hoG, L4, hI3, h2⟩⟩
      | ret =>
        obtain ⟨hje, L3, ⟨L4, rfl, hI3⟩, hS4⟩ := hp
        obtain ⟨w', h1, h2⟩ := fin (some .ret) _ hS4
        exact ⟨_, w', h1, .inr ⟨rfl, hoG, L4, _, hje, hI3, h2⟩⟩
      | exit id =>
        obtain ⟨hje, L3, ⟨L4, rfl, hI3⟩, hS4⟩ := hp
        obtain ⟨w', h1, h2⟩ := fin (some (.exit id)) _ hS4
        exact ⟨_, w', h1, .inr ⟨rfl, hoG, L4, _, hje, hI3, h2⟩⟩
      | goto t => exact hp.elim
      | panic c => exact hp.elim
      | outgrown => exact hp.elim
    · rintro e W' he
      cases e with
      | panicked c => exact he.elim
      | outgrown => exact he.elim
      | returned v =>
        have hfr : Fr n (marks (w.heap.size :: Ds)) m { a with defers := [{ target := .collected w.heap.size, args := #[] }] ++ a.defers } := ⟨hA.1, by simp [marks, hA.2.1], hA.2.2⟩
        rcases he with ⟨_, L', hI, hSW⟩ | ⟨_, _, L', c, hje, hI, hSW⟩
        · have hl : W'.heap[w.heap.size + 1]? = some (.loop (rc .ready none)) := hSW.ok 0 _ rfl
          refine ⟨_, _, run_endLoop hl (by rw [hrc]; simp), ?_⟩
          have e1 : (rc .ready none).pending = none := by rw [hrc]
          rw [e1]
          exact hdone L' hI _ _ _ hfr (hSW.put (i := 0) rfl _).tail
        · have hl : W'.heap[w.heap.size + 1]? = some (.loop (rc .done (some c))) := hSW.ok 0 _ rfl
          refine ⟨_, _, run_endLoop hl (by rw [hrc]; simp), ?_⟩
          have e1 : (rc .done (some c)).pending = some c := by rw [hrc]
          rw [e1]
          exact hstop c hje L' hI _ _ _ hfr (hSW.put (i := 0) rfl _).tail
end
end Go.Eng

namespace Go.Eng
open Go.RowKit
section
variable {r : Option Nat} {P : Program} {Q : Exit → Act → World → Prop} {n : Nat} {ds : List Deferred} {m : List (Nat × Value)}
theorem c_drawK {id : Nat} {l : List Oper} {a : Act} {w : World} (hm : P.follows .mixedOrders = true) (h : Nat) (deps : Nat → List Nat) (hok : m_1 l.toArray h deps = true)
    (Inv : (Nat → Bool) → Act → World → Prop)
    (hM : ∀ w', Ext NoB w w' → w'.heap = w.heap → Inv (fun _ => false) a w')
    (hop : ∀ j o, l[j]? = some o → j < h → ∀ done a w, done j = false → (∀ i, done i = true → ∀ k ∈ h_0 l.toArray i, done k = true) → (∀ i ∈ h_0 l.toArray j, done i = true) → Inv done a w → ∀ K : Act → World → Prop, (∀ a' w', Inv (fun i => done i || (i == j)) a' w' → K a' w') → wpOpIn (FR r) 0 P l.toArray Q j K a w)
    (htail : ∀ done a w, (∀ i, i < h → done i = true) → Inv done a w → WL r P l.toArray Q (l.drop h) a w) :
    WC r P (.region id l.toArray true) Q a w := by
  generalize hops : l.toArray = ops at *
  have hlops : ∀ j : Nat, l[j]? = ops[j]? := fun j => by subst hops; simp
  have hlen : l.length = ops.size := by subst hops; simp
  simp only [m_1, Bool.and_eq_true, List.all_eq_true, List.mem_range, decide_eq_true_eq] at hok
  obtain ⟨⟨⟨⟨hback, hdeps⟩, htl⟩, hdst⟩, hh⟩ := hok
  refine wpIn_region_any hm ?_
  have main : ∀ (fuel : Nat) (listed : Array Bool) (a : Act) (w : World), un ops listed ≤ fuel → Listed ops listed →
      (((∃ j, j < h ∧ listed.getD j true = false) ∧ (∀ t, h ≤ t → t < ops.size → listed.getD t true = false) ∧ Inv (fun i => listed.getD i false) a w) ∨
        (∃ t, t ≤ ops.size ∧ (∀ i, i < ops.size → listed.getD i true = decide (i < t)) ∧ h ≤ t ∧ WL r P ops Q (l.drop t) a w)) →
      wpAnyIn (FR r) 0 P .any ops Q fuel listed a w := by
    intro fuel
    induction fuel with
    | zero =>
      intro listed a w hu hL hst
      have hall : ∀ i, i < ops.size → listed.getD i true = true := fun i hi => by
        cases hc : listed.getD i true with
        | true => rfl
        | false =>
          have : 0 < un ops listed := List.countP_pos_iff.2 ⟨i, List.mem_range.2 hi, by simp [hc]⟩
          omega
      rcases hst with ⟨⟨j, hj, hj0⟩, _⟩ | ⟨t, ht, hlt, hht, hw⟩
      · rw [hall j (by omega)] at hj0; cases hj0
      · refine ⟨?_, ?_⟩
        · rw [List.eq_nil_iff_forall_not_mem]
          intro j hj
          obtain ⟨h0, hjl, _⟩ := j_4 hj
          rw [hall j hjl] at h0; cases h0
        · have ht' : t = ops.size := by
            rcases Nat.lt_or_ge t ops.size with h1 | h1
            · have := hlt t h1
              rw [hall t h1] at this
              simp at this
            · omega
          rw [ht', ← hlen, List.drop_length] at hw
          exact hw
    | succ fuel ih =>
      intro listed a w hu hL hst
      refine ⟨fun hnil => ?_, fun j hj => ?_⟩
      · rcases hst with ⟨⟨j, hj, hj0⟩, _⟩ | ⟨t, ht, hlt, hht, hw⟩
        · exfalso
          have key : ∀ k, k < ops.size → listed.getD k true = false → False := by
            intro k
            induction k using Nat.strongRecOn with
            | _ k ihk =>
              intro hk hk0
              have : k ∈ Region.ready .any ops listed := ready_of hk0 hk (fun i hi => by
                have hik := hback k hk i hi
                cases hc : listed.getD i false with
                | true => rfl
                | false => exact (ihk i hik (by omega) (by rw [i_7 (by rw [hL.size]; omega)]; exact hc)).elim)
              rw [hnil] at this; cases this
          exact key j (by omega) hj0
        · have ht' : t = ops.size := by
            rcases Nat.lt_or_ge t ops.size with h1 | h1
            · exfalso
              have : t ∈ Region.ready .any ops listed := ready_of (by rw [hlt t h1]; simp) h1 (fun i hi => by
                have hik := hback t h1 i hi
                rw [← i_7 (by rw [hL.size]; omega), hlt i (by omega)]; simpa using hik)
              rw [hnil] at this; cases this
            · omega
          rw [ht', ← hlen, List.drop_length] at hw
          exact hw
      · obtain ⟨h0, hjl, hjb⟩ := j_4 hj
        have hL' := hL.set hj
        have hu' : un ops (listed.setIfInBounds j true) ≤ fuel := by have := un_set h0 hjl hL.size; omega
        have hoj : ops[j]? = some ops[j] := Array.getElem?_eq_getElem hjl
        rcases hst with ⟨⟨j0, hj0, hj00⟩, htun, hI⟩ | ⟨t, ht, hlt, hht, hw⟩
        · have hjh : j < h := by
            rcases Nat.lt_or_ge j h with h1 | h1
            · exact h1
            · exfalso
              have h2 := htl j hjl
              simp only [Bool.or_eq_true, decide_eq_true_eq] at h2
              rcases h2 with h2 | h2
              · omega
              · rw [List.all_eq_true] at h2
                have h3 := h2 j0 (List.mem_range.2 (by omega))
                have h4 := h_5 hL 12 _ hjb j0 (by simpa using h3)
                rw [← i_7 (by rw [hL.size]; omega), hj00] at h4; cases h4
          refine hop j _ ((hlops j).trans hoj) hjh (fun i => listed.getD i false) a w (by rw [← i_7 (by rw [hL.size]; omega)]; exact h0) hL.closed hjb hI _ ?_
          intro a' w' hI'
          refine ih _ _ _ hu' hL' ?_
          have hI2 : Inv (fun i => (listed.setIfInBounds j true).getD i false) a' w' := by
            have e : (fun i => (listed.setIfInBounds j true).getD i false) = (fun i => listed.getD i false || (i == j)) := by
              funext i; exact getD_set_or (by rw [hL.size]; exact hjl) i
            rw [e]; exact hI'
          by_cases hmore : ∃ k, k < h ∧ (listed.setIfInBounds j true).getD k true = false
          · refine .inl ⟨hmore, fun t ht1 ht2 => ?_, hI2⟩
            rw [getD_set_ne true (by omega)]; exact htun t ht1 ht2
          · refine .inr ⟨h, hh, fun i hi => ?_, Nat.le_refl _, ?_⟩
            · by_cases hih : i < h
              · cases hc : (listed.setIfInBounds j true).getD i true with
                | true => simp [hih]
                | false => exact (hmore ⟨i, hih, hc⟩).elim
              · rw [getD_set_ne true (by omega), htun i (by omega) hi]; simp [hih]
            · refine htail _ _ _ (fun i hi => ?_) hI2
              cases hc : (listed.setIfInBounds j true).getD i true with
              | true => rw [← i_7 (by simp [hL.size]; omega)]; exact hc
              | false => exact (hmore ⟨i, hi, hc⟩).elim
        · have hjt : j = t := by
            rw [hlt j hjl] at h0
            simp only [decide_eq_false_iff_not, Nat.not_lt] at h0
            rcases Nat.lt_or_ge t j with h1 | h1
            · exfalso
              have h2 := htl j hjl
              simp only [Bool.or_eq_true, decide_eq_true_eq] at h2
              rcases h2 with h2 | h2
              · omega
              · rw [List.all_eq_true] at h2
                have h4 := h_5 hL 12 _ hjb t (by simpa using h2 t (List.mem_range.2 h1))
                rw [← i_7 (by rw [hL.size]; omega), hlt t (by omega)] at h4
                simp at h4
            · omega
          subst hjt
          have hdrop : l.drop j = ops[j] :: l.drop (j + 1) := by
            rw [List.drop_eq_getElem_cons (by rw [hlen]; exact hjl)]
            congr 1
            subst hops; simp
          rw [hdrop] at hw
          have hcont : ∀ a w, WL r P ops Q (l.drop (j + 1)) a w → wpAnyIn (FR r) 0 P .any ops Q fuel (listed.setIfInBounds j true) a w := by
            intro a w hw'
            refine ih _ _ _ hu' hL' (.inr ⟨j + 1, by omega, fun i hi => ?_, by omega, hw'⟩)
            by_cases e : i = j
            · subst e; simp [hL.size, hi]
            · rw [getD_set_ne true (fun e' => e e'.symm), hlt i hi]
              simp only [decide_eq_decide]; omega
          unfold wpOpIn
          simp only [hoj]
          have hw2 : (if Region.wanted ops[j] (yielded ops a.tmps) then ops[j].wpIn (FR r) 0 P a w (wpListIn (FR r) 0 P ops Q (l.drop (j + 1))) Q else (∀ f, ops[j].about P w a.eval = some f → (FR r).fn f) ∧ wpListIn (FR r) 0 P ops Q (l.drop (j + 1)) (a.put ops[j].dst undef) w) := by
            have := hw
            simp only [WL, wpListIn] at this
            exact this
          split
          · rename_i hwn; rw [if_pos hwn] at hw2; exact Oper.wpIn_mono hcont hw2
          · rename_i hwn; rw [if_neg hwn] at hw2; exact ⟨hw2.1, hcont _ _ hw2.2⟩
  have hw1 : Ext NoB w { w with drawn := w.drawn + 1 } := Ext.drewN NoB w 1
  have hrep0 : (fun i => (Array.replicate ops.size false).getD i false) = (fun _ => false) := by funext i; exact getD_replicate_false ..
  refine main ops.size _ a _ (by unfold un; exact Nat.le_trans List.countP_le_length (by simp)) ⟨by simp, fun j hj => by rw [getD_replicate_false] at hj; cases hj⟩ ?_
  have hrep : ∀ t, t < ops.size → (Array.replicate ops.size false).getD t true = false := fun t ht => by simp [ht]
  rcases Nat.eq_zero_or_pos h with h0 | h0
  · refine .inr ⟨0, Nat.zero_le _, fun i hi => by rw [hrep i hi]; simp, by omega, ?_⟩
    have := htail (fun _ => false) a _ (fun i hi => by omega) (hM _ hw1 rfl)
    rw [h0] at this; exact this
  · refine .inl ⟨⟨0, h0, hrep 0 (by omega)⟩, fun t _ ht => hrep t ht, ?_⟩
    rw [hrep0]; exact hM _ hw1 rfl
theorem wl_wpOp {ops : Array Oper} {o : Oper} {rest : List Oper} {i : Nat} {a : Act} {w : World} {K : Act → World → Prop} (hi : ops[i]? = some o) (h : WL r P ops Q (o :: rest) a w) (hK : ∀ a w, WL r P ops Q rest a w → K a w) : wpOpIn (FR r) 0 P ops Q i K a w := by
  unfold wpOpIn
  simp only [hi]
  have hw2 : (if Region.wanted o (yielded ops a.tmps) then o.wpIn (FR r) 0 P a w (wpListIn (FR r) 0 P ops Q rest) Q else (∀ f, o.about P w a.eval = some f → (FR r).fn f) ∧ wpListIn (FR r) 0 P ops Q rest (a.put o.dst undef) w) := by
    have := h
    simp only [WL, wpListIn] at this
    exact this
  split
  · rename_i hwn; rw [if_pos hwn] at hw2; exact Oper.wpIn_mono hK hw2
  · rename_i hwn; rw [if_neg hwn] at hw2; exact ⟨hw2.1, hK _ _ hw2.2⟩
end
section
variable {r : Option Nat} {P : Program} {Q : Exit → Act → World → Prop} {n : Nat} {ds : List Deferred} {m : List (Nat × Value)} {X : Nat → Prop} {w0 : World} {L : List Res}
def floatOk (ops : Array Oper) (s q : Nat) : Bool := decide (q < s) && (List.range s).all fun i => decide (i = q) || (beforeOf ops 12 (h_0 ops s)).contains i
end
end Go.Eng

namespace Go.Eng
open Go.RowKit
section
variable {r : Option Nat} {P : Program} {Q : Exit → Act → World → Prop} {n : Nat} {ds : List Deferred} {m : List (Nat × Value)} {X : Nat → Prop} {w0 : World} {L : List Res}
end
section
variable {r : Option Nat} {P : Program} {o : Oper} {a : Act} {w : World}
end
end Go.Eng

namespace Go.Eng
open Go.RowKit
section
variable {P : Program}
end
end Go.Eng

namespace Go.Eng
open Go.RowKit
section
variable {r : Option Nat} {P : Program} {Q : Exit → Act → World → Prop} {n : Nat} {ds : List Deferred} {m : List (Nat × Value)} {ops : Array Oper} {o : Oper} {rest : List Oper} {a : Act} {w : World} {R : Value → World → Prop}
theorem s1 {v : Value} {d : Nat} (hA : Fr n ds m a) (h : OpY r P o a w (fun v' w' => v' = v ∧ w' = w)) (k : ∀ a', Fr n ds ((d, v) :: m) a' → WL r P ops Q rest a' w) (hg : o.guard = none := by rfl) (hd : o.dst = some d := by rfl) (hlt : d < n := by decide) : WL r P ops Q (o :: rest) a w := st hA h hg hd hlt k
theorem s2 {d : Nat} (hA : Fr n ds m a) (h : OpY r P o a w R) (k : ∀ a' v w', R v w' → Fr n ds ((d, v) :: m) a' → WL r P ops Q rest a' w') (hg : o.guard = none := by rfl) (hd : o.dst = some d := by rfl) (hlt : d < n := by decide) : WL r P ops Q (o :: rest) a w := stw hA h hg hd hlt k
theorem s3 {d j t : Nat} {b b' : Bool} (hA : Fr n ds m a) (k : ∀ a', Fr n ds ((d, undef) :: m) a' → WL r P ops Q rest a' w) (hg : o.guard = some (j, b) := by rfl) (hj : (ops[j]?).bind (·.dst) = some t := by rfl) (ht : m.lookup t = some (.bool b') := by rfl) (hne : (b' == b) = false := by rfl) (hd : o.dst = some d := by rfl) (hlt : d < n := by decide) : WL r P ops Q (o :: rest) a w := skp hA hg hj ht hne hd hlt k
theorem s4 {d j t : Nat} {b : Bool} (hA : Fr n ds m a) (k : ∀ a', Fr n ds ((d, undef) :: m) a' → WL r P ops Q rest a' w) (hg : o.guard = some (j, b) := by rfl) (hj : (ops[j]?).bind (·.dst) = some t := by rfl) (ht : m.lookup t = some undef := by rfl) (hd : o.dst = some d := by rfl) (hlt : d < n := by decide) : WL r P ops Q (o :: rest) a w := skpU hA hg hj ht hd hlt k
theorem s5 {v : Value} {d j t : Nat} {b : Bool} (hA : Fr n ds m a) (h : OpY r P o a w (fun v' w' => v' = v ∧ w' = w)) (k : ∀ a', Fr n ds ((d, v) :: m) a' → WL r P ops Q rest a' w) (hg : o.guard = some (j, b) := by rfl) (hj : (ops[j]?).bind (·.dst) = some t := by rfl) (ht : m.lookup t = some (.bool b) := by rfl) (hd : o.dst = some d := by rfl) (hlt : d < n := by decide) : WL r P ops Q (o :: rest) a w := stg hA h hg hj ht hd hlt k
theorem s6 {d j t : Nat} {b : Bool} (hA : Fr n ds m a) (h : OpY r P o a w R) (k : ∀ a' v w', R v w' → Fr n ds ((d, v) :: m) a' → WL r P ops Q rest a' w') (hg : o.guard = some (j, b) := by rfl) (hj : (ops[j]?).bind (·.dst) = some t := by rfl) (ht : m.lookup t = some (.bool b) := by rfl) (hd : o.dst = some d := by rfl) (hlt : d < n := by decide) : WL r P ops Q (o :: rest) a w := stwg hA h hg hj ht hd hlt k
theorem s7 (hA : Fr n ds m a) (h : OpY r P o a w R) (k : ∀ v w', R v w' → Fr n ds m a → WL r P ops Q rest a w') (hg : o.guard = none := by rfl) (hd : o.dst = none := by rfl) : WL r P ops Q (o :: rest) a w := sts hA h hg hd k
theorem n4 {x : Code} {id : Nat} {l : List Oper} (h : WL r P l.toArray (Exit.then (WC r P x Q) Q) l a w) : WL r P ops (Exit.then (WC r P (.seq (.region id l.toArray false) x) Q) Q) [] a w := d_0 (b_0 (b_6 (a_5 h)))
theorem n3 {id : Nat} {l : List Oper} (h : WL r P l.toArray Q l a w) : WL r P ops (Exit.then (WC r P (.region id l.toArray false) Q) Q) [] a w := d_0 (b_0 (a_5 h))
theorem n2 {x y : Code} (h : WC r P x (Exit.then (WC r P y Q) Q) a w) : WL r P ops (Exit.then (WC r P (.seq x y) Q) Q) [] a w := d_0 (b_0 (b_6 h))
theorem n1 {x : Code} (h : WC r P x Q a w) : WL r P ops (Exit.then (WC r P x Q) Q) [] a w := d_0 (b_0 h)
theorem m2 {x : Code} {id : Nat} {l : List Oper} (h : WL r P l.toArray (Exit.then (WC r P x Q) Q) l a w) : WC r P (.seq (.region id l.toArray false) x) Q a w := b_6 (a_5 h)
end
section
variable {r : Option Nat} {P : Program} {n : Nat} {ds : List Deferred} {m : List (Nat × Value)} {X : Nat → Prop} {w0 : World} {L : List Res} {o : Oper} {l l1 : List Oper} {dl : List (List Nat)} {ys : List Yd} {k h : Nat} {v : Value}
theorem hq {ops : Array Oper} {φ : Nat → Value → World → Prop} {D : List Nat} {a : Act} {w : World} (hd : ∀ i ∈ D, Has ops φ a w i) (i : Nat) {d : Nat} {v : Value} (hi : i ∈ D := by decide) (hdst : (ops[i]?).bind (·.dst) = some d := by rfl) (hφ : ∀ u, φ i u w → u = v := by exact fun _ h => h) : a.eval (.tmp d) = v := e_0 (j_6 (hd i hi) hdst hφ)
theorem hx {ops : Array Oper} {φ : Nat → Value → World → Prop} {D : List Nat} {a : Act} {w : World} (hd : ∀ i ∈ D, Has ops φ a w i) (i : Nat) {d : Nat} {v : Value} (hi : i ∈ D := by decide) (hdst : (ops[i]?).bind (·.dst) = some d := by rfl) (hφ : ∀ u, φ i u w → u = v := by exact fun _ h => h) : a.tmps[d]? = some v := j_6 (hd i hi) hdst hφ
theorem hz {ops : Array Oper} {φ : Nat → Value → World → Prop} {N : Nat} {a : Act} {w : World} (hd : ∀ i, i < N → Has ops φ a w i) (i : Nat) {d : Nat} {v : Value} (hi : i < N := by decide) (hdst : (ops[i]?).bind (·.dst) = some d := by rfl) (hφ : ∀ u, φ i u w → u = v := by exact fun _ h => h) : a.tmps[d]? = some v := j_6 (hd i hi) hdst hφ
theorem dq (hg : ∀ a w, Fr n ds m a → Sep X w0 w L → (∀ i ∈ dl.getD k [], Has l.toArray (phi ys) a w i) → OpY r P o a w (fun v' w' => v' = v ∧ w' = w)) (rest : m_9 (fun j o => ∀ a w, Fr n ds m a → Sep X w0 w L → (∀ i ∈ dl.getD j [], Has l.toArray (phi ys) a w i) → OpG r P l.toArray o a w (fun v w' => Ext NoB w w' ∧ Sep X w0 w' L ∧ phi ys j v w')) (k + 1) h l1)
    (hgd : o.guard = none := by rfl) (hφ : ∀ w, phi ys k v w := by exact fun _ => rfl) : m_9 (fun j o => ∀ a w, Fr n ds m a → Sep X w0 w L → (∀ i ∈ dl.getD j [], Has l.toArray (phi ys) a w i) → OpG r P l.toArray o a w (fun v w' => Ext NoB w w' ∧ Sep X w0 w' L ∧ phi ys j v w')) k (h + 1) (o :: l1) :=
  ⟨fun a w hA hS hd => e_7 hgd (dv (hg a w hA hS hd) hS (hφ w)), rest⟩
theorem dy {j t : Nat} {b : Bool} (i : Nat) (hg : ∀ a w, Fr n ds m a → Sep X w0 w L → (∀ i ∈ dl.getD k [], Has l.toArray (phi ys) a w i) → OpY r P o a w (fun v' w' => v' = v ∧ w' = w)) (rest : m_9 (fun j o => ∀ a w, Fr n ds m a → Sep X w0 w L → (∀ i ∈ dl.getD j [], Has l.toArray (phi ys) a w i) → OpG r P l.toArray o a w (fun v w' => Ext NoB w w' ∧ Sep X w0 w' L ∧ phi ys j v w')) (k + 1) h l1)
    (hgd : o.guard = some (j, b) := by rfl) (hi : i ∈ dl.getD k [] := by decide) (hj : (l.toArray[j]?).bind (·.dst) = some t := by rfl) (hij : (l.toArray[i]?).bind (·.dst) = some t := by rfl) (hb : ∀ u w, phi ys i u w → u = .bool b := by exact fun _ _ h => h) (hφ : ∀ w, phi ys k v w := by exact fun _ => rfl) : m_9 (fun j o => ∀ a w, Fr n ds m a → Sep X w0 w L → (∀ i ∈ dl.getD j [], Has l.toArray (phi ys) a w i) → OpG r P l.toArray o a w (fun v w' => Ext NoB w w' ∧ Sep X w0 w' L ∧ phi ys j v w')) k (h + 1) (o :: l1) :=
  ⟨fun a w hA hS hd => k_3 hgd hj (j_6 (hd i hi) hij (fun u hu => hb u w hu)) (dv (hg a w hA hS hd) hS (hφ w)), rest⟩
theorem dn {j t : Nat} {b b' : Bool} (i : Nat) (rest : m_9 (fun j o => ∀ a w, Fr n ds m a → Sep X w0 w L → (∀ i ∈ dl.getD j [], Has l.toArray (phi ys) a w i) → OpG r P l.toArray o a w (fun v w' => Ext NoB w w' ∧ Sep X w0 w' L ∧ phi ys j v w')) (k + 1) h l1)
    (hgd : o.guard = some (j, b) := by rfl) (hi : i ∈ dl.getD k [] := by decide) (hj : (l.toArray[j]?).bind (·.dst) = some t := by rfl) (hij : (l.toArray[i]?).bind (·.dst) = some t := by rfl) (hb : ∀ u w, phi ys i u w → u = .bool b' := by exact fun _ _ h => h) (hne : (b' == b) = false := by rfl) (hφ : ∀ w, phi ys k undef w := by exact fun _ => rfl) : m_9 (fun j o => ∀ a w, Fr n ds m a → Sep X w0 w L → (∀ i ∈ dl.getD j [], Has l.toArray (phi ys) a w i) → OpG r P l.toArray o a w (fun v w' => Ext NoB w w' ∧ Sep X w0 w' L ∧ phi ys j v w')) k (h + 1) (o :: l1) :=
  ⟨fun a w hA hS hd => opG_no hgd hj (j_6 (hd i hi) hij (fun u hu => hb u w hu)) hne (dskip hS (hφ w)), rest⟩
theorem du {j t : Nat} {b : Bool} (i : Nat) (rest : m_9 (fun j o => ∀ a w, Fr n ds m a → Sep X w0 w L → (∀ i ∈ dl.getD j [], Has l.toArray (phi ys) a w i) → OpG r P l.toArray o a w (fun v w' => Ext NoB w w' ∧ Sep X w0 w' L ∧ phi ys j v w')) (k + 1) h l1)
    (hgd : o.guard = some (j, b) := by rfl) (hi : i ∈ dl.getD k [] := by decide) (hj : (l.toArray[j]?).bind (·.dst) = some t := by rfl) (hij : (l.toArray[i]?).bind (·.dst) = some t := by rfl) (hb : ∀ u w, phi ys i u w → u = undef := by exact fun _ _ h => h) (hφ : ∀ w, phi ys k undef w := by exact fun _ => rfl) : m_9 (fun j o => ∀ a w, Fr n ds m a → Sep X w0 w L → (∀ i ∈ dl.getD j [], Has l.toArray (phi ys) a w i) → OpG r P l.toArray o a w (fun v w' => Ext NoB w w' ∧ Sep X w0 w' L ∧ phi ys j v w')) k (h + 1) (o :: l1) :=
  ⟨fun a w hA hS hd => opG_noU hgd hj (j_6 (hd i hi) hij (fun u hu => hb u w hu)) (dskip hS (hφ w)), rest⟩
end
end Go.Eng

namespace Go.Eng
open Go.RowKit
section
variable {r : Option Nat} {P : Program} {ops : Array Oper} {o : Oper} {a : Act} {w : World} {Y : List YV} {vs : Nat → Value} {D : List Nat} {ψ : Nat → List Res → Prop} {k : Nat} {v : Value}
theorem gu (hd : ∀ i ∈ D, j_2 ops a i (vs i) ∧ ∃ rs, yat Y i vs (vs i) rs ∧ ψ i rs) (i : Nat) {d : Nat} (hi : i ∈ D := by decide) (hdst : (ops[i]?).bind (·.dst) = some d := by rfl) (hφ : ∀ rs, yat Y i vs (vs i) rs → vs i = v := by exact fun _ h => And.left h) : a.eval (.tmp d) = v := by
  obtain ⟨h1, rs, h2, _⟩ := hd i hi
  have e := hφ rs h2
  rw [e] at h1
  exact e_0 (j_5 h1 hdst)
abbrev VG (Y : List YV) (k : Nat) (vs : Nat → Value) (w : World) : Value → World → Prop := fun v w'' => Ext NoB w w'' ∧ ∃ rs, yat Y k vs v rs ∧ Sep NoB w w'' rs ∧ rs.all (·.own) = true
theorem gv1 (h : OpY r P o a w (fun v' w' => v' = v ∧ w' = w)) (hg : o.guard = none := by rfl) (hy : yat Y k vs v [] := by exact And.intro rfl rfl) : OpG r P ops o a w (VG Y k vs w) := e_7 hg (vv (y := fun rs v => yat Y k vs v rs) h hy)
theorem gx1 (h : OpY r P o a w (fun v' w' => v' = v ∧ Ext NoB w w')) (hg : o.guard = none := by rfl) (hy : yat Y k vs v [] := by exact And.intro rfl rfl) : OpG r P ops o a w (VG Y k vs w) := e_7 hg (vx (y := fun rs v => yat Y k vs v rs) h hy)
def yw (u : Value) : YV := fun _ v rs => v = u ∧ rs = []
theorem dw {D : List Nat} {u : Value} : YDep D (yw u) := fun _ _ _ _ _ h => h
theorem gs {i : Nat} {rs : List Res} (h : j_2 ops a i (vs i) ∧ yat Y i vs (vs i) rs) {d : Nat} (hd : (ops[i]?).bind (·.dst) = some d := by rfl) (hφ : ∀ rs, yat Y i vs (vs i) rs → vs i = v := by exact fun _ h => And.left h) : a.tmps[d]? = some v := by
  obtain ⟨h1, h2⟩ := h
  have e := hφ rs h2
  rw [e] at h1
  exact j_5 h1 hd
theorem gr {i : Nat} {rs : List Res} (h : j_2 ops a i (vs i) ∧ yat Y i vs (vs i) rs) (hφ : ∀ v, yat Y i vs v rs → rs = [] := by exact fun _ h => And.right h) : rs = [] := hφ _ h.2
end
abbrev iv (n : Int) : Value := Value.int .i64 n
theorem Fr.e {n : Nat} {ds : List Deferred} {m : List (Nat × Value)} {a : Act} (h : Fr n ds m a) {t : Nat} {v : Value} (hl : m.lookup t = some v := by exact rfl) : a.eval (.tmp t) = v := h.ev hl
section
variable {X : Nat → Prop} {w0 w : World} {L rs : List Res} {is : List Nat}
inductive Pk (L : List Res) : List Nat → List Res → Prop where
  | nil : Pk L [] []
  | cons {i : Nat} {s : Res} {is : List Nat} {rs : List Res} (h : L[i]? = some s) (k : Pk L is rs) : Pk L (i :: is) (s :: rs)
theorem gpn : Pk L [] [] := .nil
theorem gpc (i : Nat) {s : Res} (k : Pk L is rs) (h : L[i]? = some s := by rfl) : Pk L (i :: is) (s :: rs) := .cons h k
theorem Pk.map (h : Pk L is rs) : is.filterMap (L[·]?) = rs ∧ is.all (fun i => decide (i < L.length)) = true := by
  induction h with
  | nil => exact ⟨rfl, rfl⟩
  | cons h _ ih =>
    refine ⟨by simp only [List.filterMap_cons, h, ih.1], ?_⟩
    simp only [List.all_cons, ih.2, Bool.and_true, decide_eq_true_eq]
    exact (List.getElem?_eq_some_iff.1 h).1
theorem Sep.gkp (h : Sep X w0 w L) (k : Pk L is rs) (hd : is.Nodup := by decide) : Sep X w0 w rs := h.keep is hd rs k.map.1 k.map.2
end
end Go.Eng

namespace Go.Eng
open Go.RowKit
theorem wrap_u64 {n : Int} (h0 : 0 ≤ n) (h1 : n < 18446744073709551616) : IntKind.u64.wrap n = n := by
  simp only [IntKind.wrap, IntKind.bits, IntKind.signed, Bool.false_and, Bool.false_eq_true, if_false]
  omega
theorem wrap_i64 {n : Int} (h0 : -9223372036854775808 ≤ n) (h1 : n ≤ 9223372036854775807) : IntKind.i64.wrap n = n := IntWalk.i64_in _ (by omega)
section
variable {r : Option Nat} {P : Program} {o : Oper} {a : Act} {w : World}
end
end Go.Eng

namespace Go.Eng
open Go.RowKit
section
variable {r : Option Nat} {P : Program} {o : Oper} {a : Act} {w : World}
end
end Go.Eng

namespace Go.Eng
open Go.RowKit
def r_1 (n : Nat) (f : Nat → List Value) : List Value := (List.range n).flatMap f
section
variable {n sz : Nat} {f g : Nat → List Value}
theorem flatI_succ (n : Nat) (f : Nat → List Value) : r_1 (n + 1) f = r_1 n f ++ f n := by
  unfold r_1; rw [List.range_succ, List.flatMap_append]; simp
theorem flatI_len (hf : ∀ i, (f i).length = sz) : ∀ n, (r_1 n f).length = n * sz
  | 0 => by simp [r_1]
  | n + 1 => by rw [flatI_succ, List.length_append, flatI_len hf n, hf, Nat.succ_mul]
theorem flatI_split (hf : ∀ i, (f i).length = sz) {i : Nat} (h : i < n) : ∃ a b, r_1 n f = a ++ (f i ++ b) ∧ a.length = i * sz := by
  induction n with
  | zero => omega
  | succ n ih =>
    rcases Nat.lt_succ_iff_lt_or_eq.1 h with h | h
    · obtain ⟨a, b, e, hl⟩ := ih h
      exact ⟨a, b ++ f n, by rw [flatI_succ, e]; simp [List.append_assoc], hl⟩
    · subst h
      exact ⟨r_1 i f, [], by rw [flatI_succ]; simp, flatI_len hf i⟩
theorem flatI_all (hf : ∀ i, (f i).length = sz) {i : Nat} (h : i < n) : ((r_1 n f).drop (i * sz)).take sz = f i := by
  obtain ⟨a, b, e, hl⟩ := flatI_split hf h
  rw [e, ← hl, List.drop_left, ← hf i, List.take_left]
theorem flatI_at (hf : ∀ i, (f i).length = sz) {i k : Nat} (h : i < n) (hk : k < sz) : (r_1 n f)[i * sz + k]? = (f i)[k]? := by
  obtain ⟨a, b, e, hl⟩ := flatI_split hf h
  rw [e, ← hl, List.getElem?_append_right (Nat.le_add_right ..), Nat.add_sub_cancel_left, List.getElem?_append_left (by rw [hf]; exact hk)]
end
end Go.Eng

namespace Go.Eng
open Go.RowKit
def slcut (v : Value) (l h sz : Nat) : Value := match v with
  | .slice a _ c => sliced a l h c sz
  | _ => undef
theorem SlAt.cutAt {w : World} {A : Option Addr} {sz n cap m l h : Nat} {cs : List Value} (hs : SlAt w (.slice A n cap) sz n cs) (h1 : l ≤ h) (h2 : h ≤ n) (h3 : h ≤ m) (h4 : m ≤ cap) : SlAt w (sliced A l h m sz) sz (h - l) ((cs.drop (l * sz)).take ((h - l) * sz)) := by
  obtain ⟨hl, A', cap', he, hc, hm, hc2⟩ := hs
  cases he
  have hln : (h - l) * sz ≤ n * sz - l * sz := by rw [← Nat.sub_mul]; exact Nat.mul_le_mul_right _ (by omega)
  refine ⟨by rw [List.length_take, List.length_drop, hl]; omega, _, m - l, rfl, by omega, by omega, fun hne => ?_⟩
  have hlt : l < h := by
    rcases Nat.lt_or_ge l h with h5 | h5
    · exact h5
    · exfalso; apply hne; rw [show h - l = 0 by omega, Nat.zero_mul, List.take_zero]
  rw [if_neg (by omega)]
  have hne2 : cs ≠ [] := by rintro rfl; simp at hne
  obtain ⟨ad, rfl, hcell⟩ := hc2 hne2
  refine ⟨_, rfl, fun j u hu => ?_⟩
  rw [addr_add_add]
  rw [List.getElem?_take] at hu
  split at hu
  · rw [List.getElem?_drop] at hu
    exact hcell _ _ hu
  · cases hu
theorem SlAt.cut {w : World} {v : Value} {sz n l h : Nat} {cs : List Value} (hs : SlAt w v sz n cs) (h1 : l ≤ h) (h2 : h ≤ n) : SlAt w (slcut v l h sz) sz (h - l) ((cs.drop (l * sz)).take ((h - l) * sz)) := by
  have hs0 := hs
  obtain ⟨hl, A, cap, rfl, hc, hm, hc2⟩ := hs
  exact hs0.cutAt h1 h2 (by omega) (Nat.le_refl _)
theorem SlAt.say {w : World} {v : Value} {sz n n' : Nat} {cs cs' : List Value} (h : SlAt w v sz n cs) (hn : n = n') (hc : cs = cs') : SlAt w v sz n' cs' := by subst hn; subst hc; exact h
section
variable {r : Option Nat} {P : Program} {o : Oper} {a : Act} {w : World}
theorem elem_of {t e : TypeId} (ht : P.underlying t = some (.slice e)) : P.elem t = e := by simp [Program.elem, ht]
theorem op_sliceHi {t e : TypeId} {x hi : Operand} {v : Value} {g : Bool} {sz n h : Nat} {cs : List Value} {k : IntKind} (ho : o.op = .slice t x none (some hi) none) (ht : P.underlying t = some (.slice e)) (he : tyK P e = some (g, sz)) (hx : a.eval x = v) (hh : a.eval hi = .int k (h : Int)) (hs : SlAt w v sz n cs) (hn : h ≤ n) :
    OpY r P o a w (fun v' w' => v' = slcut v 0 h sz ∧ w' = w) := by
  obtain ⟨_, A, cap, rfl, hc, hm, _⟩ := hs
  have he' := elem_of ht
  have ht' : P.underlying t = some (.slice (P.elem t)) := by rw [he']; exact ht
  refine c_8 (by rw [ho]; rfl) ?_ ⟨rfl, rfl⟩
  have h1 := run_slice_h (P := P) w t A n cap ht' k (h : Int) (by omega) (by omega)
  rw [he', run_sizeOf he] at h1
  simp only [execOp, ho, hx, hh, Option.map_some, Option.map_none, Sem.run_bind, run_sliceAt_slice w t _ _ _ _ ht', h1, Result.andThen_ok, Sem.run_pure, Int.toNat_natCast]
  rfl
end
end Go.Eng

namespace Go.Eng
open Go.RowKit
section
variable {r : Option Nat} {P : Program} {o : Oper} {a : Act} {w w0 : World} {X : Nat → Prop} {L : List Res}
theorem op_makeFull {t e : TypeId} {x y : Operand} {z : Value} {sz bytes n : Nat} {k1 k2 : IntKind} {cs : List Value} (hS : Sep X w0 w L)
    (ho : o.op = .makeSlice t x y) (ht : P.underlying t = some (.slice e)) (he : elK P e = some (z, sz, bytes)) (hx : a.eval x = .int k1 (n : Int)) (hy : a.eval y = .int k2 (n : Int))
    (hc : (madeCells z.cells (n * sz)).toList = cs) (hcells : n * sz ≤ 16777216) (hb : bytes * n ≤ 281474976710656) (h63 : n ≤ maxLen) :
    OpY r P o a w (fun v' w' => Sep X w0 w' (row v' e sz n cs :: L)) := by
  unfold elK at he
  cases hi0 : P.info? e with
  | none => simp [hi0] at he
  | some ti =>
    simp only [hi0] at he
    cases hz : ti.zero with
    | none => simp [hz] at he
    | some z' =>
      simp only [hz] at he
      split at he
      case isFalse => cases he
      rename_i hcond
      simp only [Option.some.injEq, Prod.mk.injEq] at he
      obtain ⟨rfl, rfl, rfl⟩ := he
      subst hc
      obtain ⟨w', h1, h2, h3⟩ := run_makeSlice_full (P := P) w w.heap.size t e ti z' ti.size ht hi0 hz rfl k1 k2 n hcells hb h63 (Nat.le_refl _)
      refine c_8 (by rw [ho]; rfl) (v := .slice (some ⟨w.heap.size, 0, none⟩) n n) (w' := w') ?_ (hS.new_row ((Ext.of_grownBy h3).mono (fun b hb => by cases hb)) h2)
      simp only [execOp, ho, hx, hy, Sem.run_bind, h1, Result.andThen_ok, Sem.run_pure]
end
end Go.Eng

namespace Go.Eng
open Go.RowKit
section
variable {r : Option Nat} {P : Program} {Q : Exit → Act → World → Prop} {n : Nat} {ds : List Deferred} {m : List (Nat × Value)} {X : Nat → Prop} {w0 : World} {L : List Res}
theorem slot_put {l : List Oper} {h : Nat} {a : Act} (hdst : ∀ x, x < h → ∀ x_1, x_1 < h → (decide (x_1 = x) || match (l.toArray[x_1]?).bind (·.dst), (l.toArray[x]?).bind (·.dst) with | some d, some e => decide (d ≠ e) | _, _ => true) = true)
    {j : Nat} {o : Oper} {v : Value} (hoj : (l.toArray)[j]? = some o) (hj : j < h) : ∀ i, i < h → i ≠ j → ∀ u, j_2 l.toArray a i u → j_2 l.toArray (a.put o.dst v) i u := by
  intro i hi hij u hs
  unfold j_2 at hs ⊢
  have hdd := hdst i hi j hj
  cases hdi : ((l.toArray)[i]?).bind (·.dst) with
  | none => trivial
  | some di =>
    rw [hdi] at hs
    cases hdj' : o.dst with
    | none => exact hs
    | some dj =>
      have hjd : ((l.toArray)[j]?).bind (·.dst) = some dj := by rw [hoj]; exact hdj'
      rw [hdi, hjd] at hdd
      simp only [Bool.or_eq_true, decide_eq_true_eq] at hdd
      have hne : dj ≠ di := fun e' => (hdd.resolve_left (fun e2 => hij e2.symm)) e'
      simp only [Act.put]
      rw [Array.getElem?_setIfInBounds_ne hne]; exact hs
theorem slot_new {l : List Oper} {h : Nat} {a : Act} (hA : Fr n ds m a) (hn : (List.range h).all (fun j => match (l.toArray[j]?).bind (·.dst) with | some d => decide (d < n) | none => true) = true)
    {j : Nat} {o : Oper} {v : Value} (hoj : (l.toArray)[j]? = some o) (hj : j < h) : j_2 l.toArray (a.put o.dst v) j v := by
  unfold j_2
  rw [hoj]
  cases hd : o.dst with
  | none => simp [hd]
  | some d =>
    simp only [Option.bind_some, hd]
    have hdn := List.all_eq_true.1 hn j (List.mem_range.2 hj)
    rw [hoj] at hdn
    simp only [Option.bind_some, hd, decide_eq_true_eq] at hdn
    simp only [Act.put]
    rw [Array.getElem?_setIfInBounds_self_of_lt (by rw [hA.1]; exact hdn)]
theorem fr_put {l : List Oper} {h : Nat} {a : Act} (hA : Fr n ds m a) (hfree : q_3 l.toArray h (m.map (·.1)) = true) (hn : (List.range h).all (fun j => match (l.toArray[j]?).bind (·.dst) with | some d => decide (d < n) | none => true) = true)
    {j : Nat} {o : Oper} {v : Value} (hoj : (l.toArray)[j]? = some o) (hj : j < h) : Fr n ds m (a.put o.dst v) := by
  cases hd : o.dst with
  | none => exact hA.put_none v
  | some d =>
    have hf := List.all_eq_true.1 hfree j (List.mem_range.2 hj)
    have hjd : ((l.toArray)[j]?).bind (·.dst) = some d := by rw [hoj]; exact hd
    rw [hjd] at hf
    have hdn := List.all_eq_true.1 hn j (List.mem_range.2 hj)
    rw [hjd] at hdn
    refine (hA.put (by simpa using hdn) v).mono (fun i u hi => ?_)
    have : i ≠ d := by
      rintro rfl
      have := lookup_mem m hi
      simp [this] at hf
    have hb : (i == d) = false := by simpa using this
    simp only [List.lookup, hb]; exact hi
end
section
variable {X : Nat → Prop} {w0 w : World} {L : List Res}
end
end Go.Eng

namespace Go.Eng
open Go.RowKit
section
variable {r : Option Nat} {P : Program} {Q : Exit → Act → World → Prop} {n : Nat} {ds : List Deferred} {m : List (Nat × Value)} {X : Nat → Prop} {w0 : World} {L : List Res}
def liveC (C : List (Nat × Nat)) (done : Nat → Bool) (i : Nat) : Prop := ∀ p, p ∈ C → p.2 = i → done p.1 = false
def CCInv (l : List Oper) (h n : Nat) (ds : List Deferred) (m : List (Nat × Value)) (X : Nat → Prop) (w0 : World) (L : List Res) (Y : List YV) (C : List (Nat × Nat)) (done : Nat → Bool) (a : Act) (w' : World) : Prop :=
  Fr n ds m a ∧ ∃ vs rsf, (∀ i, i < h → done i = true → liveC C done i → j_2 l.toArray a i (vs i) ∧ yat Y i vs (vs i) (rsf i)) ∧ (∀ i, done i = false → rsf i = []) ∧ (∀ p, p ∈ C → done p.1 = true → rsf p.2 = []) ∧ Sep X w0 w' (catR rsf 0 h ++ L)
def AllTk (l : List Oper) (Pr : Nat → Nat → Oper → Prop) : List (Nat × Nat) → Prop
  | [] => True
  | p :: C => (∀ o, l[p.1]? = some o → Pr p.1 p.2 o) ∧ AllTk l Pr C
theorem allTk_at {l : List Oper} {Pr : Nat → Nat → Oper → Prop} : ∀ {C : List (Nat × Nat)}, AllTk l Pr C → ∀ p, p ∈ C → ∀ o, l[p.1]? = some o → Pr p.1 p.2 o
  | q :: C, h, p, hp, o, ho => by
    rcases List.mem_cons.1 hp with rfl | hp
    · exact h.1 o ho
    · exact allTk_at h.2 p hp o ho
theorem c_drawCC {id : Nat} {l : List Oper} {a : Act} {w : World} (hm : P.follows .mixedOrders = true) (hA : Fr n ds m a) (hS : Sep X w0 w L) (h : Nat) (C : List (Nat × Nat)) (dl : List (List Nat)) (Y : List YV)
    (hC : C.all (fun p => decide (p.2 ≠ p.1) && decide (p.1 < h) && decide (p.2 < h) && (dl.getD p.1 []).contains p.2) = true)
    (hC1 : C.all (fun p => C.all fun q => decide (p.1 ≠ q.1) || decide (p = q)) = true)
    (hok : m_1 l.toArray h (fun _ => []) = true) (hok2 : depsOk l.toArray h dl = true) (hfree : q_3 l.toArray h (m.map (·.1)) = true) (hn : (List.range h).all (fun j => match (l.toArray[j]?).bind (·.dst) with | some d => decide (d < n) | none => true) = true)
    (hdep : AllDep dl Y) (hdl : C.all (fun p => (List.range h).all fun j => decide (j = p.1) || !(dl.getD j []).contains p.2) = true)
    (hop : m_9 (fun j o => C.all (fun p => decide (p.1 ≠ j)) = true → ∀ a w' vs, Fr n ds m a → Sep X w0 w' L → (∀ i ∈ dl.getD j [], j_2 l.toArray a i (vs i) ∧ ∃ rs, yat Y i vs (vs i) rs ∧ ∀ s ∈ rs, s.p w') → OpG r P l.toArray o a w' (fun v w'' => Ext NoB w' w'' ∧ ∃ rs, yat Y j vs v rs ∧ Sep NoB w' w'' rs ∧ rs.all (·.own) = true)) 0 h l)
    (hopC : AllTk l (fun j0 i0 oj => ∀ a w' vs rs0 Lr, Fr n ds m a → j_2 l.toArray a i0 (vs i0) → yat Y i0 vs (vs i0) rs0 → (∀ i ∈ dl.getD j0 [], i ≠ i0 → j_2 l.toArray a i (vs i) ∧ ∃ rs, yat Y i vs (vs i) rs ∧ ∀ s ∈ rs, s.p w') → Sep X w0 w' L → Sep X w0 w' (rs0 ++ Lr) → OpG r P l.toArray oj a w' (fun v w'' => ∃ rs, yat Y j0 vs v rs ∧ Sep X w0 w'' (rs ++ Lr))) C)
    (htail : ∀ a w' vs rsf, Fr n ds m a → (∀ i, i < h → C.all (fun p => decide (p.2 ≠ i)) = true → j_2 l.toArray a i (vs i) ∧ yat Y i vs (vs i) (rsf i)) → (∀ p, p ∈ C → rsf p.2 = []) → Sep X w0 w' (catR rsf 0 h ++ L) → WL r P l.toArray Q (l.drop h) a w') :
    WC r P (.region id l.toArray true) Q a w := by
  have hok' := hok
  simp only [m_1, Bool.and_eq_true, List.all_eq_true, List.mem_range, decide_eq_true_eq] at hok'
  obtain ⟨⟨⟨⟨hback, _⟩, htl⟩, hdst⟩, hh⟩ := hok'
  simp only [depsOk, List.all_eq_true, List.mem_range, Bool.and_eq_true, decide_eq_true_eq] at hok2
  simp only [List.all_eq_true, List.mem_range, Bool.or_eq_true, decide_eq_true_eq, Bool.not_eq_true'] at hdl
  simp only [List.all_eq_true, Bool.and_eq_true, decide_eq_true_eq] at hC
  simp only [List.all_eq_true, Bool.or_eq_true, decide_eq_true_eq] at hC1
  have hCm : ∀ p, p ∈ C → p.2 ∈ dl.getD p.1 [] := fun p hp => by simpa using (hC p hp).2
  have hCu : ∀ p q, p ∈ C → q ∈ C → p.1 = q.1 → p = q := fun p q hp hq e => (hC1 p hp q hq).resolve_left (fun h => h e)
  have hCn : ∀ p j, p ∈ C → j < h → j ≠ p.1 → p.2 ∉ dl.getD j [] := fun p j hp hj hne hi => by
    have h1 := (hdl p hp j hj).resolve_left hne
    have h2 : (dl.getD j []).contains p.2 = true := by simpa using hi
    rw [h2] at h1; cases h1
  refine c_drawJ hm h (fun _ => []) hok (CCInv l h n ds m X w0 L Y C) (fun w' he _ => ⟨hA, fun _ => undef, fun _ => [], (fun i _ hi => by cases hi), fun _ _ => rfl, fun _ _ _ => rfl, ?_⟩) (fun j o ho hj done a w' hj0 hcl hjb hI => ?_) (fun done a w' hall hI => ?_)
  · have : ∀ (h k : Nat), catR (fun _ => []) k h = [] := by
      intro h
      induction h with
      | zero => intro k; rfl
      | succ h ih => intro k; show [] ++ catR _ (k + 1) h = []; rw [ih]; rfl
    rw [this]; exact hS.step he
  · obtain ⟨hA, vs, rsf, hdone, hnot, hcon, hSep⟩ := hI
    have hoj' : (l.toArray)[j]? = some o := by simpa using ho
    have hdj : ∀ i ∈ dl.getD j [], i < h ∧ done i = true := fun i hi => by
      have h1 := hok2 j hj i hi
      exact ⟨by omega, i_6 hcl 12 _ hjb i (by simpa using h1.2)⟩
    have hjd0 : ∀ p, p ∈ C → done p.1 = true → done p.2 = true := fun p hp h0 => by
      have h1 := hok2 p.1 (hC p hp).1.1.2 p.2 (hCm p hp)
      exact i_6 hcl 12 _ (hcl p.1 h0) p.2 (by simpa using h1.2)
    have hdd : ∀ i, done i = true → ∀ k ∈ dl.getD i [], i < h → done k = true := fun i hi k hk hih =>
      i_6 hcl 12 _ (hcl i hi) k (by simpa using (hok2 i hih k hk).2)
    by_cases hjj : ∃ p, p ∈ C ∧ p.1 = j
    · obtain ⟨p, hp, rfl⟩ := hjj
      have hij := (hC p hp).1.1.1
      have hdi0 : done p.2 = true := (hdj p.2 (hCm p hp)).2
      have hlive : ∀ i, i ∈ dl.getD p.1 [] → liveC C done i := fun i hi q hq e => by
        subst e
        by_cases e2 : p.1 = q.1
        · rw [← e2]; exact hj0
        · exact absurd hi (hCn q p.1 hq hj e2)
      obtain ⟨s1, s2⟩ := hdone p.2 (hC p hp).1.2 hdi0 (hlive _ (hCm p hp))
      have hup : upd (upd rsf p.2 []) p.2 (rsf p.2) = rsf := by
        funext k; unfold upd; by_cases e : k = p.2
        · subst e; rw [if_pos rfl]
        · rw [if_neg e, if_neg e]
      have hp1 : (catR rsf 0 h).Perm (rsf p.2 ++ catR (upd rsf p.2 []) 0 h) := by
        have := catR_upd (upd rsf p.2 []) p.2 (rsf p.2) (upd_same _ _ _) h 0 (Nat.zero_le _) (by have := (hC p hp).1.2; omega)
        rw [hup] at this; exact this
      have hS2 : Sep X w0 w' (rsf p.2 ++ (catR (upd rsf p.2 []) 0 h ++ L)) := hSep.perm (by
        rw [← List.append_assoc]; exact (hp1.append_right L).symm)
      refine o_8 (allTk_at hopC p hp o (by simpa using ho) a w' vs (rsf p.2) _ hA s1 s2 (fun i hi hne => ?_) hSep.right hS2) (fun v w'' hv => ?_)
      · obtain ⟨h1, h2⟩ := hdj i hi
        obtain ⟨h3, h4⟩ := hdone i h1 h2 (hlive i hi)
        exact ⟨h3, rsf i, h4, fun s hs => hSep.mem (List.mem_append_left _ (catR_mem rsf h 0 i (Nat.zero_le _) (by omega) s hs))⟩
      · obtain ⟨rs, hy, hS3⟩ := hv
        refine ⟨fr_put hA hfree hn hoj' hj, upd vs p.1 v, upd (upd rsf p.2 []) p.1 rs, fun i hi hdi hlv => ?_, fun i hdi => ?_, fun q hq hd => ?_, ?_⟩
        · have hne' : i ≠ p.2 := fun e => by
            have := hlv p hp e.symm
            simp at this
          have hlv0 : liveC C done i := fun q hq e => by
            have := hlv q hq e
            simp only [Bool.or_eq_false_iff] at this
            exact this.1
          by_cases e : i = p.1
          · subst e
            rw [upd_same, upd_same]
            refine ⟨slot_new hA hn hoj' hj, yat_dep hdep (fun k hk => ?_) hy⟩
            have := (hdj k hk).2
            rw [upd_ne _ _ (by rintro rfl; rw [hj0] at this; cases this)]
          · have hdi' : done i = true := by
              simp only [Bool.or_eq_true, beq_iff_eq] at hdi
              exact hdi.resolve_right e
            obtain ⟨h3, h4⟩ := hdone i hi hdi' hlv0
            rw [upd_ne _ _ e, upd_ne _ _ e, upd_ne _ _ hne']
            refine ⟨slot_put hdst hoj' hj i hi e _ h3, yat_dep hdep (fun k hk => ?_) h4⟩
            have := hdd i hdi' k hk hi
            rw [upd_ne _ _ (by rintro rfl; rw [hj0] at this; cases this)]
        · simp only [Bool.or_eq_false_iff, beq_eq_false_iff_ne, ne_eq] at hdi
          rw [upd_ne _ _ hdi.2]
          by_cases e : i = p.2
          · subst e; exact upd_same _ _ _
          · rw [upd_ne _ _ e]; exact hnot i hdi.1
        · by_cases e : q.1 = p.1
          · have := hCu q p hq hp e
            subst this
            rw [upd_ne _ _ hij, upd_same]
          · have hd' : done q.1 = true := by
              simp only [Bool.or_eq_true, beq_iff_eq] at hd
              exact hd.resolve_right e
            have h2 := hjd0 q hq hd'
            rw [upd_ne _ _ (fun e => by rw [e, hj0] at h2; cases h2)]
            by_cases e3 : q.2 = p.2
            · rw [e3]; exact upd_same _ _ _
            · rw [upd_ne _ _ e3]; exact hcon q hq hd'
        · refine hS3.perm ?_
          rw [← List.append_assoc]
          exact (catR_upd (upd rsf p.2 []) p.1 rs (by rw [upd_ne _ _ (fun e => hij e.symm)]; exact hnot p.1 hj0) h 0 (Nat.zero_le _) (by omega)).append_right L
    · have hob := allOps_at h 0 l hop j o ho hj
      rw [Nat.zero_add] at hob
      have hnt : ∀ p, p ∈ C → p.1 ≠ j := fun p hp e => hjj ⟨p, hp, e⟩
      have hni : ∀ i ∈ dl.getD j [], liveC C done i := fun i hi q hq e => by
        subst e
        exact absurd hi (hCn q j hq hj (fun e => hnt q hq e.symm))
      refine o_8 (hob (by simp only [List.all_eq_true, decide_eq_true_eq]; exact hnt) a w' vs hA hSep.right (fun i hi => ?_)) (fun v w'' hv => ?_)
      · obtain ⟨h1, h2⟩ := hdj i hi
        obtain ⟨h3, h4⟩ := hdone i h1 h2 (hni i hi)
        exact ⟨h3, rsf i, h4, fun s hs => hSep.mem (List.mem_append_left _ (catR_mem rsf h 0 i (Nat.zero_le _) (by omega) s hs))⟩
      · obtain ⟨hext, rs, hy, hnew, hown⟩ := hv
        refine ⟨fr_put hA hfree hn hoj' hj, upd vs j v, upd rsf j rs, fun i hi hdi hlv => ?_, fun i hdi => ?_, fun q hq hd => ?_, ?_⟩
        · have hlv0 : liveC C done i := fun q hq e => by
            have := hlv q hq e
            simp only [Bool.or_eq_false_iff] at this
            exact this.1
          by_cases e : i = j
          · subst e
            rw [upd_same, upd_same]
            refine ⟨slot_new hA hn hoj' hj, yat_dep hdep (fun k hk => ?_) hy⟩
            have := (hdj k hk).2
            rw [upd_ne _ _ (by rintro rfl; rw [hj0] at this; cases this)]
          · have hdi' : done i = true := by
              simp only [Bool.or_eq_true, beq_iff_eq] at hdi
              exact hdi.resolve_right e
            obtain ⟨h3, h4⟩ := hdone i hi hdi' hlv0
            rw [upd_ne _ _ e, upd_ne _ _ e]
            refine ⟨slot_put hdst hoj' hj i hi e _ h3, yat_dep hdep (fun k hk => ?_) h4⟩
            have := hdd i hdi' k hk hi
            rw [upd_ne _ _ (by rintro rfl; rw [hj0] at this; cases this)]
        · simp only [Bool.or_eq_false_iff, beq_eq_false_iff_ne, ne_eq] at hdi
          rw [upd_ne _ _ hdi.2]; exact hnot i hdi.1
        · have hd' : done q.1 = true := by
            simp only [Bool.or_eq_true, beq_iff_eq] at hd
            exact hd.resolve_right (hnt q hq)
          have h2 := hjd0 q hq hd'
          rw [upd_ne _ _ (fun e => by rw [e, hj0] at h2; cases h2)]
          exact hcon q hq hd'
        · have h1 := hSep.q_1 hnew hown
          refine h1.perm ?_
          rw [← List.append_assoc]
          exact (catR_upd rsf j rs (hnot j hj0) h 0 (Nat.zero_le _) (by omega)).append_right L
  · obtain ⟨hA, vs, rsf, hdone, _, hcon, hSep⟩ := hI
    exact htail a w' vs rsf hA (fun i hi hne => hdone i hi (hall i hi) (fun q hq e => by
      simp only [List.all_eq_true, decide_eq_true_eq] at hne
      exact absurd e (hne q hq))) (fun p hp => hcon p hp (hall p.1 (hC p hp).1.1.2)) hSep
end
end Go.Eng

namespace Go.Eng
open Go.RowKit
section
variable {Jo : Nat → Res → World → Prop} {W W' : World} {A A' D : List Res} {c : Nat}
end
section
variable {Jo Jox : Nat → Res → World → Prop} {G : Res} {l D : Nat} {Ds : List Nat} {rc : LoopState → Option Code → Loop} {I Ix : Nat → List Res → Prop} {je : Option Code} {a : Act} {W : World} {c : Nat} {L : List Res}
end
section
variable {P : Program} {Q : Exit → Act → World → Prop} {n : Nat} {ds : List Deferred} {m : List (Nat × Value)}
end
end Go.Eng

namespace Go.Eng
open Go.RowKit
section
variable {r : Option Nat} {P : Program} {o : Oper} {a : Act} {w : World}
end
end Go.Eng

namespace Go.Eng
open Go.RowKit
section
variable {r : Option Nat} {P : Program} {o : Oper} {a : Act} {w : World}
theorem op_sliceLH {t e : TypeId} {x lo hi : Operand} {v : Value} {g : Bool} {sz n l h : Nat} {cs : List Value} {k k2 : IntKind} (ho : o.op = .slice t x (some lo) (some hi) none) (ht : P.underlying t = some (.slice e)) (he : tyK P e = some (g, sz)) (hx : a.eval x = v) (hl : a.eval lo = .int k (l : Int)) (hh : a.eval hi = .int k2 (h : Int)) (hs : SlAt w v sz n cs) (h1 : l ≤ h) (h2 : h ≤ n) :
    OpY r P o a w (fun v' w' => v' = slcut v l h sz ∧ w' = w) := by
  obtain ⟨_, A, cap, rfl, hc, hm, _⟩ := hs
  have he' := elem_of ht
  have ht' : P.underlying t = some (.slice (P.elem t)) := by rw [he']; exact ht
  refine c_8 (by rw [ho]; rfl) ?_ ⟨rfl, rfl⟩
  have h3 := run_slice_lh (P := P) w t A n cap ht' k k2 (l : Int) (h : Int) (by omega) (by omega) (by omega)
  rw [he', run_sizeOf he] at h3
  simp only [execOp, ho, hx, hl, hh, Option.map_some, Option.map_none, Sem.run_bind, run_sliceAt_slice w t _ _ _ _ ht', h3, Result.andThen_ok, Sem.run_pure, Int.toNat_natCast]
  rfl
end
end Go.Eng

namespace Go.Eng
open Go.RowKit
section
variable {r : Option Nat} {P : Program} {Q : Exit → Act → World → Prop} {n : Nat} {ds : List Deferred} {m : List (Nat × Value)} {X : Nat → Prop} {w0 : World} {L : List Res}
end
end Go.Eng

namespace Go.Eng
open Go.RowKit
section
variable {r : Option Nat} {P : Program} {Q : Exit → Act → World → Prop} {n : Nat} {ds : List Deferred} {m : List (Nat × Value)} {X : Nat → Prop} {w0 : World} {L : List Res}
def GInv (l : List Oper) (h n : Nat) (ds : List Deferred) (m : List (Nat × Value)) (M : World → Prop) (φ : Nat → Value → World → Prop) (done : Nat → Bool) (a : Act) (w : World) : Prop :=
  Fr n ds m a ∧ M w ∧ ∀ i, i < h → done i = true → Has l.toArray φ a w i
theorem g_step {l : List Oper} {h : Nat} {dl : List (List Nat)} (Rel : Nat → World → World → Prop) {M : World → Prop} {φ : Nat → Value → World → Prop}
    (hdst : ∀ x, x < h → ∀ x_1, x_1 < h → (decide (x_1 = x) || match (l.toArray[x_1]?).bind (·.dst), (l.toArray[x]?).bind (·.dst) with | some d, some e => decide (d ≠ e) | _, _ => true) = true)
    (hok2 : ∀ x, x < h → ∀ x_1 ∈ dl.getD x [], x_1 < x ∧ (h_0 l.toArray x).contains x_1 = true) (hfree : q_3 l.toArray h (m.map (·.1)) = true) (hn : (List.range h).all (fun j => match (l.toArray[j]?).bind (·.dst) with | some d => decide (d < n) | none => true) = true)
    (hmono : ∀ i j v w w', i ≠ j → φ i v w → Rel j w w' → φ i v w')
    (hop : ∀ j o, l[j]? = some o → j < h → ∀ a w, Fr n ds m a → M w → (∀ i ∈ dl.getD j [], Has l.toArray φ a w i) → OpG r P l.toArray o a w (fun v w' => Rel j w w' ∧ M w' ∧ φ j v w'))
    {j : Nat} {o : Oper} (ho : l[j]? = some o) (hj : j < h) {done : Nat → Bool} {a : Act} {w : World} (hjb : ∀ i ∈ h_0 l.toArray j, done i = true) (hI : GInv l h n ds m M φ done a w) :
    OpG r P l.toArray o a w (fun v w'' => GInv l h n ds m M φ (fun i => done i || (i == j)) (a.put o.dst v) w'') := by
  obtain ⟨hA, hM, hHas⟩ := hI
  have hoj : (l.toArray)[j]? = some o := by simpa using ho
  refine o_8 (hop j o ho hj a w hA hM (fun i hi => ?_)) (fun v w' hv => ?_)
  · have h1 := hok2 j hj i hi
    exact hHas i (by omega) (hjb i (by simpa using h1.2))
  · obtain ⟨hext, hM', hφ⟩ := hv
    refine ⟨?_, hM', fun i hi hli => ?_⟩
    · cases hd : o.dst with
      | none => exact hA.put_none v
      | some d =>
        have hf := List.all_eq_true.1 hfree j (List.mem_range.2 hj)
        have hjd : ((l.toArray)[j]?).bind (·.dst) = some d := by rw [hoj]; exact hd
        rw [hjd] at hf
        have hdn := List.all_eq_true.1 hn j (List.mem_range.2 hj)
        rw [hjd] at hdn
        refine (hA.put (by simpa using hdn) v).mono (fun i u hi => ?_)
        have : i ≠ d := by
          rintro rfl
          have := lookup_mem m hi
          simp [this] at hf
        have hb : (i == d) = false := by simpa using this
        simp only [List.lookup, hb]; exact hi
    · by_cases e : i = j
      · subst e
        unfold Has
        rw [hoj]
        cases hd : o.dst with
        | none => simp [hd]; exact ⟨v, hφ⟩
        | some d =>
          simp only [Option.bind_some, hd]
          have hdn := List.all_eq_true.1 hn i (List.mem_range.2 hi)
          rw [hoj] at hdn
          simp only [Option.bind_some, hd, decide_eq_true_eq] at hdn
          refine ⟨v, ?_, hφ⟩
          simp only [Act.put]
          rw [Array.getElem?_setIfInBounds_self_of_lt (by rw [hA.1]; exact hdn)]
      · have hdi : done i = true := by
          simp only [Bool.or_eq_true, beq_iff_eq] at hli
          exact hli.resolve_right e
        have hh0 := hHas i hi hdi
        unfold Has at hh0 ⊢
        have hdd := hdst i hi j hj
        cases hdi : ((l.toArray)[i]?).bind (·.dst) with
        | none => rw [hdi] at hh0; obtain ⟨u, hu0⟩ := hh0; exact ⟨u, hmono _ _ _ _ _ e hu0 hext⟩
        | some di =>
          rw [hdi] at hh0
          obtain ⟨u, hu1, hu2⟩ := hh0
          refine ⟨u, ?_, hmono _ _ _ _ _ e hu2 hext⟩
          cases hdj : o.dst with
          | none => exact hu1
          | some dj =>
            have hjd : ((l.toArray)[j]?).bind (·.dst) = some dj := by rw [hoj]; exact hdj
            rw [hdi, hjd] at hdd
            simp only [Bool.or_eq_true, decide_eq_true_eq] at hdd
            have hne : dj ≠ di := fun e' => (hdd.resolve_left (fun e2 => e e2.symm)) e'
            simp only [Act.put]
            rw [Array.getElem?_setIfInBounds_ne hne]; exact hu1
def depsOn (ops : Array Oper) (h : Nat) (dl : List (List Nat)) : Bool := (List.range h).all fun j => (dl.getD j []).all fun i => decide (i < j) && (h_0 ops j).contains i
theorem c_drawGF {id : Nat} {l : List Oper} {a : Act} {w : World} (Rel : Nat → World → World → Prop) (hm : P.follows .mixedOrders = true) (s q : Nat) {os oq : Oper} (hos : l[s]? = some os) (hoq : l[q]? = some oq) (dl : List (List Nat))
    (hok : m_1 l.toArray (s + 1) (fun _ => []) = true) (hfl : floatOk l.toArray s q = true) (hok2 : depsOn l.toArray s dl = true) (hfree : q_3 l.toArray s (m.map (·.1)) = true) (hn : (List.range s).all (fun j => match (l.toArray[j]?).bind (·.dst) with | some d => decide (d < n) | none => true) = true)
    (M : World → Prop) (φ : Nat → Value → World → Prop) (hmono : ∀ i j v w w', i ≠ j → φ i v w → Rel j w w' → φ i v w')
    (hA : Fr n ds m a) (hM : ∀ w', Ext NoB w w' → w'.heap = w.heap → M w')
    (hop : ∀ j o, l[j]? = some o → j < s → ∀ a w, Fr n ds m a → M w → (∀ i ∈ dl.getD j [], Has l.toArray φ a w i) → OpG r P l.toArray o a w (fun v w' => Rel j w w' ∧ M w' ∧ φ j v w'))
    (htA : ∀ a w', Fr n ds m a → M w' → (∀ i, i < s → Has l.toArray φ a w' i) → WL r P l.toArray Q (l.drop s) a w')
    (htB : ∀ a w', Fr n ds m a → M w' → (∀ i, i < s → i ≠ q → Has l.toArray φ a w' i) → WL r P l.toArray Q (os :: oq :: l.drop (s + 1)) a w') :
    WC r P (.region id l.toArray true) Q a w := by
  have hok' := hok
  simp only [m_1, Bool.and_eq_true, List.all_eq_true, List.mem_range, decide_eq_true_eq] at hok'
  obtain ⟨⟨⟨⟨hback, _⟩, htl⟩, hdst⟩, hh⟩ := hok'
  simp only [depsOn, List.all_eq_true, List.mem_range, Bool.and_eq_true, decide_eq_true_eq] at hok2
  simp only [floatOk, List.all_eq_true, List.mem_range, Bool.and_eq_true, Bool.or_eq_true, decide_eq_true_eq] at hfl
  obtain ⟨hqs, hfl⟩ := hfl
  have hls : s < l.length := (List.getElem?_eq_some_iff.1 hos).1
  have hdrop : l.drop s = os :: l.drop (s + 1) := by
    rw [List.drop_eq_getElem_cons hls, (List.getElem?_eq_some_iff.1 hos).2]
  have hsa : (l.toArray)[s]? = some os := by simpa using hos
  have hqa : (l.toArray)[q]? = some oq := by simpa using hoq
  refine c_drawK hm (s + 1) (fun _ => []) hok (fun done a w' => if done s = true then (if done q = true then WL r P l.toArray Q (l.drop (s + 1)) a w' else WL r P l.toArray Q (oq :: l.drop (s + 1)) a w') else GInv l s n ds m M φ done a w') (fun w' he hh' => ?_) (fun j o ho hj done a w' hj0 hcl hjb hI K hK => ?_) (fun done a w' hall hI => ?_)
  · rw [if_neg (by simp)]
    exact ⟨hA, hM w' he hh', fun i _ hi => by cases hi⟩
  · by_cases hs : done s = true
    · have hall : ∀ i, i < s → i ≠ q → done i = true := fun i hi hne => i_6 hcl 12 _ (hcl s hs) i (by have := (hfl i hi).resolve_left hne; simpa using this)
      have hjq : j = q := by
        rcases Nat.lt_or_ge j s with h1 | h1
        · by_cases e : j = q
          · exact e
          · rw [hall j h1 e] at hj0; cases hj0
        · rw [show j = s by omega, hs] at hj0; cases hj0
      subst hjq
      rw [if_pos hs, if_neg (by rw [hj0]; simp)] at hI
      refine wl_wpOp hqa hI (fun a' w'' h => hK a' w'' ?_)
      dsimp only
      rw [if_pos (by rw [hs]; rfl), if_pos (by simp)]
      exact h
    · rw [if_neg hs] at hI
      rcases Nat.lt_or_ge j s with h1 | h1
      · have hoj : (l.toArray)[j]? = some o := by simpa using ho
        refine opG_wp hoj (g_step Rel (fun x hx y hy => hdst x (by omega) y (by omega)) hok2 hfree hn hmono hop ho h1 hjb hI) (fun v w'' h => hK _ _ ?_)
        rw [if_neg]
        · exact h
        · simp only [Bool.or_eq_true, beq_iff_eq, not_or]; exact ⟨hs, by omega⟩
      · obtain rfl : j = s := by omega
        have hall : ∀ i, i < j → i ≠ q → done i = true := fun i hi hne => i_6 hcl 12 _ hjb i (by have := (hfl i hi).resolve_left hne; simpa using this)
        obtain ⟨hA, hM', hdone⟩ := hI
        by_cases hq : done q = true
        · have := htA a w' hA hM' (fun i hi => hdone i hi (by by_cases e : i = q; (· rw [e]; exact hq); (· exact hall i hi e)))
          rw [hdrop] at this
          refine wl_wpOp hsa this (fun a' w'' h => hK a' w'' ?_)
          rw [if_pos (by simp), if_pos (by show (done q || _) = true; rw [hq]; rfl)]
          exact h
        · have hq' : done q = false := by simpa using hq
          have := htB a w' hA hM' (fun i hi hne => hdone i hi (hall i hi hne))
          refine wl_wpOp hsa this (fun a' w'' h => hK a' w'' ?_)
          rw [if_pos (by simp), if_neg (by show ¬ (done q || (q == j)) = true; rw [hq']; simp; omega)]
          exact h
  · rw [if_pos (hall s (by omega)), if_pos (hall q (by omega))] at hI
    exact hI
structure ApD where
  j : Nat
  i : Nat
  v : Value
  e : Nat
  sz : Nat
  k : Nat
  old : List Value
  q : Nat
  xs : List Value
def ApD.Ok (d : ApD) (B : Nat) (u : Value) (w : World) : Prop := AppL B d.v d.e d.sz d.k d.q d.xs u w
def r_9 (ys : List Yd) (d1 d2 : ApD) (B : Nat) (j : Nat) (u : Value) (w : World) : Prop := if j = d1.j then d1.Ok B u w else if j = d2.j then d2.Ok B u w else phi ys j u w
theorem ApD.keep {d : ApD} {B : Nat} {u : Value} {w w' : World} {Y : Nat → Prop} (h : d.Ok B u w) (k : Ext Y w w') (hY : ∀ b, Y b → b < B ∧ d.v.ownBlock ≠ some b) : d.Ok B u w' := by
  refine ⟨(row u d.e d.sz (d.k + d.q) d.xs).stable w w' h.1 (fun b hb => k.keep b ((row u d.e d.sz (d.k + d.q) d.xs).lt w b h.1 hb) (fun hf => ?_)), h.2⟩
  have hy := hY b hf
  have hb : u.ownBlock = some b := hb
  rcases h.2 with ⟨g, cap, e1, e2⟩ | hn
  · rw [e2] at hb
    have : d.v.ownBlock = some b := by rw [e1]; exact hb
    exact hy.2 this
  · have := hn b hb; omega
theorem c_drawA2F {id : Nat} {l : List Oper} {a : Act} {w : World} (hm : P.follows .mixedOrders = true) (hA : Fr n ds m a) (hS : Sep X w0 w L) (s q : Nat) {os oq : Oper} (hos : l[s]? = some os) (hoq : l[q]? = some oq) (dl : List (List Nat)) (ys : List Yd)
    (hok : m_1 l.toArray (s + 1) (fun _ => []) = true) (hfl : floatOk l.toArray s q = true) (hok2 : depsOn l.toArray s dl = true) (hfree : q_3 l.toArray s (m.map (·.1)) = true) (hn : (List.range s).all (fun j => match (l.toArray[j]?).bind (·.dst) with | some d => decide (d < n) | none => true) = true)
    (d1 d2 : ApD) (hj : d1.j ≠ d2.j) (hi : d1.i ≠ d2.i) (hdl : dl.all (fun d => !d.contains d1.j && !d.contains d2.j) = true) (h1 : L[d1.i]? = some (row d1.v d1.e d1.sz d1.k d1.old)) (h2 : L[d2.i]? = some (row d2.v d2.e d2.sz d2.k d2.old)) (hys : AllYdB w.heap.size ys)
    (hop : m_9 (fun j o => (j ≠ d1.j → j ≠ d2.j → ∀ a w', Fr n ds m a → Sep X w0 w' L → w.heap.size ≤ w'.heap.size → (∀ i ∈ dl.getD j [], Has l.toArray (phi ys) a w' i) → OpG r P l.toArray o a w' (fun u w'' => Ext NoB w' w'' ∧ Sep X w0 w'' L ∧ phi ys j u w'')) ∧
      (j = d1.j → ∀ a w', Fr n ds m a → Sep X w0 w' L → w.heap.size ≤ w'.heap.size → (∀ i ∈ dl.getD j [], Has l.toArray (phi ys) a w' i) → OpG r P l.toArray o a w' (fun u w'' => Ext (fun b => d1.v.ownBlock = some b) w' w'' ∧ Sep X w0 w'' L ∧ AppL w.heap.size d1.v d1.e d1.sz d1.k d1.q d1.xs u w'')) ∧
      (j = d2.j → ∀ a w', Fr n ds m a → Sep X w0 w' L → w.heap.size ≤ w'.heap.size → (∀ i ∈ dl.getD j [], Has l.toArray (phi ys) a w' i) → OpG r P l.toArray o a w' (fun u w'' => Ext (fun b => d2.v.ownBlock = some b) w' w'' ∧ Sep X w0 w'' L ∧ AppL w.heap.size d2.v d2.e d2.sz d2.k d2.q d2.xs u w''))) 0 s l)
    (htail : ∀ b a w', Fr n ds m a → Sep X w0 w' L → (∀ i, i < s → i ≠ d1.j → i ≠ d2.j → (b = true → i ≠ q) → Has l.toArray (phi ys) a w' i) → Has l.toArray (fun _ => d1.Ok w.heap.size) a w' d1.j → Has l.toArray (fun _ => d2.Ok w.heap.size) a w' d2.j → WL r P l.toArray Q (if b = true then os :: oq :: l.drop (s + 1) else l.drop s) a w')
    (hq1 : d1.j ≠ q) (hq2 : d2.j ≠ q) (hs1 : d1.j < s) (hs2 : d2.j < s) :
    WC r P (.region id l.toArray true) Q a w := by
  have hlt1 : ∀ b, d1.v.ownBlock = some b → b < w.heap.size := fun b hb => hS.lt h1 hb
  have hlt2 : ∀ b, d2.v.ownBlock = some b → b < w.heap.size := fun b hb => hS.lt h2 hb
  have hap : ∀ b, d1.v.ownBlock = some b → d2.v.ownBlock ≠ some b := fun b hb hb2 => hS.apart _ _ _ _ hi h1 h2 rfl b hb hb2
  have toP : ∀ {a : Act} {w' : World} {i : Nat}, Has l.toArray (r_9 ys d1 d2 w.heap.size) a w' i → i ≠ d1.j → i ≠ d2.j → Has l.toArray (phi ys) a w' i := fun hH e1 e2 => has_phi hH (fun u hu => by unfold r_9 at hu; rwa [if_neg e1, if_neg e2] at hu)
  have to1 : ∀ {a : Act} {w' : World}, Has l.toArray (r_9 ys d1 d2 w.heap.size) a w' d1.j → Has l.toArray (fun _ => d1.Ok w.heap.size) a w' d1.j := fun hH => has_phi hH (fun u hu => by unfold r_9 at hu; rwa [if_pos rfl] at hu)
  have to2 : ∀ {a : Act} {w' : World}, Has l.toArray (r_9 ys d1 d2 w.heap.size) a w' d2.j → Has l.toArray (fun _ => d2.Ok w.heap.size) a w' d2.j := fun hH => has_phi hH (fun u hu => by unfold r_9 at hu; rwa [if_neg (fun e => hj e.symm), if_pos rfl] at hu)
  refine c_drawGF (fun j w' w'' => if j = d1.j then Ext (fun b => d1.v.ownBlock = some b) w' w'' else if j = d2.j then Ext (fun b => d2.v.ownBlock = some b) w' w'' else Ext NoB w' w'') hm s q hos hoq dl hok hfl hok2 hfree hn (fun w' => Sep X w0 w' L ∧ w.heap.size ≤ w'.heap.size) (r_9 ys d1 d2 w.heap.size) (fun i j u w' w'' hij hp hr => ?_) hA (fun w' he _ => ⟨hS.step he, he.size⟩) (fun j o ho hjs a w' hA hM hd => ?_)
    (fun a w' hA hM hH => by
      have := htail false a w' hA hM.1 (fun i hi e1 e2 _ => toP (hH i hi) e1 e2) (to1 (hH _ hs1)) (to2 (hH _ hs2))
      rwa [if_neg (by decide)] at this)
    (fun a w' hA hM hH => by
      have := htail true a w' hA hM.1 (fun i hi e1 e2 e3 => toP (hH i hi (e3 rfl)) e1 e2) (to1 (hH _ hs1 hq1)) (to2 (hH _ hs2 hq2))
      rwa [if_pos rfl] at this)
  · unfold r_9 at hp ⊢
    by_cases e1 : i = d1.j
    · rw [if_pos e1] at hp ⊢
      rw [if_neg (fun e => hij (e1.trans e.symm))] at hr
      split at hr
      · exact ApD.keep hp hr (fun b hb => ⟨hlt2 b hb, fun h => hap b h hb⟩)
      · exact ApD.keep hp hr (fun b hb => hb.elim)
    · rw [if_neg e1] at hp ⊢
      by_cases e2 : i = d2.j
      · rw [if_pos e2] at hp ⊢
        split at hr
        · exact ApD.keep hp hr (fun b hb => ⟨hlt1 b hb, hap b hb⟩)
        · rw [if_neg (fun e => hij (e2.trans e.symm))] at hr
          exact ApD.keep hp hr (fun b hb => hb.elim)
      · rw [if_neg e2] at hp ⊢
        unfold phi at hp ⊢
        split
        · rename_i y hy
          rw [hy] at hp
          split at hr
          · exact allYdB_at hys i y hy _ _ _ _ hlt1 hp hr
          · split at hr
            · exact allYdB_at hys i y hy _ _ _ _ hlt2 hp hr
            · exact y.mono _ _ _ hp hr
        · trivial
  · have hob := allOps_at s 0 l hop j o ho hjs
    rw [Nat.zero_add] at hob
    have hnd : ∀ i ∈ dl.getD j [], i ≠ d1.j ∧ i ≠ d2.j := fun i hi => by
      have h1 : dl.getD j [] ∈ dl ∨ dl.getD j [] = [] := by
        simp only [List.getD]
        cases hc : dl[j]? with
        | none => exact .inr rfl
        | some x => exact .inl (List.mem_of_getElem? hc)
      rcases h1 with h1 | h1
      · have := List.all_eq_true.1 hdl _ h1
        simp only [Bool.and_eq_true, Bool.not_eq_true'] at this
        refine ⟨fun e => ?_, fun e => ?_⟩
        · rw [← e, List.contains_iff_mem.2 hi] at this; cases this.1
        · rw [← e, List.contains_iff_mem.2 hi] at this; cases this.2
      · rw [h1] at hi; cases hi
    have hd' : ∀ i ∈ dl.getD j [], Has l.toArray (phi ys) a w' i := fun i hi => toP (hd i hi) (hnd i hi).1 (hnd i hi).2
    by_cases e1 : j = d1.j
    · refine o_8 (hob.2.1 e1 a w' hA hM.1 hM.2 hd') fun u w'' hv => ⟨by rw [if_pos e1]; exact hv.1, ⟨hv.2.1, Nat.le_trans hM.2 hv.1.size⟩, by unfold r_9; rw [if_pos e1]; exact hv.2.2⟩
    · by_cases e2 : j = d2.j
      · refine o_8 (hob.2.2 e2 a w' hA hM.1 hM.2 hd') fun u w'' hv => ⟨by rw [if_neg e1, if_pos e2]; exact hv.1, ⟨hv.2.1, Nat.le_trans hM.2 hv.1.size⟩, by unfold r_9; rw [if_neg e1, if_pos e2]; exact hv.2.2⟩
      · refine o_8 (hob.1 e1 e2 a w' hA hM.1 hM.2 hd') fun u w'' hv => ⟨by rw [if_neg e1, if_neg e2]; exact hv.1, ⟨hv.2.1, Nat.le_trans hM.2 hv.1.size⟩, by unfold r_9; rw [if_neg e1, if_neg e2]; exact hv.2.2⟩
theorem ownsRow_ne {w : World} {u1 u2 : Value} {e1 e2 s1 s2 n1 n2 : Nat} {x1 x2 : List Value} (h1 : w.ownsRow 0 e1 s1 u1 n1 x1) (h2 : w.ownsRow 0 e2 s2 u2 n2 x2) (he : e1 ≠ e2) : ∀ b, u1.ownBlock = some b → u2.ownBlock ≠ some b := by
  intro b hb hb2
  rcases h1.2 with ⟨rfl, _⟩ | ⟨g1, c1, k1, rfl, _, g, _⟩
  · cases hb
  · rcases h2.2 with ⟨rfl, _⟩ | ⟨g2, c2, k2, rfl, _, g', _⟩
    · cases hb2
    · cases hb; cases hb2
      rw [g] at g'
      simp only [Option.some.injEq, Obj.cells.injEq] at g'
      exact he g'.2.1
theorem appL_set {B : Nat} {w : World} (hS : Sep X w0 w L) (d : ApD) {u : Value} (hB : w0.heap.size ≤ B) (h1 : L[d.i]? = some (row d.v d.e d.sz d.k d.old)) (h : d.Ok B u w) (hn : ∀ (j : Nat) (t : Res), j ≠ d.i → L[j]? = some t → ∀ b, u.ownBlock = some b → B ≤ b → ¬ t.S b) : Sep X w0 w (L.set d.i (row u d.e d.sz (d.k + d.q) d.xs)) := by
  have hlt := (List.getElem?_eq_some_iff.1 h1).1
  rcases h.2 with ⟨g, cap, e1, e2⟩ | hnew
  · refine hS.say h1 h.1 (fun b hb => ?_) (fun _ => rfl)
    show d.v.ownBlock = some b
    rw [e1]
    have hb : u.ownBlock = some b := hb
    rw [e2] at hb; exact hb
  · have at' : ∀ (j : Nat) (t : Res), (L.set d.i (row u d.e d.sz (d.k + d.q) d.xs))[j]? = some t → (j = d.i ∧ t = row u d.e d.sz (d.k + d.q) d.xs) ∨ (j ≠ d.i ∧ L[j]? = some t) := fun j t ht => by
      by_cases e : j = d.i
      · subst e; rw [List.getElem?_set_self hlt] at ht; cases ht; exact .inl ⟨rfl, rfl⟩
      · rw [List.getElem?_set_ne (fun e' => e e'.symm)] at ht; exact .inr ⟨e, ht⟩
    refine ⟨hS.ext, fun j t ht => ?_, fun j t ht ho b hb => ?_, fun j1 j2 t1 t2 hne ht1 ht2 ho b hb hb2 => ?_⟩
    · rcases at' j t ht with ⟨_, rfl⟩ | ⟨_, ht⟩
      · exact h.1
      · exact hS.ok j t ht
    · rcases at' j t ht with ⟨_, rfl⟩ | ⟨_, ht⟩
      · exact .inr (Nat.le_trans hB (hnew b hb))
      · exact hS.mine j t ht ho b hb
    · rcases at' j1 t1 ht1 with ⟨e1, rfl⟩ | ⟨e1, ht1⟩
      · rcases at' j2 t2 ht2 with ⟨e2, _⟩ | ⟨e2, ht2⟩
        · exact hne (e1.trans e2.symm)
        · exact hn j2 t2 e2 ht2 b hb (hnew b hb) hb2
      · rcases at' j2 t2 ht2 with ⟨e2, rfl⟩ | ⟨e2, ht2⟩
        · exact hn j1 t1 e1 ht1 b hb2 (hnew b hb2) hb
        · exact hS.apart j1 j2 t1 t2 hne ht1 ht2 ho b hb hb2
theorem appL_two {B : Nat} {w : World} (hS : Sep X w0 w L) (d1 d2 : ApD) {u1 u2 : Value} (hB : w0.heap.size ≤ B ∧ ∀ (i : Nat) (t : Res), L[i]? = some t → ∀ b, t.S b → b < B) (hi : d1.i ≠ d2.i) (he : d1.e ≠ d2.e)
    (h1 : L[d1.i]? = some (row d1.v d1.e d1.sz d1.k d1.old)) (h2 : L[d2.i]? = some (row d2.v d2.e d2.sz d2.k d2.old)) (g1 : d1.Ok B u1 w) (g2 : d2.Ok B u2 w) :
    Sep X w0 w ((L.set d1.i (row u1 d1.e d1.sz (d1.k + d1.q) d1.xs)).set d2.i (row u2 d2.e d2.sz (d2.k + d2.q) d2.xs)) := by
  have k1 := appL_set hS d1 hB.1 h1 g1 (fun j t _ ht b _ hb hs => by have := hB.2 j t ht b hs; omega)
  have hlt := (List.getElem?_eq_some_iff.1 h1).1
  refine appL_set k1 d2 hB.1 (by rw [List.getElem?_set_ne hi]; exact h2) g2 (fun j t hj ht b hb hBb hs => ?_)
  by_cases e : j = d1.i
  · subst e
    rw [List.getElem?_set_self hlt] at ht; cases ht
    exact ownsRow_ne g1.1 g2.1 he b hs hb
  · rw [List.getElem?_set_ne (fun e' => e e'.symm)] at ht
    have := hB.2 j t ht b hs; omega
end
end Go.Eng

namespace Go.Eng
open Go.RowKit
section
variable {r : Option Nat} {P : Program} {o : Oper} {a : Act} {w w0 : World} {X : Nat → Prop} {L : List Res} {K K' : Value → Value → Prop}
def IntKeys (K : Value → Value → Prop) : Prop := ∀ k v, K k v → ∃ n : Int, k = .int .i64 n
theorem findNow_int (n : Int) : ∀ (es : List MapEntry) (i : Nat), (∀ e ∈ es, ∃ m : Int, e.key = .int .i64 m) →
    ∃ res, Instr.findNow (.int .i64) (.int .i64 n) es i = some res ∧ ((res = none) ∨ ∃ j e, res = some (i + j, e.val) ∧ es[j]? = some e ∧ e.key = .int .i64 n)
  | [], i, _ => ⟨none, rfl, .inl rfl⟩
  | e :: es, i, h => by
    obtain ⟨m, hm⟩ := h e (by simp)
    obtain ⟨res, hr, hc⟩ := findNow_int n es (i + 1) (fun x hx => h x (by simp [hx]))
    by_cases hnm : n = m
    · subst hnm
      refine ⟨some (i, e.val), ?_, .inr ⟨0, e, by simp, rfl, hm⟩⟩
      simp [Instr.findNow, hm, Instr.sameNow]
    · refine ⟨res, ?_, ?_⟩
      · have hb : (n == m) = false := by simpa using hnm
        simp [Instr.findNow, hm, Instr.sameNow, hb, hr]
      · rcases hc with h1 | ⟨j, e', h1, h2, h3⟩
        · exact .inl h1
        · exact .inr ⟨j + 1, e', by rw [h1]; congr 2; omega, by simpa using h2, h3⟩
theorem run_findInt {kt : TypeId} (hd : P.underlying kt = some (.int .i64)) (hI : IntKeys K) (n : Int) (w : World) (es : List MapEntry) (h : ∀ e ∈ es, K e.key e.val) :
    ∃ res, (Instr.findKey kt (.int .i64 n) es).run P w = .ok res w ∧ ((res = none) ∨ ∃ j e, res = some (j, e.val) ∧ es[j]? = some e ∧ e.key = .int .i64 n) := by
  obtain ⟨res, hr, hc⟩ := findNow_int n es 0 (fun e he => hI _ _ (h e he))
  refine ⟨res, ?_, by simpa using hc⟩
  simp only [Instr.findKey, Sem.run_bind, run_underlying hd, Result.andThen_ok, hr, Sem.run_pure]
theorem run_checkIntS {kt : TypeId} (hd : P.underlying kt = some (.int .i64)) (n : Int) (em : Bool) (w : World) (f : Nat) : (Instr.checkKey em (f + 1) kt (.int .i64 n)).run P w = .ok () w := by
  simp only [Instr.checkKey, Sem.run_bind, run_underlying hd, Result.andThen_ok, Sem.run_pure]
theorem run_checkInt {kt : TypeId} (hd : P.underlying kt = some (.int .i64)) (n : Int) (em : Bool) (w : World) : (Instr.checkKey em 10000 kt (.int .i64 n)).run P w = .ok () w := run_checkIntS hd n em w 9999
theorem op_lookupI {t kt e bm i : Nat} {x y : Operand} {n : Int} {z : Value} (hS : Sep X w0 w L) (ho : o.op = .lookup t x y false) (ht : P.underlying t = some (.map kt e)) (hd : P.underlying kt = some (.int .i64)) (hz : (P.info? e).bind (·.zero) = some z)
    (hx : a.eval x = .map (some bm)) (hy : a.eval y = .int .i64 n) (hi : L[i]? = some (memo bm K)) (hI : IntKeys K) (hno : ∀ u, ¬ K (.int .i64 n) u) :
    OpY r P o a w (fun v' w' => v' = z ∧ w' = w) := by
  obtain ⟨es, clock, hb, hK⟩ := hS.ok i _ hi
  obtain ⟨res, hr, hc⟩ := run_findInt hd hI n w es.toList hK
  have hg : (getObj bm).run P w = .ok (.map es clock) w := by simp [getObj, Sem.run, hb]
  rcases hc with rfl | ⟨j, en, rfl, hj, hkey⟩
  · refine c_8 (v := z) (by rw [ho]; rfl) ?_ ⟨rfl, rfl⟩
    simp only [execOp, ho, hx, hy, Instr.lookup, Sem.run_bind, run_underlying ht, Result.andThen_ok, hg, Sem.run_pure, run_checkInt hd, hr, run_zeroValue hz, Bool.false_eq_true, if_false]
  · exact absurd (by rw [← hkey]; exact hK en (List.mem_of_getElem? hj)) (hno en.val)
theorem op_updI {t kt e bm i : Nat} {x y u : Operand} {n : Int} {v : Value} (hS : Sep X w0 w L) (ho : o.op = .mapUpdate t x y u) (ht : P.underlying t = some (.map kt e)) (hd : P.underlying kt = some (.int .i64))
    (hx : a.eval x = .map (some bm)) (hy : a.eval y = .int .i64 n) (hu : a.eval u = v) (hi : L[i]? = some (memo bm K)) (hI : IntKeys K) (hKK : ∀ k v, K k v → K' k v) (hKv : K' (.int .i64 n) v) :
    OpY r P o a w (fun _ w' => Sep X w0 w' (L.set i (memo bm K'))) := by
  obtain ⟨es, clock, hb, hK⟩ := hS.ok i _ hi
  obtain ⟨res, hr, hc⟩ := run_findInt hd hI n w es.toList hK
  have hg : (getObj bm).run P w = .ok (.map es clock) w := by simp [getObj, Sem.run, hb]
  have hset : ∀ o', (setObj bm o').run P w = .ok () { w with heap := w.heap.setIfInBounds bm o' } := fun o' => by simp [setObj, Sem.run, hb]
  have hlt := lt_of_heap hb
  have ext : ∀ o', Ext (fun k => k = bm) w { w with heap := w.heap.setIfInBounds bm o' } := fun o' => ⟨rfl, rfl, rfl, by simp, fun b _ hne => Array.getElem?_setIfInBounds_ne (fun e => hne e.symm)⟩
  have fin : ∀ es' clock', (∀ e ∈ es'.toList, K' e.key e.val) → Sep X w0 { w with heap := w.heap.setIfInBounds bm (.map es' clock') } (L.set i (memo bm K')) := fun es' clock' hK' =>
    hS.upd (r' := memo bm K') hi rfl (ext (.map es' clock')) ⟨es', clock', by simp [hlt], hK'⟩ (fun _ hb => .inl hb)
  rcases hc with rfl | ⟨j, en, rfl, hj, hkey⟩
  · refine opY_skip (w' := _) (by rw [ho]; rfl) ?_ (fin (es.push { key := .int .i64 n, val := v, born := clock }) (clock + 1) (fun e he => ?_))
    · simp only [execOp, ho, hx, hy, hu, Instr.mapUpdate, Sem.run_bind, run_underlying ht, Result.andThen_ok, hg, run_checkInt hd, hr, hset, Sem.run_pure]
    · simp only [Array.toList_push, List.mem_append, List.mem_singleton] at he
      rcases he with he | rfl
      · exact hKK _ _ (hK e he)
      · exact hKv
  · have hej : es[j]? = some en := by simpa using hj
    have hkt : (Instr.keyThatStays (((es[j]?).map (·.key)).getD (.int .i64 n)) (.int .i64 n)).run P w = .ok (.int .i64 n) w := by
      rw [hej]
      simp only [Option.map_some, Option.getD_some, hkey, Instr.keyThatStays, Instr.sameBits, beq_self_eq_true, Bool.and_self, if_true, Sem.run_pure]
    refine opY_skip (w' := _) (by rw [ho]; rfl) ?_ (fin (es.modify j fun e => { e with key := .int .i64 n, val := v }) clock (fun e he => ?_))
    · simp only [execOp, ho, hx, hy, hu, Instr.mapUpdate, Sem.run_bind, run_underlying ht, Result.andThen_ok, hg, run_checkInt hd, hr, hkt, hset, Sem.run_pure]
    · obtain ⟨q, hq⟩ := List.getElem?_of_mem he
      have hq' : (es.modify j fun e => { e with key := .int .i64 n, val := v })[q]? = some e := by rw [← Array.getElem?_toList]; exact hq
      rw [Array.getElem?_modify] at hq'
      split at hq'
      · rename_i hjq; subst hjq
        rw [hej] at hq'; simp at hq'; subst hq'; exact hKv
      · exact hKK _ _ (hK e (List.mem_of_getElem? (by simpa using hq')))
end
end Go.Eng
